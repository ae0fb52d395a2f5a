/- Proved in the last of these 12 parts (this is part 9): SlaveOwns returns true, whatever the link, the bank, the ticks and what comes. Conditions: those of the given statement, and no others. -/
import Derived.Test.YtkcmbampiiolbaaGreatParte
import Derived.Test.YtkcmbampiiolbaaGreatParth
import Derived.Test.YtkcmbampiiolbaaGreatProg
set_option linter.unusedVariables false
set_option linter.unusedSimpArgs false
set_option linter.unusedSectionVars false
section
open Go Go.Proofs Ev Sx
set_option maxRecDepth 100000
namespace Go.Proofs.Lx
abbrev YaAq0:Type:=Int×Int×YTT2×List Bool
@[reducible] def q4o_:Sh:=⟨[],[],[],[.d (.ar 16 (.int .u16))],[],0,[.ar 16 (.int .u16)]⟩
def q61_:Env:=(cts [])
def q6e_:List (Nat×Hint):=[(58,⟨[],[0,1,5]⟩),(7475,⟨[],[0,1,2,3,5]⟩),(59802,⟨[],[0,1,2,3,5,10]⟩)]
def q4e_ (t5:Int) (t0 t:List Int):St:={ fr:=[(0,.pb 0 0),(1,.pb 1 0),(5,.d (.int .i64) t5)],nt:=26,up:=[],own:=[(0,.row (.int .u16) 242 t0),(1,.row (.int .u16) 242 t)],nx:=2,log:=[],ln:=0 }
def qfa_ (i x t5 t10:Int) (t0 t:List Int):St:={ fr:=[(0,.pb 0 0),(1,.pb 1 0),(2,.d (.int .i64) i),(3,.d (.int .u16) x),(5,.d (.int .i64) t5),(10,.d (.int .i64) t10)],nt:=26,up:=[],own:=[(0,.row (.int .u16) 242 t0),(1,.row (.int .u16) 242 t)],nx:=2,log:=[],ln:=0 }
def qrm_ (i x t5:Int) (t0 t:List Int):St:={ fr:=[(0,.pb 0 0),(1,.pb 1 0),(2,.d (.int .i64) i),(3,.d (.int .u16) x),(5,.d (.int .i64) t5)],nt:=26,up:=[],own:=[(0,.row (.int .u16) 242 t0),(1,.row (.int .u16) 242 t)],nx:=2,log:=[],ln:=0 }
def q11f_ (j2:Int->Int->Int->Int->List Int->List Int->Option (As [.ar 16 (.int .u16)])) (self1:Int->List Int->List Int->Option (As [.ar 16 (.int .u16)])) (t5:Int) (t0 t:List Int):Option (As [.ar 16 (.int .u16)]) :=
 if lt t5 16=true then j2 t5 (cvt .u16 t5) t5 0 t0 t else need (eqi (Int.ofNat (List.length t)) 16) (need (eqi (Int.ofNat (List.length t0)) (Int.ofNat (List.length t))) (need (eqi 16 (Int.ofNat (List.length t * 1))) (need (eqi (Int.ofNat (List.length t)) 16) (need (eqi (Int.ofNat (List.length t)) 16) (some (t,()))))))
def q11k_ (j3:Int->Int->Int->List Int->List Int->Option (As [.ar 16 (.int .u16)])) (self1:Int->List Int->List Int->Option (As [.ar 16 (.int .u16)])) (self2:Int->Int->Int->Int->List Int->List Int->Option (As [.ar 16 (.int .u16)])) (i x t5 t10:Int) (t0 t:List Int):Option (As [.ar 16 (.int .u16)]) :=
 if lt t10 4=true then if eqi (Sx.band .u16 x 1) 1=true then self2 i (Sx.bxor .u16 (Sx.shr .u16 x 1) 40961) t5 (add .i64 t10 1) t0 t else self2 i (Sx.shr .u16 x 1) t5 (add .i64 t10 1) t0 t else j3 i x t5 t0 t
def q12f_ (self1:Int->List Int->List Int->Option (As [.ar 16 (.int .u16)])) (i x t5:Int) (t0 t:List Int):Option (As [.ar 16 (.int .u16)]) :=
 need (lt i 16) (Option.bind (at? t i) fun x_1=>Option.bind (at? t i) fun x_2=>self1 (add .i64 t5 1) t0 (List.set t (Int.toNat i) x))
def q122_ (j1:Int->List Int->List Int->Option (As [.ar 16 (.int .u16)])):Option (As [.ar 16 (.int .u16)]) :=
 j1 0 (List.replicate 16 0) (List.replicate 16 0)
def qw2_ (u1:Int->List Int->List Int->Option (As [.ar 16 (.int .u16)])) (i x t5:Int) (t0 t:List Int):Option (As [.ar 16 (.int .u16)]):=q12f_ u1 i x t5 t0 t
def qv6_ (u1:Int->List Int->List Int->Option (As [.ar 16 (.int .u16)])) (i x t5 t10:Int) (t0 t:List Int):Option (As [.ar 16 (.int .u16)]) :=
 loopF (fun (self:(Int)×(Int)×(Int)×(Int)×(List Int)×(List Int)->Option (As [.ar 16 (.int .u16)])) (s:(Int)×(Int)×(Int)×(Int)×(List Int)×(List Int))=>q11k_ (qw2_ u1) u1 (fun i x t5 t10 t0 t=>self (i,x,t5,t10,t0,t)) s.1 s.2.1 s.2.2.1 s.2.2.2.1 s.2.2.2.2.1 s.2.2.2.2.2) 18446744073709551616 (i,x,t5,t10,t0,t)
def qvm_ (t5:Int) (t0 t:List Int):Option (As [.ar 16 (.int .u16)]) :=
 loopF (fun (self:(Int)×(List Int)×(List Int)->Option (As [.ar 16 (.int .u16)])) (s:(Int)×(List Int)×(List Int))=>q11f_ (qv6_ (fun t5 t0 t=>self (t5,t0,t))) (fun t5 t0 t=>self (t5,t0,t)) s.1 s.2.1 s.2.2) 18446744073709551616 (t5,t0,t)
def qtq_ (x:As []):Option (As [.ar 16 (.int .u16)]):=q122_ qvm_
theorem q1eh_ (J:Orc (As [.ar 16 (.int .u16)])) (w1:St->Option (As [.ar 16 (.int .u16)])) (i x t5:Int) (t0 t:List Int):pfn Tryz.prog q61_ 6 18446744073709551616 (Ev.get q6e_) 183 q4o_ J 7475 [w1] (qrm_ i x t5 t0 t)=q12f_ (fun t5 t0 t=>w1 (q4e_ t5 t0 t)) i x t5 t0 t:=by kernel_rfl
theorem q1er_ (J:Orc (As [.ar 16 (.int .u16)])) (w1 w2:St->Option (As [.ar 16 (.int .u16)])) (i x t5 t10:Int) (t0 t:List Int):pfn Tryz.prog q61_ 6 18446744073709551616 (Ev.get q6e_) 183 q4o_ J 59802 [w1,w2] (qfa_ i x t5 t10 t0 t)=q11k_ (fun i x t5 t0 t=>J 7475 [w1] (qrm_ i x t5 t0 t)) (fun t5 t0 t=>w1 (q4e_ t5 t0 t)) (fun i x t5 t10 t0 t=>w2 (qfa_ i x t5 t10 t0 t)) i x t5 t10 t0 t:=by kernel_rfl
theorem q1ev_ (J:Orc (As [.ar 16 (.int .u16)])) (w1:St->Option (As [.ar 16 (.int .u16)])) (t5:Int) (t0 t:List Int):pfn Tryz.prog q61_ 6 18446744073709551616 (Ev.get q6e_) 183 q4o_ J 58 [w1] (q4e_ t5 t0 t)=q11f_ (fun i x t5 t10 t0 t=>J 59802 [w1] (qfa_ i x t5 t10 t0 t)) (fun t5 t0 t=>w1 (q4e_ t5 t0 t)) t5 t0 t:=by kernel_rfl
theorem q1d5_ (J:Orc (As [.ar 16 (.int .u16)])) (x:As []):rfn Tryz.prog q61_ 6 18446744073709551616 (Ev.get q6e_) 183 q4o_ J x=q122_ (fun t5 t0 t=>J 58 [] (q4e_ t5 t0 t)):=by kernel_rfl
theorem q1ef_ (w1:St->Option (As [.ar 16 (.int .u16)])) (i x t5:Int) (t0 t:List Int):jfn Tryz.prog q61_ 6 18446744073709551616 (Ev.get q6e_) 183 q4o_ 7475 [w1] (qrm_ i x t5 t0 t)=qw2_ (fun t5 t0 t=>w1 (q4e_ t5 t0 t)) i x t5 t0 t:=by
 rw [q8_ (by decide)]
 rw [q1eh_]
 rfl
theorem q1fw_ (w1:St->Option (As [.ar 16 (.int .u16)])) (i x t5 t10:Int) (t0 t:List Int):jfn Tryz.prog q61_ 6 18446744073709551616 (Ev.get q6e_) 183 q4o_ 59802 [w1] (qfa_ i x t5 t10 t0 t)=qv6_ (fun t5 t0 t=>w1 (q4e_ t5 t0 t)) i x t5 t10 t0 t:=by
 rw [q8_ (by decide)]
 rw [qr_ (by kernel_rfl)]
 refine qi_ (σ:=(Int)×(Int)×(Int)×(Int)×(List Int)×(List Int)) (mk:=fun s=>qfa_ s.1 s.2.1 s.2.2.1 s.2.2.2.1 s.2.2.2.2.1 s.2.2.2.2.2) (fun w2 s=>?_) 18446744073709551616 (i,x,t5,t10,t0,t)
 have e3:(fun i x t5 t0 t=>(jfn Tryz.prog q61_ 6 18446744073709551616 (Ev.get q6e_) 183 q4o_) 7475 [w1] (qrm_ i x t5 t0 t))=qw2_ (fun t5 t0 t=>w1 (q4e_ t5 t0 t)):=by funext i x t5 t0 t; exact q1ef_ w1 i x t5 t0 t
 refine (q1er_ _ w1 w2 s.1 s.2.1 s.2.2.1 s.2.2.2.1 s.2.2.2.2.1 s.2.2.2.2.2).trans ?_
 rw [e3]
theorem q1d6_ (t5:Int) (t0 t:List Int):jfn Tryz.prog q61_ 6 18446744073709551616 (Ev.get q6e_) 183 q4o_ 58 [] (q4e_ t5 t0 t)=qvm_ t5 t0 t:=by
 rw [q8_ (by decide)]
 rw [qr_ (by kernel_rfl)]
 refine qi_ (σ:=(Int)×(List Int)×(List Int)) (mk:=fun s=>q4e_ s.1 s.2.1 s.2.2) (fun w1 s=>?_) 18446744073709551616 (t5,t0,t)
 have e2:(fun i x t5 t10 t0 t=>(jfn Tryz.prog q61_ 6 18446744073709551616 (Ev.get q6e_) 183 q4o_) 59802 [w1] (qfa_ i x t5 t10 t0 t))=qv6_ (fun t5 t0 t=>w1 (q4e_ t5 t0 t)):=by funext i x t5 t10 t0 t; exact q1fw_ w1 i x t5 t10 t0 t
 refine (q1ev_ _ w1 s.1 s.2.1 s.2.2).trans ?_
 rw [e2]
theorem q1hc_ (x:As []):evT Tryz.prog q61_ 6 18446744073709551616 (Ev.get q6e_) 183 q4o_ x=qtq_ x:=by
 have e1:(fun t5 t0 t=>(jfn Tryz.prog q61_ 6 18446744073709551616 (Ev.get q6e_) 183 q4o_) 58 [] (q4e_ t5 t0 t))=qvm_:=by funext t5 t0 t; exact q1d6_ t5 t0 t
 rw [q5_,q1d5_,e1]
 rfl
theorem q1fn_:CtOk Tryz.prog (fun _=>True) 183 ⟨q4o_,qtq_⟩:=q3_ q4_ q1hc_
@[reducible] def quz_:Sh:=⟨[.pb 0 0,.d (.int .u16),.d (.int .u8)],[.row (.int .u16) 242],[.int .u16,.int .u8,.sl (.int .u16)],[.d (.int .u16)],[(0,.row (.int .u16) 242)],0,[.int .u16,.sl (.int .u16)]⟩
def q169_:Env:=(cts [])
def q165_:List (Nat×Hint):=[]
def qsx_ (t sum:Int) (c:List Int):Option (As [.int .u16,.sl (.int .u16)]) :=
 need (lt (Sx.band .u16 (Sx.bxor .u16 t (cvt .u16 sum)) 15) 16) (Option.bind (at? c (Sx.band .u16 (Sx.bxor .u16 t (cvt .u16 sum)) 15)) fun x=>Option.bind (at? c (Sx.band .u16 (Sx.bxor .u16 t (cvt .u16 sum)) 15)) fun y=>need (lt (Sx.band .u16 (Sx.bxor .u16 (Sx.shr .u16 (Sx.bxor .u16 t (cvt .u16 sum)) 4) y) 15) 16) (Option.bind (at? c (Sx.band .u16 (Sx.bxor .u16 (Sx.shr .u16 (Sx.bxor .u16 t (cvt .u16 sum)) 4) y) 15)) fun x=>Option.bind (at? c (Sx.band .u16 (Sx.bxor .u16 (Sx.shr .u16 (Sx.bxor .u16 t (cvt .u16 sum)) 4) y) 15)) fun y_1=>some (Sx.bxor .u16 (Sx.shr .u16 (Sx.bxor .u16 (Sx.shr .u16 (Sx.bxor .u16 t (cvt .u16 sum)) 4) y) 4) y_1,c,())))
def qvy_ (x:As [.int .u16,.int .u8,.sl (.int .u16)]):Option (As [.int .u16,.sl (.int .u16)]):=qsx_ x.1 x.2.1 x.2.2.1
theorem q1ht_ (J:Orc (As [.int .u16,.sl (.int .u16)])) (x:As [.int .u16,.int .u8,.sl (.int .u16)]):rfn Tryz.prog q169_ 6 18446744073709551616 (Ev.get q165_) 184 quz_ J x=qsx_ x.1 x.2.1 x.2.2.1:=by kernel_rfl
theorem q1iu_ (x:As [.int .u16,.int .u8,.sl (.int .u16)]):evT Tryz.prog q169_ 6 18446744073709551616 (Ev.get q165_) 184 quz_ x=qvy_ x:=by
 rw [q5_,q1ht_]
 rfl
theorem q1gt_:CtOk Tryz.prog (fun _=>True) 184 ⟨quz_,qvy_⟩:=q3_ q4_ q1iu_
@[reducible] def qg8_:Sh:=⟨[.d (.sl (.int .u8))],[],[.sl (.int .u8)],[.d (.int .u16)],[],0,[.int .u16]⟩
def qtm_:Env:=(cts [(183,(⟨q4o_,qtq_⟩:Ct)),(184,(⟨quz_,qvy_⟩:Ct))])
def qte_:List (Nat×Hint):=[(122,⟨[],[0,3,4,8,9]⟩)]
def qkt_ (b:List Int) (sum t8 t9:Int) (t:List Int):St:={ fr:=[(0,.d (.sl (.int .u8)) b),(3,.pb 0 0),(4,.d (.int .u16) sum),(8,.d (.int .i64) t8),(9,.d (.int .i64) t9)],nt:=20,up:=[],own:=[(0,.row (.int .u16) 242 t)],nx:=1,log:=[],ln:=0 }
def qkp_ (self1:List Int->Int->Int->Int->List Int->Option (As [.int .u16])) (b:List Int) (sum t8 t9:Int) (t:List Int):Option (As [.int .u16]) :=
 if lt t9 t8=true then Option.bind (at? b t9) fun y=>Option.bind (qvy_ (sum,y,t,())) fun y=>self1 b y.1 t8 (add .i64 t9 1) y.2.1 else some (sum,())
def quv_ (j1:List Int->Int->Int->Int->List Int->Option (As [.int .u16])) (b:List Int):Option (As [.int .u16]) :=
 Option.bind (qtq_ ()) fun y=>need (eqi 16 (Int.ofNat (List.length y.1))) (need (eqi 16 (Int.ofNat (List.length y.1 * 1))) (j1 b 65535 (Int.ofNat (List.length b)) 0 y.1))
def qr5_ (b:List Int) (sum t8 t9:Int) (t:List Int):Option (As [.int .u16]) :=
 loopF (fun (self:(List Int)×(Int)×(Int)×(Int)×(List Int)->Option (As [.int .u16])) (s:(List Int)×(Int)×(Int)×(Int)×(List Int))=>qkp_ (fun b sum t8 t9 t=>self (b,sum,t8,t9,t)) s.1 s.2.1 s.2.2.1 s.2.2.2.1 s.2.2.2.2) 18446744073709551616 (b,sum,t8,t9,t)
def qsj_ (x:As [.sl (.int .u8)]):Option (As [.int .u16]):=quv_ qr5_ x.1
theorem q1ij_ (J:Orc (As [.int .u16])) (w1:St->Option (As [.int .u16])) (b:List Int) (sum t8 t9:Int) (t:List Int):pfn Tryz.prog qtm_ 6 18446744073709551616 (Ev.get qte_) 140 qg8_ J 122 [w1] (qkt_ b sum t8 t9 t)=qkp_ (fun b sum t8 t9 t=>w1 (qkt_ b sum t8 t9 t)) b sum t8 t9 t:=by kernel_rfl
theorem q1iq_ (J:Orc (As [.int .u16])) (x:As [.sl (.int .u8)]):rfn Tryz.prog qtm_ 6 18446744073709551616 (Ev.get qte_) 140 qg8_ J x=quv_ (fun b sum t8 t9 t=>J 122 [] (qkt_ b sum t8 t9 t)) x.1:=by kernel_rfl
theorem q1ii_ (b:List Int) (sum t8 t9:Int) (t:List Int):jfn Tryz.prog qtm_ 6 18446744073709551616 (Ev.get qte_) 140 qg8_ 122 [] (qkt_ b sum t8 t9 t)=qr5_ b sum t8 t9 t:=by
 rw [q8_ (by decide)]
 rw [qr_ (by kernel_rfl)]
 refine qi_ (σ:=(List Int)×(Int)×(Int)×(Int)×(List Int)) (mk:=fun s=>qkt_ s.1 s.2.1 s.2.2.1 s.2.2.2.1 s.2.2.2.2) (fun w1 s=>?_) 18446744073709551616 (b,sum,t8,t9,t)
 refine (q1ij_ _ w1 s.1 s.2.1 s.2.2.1 s.2.2.2.1 s.2.2.2.2).trans ?_
 rfl
theorem q1iy_ (x:As [.sl (.int .u8)]):evT Tryz.prog qtm_ 6 18446744073709551616 (Ev.get qte_) 140 qg8_ x=qsj_ x:=by
 have e1:(fun b sum t8 t9 t=>(jfn Tryz.prog qtm_ 6 18446744073709551616 (Ev.get qte_) 140 qg8_) 122 [] (qkt_ b sum t8 t9 t))=qr5_:=by funext b sum t8 t9 t; exact q1ii_ b sum t8 t9 t
 rw [q5_,q1iq_,e1]
 rfl
theorem q16d_:CtOk Tryz.prog (fun _=>True) 140 ⟨qg8_,qsj_⟩:=q3_ (q0_ q1fn_ (q0_ q1gt_ q4_)) q1iy_
@[reducible] def qwr_:Sh:=⟨[.d (.sl (.int .u8))],[],[.sl (.int .u8)],[.d (.sl (.int .u8))],[],0,[.sl (.int .u8)]⟩
def q19s_:Env:=(cts [(140,(⟨qg8_,qsj_⟩:Ct))])
def q19q_:List (Nat×Hint):=[]
def qun_ (b:List Int):Option (As [.sl (.int .u8)]) :=
 Option.bind (qsj_ (b,())) fun y=>need (Ev.capOk 0 (add .i64 (Int.ofNat (List.length b)) 2)) (need (small (Int.toNat (add .i64 (Int.ofNat (List.length b)) 2))) (need (small (0 + List.length b)) (need (small (List.length b + Nat.succ (Nat.succ 0))) (some (b++[cvt .u8 y.1,cvt .u8 (Sx.shr .u16 y.1 8)],())))))
def qxi_ (x:As [.sl (.int .u8)]):Option (As [.sl (.int .u8)]):=qun_ x.1
theorem q1io_ (J:Orc (As [.sl (.int .u8)])) (x:As [.sl (.int .u8)]):rfn Tryz.prog q19s_ 6 18446744073709551616 (Ev.get q19q_) 86 qwr_ J x=qun_ x.1:=by kernel_rfl
theorem q1j3_ (x:As [.sl (.int .u8)]):evT Tryz.prog q19s_ 6 18446744073709551616 (Ev.get q19q_) 86 qwr_ x=qxi_ x:=by
 rw [q5_,q1io_]
 rfl
theorem q1ic_:CtOk Tryz.prog (fun _=>True) 86 ⟨qwr_,qxi_⟩:=q3_ (q0_ q16d_ q4_) q1j3_
@[reducible] def qe4_:Sh:=⟨[.d (.int .u8),.d (.sl (.int .u8))],[],[.int .u8,.sl (.int .u8)],[.d (.sl (.int .u8)),.d (.int .i64)],[],0,[.sl (.int .u8),.int .i64]⟩
def qm4_:Env:=(cts [(85,(⟨qjm_,qdh_⟩:Ct)),(86,(⟨qwr_,qxi_⟩:Ct))])
def qlh_:List (Nat×Hint):=[(6,⟨[],[0,1,18]⟩)]
def qoz_ (unit:Int) (pdu:List Int) (t18:Bool):St:={ fr:=[(0,.d (.int .u8) unit),(1,.d (.sl (.int .u8)) pdu),(18,.d .bool t18)],nt:=24,up:=[],own:=[],nx:=0,log:=[],ln:=0 }
def qqm_ (unit:Int) (pdu:List Int) (t18:Bool):Option (As [.sl (.int .u8),.int .i64]) :=
 if t18=true then some ([],2,()) else need (small (Nat.succ 0 + List.length pdu)) (Option.bind (qxi_ (unit::pdu,())) fun y=>some (y.1,0,()))
def qry_ (j1:Int->List Int->Bool->Option (As [.sl (.int .u8),.int .i64])) (unit:Int) (pdu:List Int):Option (As [.sl (.int .u8),.int .i64]) :=
 Option.bind (qdh_ (unit,())) fun y=>if (!y.1)=true then j1 unit pdu true else if lt (Int.ofNat (List.length pdu)) 1=true then j1 unit pdu true else j1 unit pdu (gt (Int.ofNat (List.length pdu)) 253)
def qrj_ (unit:Int) (pdu:List Int) (t18:Bool):Option (As [.sl (.int .u8),.int .i64]):=qqm_ unit pdu t18
def qtp_ (x:As [.int .u8,.sl (.int .u8)]):Option (As [.sl (.int .u8),.int .i64]):=qry_ qrj_ x.1 x.2.1
theorem q1dz_ (J:Orc (As [.sl (.int .u8),.int .i64])) (unit:Int) (pdu:List Int) (t18:Bool):pfn Tryz.prog qm4_ 6 18446744073709551616 (Ev.get qlh_) 28 qe4_ J 6 [] (qoz_ unit pdu t18)=qqm_ unit pdu t18:=by kernel_rfl
theorem q1g4_ (J:Orc (As [.sl (.int .u8),.int .i64])) (x:As [.int .u8,.sl (.int .u8)]):rfn Tryz.prog qm4_ 6 18446744073709551616 (Ev.get qlh_) 28 qe4_ J x=qry_ (fun unit pdu t18=>J 6 [] (qoz_ unit pdu t18)) x.1 x.2.1:=by kernel_rfl
theorem q1db_ (unit:Int) (pdu:List Int) (t18:Bool):jfn Tryz.prog qm4_ 6 18446744073709551616 (Ev.get qlh_) 28 qe4_ 6 [] (qoz_ unit pdu t18)=qrj_ unit pdu t18:=by
 rw [q8_ (by decide)]
 rw [q1dz_]
 rfl
theorem q1i0_ (x:As [.int .u8,.sl (.int .u8)]):evT Tryz.prog qm4_ 6 18446744073709551616 (Ev.get qlh_) 28 qe4_ x=qtp_ x:=by
 have e1:(fun unit pdu t18=>(jfn Tryz.prog qm4_ 6 18446744073709551616 (Ev.get qlh_) 28 qe4_) 6 [] (qoz_ unit pdu t18))=qrj_:=by funext unit pdu t18; exact q1db_ unit pdu t18
 rw [q5_,q1g4_,e1]
 rfl
theorem q1fv_:CtOk Tryz.prog (fun _=>True) 28 ⟨qe4_,qtp_⟩:=q3_ (q0_ qzx_ (q0_ q1ic_ q4_)) q1i0_
@[reducible] def qwy_:Sh:=⟨[.d (.sl (.int .u8))],[],[.sl (.int .u8)],[.d (.sl (.int .u8)),.d (.int .i64)],[],0,[.sl (.int .u8),.int .i64]⟩
def q19r_:Env:=(cts [(140,(⟨qg8_,qsj_⟩:Ct))])
def q19o_:List (Nat×Hint):=[]
def qul_ (b:List Int):Option (As [.sl (.int .u8),.int .i64]) :=
 if lt (Int.ofNat (List.length b)) 2=true then some ([],10,()) else Option.bind (cut b 0 (Sx.sub .i64 (Int.ofNat (List.length b)) 2)) fun y=>Option.bind (at? b (Sx.sub .i64 (Int.ofNat (List.length b)) 2)) fun y_1=>Option.bind (at? b (add .i64 (Sx.sub .i64 (Int.ofNat (List.length b)) 2) 1)) fun y_2=>Option.bind (qsj_ (y,())) fun y=>if nei y.1 (Sx.bor .u16 (cvt .u16 y_1) (Sx.shl .u16 (cvt .u16 y_2) 8))=true then some ([],11,()) else need (ge (Sx.sub .i64 (Int.ofNat (List.length b)) 2) 0) (need (Ev.capOk (Sx.sub .i64 (Int.ofNat (List.length b)) 2) (Sx.sub .i64 (Int.ofNat (List.length b)) 2)) (need (small (Int.toNat (Sx.sub .i64 (Int.ofNat (List.length b)) 2))) (need (le (Int.ofNat (0 + List.length (List.replicate (α:=Int) (Int.toNat (Sx.sub .i64 (Int.ofNat (List.length b)) 2)) 0))) (Int.ofNat (List.length (List.replicate (α:=Int) (Int.toNat (Sx.sub .i64 (Int.ofNat (List.length b)) 2)) 0)))) (some (List.take (Int.toNat (Int.ofNat (List.length (List.replicate (α:=Int) (Int.toNat (Sx.sub .i64 (Int.ofNat (List.length b)) 2)) 0)))) b++List.drop (0 + List.length (List.take (Int.toNat (Int.ofNat (List.length (List.replicate (α:=Int) (Int.toNat (Sx.sub .i64 (Int.ofNat (List.length b)) 2)) 0)))) b)) (List.replicate (Int.toNat (Sx.sub .i64 (Int.ofNat (List.length b)) 2)) 0),0,())))))
def qxv_ (x:As [.sl (.int .u8)]):Option (As [.sl (.int .u8),.int .i64]):=qul_ x.1
theorem q1ih_ (J:Orc (As [.sl (.int .u8),.int .i64])) (x:As [.sl (.int .u8)]):rfn Tryz.prog q19r_ 6 18446744073709551616 (Ev.get q19o_) 89 qwy_ J x=qul_ x.1:=by kernel_rfl
theorem q1iz_ (x:As [.sl (.int .u8)]):evT Tryz.prog q19r_ 6 18446744073709551616 (Ev.get q19o_) 89 qwy_ x=qxv_ x:=by
 rw [q5_,q1ih_]
 rfl
theorem q1id_:CtOk Tryz.prog (fun _=>True) 89 ⟨qwy_,qxv_⟩:=q3_ (q0_ q16d_ q4_) q1iz_
@[reducible] def qef_:Sh:=⟨[.d (.sl (.int .u8))],[],[.sl (.int .u8)],[.d (.int .u8),.d (.sl (.int .u8)),.d (.int .i64)],[],0,[.int .u8,.sl (.int .u8),.int .i64]⟩
def ql8_:Env:=(cts [(85,(⟨qjm_,qdh_⟩:Ct)),(89,(⟨qwy_,qxv_⟩:Ct))])
def qm3_:List (Nat×Hint):=[(6,⟨[],[0,14]⟩)]
def qp3_ (b:List Int) (t14:Bool):St:={ fr:=[(0,.d (.sl (.int .u8)) b),(14,.d .bool t14)],nt:=37,up:=[],own:=[],nx:=0,log:=[],ln:=0 }
def qqf_ (b:List Int) (t14:Bool):Option (As [.int .u8,.sl (.int .u8),.int .i64]) :=
 if t14=true then some (0,[],10,()) else Option.bind (qxv_ (b,())) fun y=>if nei y.2.1 0=true then some (0,[],y.2.1,()) else Option.bind (at? y.1 0) fun y_1=>Option.bind (qdh_ (y_1,())) fun y_2=>if (!y_2.1)=true then some (0,[],10,()) else Option.bind (at? y.1 0) fun y_3=>Option.bind (cut y.1 1 (Int.ofNat (List.length y.1))) fun y_4=>need (le (Int.ofNat (List.length y.1)) (Int.ofNat (List.length y.1))) (need (le (Int.ofNat (List.length y.1)) (Int.ofNat (List.length y.1))) (some (y_3,y_4,0,())))
def qpb_ (j1:List Int->Bool->Option (As [.int .u8,.sl (.int .u8),.int .i64])) (b:List Int):Option (As [.int .u8,.sl (.int .u8),.int .i64]) :=
 if lt (Int.ofNat (List.length b)) 4=true then j1 b true else j1 b (gt (Int.ofNat (List.length b)) 256)
def qiz_ (b:List Int) (t14:Bool):Option (As [.int .u8,.sl (.int .u8),.int .i64]):=qqf_ b t14
def qu6_ (x:As [.sl (.int .u8)]):Option (As [.int .u8,.sl (.int .u8),.int .i64]):=qpb_ qiz_ x.1
theorem q1ei_ (J:Orc (As [.int .u8,.sl (.int .u8),.int .i64])) (b:List Int) (t14:Bool):pfn Tryz.prog ql8_ 6 18446744073709551616 (Ev.get qm3_) 30 qef_ J 6 [] (qp3_ b t14)=qqf_ b t14:=by kernel_rfl
theorem q1d2_ (J:Orc (As [.int .u8,.sl (.int .u8),.int .i64])) (x:As [.sl (.int .u8)]):rfn Tryz.prog ql8_ 6 18446744073709551616 (Ev.get qm3_) 30 qef_ J x=qpb_ (fun b t14=>J 6 [] (qp3_ b t14)) x.1:=by kernel_rfl
theorem q1gg_ (b:List Int) (t14:Bool):jfn Tryz.prog ql8_ 6 18446744073709551616 (Ev.get qm3_) 30 qef_ 6 [] (qp3_ b t14)=qiz_ b t14:=by
 rw [q8_ (by decide)]
 rw [q1ei_]
 rfl
theorem q1ha_ (x:As [.sl (.int .u8)]):evT Tryz.prog ql8_ 6 18446744073709551616 (Ev.get qm3_) 30 qef_ x=qu6_ x:=by
 have e1:(fun b t14=>(jfn Tryz.prog ql8_ 6 18446744073709551616 (Ev.get qm3_) 30 qef_) 6 [] (qp3_ b t14))=qiz_:=by funext b t14; exact q1gg_ b t14
 rw [q5_,q1d2_,e1]
 rfl
theorem q1fc_:CtOk Tryz.prog (fun _=>True) 30 ⟨qef_,qu6_⟩:=q3_ (q0_ qzx_ (q0_ q1id_ q4_)) q1ha_
@[reducible] def q26_:Sh:=⟨[.d (.sl (.int .u8))],[],[.sl (.int .u8)],[.d (.bool)],[],0,[.bool]⟩
def q2u_:Env:=(cts [])
def q2t_:List (Nat×Hint):=[(26,⟨[],[0,3,7,8,9,10,17,18,19,20,21,26,27,28,29,30,31,32,33,34,35,36,37,38]⟩),(841,⟨[.agd 32 (.sl (.int .u8)),.agd 33 (.int .i64),.agd 35 (.int .u8),.agd 36 (.int .i64),.agd 37 .bool,.agd 26 (.sl (.int .u8)),.agd 27 (.int .i64),.agd 29 (.int .u8),.agd 30 .bool,.agd 31 .bool,.agd 38 .bool],[0,3,39]⟩),(840,⟨[.agd 17 (.sl (.int .u8)),.agd 18 (.int .i64),.agd 20 (.int .u8),.agd 21 .bool],[0,3,22]⟩),(104,⟨[.agd 7 (.int .i64),.agd 8 (.sl (.int .u8)),.agd 9 (.int .i64),.agd 10 .bool],[0,3,11]⟩)]
def q25_ (b:List Int) (i:Int):St:={ fr:=[(0,.d (.sl (.int .u8)) b),(3,.d (.int .i64) i)],nt:=40,up:=[],own:=[],nx:=0,log:=[],ln:=0 }
def qkv_ (b:List Int) (i:Int) (t11:Bool):St:={ fr:=[(0,.d (.sl (.int .u8)) b),(3,.d (.int .i64) i),(11,.d .bool t11)],nt:=40,up:=[],own:=[],nx:=0,log:=[],ln:=0 }
def qkd_ (b:List Int) (i:Int) (t22:Bool):St:={ fr:=[(0,.d (.sl (.int .u8)) b),(3,.d (.int .i64) i),(22,.d .bool t22)],nt:=40,up:=[],own:=[],nx:=0,log:=[],ln:=0 }
def qk1_ (b:List Int) (i:Int) (t39:Bool):St:={ fr:=[(0,.d (.sl (.int .u8)) b),(3,.d (.int .i64) i),(39,.d .bool t39)],nt:=40,up:=[],own:=[],nx:=0,log:=[],ln:=0 }
def q77_ (j2:List Int->Int->Bool->Option (As [.bool])) (self1:List Int->Int->Option (As [.bool])) (b:List Int) (i:Int):Option (As [.bool]) :=
 if lt i 6=true then j2 b i (lt i (Int.ofNat (List.length b))) else j2 b i false
def qjp_ (j3:List Int->Int->Bool->Option (As [.bool])) (self1:List Int->Int->Option (As [.bool])) (b:List Int) (i:Int) (t11:Bool):Option (As [.bool]) :=
 if t11=true then if lt i 5=true then Option.bind (at? b i) fun y=>j3 b i (nei y 0) else j3 b i false else some (true,())
def qkk_ (j4:List Int->Int->Bool->Option (As [.bool])) (self1:List Int->Int->Option (As [.bool])) (b:List Int) (i:Int) (t22:Bool):Option (As [.bool]) :=
 if t22=true then some (false,()) else if eqi i 5=true then Option.bind (at? b i) fun y=>if lt y 2=true then j4 b i true else Option.bind (at? b i) fun y=>j4 b i (gt (cvt .i64 y) 254) else j4 b i false
def qy4_ (self1:List Int->Int->Option (As [.bool])) (b:List Int) (i:Int) (t39:Bool):Option (As [.bool]) :=
 if t39=true then some (false,()) else self1 b (add .i64 i 1)
def qkn_ (j1:List Int->Int->Option (As [.bool])) (b:List Int):Option (As [.bool]) :=
 j1 b 2
def qsh_ (u1:List Int->Int->Option (As [.bool])) (b:List Int) (i:Int) (t39:Bool):Option (As [.bool]):=qy4_ u1 b i t39
def qg3_ (u1:List Int->Int->Option (As [.bool])) (b:List Int) (i:Int) (t22:Bool):Option (As [.bool]):=qkk_ (qsh_ u1) u1 b i t22
def q5g_ (u1:List Int->Int->Option (As [.bool])) (b:List Int) (i:Int) (t11:Bool):Option (As [.bool]):=qjp_ (qg3_ u1) u1 b i t11
def qf6_ (b:List Int) (i:Int):Option (As [.bool]) :=
 loopF (fun (self:(List Int)×(Int)->Option (As [.bool])) (s:(List Int)×(Int))=>q77_ (q5g_ (fun b i=>self (b,i))) (fun b i=>self (b,i)) s.1 s.2) 18446744073709551616 (b,i)
def qld_ (x:As [.sl (.int .u8)]):Option (As [.bool]):=qkn_ qf6_ x.1
theorem q187_ (J:Orc (As [.bool])) (w1:St->Option (As [.bool])) (b:List Int) (i:Int) (t39:Bool):pfn Tryz.prog q2u_ 6 18446744073709551616 (Ev.get q2t_) 185 q26_ J 841 [w1] (qk1_ b i t39)=qy4_ (fun b i=>w1 (q25_ b i)) b i t39:=by kernel_rfl
theorem q18i_ (J:Orc (As [.bool])) (w1:St->Option (As [.bool])) (b:List Int) (i:Int) (t22:Bool):pfn Tryz.prog q2u_ 6 18446744073709551616 (Ev.get q2t_) 185 q26_ J 840 [w1] (qkd_ b i t22)=qkk_ (fun b i t39=>J 841 [w1] (qk1_ b i t39)) (fun b i=>w1 (q25_ b i)) b i t22:=by kernel_rfl
theorem q18g_ (J:Orc (As [.bool])) (w1:St->Option (As [.bool])) (b:List Int) (i:Int) (t11:Bool):pfn Tryz.prog q2u_ 6 18446744073709551616 (Ev.get q2t_) 185 q26_ J 104 [w1] (qkv_ b i t11)=qjp_ (fun b i t22=>J 840 [w1] (qkd_ b i t22)) (fun b i=>w1 (q25_ b i)) b i t11:=by kernel_rfl
theorem q18d_ (J:Orc (As [.bool])) (w1:St->Option (As [.bool])) (b:List Int) (i:Int):pfn Tryz.prog q2u_ 6 18446744073709551616 (Ev.get q2t_) 185 q26_ J 26 [w1] (q25_ b i)=q77_ (fun b i t11=>J 104 [w1] (qkv_ b i t11)) (fun b i=>w1 (q25_ b i)) b i:=by kernel_rfl
theorem q18k_ (J:Orc (As [.bool])) (x:As [.sl (.int .u8)]):rfn Tryz.prog q2u_ 6 18446744073709551616 (Ev.get q2t_) 185 q26_ J x=qkn_ (fun b i=>J 26 [] (q25_ b i)) x.1:=by kernel_rfl
theorem q17u_ (w1:St->Option (As [.bool])) (b:List Int) (i:Int) (t39:Bool):jfn Tryz.prog q2u_ 6 18446744073709551616 (Ev.get q2t_) 185 q26_ 841 [w1] (qk1_ b i t39)=qsh_ (fun b i=>w1 (q25_ b i)) b i t39:=by
 rw [q8_ (by decide)]
 rw [q187_]
 rfl
theorem q17o_ (w1:St->Option (As [.bool])) (b:List Int) (i:Int) (t22:Bool):jfn Tryz.prog q2u_ 6 18446744073709551616 (Ev.get q2t_) 185 q26_ 840 [w1] (qkd_ b i t22)=qg3_ (fun b i=>w1 (q25_ b i)) b i t22:=by
 rw [q8_ (by decide)]
 have e4:(fun b i t39=>(jfn Tryz.prog q2u_ 6 18446744073709551616 (Ev.get q2t_) 185 q26_) 841 [w1] (qk1_ b i t39))=qsh_ (fun b i=>w1 (q25_ b i)):=by funext b i t39; exact q17u_ w1 b i t39
 rw [q18i_,e4]
 rfl
theorem q191_ (w1:St->Option (As [.bool])) (b:List Int) (i:Int) (t11:Bool):jfn Tryz.prog q2u_ 6 18446744073709551616 (Ev.get q2t_) 185 q26_ 104 [w1] (qkv_ b i t11)=q5g_ (fun b i=>w1 (q25_ b i)) b i t11:=by
 rw [q8_ (by decide)]
 have e3:(fun b i t22=>(jfn Tryz.prog q2u_ 6 18446744073709551616 (Ev.get q2t_) 185 q26_) 840 [w1] (qkd_ b i t22))=qg3_ (fun b i=>w1 (q25_ b i)):=by funext b i t22; exact q17o_ w1 b i t22
 rw [q18g_,e3]
 rfl
theorem q18r_ (b:List Int) (i:Int):jfn Tryz.prog q2u_ 6 18446744073709551616 (Ev.get q2t_) 185 q26_ 26 [] (q25_ b i)=qf6_ b i:=by
 rw [q8_ (by decide)]
 rw [qr_ (by kernel_rfl)]
 refine qi_ (σ:=(List Int)×(Int)) (mk:=fun s=>q25_ s.1 s.2) (fun w1 s=>?_) 18446744073709551616 (b,i)
 have e2:(fun b i t11=>(jfn Tryz.prog q2u_ 6 18446744073709551616 (Ev.get q2t_) 185 q26_) 104 [w1] (qkv_ b i t11))=q5g_ (fun b i=>w1 (q25_ b i)):=by funext b i t11; exact q191_ w1 b i t11
 refine (q18d_ _ w1 s.1 s.2).trans ?_
 rw [e2]
theorem q1cg_ (x:As [.sl (.int .u8)]):evT Tryz.prog q2u_ 6 18446744073709551616 (Ev.get q2t_) 185 q26_ x=qld_ x:=by
 have e1:(fun b i=>(jfn Tryz.prog q2u_ 6 18446744073709551616 (Ev.get q2t_) 185 q26_) 26 [] (q25_ b i))=qf6_:=by funext b i; exact q18r_ b i
 rw [q5_,q18k_,e1]
 rfl
theorem q17y_:CtOk Tryz.prog (fun _=>True) 185 ⟨q26_,qld_⟩:=q3_ q4_ q1cg_
@[reducible] def qc4_:Sh:=⟨[.d (.sl (.int .u8))],[],[.sl (.int .u8)],[.d (.pr (.int .u16) YTT14),.d (.int .i64)],[],0,[.pr (.int .u16) YTT14,.int .i64]⟩
def qj4_:Env:=(cts [(185,(⟨q26_,qld_⟩:Ct))])
def qiu_:List (Nat×Hint):=[(6,⟨[],[0,2,13]⟩)]
def qnp_ (b:List Int) (t13:Bool) (t2 t2_2:Int):St:={ fr:=[(0,.d (.sl (.int .u8)) b),(2,.pb 0 0),(13,.d .bool t13)],nt:=49,up:=[],own:=[(0,.box 148 [.d (.int .u16) t2,.d (.int .u8) t2_2,.k (Go.Value.slice Option.none 0 0)])],nx:=1,log:=[],ln:=0 }
def qn0_ (b:List Int) (t13:Bool) (t2 t2_2:Int):Option (As [.pr (.int .u16) YTT14,.int .i64]) :=
 if t13=true then some ((0,0,[]),0,()) else Option.bind (at? b 5) fun y=>if lt (Int.ofNat (List.length b)) (add .i64 6 (cvt .i64 y))=true then some ((0,0,[]),0,()) else need (ge (Sx.sub .i64 (add .i64 6 (cvt .i64 y)) 7) 0) (need (Ev.capOk (Sx.sub .i64 (add .i64 6 (cvt .i64 y)) 7) (Sx.sub .i64 (add .i64 6 (cvt .i64 y)) 7)) (need (small (Int.toNat (Sx.sub .i64 (add .i64 6 (cvt .i64 y)) 7))) (Option.bind (cut b 7 (add .i64 6 (cvt .i64 y))) fun y_1=>need (le (Int.ofNat (0 + List.length (List.replicate (α:=Int) (Int.toNat (Sx.sub .i64 (add .i64 6 (cvt .i64 y)) 7)) 0))) (Int.ofNat (List.length (List.replicate (α:=Int) (Int.toNat (Sx.sub .i64 (add .i64 6 (cvt .i64 y)) 7)) 0)))) (Option.bind (at? b 0) fun y_2=>Option.bind (at? b 1) fun y_3=>Option.bind (at? b 6) fun y_4=>some ((Sx.bor .u16 (Sx.shl .u16 (cvt .u16 y_2) 8) (cvt .u16 y_3),y_4,List.take (Int.toNat (Int.ofNat (List.length (List.replicate (α:=Int) (Int.toNat (Sx.sub .i64 (add .i64 6 (cvt .i64 y)) 7)) 0)))) y_1++List.drop (0 + List.length (List.take (Int.toNat (Int.ofNat (List.length (List.replicate (α:=Int) (Int.toNat (Sx.sub .i64 (add .i64 6 (cvt .i64 y)) 7)) 0)))) y_1)) (List.replicate (Int.toNat (Sx.sub .i64 (add .i64 6 (cvt .i64 y)) 7)) 0)),add .i64 6 (cvt .i64 y),())))))
def qcs_ (j1:List Int->Bool->Int->Int->Option (As [.pr (.int .u16) YTT14,.int .i64])) (b:List Int):Option (As [.pr (.int .u16) YTT14,.int .i64]) :=
 if le (Int.ofNat (List.length b)) 7=true then j1 b true 0 0 else Option.bind (qld_ (b,())) fun y=>j1 b (!y.1) 0 0
def qh9_ (b:List Int) (t13:Bool) (t2 t2_2:Int):Option (As [.pr (.int .u16) YTT14,.int .i64]):=qn0_ b t13 t2 t2_2
def qjz_ (x:As [.sl (.int .u8)]):Option (As [.pr (.int .u16) YTT14,.int .i64]):=qcs_ qh9_ x.1
theorem q1b7_ (J:Orc (As [.pr (.int .u16) YTT14,.int .i64])) (b:List Int) (t13:Bool) (t2 t2_2:Int):pfn Tryz.prog qj4_ 6 18446744073709551616 (Ev.get qiu_) 141 qc4_ J 6 [] (qnp_ b t13 t2 t2_2)=qn0_ b t13 t2 t2_2:=by kernel_rfl
theorem q1cr_ (J:Orc (As [.pr (.int .u16) YTT14,.int .i64])) (x:As [.sl (.int .u8)]):rfn Tryz.prog qj4_ 6 18446744073709551616 (Ev.get qiu_) 141 qc4_ J x=qcs_ (fun b t13 t2 t2_2=>J 6 [] (qnp_ b t13 t2 t2_2)) x.1:=by kernel_rfl
theorem q1bw_ (b:List Int) (t13:Bool) (t2 t2_2:Int):jfn Tryz.prog qj4_ 6 18446744073709551616 (Ev.get qiu_) 141 qc4_ 6 [] (qnp_ b t13 t2 t2_2)=qh9_ b t13 t2 t2_2:=by
 rw [q8_ (by decide)]
 rw [q1b7_]
 rfl
theorem q1cz_ (x:As [.sl (.int .u8)]):evT Tryz.prog qj4_ 6 18446744073709551616 (Ev.get qiu_) 141 qc4_ x=qjz_ x:=by
 have e1:(fun b t13 t2 t2_2=>(jfn Tryz.prog qj4_ 6 18446744073709551616 (Ev.get qiu_) 141 qc4_) 6 [] (qnp_ b t13 t2 t2_2))=qh9_:=by funext b t13 t2 t2_2; exact q1bw_ b t13 t2 t2_2
 rw [q5_,q1cr_,e1]
 rfl
theorem q1bx_:CtOk Tryz.prog (fun _=>True) 141 ⟨qc4_,qjz_⟩:=q3_ (q0_ q17y_ q4_) q1cz_
@[reducible] def qbo_:Sh:=⟨[.d (.sl (.int .u8))],[],[.sl (.int .u8)],[.d (.pr (.int .u16) YTT14),.d (.int .i64)],[],0,[.pr (.int .u16) YTT14,.int .i64]⟩
def qjl_:Env:=(cts [(141,(⟨qc4_,qjz_⟩:Ct))])
def qj1_:List (Nat×Hint):=[(14,⟨[],[2,4,18]⟩)]
def qn9_ (t18:Bool) (t2 t2_2:Int) (x:Int×Int×List Int):St:={ fr:=[(2,.pb 0 0),(4,.pb 1 0),(18,.d .bool t18)],nt:=21,up:=[],own:=[(0,.box 148 [.d (.int .u16) t2,.d (.int .u8) t2_2,.k (Go.Value.slice Option.none 0 0)]),(1,.box 148 [.d (.int .u16) x.1,.d (.int .u8) x.2.1,.d (.sl (.int .u8)) x.2.2])],nx:=2,log:=[],ln:=0 }
def q10m_ (t18:Bool) (t2 t2_2:Int) (x:Int×Int×List Int):Option (As [.pr (.int .u16) YTT14,.int .i64]) :=
 if t18=true then some ((0,0,[]),10,()) else some (x,0,())
def qmj_ (j1:Bool->Int->Int->Int×Int×List Int->Option (As [.pr (.int .u16) YTT14,.int .i64])) (b:List Int):Option (As [.pr (.int .u16) YTT14,.int .i64]) :=
 Option.bind (qjz_ (b,())) fun y=>if eqi y.2.1 0=true then j1 true 0 0 y.1 else j1 (nei y.2.1 (Int.ofNat (List.length b))) 0 0 y.1
def qhk_ (t18:Bool) (t2 t2_2:Int) (x:Int×Int×List Int):Option (As [.pr (.int .u16) YTT14,.int .i64]):=q10m_ t18 t2 t2_2 x
def qr4_ (x:As [.sl (.int .u8)]):Option (As [.pr (.int .u16) YTT14,.int .i64]):=qmj_ qhk_ x.1
theorem q1c8_ (J:Orc (As [.pr (.int .u16) YTT14,.int .i64])) (t18:Bool) (t2 t2_2:Int) (x:Int×Int×List Int):pfn Tryz.prog qjl_ 6 18446744073709551616 (Ev.get qj1_) 87 qbo_ J 14 [] (qn9_ t18 t2 t2_2 x)=q10m_ t18 t2 t2_2 x:=by kernel_rfl
theorem q1ct_ (J:Orc (As [.pr (.int .u16) YTT14,.int .i64])) (x:As [.sl (.int .u8)]):rfn Tryz.prog qjl_ 6 18446744073709551616 (Ev.get qj1_) 87 qbo_ J x=qmj_ (fun t18 t2 t2_2 x=>J 14 [] (qn9_ t18 t2 t2_2 x)) x.1:=by kernel_rfl
theorem q1b0_ (t18:Bool) (t2 t2_2:Int) (x:Int×Int×List Int):jfn Tryz.prog qjl_ 6 18446744073709551616 (Ev.get qj1_) 87 qbo_ 14 [] (qn9_ t18 t2 t2_2 x)=qhk_ t18 t2 t2_2 x:=by
 rw [q8_ (by decide)]
 rw [q1c8_]
 rfl
theorem q1fb_ (x:As [.sl (.int .u8)]):evT Tryz.prog qjl_ 6 18446744073709551616 (Ev.get qj1_) 87 qbo_ x=qr4_ x:=by
 have e1:(fun t18 t2 t2_2 x=>(jfn Tryz.prog qjl_ 6 18446744073709551616 (Ev.get qj1_) 87 qbo_) 14 [] (qn9_ t18 t2 t2_2 x))=qhk_:=by funext t18 t2 t2_2 x; exact q1b0_ t18 t2 t2_2 x
 rw [q5_,q1ct_,e1]
 rfl
theorem q1af_:CtOk Tryz.prog (fun _=>True) 87 ⟨qbo_,qr4_⟩:=q3_ (q0_ q1bx_ q4_) q1fb_
@[reducible] def qe8_:Sh:=⟨[.d (.pr (.int .u16) YTT14)],[],[.pr (.int .u16) YTT14],[.d (.sl (.int .u8)),.d (.int .i64)],[],0,[.sl (.int .u8),.int .i64]⟩
def qlc_:Env:=(cts [])
def qm8_:List (Nat×Hint):=[(14,⟨[],[1,4,14]⟩)]
def qps_ (n:Int) (t14:Bool) (x:Int×Int×List Int):St:={ fr:=[(1,.pb 0 0),(4,.d (.int .i64) n),(14,.d .bool t14)],nt:=37,up:=[],own:=[(0,.box 148 [.d (.int .u16) x.1,.d (.int .u8) x.2.1,.d (.sl (.int .u8)) x.2.2])],nx:=1,log:=[],ln:=0 }
def qpy_ (n:Int) (t14:Bool) (x:Int×Int×List Int):Option (As [.sl (.int .u8),.int .i64]) :=
 if t14=true then some ([],2,()) else need (Ev.capOk 0 (add .i64 7 n)) (need (small (Int.toNat (add .i64 7 n))) (need (small (0 + Nat.succ (Nat.succ (Nat.succ (Nat.succ (Nat.succ (Nat.succ (Nat.succ 0)))))))) (need (small (Nat.succ (Nat.succ (Nat.succ (Nat.succ (Nat.succ (Nat.succ (Nat.succ 0)))))) + List.length x.2.2)) (some (cvt .u8 (Sx.shr .u16 x.1 8)::cvt .u8 x.1::0::0::0::cvt .u8 (add .i64 n 1)::x.2.1::x.2.2,0,())))))
def qp0_ (j1:Int->Bool->Int×Int×List Int->Option (As [.sl (.int .u8),.int .i64])) (x:Int×Int×List Int):Option (As [.sl (.int .u8),.int .i64]) :=
 if lt (Int.ofNat (List.length x.2.2)) 1=true then j1 (Int.ofNat (List.length x.2.2)) true x else j1 (Int.ofNat (List.length x.2.2)) (gt (Int.ofNat (List.length x.2.2)) 253) x
def qp2_ (n:Int) (t14:Bool) (x:Int×Int×List Int):Option (As [.sl (.int .u8),.int .i64]):=qpy_ n t14 x
def qu3_ (x:As [.pr (.int .u16) YTT14]):Option (As [.sl (.int .u8),.int .i64]):=qp0_ qp2_ x.1
theorem q1f9_ (J:Orc (As [.sl (.int .u8),.int .i64])) (n:Int) (t14:Bool) (x:Int×Int×List Int):pfn Tryz.prog qlc_ 6 18446744073709551616 (Ev.get qm8_) 88 qe8_ J 14 [] (qps_ n t14 x)=qpy_ n t14 x:=by kernel_rfl
theorem q1dm_ (J:Orc (As [.sl (.int .u8),.int .i64])) (x:As [.pr (.int .u16) YTT14]):rfn Tryz.prog qlc_ 6 18446744073709551616 (Ev.get qm8_) 88 qe8_ J x=qp0_ (fun n t14 x=>J 14 [] (qps_ n t14 x)) x.1:=by kernel_rfl
theorem q1gb_ (n:Int) (t14:Bool) (x:Int×Int×List Int):jfn Tryz.prog qlc_ 6 18446744073709551616 (Ev.get qm8_) 88 qe8_ 14 [] (qps_ n t14 x)=qp2_ n t14 x:=by
 rw [q8_ (by decide)]
 rw [q1f9_]
 rfl
theorem q1hl_ (x:As [.pr (.int .u16) YTT14]):evT Tryz.prog qlc_ 6 18446744073709551616 (Ev.get qm8_) 88 qe8_ x=qu3_ x:=by
 have e1:(fun n t14 x=>(jfn Tryz.prog qlc_ 6 18446744073709551616 (Ev.get qm8_) 88 qe8_) 14 [] (qps_ n t14 x))=qp2_:=by funext n t14 x; exact q1gb_ n t14 x
 rw [q5_,q1dm_,e1]
 rfl
theorem q1ey_:CtOk Tryz.prog (fun _=>True) 88 ⟨qe8_,qu3_⟩:=q3_ q4_ q1hl_
@[reducible] def q6a_:Sh:=⟨[.d (.pr (.int .u8) (.pr (.int .u8) (.pr (.pr (.sl (.int .u16)) YTT0) (.sl .bool)))),.d (.sl (.int .u8))],[],[.pr (.int .u8) (.pr (.int .u8) (.pr (.pr (.sl (.int .u16)) YTT0) (.sl .bool))),.sl (.int .u8)],[.d (.pr (.int .u8) (.pr (.int .u8) (.pr (.pr (.sl (.int .u16)) YTT0) (.sl .bool)))),.d (.sl (.int .u8))],[],0,[.pr (.int .u8) (.pr (.int .u8) (.pr (.pr (.sl (.int .u16)) YTT0) (.sl .bool))),.sl (.int .u8)]⟩
def q9o_:Env:=(cts [(14,(⟨qae_,q7i_⟩:Ct)),(28,(⟨qe4_,qtp_⟩:Ct)),(30,(⟨qef_,qu6_⟩:Ct)),(63,(⟨q9a_,qb7_⟩:Ct)),(87,(⟨qbo_,qr4_⟩:Ct)),(88,(⟨qe8_,qu3_⟩:Ct))])
def q9y_:List (Nat×Hint):=[(30,⟨[],[2,4,10,11,62]⟩),(106,⟨[],[2,4,6,31]⟩)]
def qn5_ (s t4:Int) (t31:Bool) (s_2 t4_2:List (YaAq0)) (x:Int×Int×List Int):St:={ fr:=[(2,.prw 0 s 35 0),(4,.prw 1 t4 35 0),(6,.pb 2 0),(31,.d .bool t31)],nt:=79,up:=[],own:=[(0,.row (.pr (.int .u8) (.pr (.int .u8) (.pr (.pr (.sl (.int .u16)) YTT0) (.sl .bool)))) 38 s_2),(1,.row (.pr (.int .u8) (.pr (.int .u8) (.pr (.pr (.sl (.int .u16)) YTT0) (.sl .bool)))) 38 t4_2),(2,.box 148 [.d (.int .u16) x.1,.d (.int .u8) x.2.1,.d (.sl (.int .u8)) x.2.2])],nx:=3,log:=[],ln:=0 }
def qmk_ (s t4 unit:Int) (pdu:List Int) (t62:Bool) (s_2 t4_2:List (YaAq0)):St:={ fr:=[(2,.prw 0 s 35 0),(4,.prw 1 t4 35 0),(10,.d (.int .u8) unit),(11,.d (.sl (.int .u8)) pdu),(62,.d .bool t62)],nt:=79,up:=[],own:=[(0,.row (.pr (.int .u8) (.pr (.int .u8) (.pr (.pr (.sl (.int .u16)) YTT0) (.sl .bool)))) 38 s_2),(1,.row (.pr (.int .u8) (.pr (.int .u8) (.pr (.pr (.sl (.int .u16)) YTT0) (.sl .bool)))) 38 t4_2)],nx:=2,log:=[],ln:=0 }
def qcz_ (s t4:Int) (t31:Bool) (s_2 t4_2:List (YaAq0)) (x:Int×Int×List Int):Option (As [.pr (.int .u8) (.pr (.int .u8) (.pr (.pr (.sl (.int .u16)) YTT0) (.sl .bool))),.sl (.int .u8)]) :=
 if t31=true then Option.bind (at? s_2 s) fun y=>Option.bind (qb7_ (y,())) fun y=>Option.bind (at? t4_2 t4) fun x=>Option.bind (at? (List.set t4_2 (Int.toNat t4) y.1) t4) fun y_1=>Option.bind (at? (List.set t4_2 (Int.toNat t4) y.1) t4) fun y=>some (y,[],()) else Option.bind (at? s_2 s) fun y=>Option.bind (q7i_ (y,x.2.2,())) fun y=>Option.bind (at? s_2 s) fun x_1=>Option.bind (qu3_ ((x.1,x.2.1,y.2.1),())) fun y_1=>Option.bind (at? (List.set s_2 (Int.toNat s) y.1) s) fun y=>Option.bind (at? t4_2 t4) fun x=>Option.bind (at? (List.set t4_2 (Int.toNat t4) y) t4) fun y_2=>Option.bind (at? (List.set t4_2 (Int.toNat t4) y) t4) fun y=>some (y,y_1.1,())
def qcx_ (s t4 unit:Int) (pdu:List Int) (t62:Bool) (s_2 t4_2:List (YaAq0)):Option (As [.pr (.int .u8) (.pr (.int .u8) (.pr (.pr (.sl (.int .u16)) YTT0) (.sl .bool))),.sl (.int .u8)]) :=
 if t62=true then Option.bind (at? s_2 s) fun y=>Option.bind (qb7_ (y,())) fun y=>Option.bind (at? t4_2 t4) fun x=>Option.bind (at? (List.set t4_2 (Int.toNat t4) y.1) t4) fun y_1=>Option.bind (at? (List.set t4_2 (Int.toNat t4) y.1) t4) fun y=>some (y,[],()) else Option.bind (at? s_2 s) fun y=>Option.bind (q7i_ (y,pdu,())) fun y=>Option.bind (at? s_2 s) fun x=>Option.bind (qtp_ (unit,y.2.1,())) fun y_1=>Option.bind (at? (List.set s_2 (Int.toNat s) y.1) s) fun y=>Option.bind (at? t4_2 t4) fun x=>Option.bind (at? (List.set t4_2 (Int.toNat t4) y) t4) fun y_2=>Option.bind (at? (List.set t4_2 (Int.toNat t4) y) t4) fun y=>some (y,y_1.1,())
def qnj_ (j1:Int->Int->Bool->List (YaAq0)->List (YaAq0)->Int×Int×List Int->Option (As [.pr (.int .u8) (.pr (.int .u8) (.pr (.pr (.sl (.int .u16)) YTT0) (.sl .bool))),.sl (.int .u8)])) (j2:Int->Int->Int->List Int->Bool->List (YaAq0)->List (YaAq0)->Option (As [.pr (.int .u8) (.pr (.int .u8) (.pr (.pr (.sl (.int .u16)) YTT0) (.sl .bool))),.sl (.int .u8)])) (s:YaAq0) (frame:List Int):Option (As [.pr (.int .u8) (.pr (.int .u8) (.pr (.pr (.sl (.int .u16)) YTT0) (.sl .bool))),.sl (.int .u8)]) :=
 if eqi s.2.1 2=true then Option.bind (qr4_ (frame,())) fun y=>if nei y.2.1 0=true then j1 0 0 true [s] [zSl] y.1 else j1 0 0 (nei y.1.2.1 s.1) [s] [zSl] y.1 else Option.bind (qu6_ (frame,())) fun y=>if nei y.2.2.1 0=true then j2 0 0 y.1 y.2.1 true [s] [zSl] else j2 0 0 y.1 y.2.1 (nei y.1 s.1) [s] [zSl]
def qah_ (s t4:Int) (t31:Bool) (s_2 t4_2:List (YaAq0)) (x:Int×Int×List Int):Option (As [.pr (.int .u8) (.pr (.int .u8) (.pr (.pr (.sl (.int .u16)) YTT0) (.sl .bool))),.sl (.int .u8)]):=qcz_ s t4 t31 s_2 t4_2 x
def qcm_ (s t4 unit:Int) (pdu:List Int) (t62:Bool) (s_2 t4_2:List (YaAq0)):Option (As [.pr (.int .u8) (.pr (.int .u8) (.pr (.pr (.sl (.int .u16)) YTT0) (.sl .bool))),.sl (.int .u8)]):=qcx_ s t4 unit pdu t62 s_2 t4_2
def qqi_ (x:As [.pr (.int .u8) (.pr (.int .u8) (.pr (.pr (.sl (.int .u16)) YTT0) (.sl .bool))),.sl (.int .u8)]):Option (As [.pr (.int .u8) (.pr (.int .u8) (.pr (.pr (.sl (.int .u16)) YTT0) (.sl .bool))),.sl (.int .u8)]):=qnj_ qah_ qcm_ x.1 x.2.1
theorem q1c5_ (J:Orc (As [.pr (.int .u8) (.pr (.int .u8) (.pr (.pr (.sl (.int .u16)) YTT0) (.sl .bool))),.sl (.int .u8)])) (s t4:Int) (t31:Bool) (s_2 t4_2:List (YaAq0)) (x:Int×Int×List Int):pfn Tryz.prog q9o_ 6 18446744073709551616 (Ev.get q9y_) 29 q6a_ J 106 [] (qn5_ s t4 t31 s_2 t4_2 x)=qcz_ s t4 t31 s_2 t4_2 x:=by kernel_rfl
theorem q1bk_ (J:Orc (As [.pr (.int .u8) (.pr (.int .u8) (.pr (.pr (.sl (.int .u16)) YTT0) (.sl .bool))),.sl (.int .u8)])) (s t4 unit:Int) (pdu:List Int) (t62:Bool) (s_2 t4_2:List (YaAq0)):pfn Tryz.prog q9o_ 6 18446744073709551616 (Ev.get q9y_) 29 q6a_ J 30 [] (qmk_ s t4 unit pdu t62 s_2 t4_2)=qcx_ s t4 unit pdu t62 s_2 t4_2:=by kernel_rfl
theorem q1a9_ (J:Orc (As [.pr (.int .u8) (.pr (.int .u8) (.pr (.pr (.sl (.int .u16)) YTT0) (.sl .bool))),.sl (.int .u8)])) (x:As [.pr (.int .u8) (.pr (.int .u8) (.pr (.pr (.sl (.int .u16)) YTT0) (.sl .bool))),.sl (.int .u8)]):rfn Tryz.prog q9o_ 6 18446744073709551616 (Ev.get q9y_) 29 q6a_ J x=qnj_ (fun s t4 t31 s_2 t4_2 x=>J 106 [] (qn5_ s t4 t31 s_2 t4_2 x)) (fun s t4 unit pdu t62 s_2 t4_2=>J 30 [] (qmk_ s t4 unit pdu t62 s_2 t4_2)) x.1 x.2.1:=by kernel_rfl
theorem q1c0_ (s t4:Int) (t31:Bool) (s_2 t4_2:List (YaAq0)) (x:Int×Int×List Int):jfn Tryz.prog q9o_ 6 18446744073709551616 (Ev.get q9y_) 29 q6a_ 106 [] (qn5_ s t4 t31 s_2 t4_2 x)=qah_ s t4 t31 s_2 t4_2 x:=by
 rw [q8_ (by decide)]
 rw [q1c5_]
 rfl
theorem q1cp_ (s t4 unit:Int) (pdu:List Int) (t62:Bool) (s_2 t4_2:List (YaAq0)):jfn Tryz.prog q9o_ 6 18446744073709551616 (Ev.get q9y_) 29 q6a_ 30 [] (qmk_ s t4 unit pdu t62 s_2 t4_2)=qcm_ s t4 unit pdu t62 s_2 t4_2:=by
 rw [q8_ (by decide)]
 rw [q1bk_]
 rfl
theorem q1fr_ (x:As [.pr (.int .u8) (.pr (.int .u8) (.pr (.pr (.sl (.int .u16)) YTT0) (.sl .bool))),.sl (.int .u8)]):evT Tryz.prog q9o_ 6 18446744073709551616 (Ev.get q9y_) 29 q6a_ x=qqi_ x:=by
 have e1:(fun s t4 t31 s_2 t4_2 x=>(jfn Tryz.prog q9o_ 6 18446744073709551616 (Ev.get q9y_) 29 q6a_) 106 [] (qn5_ s t4 t31 s_2 t4_2 x))=qah_:=by funext s t4 t31 s_2 t4_2 x; exact q1c0_ s t4 t31 s_2 t4_2 x
 have e2:(fun s t4 unit pdu t62 s_2 t4_2=>(jfn Tryz.prog q9o_ 6 18446744073709551616 (Ev.get q9y_) 29 q6a_) 30 [] (qmk_ s t4 unit pdu t62 s_2 t4_2))=qcm_:=by funext s t4 unit pdu t62 s_2 t4_2; exact q1cp_ s t4 unit pdu t62 s_2 t4_2
 rw [q5_,q1a9_,e1,e2]
 rfl
theorem q1b3_:CtOk Tryz.prog (fun _=>True) 29 ⟨q6a_,qqi_⟩:=q3_ (q0_ qsc_ (q0_ q1fv_ (q0_ q1fc_ (q0_ qv2_ (q0_ q1af_ (q0_ q1ey_ q4_)))))) q1fr_
@[reducible] def qbx_:Sh:=⟨[.d (.pr (.int .u16) (.int .i64))],[],[.pr (.int .u16) (.int .i64)],[.d (.pr (.int .u16) (.int .i64)),.d (.bool)],[],0,[.pr (.int .u16) (.int .i64),.bool]⟩
def qjo_:Env:=(cts [(113,(⟨q9q_,q5h_⟩:Ct)),(167,(⟨q88_,q4f_⟩:Ct)),(207,(⟨qbp_,q6i_⟩:Ct))])
def qix_:List (Nat×Hint):=[(14,⟨[],[1,2,14]⟩)]
def qnx_ (t14:Bool) (l t2:Int×Int):St:={ fr:=[(1,.pb 0 0),(2,.pb 1 0),(14,.d .bool t14)],nt:=25,up:=[],own:=[(0,.box 27 [.d (.int .u16) l.1,.d (.int .i64) l.2]),(1,.box 27 [.d (.int .u16) t2.1,.d (.int .i64) t2.2])],nx:=2,log:=[],ln:=0 }
def qms_ (t14:Bool) (l t2:Int×Int):Option (As [.pr (.int .u16) (.int .i64),.bool]) :=
 if t14=true then some (l,false,()) else if eqi (Sx.sub .i64 l.2 1) 0=true then some ((0,0),true,()) else some ((l.1,Sx.sub .i64 l.2 1),false,())
def qnr_ (j1:Bool->Int×Int->Int×Int->Option (As [.pr (.int .u16) (.int .i64),.bool])) (l:Int×Int):Option (As [.pr (.int .u16) (.int .i64),.bool]) :=
 Option.bind (q4f_ (l,())) fun y=>Option.bind (q5h_ (y.1,())) fun y_1=>if y_1.1=true then j1 true y.1 (0,0) else Option.bind (q6i_ (y.1.1,())) fun y_2=>j1 (eqi y.1.1 y_2.1.1 && (eqi y.1.2 y_2.1.2 && true)) y.1 (0,0)
def qn4_ (t14:Bool) (l t2:Int×Int):Option (As [.pr (.int .u16) (.int .i64),.bool]):=qms_ t14 l t2
def qq7_ (x:As [.pr (.int .u16) (.int .i64)]):Option (As [.pr (.int .u16) (.int .i64),.bool]):=qnr_ qn4_ x.1
theorem q19u_ (J:Orc (As [.pr (.int .u16) (.int .i64),.bool])) (t14:Bool) (l t2:Int×Int):pfn Tryz.prog qjo_ 6 18446744073709551616 (Ev.get qix_) 179 qbx_ J 14 [] (qnx_ t14 l t2)=qms_ t14 l t2:=by kernel_rfl
theorem q1at_ (J:Orc (As [.pr (.int .u16) (.int .i64),.bool])) (x:As [.pr (.int .u16) (.int .i64)]):rfn Tryz.prog qjo_ 6 18446744073709551616 (Ev.get qix_) 179 qbx_ J x=qnr_ (fun t14 l t2=>J 14 [] (qnx_ t14 l t2)) x.1:=by kernel_rfl
theorem q1br_ (t14:Bool) (l t2:Int×Int):jfn Tryz.prog qjo_ 6 18446744073709551616 (Ev.get qix_) 179 qbx_ 14 [] (qnx_ t14 l t2)=qn4_ t14 l t2:=by
 rw [q8_ (by decide)]
 rw [q19u_]
 rfl
theorem q1e6_ (x:As [.pr (.int .u16) (.int .i64)]):evT Tryz.prog qjo_ 6 18446744073709551616 (Ev.get qix_) 179 qbx_ x=qq7_ x:=by
 have e1:(fun t14 l t2=>(jfn Tryz.prog qjo_ 6 18446744073709551616 (Ev.get qix_) 179 qbx_) 14 [] (qnx_ t14 l t2))=qn4_:=by funext t14 l t2; exact q1br_ t14 l t2
 rw [q5_,q1at_,e1]
 rfl
theorem q1ce_:CtOk Tryz.prog (fun _=>True) 179 ⟨qbx_,qq7_⟩:=q3_ (q0_ qha_ (q0_ qge_ (q0_ qmp_ q4_))) q1e6_
@[reducible] def qpo_:Sh:=⟨[.d (.pr (.sl (.int .u16)) YTT0)],[],[.pr (.sl (.int .u16)) YTT0],[.d (.pr (.sl (.int .u16)) YTT0)],[],0,[.pr (.sl (.int .u16)) YTT0]⟩
def q13b_:Env:=(cts [(178,(⟨q4n_,q9p_⟩:Ct)),(179,(⟨qbx_,qq7_⟩:Ct)),(180,(⟨q8l_,q4q_⟩:Ct))])
def q130_:List (Nat×Hint):=[]
def qmr_ (a:List Int×(Int×Int)×Int×Int×Int×YTT9×Int):Option (As [.pr (.sl (.int .u16)) YTT0]) :=
 Option.bind (q9p_ (a,())) fun y=>Option.bind (qq7_ (y.1.2.1,())) fun y_1=>if y_1.2.1=true then Option.bind (q4q_ (y.1,())) fun y=>some (y.1,()) else some ((y.1.1,y_1.1,y.1.2.2),())
def qq9_ (x:As [.pr (.sl (.int .u16)) YTT0]):Option (As [.pr (.sl (.int .u16)) YTT0]):=qmr_ x.1
theorem q1al_ (J:Orc (As [.pr (.sl (.int .u16)) YTT0])) (x:As [.pr (.sl (.int .u16)) YTT0]):rfn Tryz.prog q13b_ 6 18446744073709551616 (Ev.get q130_) 136 qpo_ J x=qmr_ x.1:=by kernel_rfl
theorem q1d8_ (x:As [.pr (.sl (.int .u16)) YTT0]):evT Tryz.prog q13b_ 6 18446744073709551616 (Ev.get q130_) 136 qpo_ x=qq9_ x:=by
 rw [q5_,q1al_]
 rfl
theorem q1aa_:CtOk Tryz.prog (fun _=>True) 136 ⟨qpo_,qq9_⟩:=q3_ (q0_ qpl_ (q0_ q1ce_ (q0_ qey_ q4_))) q1d8_
@[reducible] def qoy_:Sh:=⟨[.d (.pr (.int .u8) (.pr (.int .u8) (.pr (.pr (.sl (.int .u16)) YTT0) (.sl .bool))))],[],[.pr (.int .u8) (.pr (.int .u8) (.pr (.pr (.sl (.int .u16)) YTT0) (.sl .bool)))],[.d (.pr (.int .u8) (.pr (.int .u8) (.pr (.pr (.sl (.int .u16)) YTT0) (.sl .bool))))],[],0,[.pr (.int .u8) (.pr (.int .u8) (.pr (.pr (.sl (.int .u16)) YTT0) (.sl .bool)))]⟩
def q11r_:Env:=(cts [(63,(⟨q9a_,qb7_⟩:Ct)),(136,(⟨qpo_,qq9_⟩:Ct))])
def q11q_:List (Nat×Hint):=[]
def qmz_ (s:YaAq0):Option (As [.pr (.int .u8) (.pr (.int .u8) (.pr (.pr (.sl (.int .u16)) YTT0) (.sl .bool)))]) :=
 Option.bind (qb7_ (s,())) fun y=>Option.bind (qq9_ (y.1.2.2.1,())) fun y_1=>some ((y.1.1,y.1.2.1,y_1.1,y.1.2.2.2),())
def qqa_ (x:As [.pr (.int .u8) (.pr (.int .u8) (.pr (.pr (.sl (.int .u16)) YTT0) (.sl .bool)))]):Option (As [.pr (.int .u8) (.pr (.int .u8) (.pr (.pr (.sl (.int .u16)) YTT0) (.sl .bool)))]):=qmz_ x.1
theorem q1ck_ (J:Orc (As [.pr (.int .u8) (.pr (.int .u8) (.pr (.pr (.sl (.int .u16)) YTT0) (.sl .bool)))])) (x:As [.pr (.int .u8) (.pr (.int .u8) (.pr (.pr (.sl (.int .u16)) YTT0) (.sl .bool)))]):rfn Tryz.prog q11r_ 6 18446744073709551616 (Ev.get q11q_) 82 qoy_ J x=qmz_ x.1:=by kernel_rfl
theorem q1eo_ (x:As [.pr (.int .u8) (.pr (.int .u8) (.pr (.pr (.sl (.int .u16)) YTT0) (.sl .bool)))]):evT Tryz.prog q11r_ 6 18446744073709551616 (Ev.get q11q_) 82 qoy_ x=qqa_ x:=by
 rw [q5_,q1ck_]
 rfl
theorem q1bo_:CtOk Tryz.prog (fun _=>True) 82 ⟨qoy_,qqa_⟩:=q3_ (q0_ qv2_ (q0_ q1aa_ q4_)) q1eo_
@[reducible] def qr6_:Sh:=⟨[.d (.pr (.sl (.int .u16)) YTT0)],[],[.pr (.sl (.int .u16)) YTT0],[.d (.pr (.sl (.int .u16)) YTT0)],[],0,[.pr (.sl (.int .u16)) YTT0]⟩
def q125_:Env:=(cts [(178,(⟨q4n_,q9p_⟩:Ct)),(180,(⟨q8l_,q4q_⟩:Ct))])
def q121_:List (Nat×Hint):=[]
def qmm_ (a:List Int×(Int×Int)×Int×Int×Int×YTT9×Int):Option (As [.pr (.sl (.int .u16)) YTT0]) :=
 Option.bind (q9p_ (a,())) fun y=>if eqi y.1.2.2.1 1=true then Option.bind (q4q_ (y.1,())) fun y=>some (y.1,()) else some (y.1,())
def qp5_ (x:As [.pr (.sl (.int .u16)) YTT0]):Option (As [.pr (.sl (.int .u16)) YTT0]):=qmm_ x.1
theorem q1bv_ (J:Orc (As [.pr (.sl (.int .u16)) YTT0])) (x:As [.pr (.sl (.int .u16)) YTT0]):rfn Tryz.prog q125_ 6 18446744073709551616 (Ev.get q121_) 137 qr6_ J x=qmm_ x.1:=by kernel_rfl
theorem q1eg_ (x:As [.pr (.sl (.int .u16)) YTT0]):evT Tryz.prog q125_ 6 18446744073709551616 (Ev.get q121_) 137 qr6_ x=qp5_ x:=by
 rw [q5_,q1bv_]
 rfl
theorem q1b8_:CtOk Tryz.prog (fun _=>True) 137 ⟨qr6_,qp5_⟩:=q3_ (q0_ qpl_ (q0_ qey_ q4_)) q1eg_
@[reducible] def qp8_:Sh:=⟨[.d (.pr (.int .u8) (.pr (.int .u8) (.pr (.pr (.sl (.int .u16)) YTT0) (.sl .bool))))],[],[.pr (.int .u8) (.pr (.int .u8) (.pr (.pr (.sl (.int .u16)) YTT0) (.sl .bool)))],[.d (.pr (.int .u8) (.pr (.int .u8) (.pr (.pr (.sl (.int .u16)) YTT0) (.sl .bool))))],[],0,[.pr (.int .u8) (.pr (.int .u8) (.pr (.pr (.sl (.int .u16)) YTT0) (.sl .bool)))]⟩
def q12l_:Env:=(cts [(63,(⟨q9a_,qb7_⟩:Ct)),(137,(⟨qr6_,qp5_⟩:Ct))])
def q12u_:List (Nat×Hint):=[]
def qne_ (s:YaAq0):Option (As [.pr (.int .u8) (.pr (.int .u8) (.pr (.pr (.sl (.int .u16)) YTT0) (.sl .bool)))]) :=
 Option.bind (qb7_ (s,())) fun y=>Option.bind (qp5_ (y.1.2.2.1,())) fun y_1=>some ((y.1.1,y.1.2.1,y_1.1,[false,false,false,false,false,false,false,false,false,false,false,false,false,false,false,false]),())
def qrw_ (x:As [.pr (.int .u8) (.pr (.int .u8) (.pr (.pr (.sl (.int .u16)) YTT0) (.sl .bool)))]):Option (As [.pr (.int .u8) (.pr (.int .u8) (.pr (.pr (.sl (.int .u16)) YTT0) (.sl .bool)))]):=qne_ x.1
theorem q1a8_ (J:Orc (As [.pr (.int .u8) (.pr (.int .u8) (.pr (.pr (.sl (.int .u16)) YTT0) (.sl .bool)))])) (x:As [.pr (.int .u8) (.pr (.int .u8) (.pr (.pr (.sl (.int .u16)) YTT0) (.sl .bool)))]):rfn Tryz.prog q12l_ 6 18446744073709551616 (Ev.get q12u_) 83 qp8_ J x=qne_ x.1:=by kernel_rfl
theorem q1g8_ (x:As [.pr (.int .u8) (.pr (.int .u8) (.pr (.pr (.sl (.int .u16)) YTT0) (.sl .bool)))]):evT Tryz.prog q12l_ 6 18446744073709551616 (Ev.get q12u_) 83 qp8_ x=qrw_ x:=by
 rw [q5_,q1a8_]
 rfl
theorem q1a7_:CtOk Tryz.prog (fun _=>True) 83 ⟨qp8_,qrw_⟩:=q3_ (q0_ qv2_ (q0_ q1b8_ q4_)) q1g8_
@[reducible] def qfy_:Sh:=⟨[.d YTT8,.d YTT8],[],[.pr (.int .i64) (.sl (.int .u16)),.pr (.int .i64) (.sl (.int .u16))],[.d (.bool)],[],0,[.bool]⟩
def qyv_:Env:=(cts [(80,(⟨q1n_,q1o_⟩:Ct))])
def qy1_:List (Nat×Hint):=[]
def qie_ (x y:Int×List Int):Option (As [.bool]) :=
 if eqi x.1 y.1=true then Option.bind (q1o_ (x.2,y.2,())) fun y=>some (y.1,()) else some (false,())
def qf4_ (x:As [.pr (.int .i64) (.sl (.int .u16)),.pr (.int .i64) (.sl (.int .u16))]):Option (As [.bool]):=qie_ x.1 x.2.1
theorem q16u_ (J:Orc (As [.bool])) (x:As [.pr (.int .i64) (.sl (.int .u16)),.pr (.int .i64) (.sl (.int .u16))]):rfn Tryz.prog qyv_ 6 18446744073709551616 (Ev.get qy1_) 182 qfy_ J x=qie_ x.1 x.2.1:=by kernel_rfl
theorem q18m_ (x:As [.pr (.int .i64) (.sl (.int .u16)),.pr (.int .i64) (.sl (.int .u16))]):evT Tryz.prog qyv_ 6 18446744073709551616 (Ev.get qy1_) 182 qfy_ x=qf4_ x:=by
 rw [q5_,q16u_]
 rfl
theorem qwq_:CtOk Tryz.prog (fun _=>True) 182 ⟨qfy_,qf4_⟩:=q3_ (q0_ q8o_ q4_) q18m_
@[reducible] def q1s_:Sh:=⟨[.d (.sl YTT8),.d (.sl YTT8),.fn (.func 182) [] []],[],[.sl YTT8,.sl YTT8],[.d (.bool)],[],0,[.bool]⟩
def q3h_:Env:=(cts [(182,(⟨qfy_,qf4_⟩:Ct))])
def q3i_:List (Nat×Hint):=[(58,⟨[],[1,2,15,16,17]⟩)]
def q2d_ (s2 t15:List (Int×List Int)) (t16 t17:Int):St:={ fr:=[(1,.d (.sl YTT8) s2),(2,.fn (.func 182) [] []),(15,.d (.sl YTT8) t15),(16,.d (.int .i64) t16),(17,.d (.int .i64) t17)],nt:=32,up:=[],own:=[],nx:=0,log:=[],ln:=0 }
def q2a_ (self1:List (Int×List Int)->List (Int×List Int)->Int->Int->Option (As [.bool])) (s2 t15:List (Int×List Int)) (t16 t17:Int):Option (As [.bool]) :=
 if lt t17 t16=true then Option.bind (at? t15 t17) fun y=>Option.bind (at? s2 t17) fun y_1=>Option.bind (qf4_ (y,y_1,())) fun y=>if (!y.1)=true then some (false,()) else self1 s2 t15 t16 (add .i64 t17 1) else some (true,())
def q4u_ (j1:List (Int×List Int)->List (Int×List Int)->Int->Int->Option (As [.bool])) (s1 s2:List (Int×List Int)):Option (As [.bool]) :=
 if nei (Int.ofNat (List.length s1)) (Int.ofNat (List.length s2))=true then some (false,()) else j1 s2 s1 (Int.ofNat (List.length s1)) 0
def q3a_ (s2 t15:List (Int×List Int)) (t16 t17:Int):Option (As [.bool]) :=
 loopF (fun (self:(List (Int×List Int))×(List (Int×List Int))×(Int)×(Int)->Option (As [.bool])) (s:(List (Int×List Int))×(List (Int×List Int))×(Int)×(Int))=>q2a_ (fun s2 t15 t16 t17=>self (s2,t15,t16,t17)) s.1 s.2.1 s.2.2.1 s.2.2.2) 18446744073709551616 (s2,t15,t16,t17)
def q41_ (x:As [.sl YTT8,.sl YTT8]):Option (As [.bool]):=q4u_ q3a_ x.1 x.2.1
theorem qpc_ (J:Orc (As [.bool])) (w1:St->Option (As [.bool])) (s2 t15:List (Int×List Int)) (t16 t17:Int):pfn Tryz.prog q3h_ 6 18446744073709551616 (Ev.get q3i_) 181 q1s_ J 58 [w1] (q2d_ s2 t15 t16 t17)=q2a_ (fun s2 t15 t16 t17=>w1 (q2d_ s2 t15 t16 t17)) s2 t15 t16 t17:=by kernel_rfl
theorem qqt_ (J:Orc (As [.bool])) (x:As [.sl YTT8,.sl YTT8]):rfn Tryz.prog q3h_ 6 18446744073709551616 (Ev.get q3i_) 181 q1s_ J x=q4u_ (fun s2 t15 t16 t17=>J 58 [] (q2d_ s2 t15 t16 t17)) x.1 x.2.1:=by kernel_rfl
theorem qpr_ (s2 t15:List (Int×List Int)) (t16 t17:Int):jfn Tryz.prog q3h_ 6 18446744073709551616 (Ev.get q3i_) 181 q1s_ 58 [] (q2d_ s2 t15 t16 t17)=q3a_ s2 t15 t16 t17:=by
 rw [q8_ (by decide)]
 rw [qr_ (by kernel_rfl)]
 refine qi_ (σ:=(List (Int×List Int))×(List (Int×List Int))×(Int)×(Int)) (mk:=fun s=>q2d_ s.1 s.2.1 s.2.2.1 s.2.2.2) (fun w1 s=>?_) 18446744073709551616 (s2,t15,t16,t17)
 refine (qpc_ _ w1 s.1 s.2.1 s.2.2.1 s.2.2.2).trans ?_
 rfl
theorem qs2_ (x:As [.sl YTT8,.sl YTT8]):evT Tryz.prog q3h_ 6 18446744073709551616 (Ev.get q3i_) 181 q1s_ x=q41_ x:=by
 have e1:(fun s2 t15 t16 t17=>(jfn Tryz.prog q3h_ 6 18446744073709551616 (Ev.get q3i_) 181 q1s_) 58 [] (q2d_ s2 t15 t16 t17))=q3a_:=by funext s2 t15 t16 t17; exact qpr_ s2 t15 t16 t17
 rw [q5_,qqt_,e1]
 rfl
theorem qr8_:CtOk Tryz.prog (fun _=>True) 181 ⟨q1s_,q41_⟩:=q3_ (q0_ qwq_ q4_) qs2_
@[reducible] def qsz_:Sh:=⟨[.d (.sl YTT8),.d (.sl YTT8)],[],[.sl YTT8,.sl YTT8],[.d (.bool)],[],0,[.bool]⟩
def q13x_:Env:=(cts [(181,(⟨q1s_,q41_⟩:Ct)),(182,(⟨qfy_,qf4_⟩:Ct))])
def q147_:List (Nat×Hint):=[]
def qq1_ (a b:List (Int×List Int)):Option (As [.bool]) :=
 Option.bind (q41_ (a,b,())) fun y=>some (y.1,())
def qtw_ (x:As [.sl YTT8,.sl YTT8]):Option (As [.bool]):=qq1_ x.1 x.2.1
theorem q1ge_ (J:Orc (As [.bool])) (x:As [.sl YTT8,.sl YTT8]):rfn Tryz.prog q13x_ 6 18446744073709551616 (Ev.get q147_) 138 qsz_ J x=qq1_ x.1 x.2.1:=by kernel_rfl
theorem q1he_ (x:As [.sl YTT8,.sl YTT8]):evT Tryz.prog q13x_ 6 18446744073709551616 (Ev.get q147_) 138 qsz_ x=qtw_ x:=by
 rw [q5_,q1ge_]
 rfl
theorem q1gd_:CtOk Tryz.prog (fun _=>True) 138 ⟨qsz_,qtw_⟩:=q3_ (q0_ qr8_ (q0_ qwq_ q4_)) q1he_
@[reducible] def qox_:Sh:=⟨[.d (.pr (.int .u32) (.pr (.ar 8 .bool) (.ar 8 YTT8))),.d (.pr (.int .u32) (.pr (.ar 8 .bool) (.ar 8 YTT8)))],[],[.pr (.int .u32) (.pr (.ar 8 .bool) (.ar 8 YTT8)),.pr (.int .u32) (.pr (.ar 8 .bool) (.ar 8 YTT8))],[.d (.bool)],[],0,[.bool]⟩
def q12i_:Env:=(cts [(2000033,Ev.bxCt),(138,(⟨qsz_,qtw_⟩:Ct)),(139,(⟨q5j_,q6b_⟩:Ct))])
def q12d_:List (Nat×Hint):=[]
def qno_ (a b:Int×List Bool×List (Int×List Int)):Option (As [.bool]) :=
 if eqi a.1 b.1=true then if (Sx.eqb (List.getD a.2.1 0 false) (List.getD b.2.1 0 false) && (Sx.eqb (List.getD a.2.1 1 false) (List.getD b.2.1 1 false) && (Sx.eqb (List.getD a.2.1 2 false) (List.getD b.2.1 2 false) && (Sx.eqb (List.getD a.2.1 3 false) (List.getD b.2.1 3 false) && (Sx.eqb (List.getD a.2.1 4 false) (List.getD b.2.1 4 false) && (Sx.eqb (List.getD a.2.1 5 false) (List.getD b.2.1 5 false) && (Sx.eqb (List.getD a.2.1 6 false) (List.getD b.2.1 6 false) && (Sx.eqb (List.getD a.2.1 7 false) (List.getD b.2.1 7 false) && true))))))))=true then Option.bind (q6b_ (a,())) fun y=>Option.bind (q6b_ (b,())) fun y_1=>Option.bind (qtw_ (y.1,y_1.1,())) fun y=>some (y.1,()) else some (false,()) else some (false,())
def qq4_ (x:As [.pr (.int .u32) (.pr (.ar 8 .bool) (.ar 8 YTT8)),.pr (.int .u32) (.pr (.ar 8 .bool) (.ar 8 YTT8))]):Option (As [.bool]):=qno_ x.1 x.2.1
theorem q1az_ (J:Orc (As [.bool])) (x:As [.pr (.int .u32) (.pr (.ar 8 .bool) (.ar 8 YTT8)),.pr (.int .u32) (.pr (.ar 8 .bool) (.ar 8 YTT8))]):rfn Tryz.prog q12i_ 6 18446744073709551616 (Ev.get q12d_) 84 qox_ J x=qno_ x.1 x.2.1:=by kernel_rfl
theorem q1gf_ (x:As [.pr (.int .u32) (.pr (.ar 8 .bool) (.ar 8 YTT8)),.pr (.int .u32) (.pr (.ar 8 .bool) (.ar 8 YTT8))]):evT Tryz.prog q12i_ 6 18446744073709551616 (Ev.get q12d_) 84 qox_ x=qq4_ x:=by
 rw [q5_,q1az_]
 rfl
theorem q1by_:CtOk Tryz.prog (fun _=>True) 84 ⟨qox_,qq4_⟩:=q3_ (q0_ Ev.bx_ok (q0_ q1gd_ (q0_ qqc_ q4_))) q1gf_
@[reducible] def qre_:Sh:=⟨[.d (.pr (.sl (.int .u16)) YTT0),.d (.pr (.sl (.int .u16)) YTT0)],[],[.pr (.sl (.int .u16)) YTT0,.pr (.sl (.int .u16)) YTT0],[.d (.bool)],[],0,[.bool]⟩
def q126_:Env:=(cts [(2000035,Ev.bxCt),(80,(⟨q1n_,q1o_⟩:Ct)),(84,(⟨qox_,qq4_⟩:Ct))])
def q11d_:List (Nat×Hint):=[]
def qns_ (a b:List Int×(Int×Int)×Int×Int×Int×YTT9×Int):Option (As [.bool]) :=
 Option.bind (q1o_ (a.1,b.1,())) fun y=>if y.1=true then if (eqi a.2.1.1 b.2.1.1 && (eqi a.2.1.2 b.2.1.2 && true))=true then if eqi a.2.2.1 b.2.2.1=true then if eqi a.2.2.2.1 b.2.2.2.1=true then if eqi a.2.2.2.2.1 b.2.2.2.2.1=true then Option.bind (qq4_ (a.2.2.2.2.2.1,b.2.2.2.2.2.1,())) fun y=>if y.1=true then some (eqi a.2.2.2.2.2.2 b.2.2.2.2.2.2,()) else some (false,()) else some (false,()) else some (false,()) else some (false,()) else some (false,()) else some (false,())
def qgo_ (x:As [.pr (.sl (.int .u16)) YTT0,.pr (.sl (.int .u16)) YTT0]):Option (As [.bool]):=qns_ x.1 x.2.1
theorem q1bz_ (J:Orc (As [.bool])) (x:As [.pr (.sl (.int .u16)) YTT0,.pr (.sl (.int .u16)) YTT0]):rfn Tryz.prog q126_ 6 18446744073709551616 (Ev.get q11d_) 27 qre_ J x=qns_ x.1 x.2.1:=by kernel_rfl
theorem q1dj_ (x:As [.pr (.sl (.int .u16)) YTT0,.pr (.sl (.int .u16)) YTT0]):evT Tryz.prog q126_ 6 18446744073709551616 (Ev.get q11d_) 27 qre_ x=qgo_ x:=by
 rw [q5_,q1bz_]
 rfl
theorem q1ag_:CtOk Tryz.prog (fun _=>True) 27 ⟨qre_,qgo_⟩:=q3_ (q0_ Ev.bx_ok (q0_ q8o_ (q0_ q1by_ q4_))) q1dj_
def q1bt_ (a b:YaAq0):Option (As [.bool]) :=
 if eqi a.1 b.1=true then if eqi a.2.1 b.2.1=true then Option.bind (qgo_ (a.2.2.1,b.2.2.1,())) fun y=>if y.1=true then Option.bind (q72_ (a.2.2.2,b.2.2.2,())) fun y=>some (y.1,()) else some (false,()) else some (false,()) else some (false,())
def q1j8_ (x:As [.pr (.int .u8) (.pr (.int .u8) (.pr (.pr (.sl (.int .u16)) YTT0) (.sl .bool))),.pr (.int .u8) (.pr (.int .u8) (.pr (.pr (.sl (.int .u16)) YTT0) (.sl .bool)))]):Option (As [.bool]):=q1bt_ x.1 x.2.1
def q1i5_ (self1:List Bool->List Bool->Int->Int->Option (As [.bool])) (a b:List Bool) (t12 t13:Int):Option (As [.bool]) :=
 if lt t13 t12=true then Option.bind (at? a t13) fun y=>Option.bind (at? b t13) fun y_1=>if Sx.neb y y_1=true then some (false,()) else self1 a b t12 (add .i64 t13 1) else some (true,())
def q1gu_ (j1:List Bool->List Bool->Int->Int->Option (As [.bool])) (a b:List Bool):Option (As [.bool]) :=
 if nei (Int.ofNat (List.length a)) (Int.ofNat (List.length b))=true then some (false,()) else j1 a b (Int.ofNat (List.length a)) 0
def q1i3_ (a b:List Bool) (t12 t13:Int):Option (As [.bool]) :=
 loopF (fun (self:(List Bool)×(List Bool)×(Int)×(Int)->Option (As [.bool])) (s:(List Bool)×(List Bool)×(Int)×(Int))=>q1i5_ (fun a b t12 t13=>self (a,b,t12,t13)) s.1 s.2.1 s.2.2.1 s.2.2.2) 18446744073709551616 (a,b,t12,t13)
def q1ja_ (x:As [.sl .bool,.sl .bool]):Option (As [.bool]):=q1gu_ q1i3_ x.1 x.2.1
def q1hb_ (a b:List Int):Option (As [.bool]) :=
 some (eqs (Sx.toS a) (Sx.toS b),())
def q1jb_ (x:As [.sl (.int .u8),.sl (.int .u8)]):Option (As [.bool]):=q1hb_ x.1 x.2.1
def q192_ (r:Int×Int×List Bool×List Int×Int×Int):Option (As [.bool]) :=
 if nei r.2.1 0=true then Option.bind (q2y_ ((),r,())) fun y=>some (y.1,()) else if eqi r.1 1=true then Option.bind (q1u_ ((),r,())) fun y=>some (y.1,()) else if eqi r.1 2=true then Option.bind (q1u_ ((),r,())) fun y=>some (y.1,()) else if eqi r.1 3=true then Option.bind (q15_ ((),r,())) fun y=>some (y.1,()) else if eqi r.1 4=true then Option.bind (q15_ ((),r,())) fun y=>some (y.1,()) else if eqi r.1 23=true then Option.bind (q15_ ((),r,())) fun y=>some (y.1,()) else if eqi r.1 5=true then Option.bind (q42_ ((),r,())) fun y=>some (y.1,()) else if eqi r.1 6=true then Option.bind (q3k_ ((),r,())) fun y=>some (y.1,()) else if eqi r.1 15=true then Option.bind (q2m_ (1968,r,())) fun y=>some (y.1,()) else if eqi r.1 16=true then Option.bind (q2m_ (123,r,())) fun y=>some (y.1,()) else some (false,())
def q1i2_ (x:As [.pr (.int .u8) YTT3]):Option (As [.bool]):=q192_ x.1
def q1ax_ (t22:Bool) (a a_2 a_3 a_4:Int) (a_5:List Int) (a_6:List Bool) (r r_2:Int) (r_3:List Bool) (r_4:List Int) (r_5 r_6:Int):Option (As [.bool]) :=
 if t22=true then some (false,()) else if nei r_2 0=true then some (true,()) else Option.bind (qan_ ((a,a_2,a_3,a_4,a_5,a_6),())) fun y=>if y.2.1=true then Option.bind (q3m_ (y.1,(r,r_2,r_3,r_4,r_5,r_6),())) fun y=>some (y.1,()) else if gt (Int.ofNat (List.length r_3)) 0=true then if eqi (Int.ofNat (List.length r_3)) (mul .i64 (quo .i64 (add .i64 (cvt .i64 a_3) 7) 8) 8)=true then Option.bind (cut r_3 (cvt .i64 a_3) (Int.ofNat (List.length r_3))) fun y=>Option.bind (q52_ (y,true,())) fun y=>some (!y.1,()) else some (false,()) else some (eqi (Int.ofNat (List.length r_4)) (cvt .i64 a_3),())
def q19z_ (j1:Bool->Int->Int->Int->Int->List Int->List Bool->Int->Int->List Bool->List Int->Int->Int->Option (As [.bool])) (a:Int×Int×Int×Int×List Int×List Bool) (r:Int×Int×List Bool×List Int×Int×Int):Option (As [.bool]) :=
 Option.bind (qbc_ (a,())) fun y=>if (!y.1)=true then j1 true a.1 a.2.1 a.2.2.1 a.2.2.2.1 a.2.2.2.2.1 a.2.2.2.2.2 r.1 r.2.1 r.2.2.1 r.2.2.2.1 r.2.2.2.2.1 r.2.2.2.2.2 else Option.bind (q1i2_ (r,())) fun y=>if (!y.1)=true then j1 true a.1 a.2.1 a.2.2.1 a.2.2.2.1 a.2.2.2.2.1 a.2.2.2.2.2 r.1 r.2.1 r.2.2.1 r.2.2.2.1 r.2.2.2.2.1 r.2.2.2.2.2 else j1 (nei a.1 r.1) a.1 a.2.1 a.2.2.1 a.2.2.2.1 a.2.2.2.2.1 a.2.2.2.2.2 r.1 r.2.1 r.2.2.1 r.2.2.2.1 r.2.2.2.2.1 r.2.2.2.2.2
def q1ch_ (t22:Bool) (a a_2 a_3 a_4:Int) (a_5:List Int) (a_6:List Bool) (r r_2:Int) (r_3:List Bool) (r_4:List Int) (r_5 r_6:Int):Option (As [.bool]):=q1ax_ t22 a a_2 a_3 a_4 a_5 a_6 r r_2 r_3 r_4 r_5 r_6
def q1j9_ (x:As [.pr (.int .u8) YTT4,.pr (.int .u8) YTT3]):Option (As [.bool]):=q19z_ q1ch_ x.1 x.2.1
def q18c_ (s:List YTT5×List YTT5×List YTT5×List YTT5) (m:List Bool×List Bool×List Int×List Int) (pdu:List Int):Option (As [.pr (.sl .bool) YTT10,.sl (.int .u8)]) :=
 Option.bind (qee_ (pdu,())) fun y=>if nei y.2.1 0=true then Option.bind (qe_ (y.1.1,y.2.1,())) fun y=>Option.bind (q9f_ (y.1,())) fun y=>Option.bind (q1j1_ (m,())) fun y_1=>some (y_1.1,y.1,()) else Option.bind (q2h_ (s,m,y.1,())) fun y=>Option.bind (q9f_ (y.2.1,())) fun y_1=>some (y.1,y_1.1,())
def q1j6_ (x:As [.pr YTT1 (.pr YTT1 (.pr YTT1 YTT1)),.pr (.sl .bool) YTT10,.sl (.int .u8)]):Option (As [.pr (.sl .bool) YTT10,.sl (.int .u8)]):=q18c_ x.1 x.2.1 x.2.2.1
def q18a_ (c:Int×Int×Int×Int×Int):Option (As [.sl (.int .u16)]) :=
 Option.bind (q7k_ (c.2.2.1,())) fun y=>Option.bind (q7k_ (c.2.2.2.2,())) fun y_1=>some ([c.1,cvt .u16 c.2.1,y.1,y.2.1,c.2.2.2.1,y_1.1,y_1.2.1,0],())
def q1j7_ (x:As [.pr (.int .u16) YTT6]):Option (As [.sl (.int .u16)]):=q18a_ x.1
def q18l_ (owner tx n:Int) (x:Int×List Int):Option (As [.sl (.int .u16),.int .i64]) :=
 Option.bind (q9l_ (n,())) fun y=>if (!y.1)=true then some ([],2,()) else Option.bind (q8h_ (x,())) fun y=>if (!y.1)=true then some ([],20,()) else Option.bind (qfp_ (owner,tx,n,x,())) fun y=>some (y.1,0,())
def q1j5_ (x:As [.int .u16,.int .u32,.int .i64,.pr (.int .i64) (.sl (.int .u16))]):Option (As [.sl (.int .u16),.int .i64]):=q18l_ x.1 x.2.1 x.2.2.1 x.2.2.2.1
@[reducible] def q6p_:Sh:=⟨[.d (.pr (.int .u8) (.pr (.sl (.int .u8)) (.pr (.pr (.int .u8) YTT4) (.pr (.int .u16) YTT6))))],[],[.pr (.int .u8) (.pr (.sl (.int .u8)) (.pr (.pr (.int .u8) YTT4) (.pr (.int .u16) YTT6)))],[.d (.sl (.int .u8)),.d (.bool)],[],0,[.sl (.int .u8),.bool]⟩
def qcc_:Env:=(cts [(13,(⟨q2e_,qdu_⟩:Ct)),(57,(⟨qhl_,q9d_⟩:Ct))])
def qce_:List (Nat×Hint):=[(7,⟨[.frb 4],[4]⟩)]
def qep_ (a:Int×Int×Int×Int×List Int×List Bool):St:={ fr:=[(4,.pb 0 0)],nt:=41,up:=[],own:=[(0,.box 44 [.d (.int .u8) a.1,.d (.int .u16) a.2.1,.d (.int .u16) a.2.2.1,.d (.int .u16) a.2.2.2.1,.d (.sl (.int .u16)) a.2.2.2.2.1,.d (.sl .bool) a.2.2.2.2.2])],nx:=1,log:=[],ln:=0 }
def qel_ (a:Int×Int×Int×Int×List Int×List Bool):Option (As [.sl (.int .u8),.bool]) :=
 Option.bind (qdu_ (a,())) fun y=>some (y.1,eqi y.2.1 0,())
def qem_ (j1:Int×Int×Int×Int×List Int×List Bool->Option (As [.sl (.int .u8),.bool])) (o:Int×List Int×YTT16×Int×Int×Int×Int×Int):Option (As [.sl (.int .u8),.bool]) :=
 if eqi (rem o.1 6) 0=true then some (o.2.1,true,()) else if eqi (rem o.1 6) 5=true then Option.bind (q9d_ (o.2.2.2,())) fun y=>if eqi (rem o.2.2.2.2.2.2.1 2) 1=true then Option.bind (q9d_ (o.2.2.2,())) fun y=>j1 (16,272,8,0,y.1,[]) else j1 (23,256,8,272,y.1,[]) else if eqi (rem o.1 6) 2=true then j1 o.2.2.1 else some ([],false,())
def qak_ (a:Int×Int×Int×Int×List Int×List Bool):Option (As [.sl (.int .u8),.bool]):=qel_ a
def qfr_ (x:As [.pr (.int .u8) (.pr (.sl (.int .u8)) (.pr (.pr (.int .u8) YTT4) (.pr (.int .u16) YTT6)))]):Option (As [.sl (.int .u8),.bool]):=qem_ qak_ x.1
theorem q13i_ (J:Orc (As [.sl (.int .u8),.bool])) (a:Int×Int×Int×Int×List Int×List Bool):pfn Tryz.prog qcc_ 6 18446744073709551616 (Ev.get qce_) 40 q6p_ J 7 [] (qep_ a)=qel_ a:=by kernel_rfl
theorem q13q_ (J:Orc (As [.sl (.int .u8),.bool])) (x:As [.pr (.int .u8) (.pr (.sl (.int .u8)) (.pr (.pr (.int .u8) YTT4) (.pr (.int .u16) YTT6)))]):rfn Tryz.prog qcc_ 6 18446744073709551616 (Ev.get qce_) 40 q6p_ J x=qem_ (fun a=>J 7 [] (qep_ a)) x.1:=by kernel_rfl
theorem q13g_ (a:Int×Int×Int×Int×List Int×List Bool):jfn Tryz.prog qcc_ 6 18446744073709551616 (Ev.get qce_) 40 q6p_ 7 [] (qep_ a)=qak_ a:=by
 rw [q8_ (by decide)]
 rw [q13i_]
 rfl
theorem q152_ (x:As [.pr (.int .u8) (.pr (.sl (.int .u8)) (.pr (.pr (.int .u8) YTT4) (.pr (.int .u16) YTT6)))]):evT Tryz.prog qcc_ 6 18446744073709551616 (Ev.get qce_) 40 q6p_ x=qfr_ x:=by
 have e1:(fun a=>(jfn Tryz.prog qcc_ 6 18446744073709551616 (Ev.get qce_) 40 q6p_) 7 [] (qep_ a))=qak_:=funext fun a=>q13g_ a
 rw [q5_,q13q_,e1]
 rfl
theorem q13e_:CtOk Tryz.prog (fun _=>True) 40 ⟨q6p_,qfr_⟩:=q3_ (q0_ qvg_ (q0_ qy7_ q4_)) q152_
@[reducible] def qio_:Sh:=⟨[.d (.pr (.int .u8) (.pr (.sl (.int .u8)) (.pr (.pr (.int .u8) YTT4) (.pr (.int .u16) YTT6)))),.d (.pr (.int .u8) (.pr (.int .u8) (.pr (.pr (.sl (.int .u16)) YTT0) (.sl .bool))))],[],[.pr (.int .u8) (.pr (.sl (.int .u8)) (.pr (.pr (.int .u8) YTT4) (.pr (.int .u16) YTT6))),.pr (.int .u8) (.pr (.int .u8) (.pr (.pr (.sl (.int .u16)) YTT0) (.sl .bool)))],[.d (.pr (.int .u8) (.pr (.int .u8) (.pr (.pr (.sl (.int .u16)) YTT0) (.sl .bool)))),.d (.sl (.int .u8))],[],0,[.pr (.int .u8) (.pr (.int .u8) (.pr (.pr (.sl (.int .u16)) YTT0) (.sl .bool))),.sl (.int .u8)]⟩
def qwx_:Env:=(cts [(2000038,Ev.bxCt),(14,(⟨qae_,q7i_⟩:Ct)),(29,(⟨q6a_,qqi_⟩:Ct)),(40,(⟨q6p_,qfr_⟩:Ct)),(82,(⟨qoy_,qqa_⟩:Ct)),(83,(⟨qp8_,qrw_⟩:Ct))])
def qwo_:List (Nat×Hint):=[]
def qgm_ (o:Int×List Int×YTT16×Int×Int×Int×Int×Int) (s:YaAq0):Option (As [.pr (.int .u8) (.pr (.int .u8) (.pr (.pr (.sl (.int .u16)) YTT0) (.sl .bool))),.sl (.int .u8)]) :=
 Option.bind (qfr_ (o,())) fun y=>if y.2.1=true then Option.bind (q7i_ (s,y.1,())) fun y=>some (y.1,y.2.1,()) else if eqi (rem o.1 6) 1=true then Option.bind (qqi_ (s,o.2.1,())) fun y=>some (y.1,y.2.1,()) else if eqi (rem o.1 6) 3=true then Option.bind (qqa_ (s,())) fun y=>some (y.1,[],()) else if eqi (rem o.1 6) 4=true then Option.bind (qrw_ (s,())) fun y=>some (y.1,[],()) else some (s,[],())
def qcr_ (x:As [.pr (.int .u8) (.pr (.sl (.int .u8)) (.pr (.pr (.int .u8) YTT4) (.pr (.int .u16) YTT6))),.pr (.int .u8) (.pr (.int .u8) (.pr (.pr (.sl (.int .u16)) YTT0) (.sl .bool)))]):Option (As [.pr (.int .u8) (.pr (.int .u8) (.pr (.pr (.sl (.int .u16)) YTT0) (.sl .bool))),.sl (.int .u8)]):=qgm_ x.1 x.2.1
theorem q14c_ (J:Orc (As [.pr (.int .u8) (.pr (.int .u8) (.pr (.pr (.sl (.int .u16)) YTT0) (.sl .bool))),.sl (.int .u8)])) (x:As [.pr (.int .u8) (.pr (.sl (.int .u8)) (.pr (.pr (.int .u8) YTT4) (.pr (.int .u16) YTT6))),.pr (.int .u8) (.pr (.int .u8) (.pr (.pr (.sl (.int .u16)) YTT0) (.sl .bool)))]):rfn Tryz.prog qwx_ 6 18446744073709551616 (Ev.get qwo_) 25 qio_ J x=qgm_ x.1 x.2.1:=by kernel_rfl
theorem q167_ (x:As [.pr (.int .u8) (.pr (.sl (.int .u8)) (.pr (.pr (.int .u8) YTT4) (.pr (.int .u16) YTT6))),.pr (.int .u8) (.pr (.int .u8) (.pr (.pr (.sl (.int .u16)) YTT0) (.sl .bool)))]):evT Tryz.prog qwx_ 6 18446744073709551616 (Ev.get qwo_) 25 qio_ x=qcr_ x:=by
 rw [q5_,q14c_]
 rfl
theorem q14s_:CtOk Tryz.prog (fun _=>True) 25 ⟨qio_,qcr_⟩:=q3_ (q0_ Ev.bx_ok (q0_ qsc_ (q0_ q1b3_ (q0_ q13e_ (q0_ q1bo_ (q0_ q1a7_ q4_)))))) q167_
end Go.Proofs.Lx
end
section
namespace Pl
open Go Ev Sx
set_option maxRecDepth 10000
theorem q29_ {σ R:Type} (F:(σ->Option R)->σ->Option R) (n:Nat) (s:σ):loopF F (n + 1) s=F (loopF F n) s:=rfl
theorem loopF_eq {σ R:Type} {F:(σ->Option R)->σ->Option R} {Inv:σ->Prop} {μ:σ->Nat} {G:σ->Option R}
  (step:∀ self s,Inv s->(∀ s',Inv s'->μ s' < μ s->self s'=G s')->F self s=G s):∀ (n:Nat) (s:σ),Inv s->μ s < n->loopF F n s=G s
 | 0,s,_,h=>by omega
 | n + 1,s,hs,h=>by
  rw [q29_]
  exact step _ s hs fun s' hs' hlt=>loopF_eq step n s' hs' (by omega)
theorem w64 {x:Int} (h1:-9223372036854775808≤x) (h2:x≤9223372036854775807):IntKind.i64.wrap x=x:=by
 simp only [IntKind.wrap,IntKind.signed,IntKind.bits]
 simp
 omega
theorem wu8 {x:Int} (h1:0≤x) (h2:x≤255):IntKind.u8.wrap x=x:=by
 simp only [IntKind.wrap,IntKind.signed,IntKind.bits]
 simp
 omega
theorem wu16 {x:Int} (h1:0≤x) (h2:x≤65535):IntKind.u16.wrap x=x:=by
 simp only [IntKind.wrap,IntKind.signed,IntKind.bits]
 simp
 omega
theorem wu32 {x:Int} (h1:0≤x) (h2:x≤4294967295):IntKind.u32.wrap x=x:=by
 simp only [IntKind.wrap,IntKind.signed,IntKind.bits]
 simp
 omega
theorem add64 {a b:Int} (h1:-9223372036854775808≤a + b) (h2:a + b≤9223372036854775807):add .i64 a b=a + b:=w64 h1 h2
theorem sub64 {a b:Int} (h1:-9223372036854775808≤a - b) (h2:a - b≤9223372036854775807):sub .i64 a b=a - b:=w64 h1 h2
theorem mul64 {a b:Int} (h1:-9223372036854775808≤a * b) (h2:a * b≤9223372036854775807):mul .i64 a b=a * b:=w64 h1 h2
theorem cvt64 {a:Int} (h1:-9223372036854775808≤a) (h2:a≤9223372036854775807):cvt .i64 a=a:=w64 h1 h2
theorem q1m_ {n:Nat} (h:n < 4611686018427387904):add .i64 (n:Int) 1=((n + 1:Nat):Int):=by rw [add64 (by omega) (by omega)]; rfl
theorem addn64 {n m:Nat} (h:n + m < 4611686018427387904):add .i64 (n:Int) (m:Int)=((n + m:Nat):Int):=by rw [add64 (by omega) (by omega)]; rfl
theorem q1_ (n:Nat):Int.ofNat n=(n:Int):=rfl
theorem q9_ {a b:Int}:lt a b=true ↔ a < b:=by simp [lt]
theorem q13_ {a b:Int}:le a b=true ↔ a≤b:=by simp [le]
theorem gt_iff {a b:Int}:gt a b=true ↔ b < a:=by simp [gt]
theorem q1l_ {a b:Int}:ge a b=true ↔ b≤a:=by simp [ge]
theorem q6_ {a b:Int}:eqi a b=true ↔ a=b:=by simp [eqi]
theorem qn_ {a b:Int}:nei a b=true ↔ a ≠ b:=by simp [nei]
theorem eqs_iff {a b:List UInt8}:eqs a b=true ↔ a=b:=by simp [eqs]
theorem small_iff {n:Nat}:small n=true ↔ n≤1073741824:=by simp [small]
theorem lt_dec (a b:Int):lt a b=decide (a < b):=rfl
theorem le_dec (a b:Int):le a b=decide (a≤b):=rfl
theorem gt_dec (a b:Int):gt a b=decide (b < a):=rfl
theorem ge_dec (a b:Int):ge a b=decide (b≤a):=rfl
theorem qa_ {b:Bool} {β:Type} {k:Option β} (h:b=true):need b k=k:=by unfold need; rw [if_pos h]
theorem ql_ {n:Nat} {β:Type} {k:Option β} (h:n≤1073741824):need (small n) k=k:=qa_ (small_iff.2 h)
theorem qp_ {α:Type} {s:List α} {i:Nat} {c:α} (h:s[i]? = some c):at? s (i:Int)=some c:=by
 unfold at?
 simp [h]
theorem q2s_ {α:Type} (c:α) (q:List α):at? (c::q) 0=some c:=rfl
theorem drop_nil {α:Type} {s:List α} {i:Nat} (h:s.drop i=[]):s.length≤i:=by
 have:=congrArg List.length h
 simp at this
 omega
theorem cut_nat {α:Type} {xs:List α} {i j:Nat} (h1:i≤j) (h2:j≤xs.length):cut xs (i:Int) (j:Int)=some ((xs.take j).drop i):=by
 unfold cut
 rw [if_pos ⟨by omega,by omega,by omega⟩]
 simp
theorem cut_from {α:Type} {xs:List α} {i:Nat} (h:i≤xs.length):cut xs (i:Int) (Int.ofNat xs.length)=some (xs.drop i):=by
 rw [q1_,cut_nat h (Nat.le_refl _)]
 simp
theorem cut_to {α:Type} {xs:List α} {j:Nat} (h:j≤xs.length):cut xs 0 (j:Int)=some (xs.take j):=by
 have:=cut_nat (xs:=xs) (Nat.zero_le j) h
 simpa using this
theorem cut_one {α:Type} (c:α) (q:List α):cut (c::q) 1 (Int.ofNat (c::q).length)=some q:=by
 have:=cut_from (xs:=c::q) (i:=1) (by simp)
 simpa using this
theorem eqV_refl:∀ (t:Ty) (x:Vl t),eqV t x x=true:=by
 have hl:∀ {α:Type} {f:α->α->Bool},(∀ a,f a a=true)->∀ x:List α,eqL f x x=true:=fun h x=>by
  induction x with
  | nil=>rfl
  | cons a q ih=>simp [eqL,h,ih]
 intro t
 induction t with
 | int k=>intro x; simp [eqV,eqi]
 | bool=>intro x; simp [eqV,eqb]
 | str=>intro x; simp [eqV,eqs]
 | sl t ih=>intro x; exact hl ih x
 | pr a b iha ihb=>intro x; simp [eqV,iha,ihb]
 | wr a ih=>intro x; exact ih x
 | un=>intro x; rfl
 | ar n t ih=>intro x; exact hl ih x
theorem eqAs_refl:∀ (rs:List Ty) (x:As rs),eqAs rs x x=true
 | [],_=>rfl
 | t::r,x=>by simp [eqAs,eqV_refl,eqAs_refl r]
theorem amb2 {R:Type} {eq:R->R->Bool} (h:∀ x,eq x x=true) (a:Option R):amb eq [a,a]=a:=by
 cases a <;> simp [amb,ambC,h]
theorem amb3 {R:Type} {eq:R->R->Bool} (h:∀ x,eq x x=true) (a:Option R):amb eq [a,a,a]=a:=by
 cases a <;> simp [amb,ambC,h]
end Pl
end
section
namespace Pl
open Go Ev Sx
theorem loop_idx {σ R α β:Type} {F:(σ->Option R)->σ->Option R} {mk:Nat->β->σ} {xs:List α} {stp:β->α->β} {fin:β->Option R} (Inv:Nat->β->Prop)
  (hs:∀ self i acc x,xs[i]? = some x->Inv i acc->F self (mk i acc)=self (mk (i + 1) (stp acc x)))
  (hi:∀ i acc x,xs[i]? = some x->Inv i acc->Inv (i + 1) (stp acc x))
  (he:∀ self acc,Inv xs.length acc->F self (mk xs.length acc)=fin acc) :
  ∀ (k i:Nat) (acc:β) (n:Nat),i + k=xs.length->k < n->Inv i acc->loopF F n (mk i acc)=fin ((xs.drop i).foldl stp acc)
 | _,_,_,0,_,hn,_=>by omega
 | 0,i,acc,n + 1,h,_,hI=>by
  have:i=xs.length:=by omega
  subst this
  rw [q29_,he _ _ hI,List.drop_length]
  rfl
 | k + 1,i,acc,n + 1,h,hn,hI=>by
  have hx:xs[i]? = some (xs[i]'(by omega)):=List.getElem?_eq_getElem (by omega)
  rw [q29_,hs _ _ _ _ hx hI,loop_idx Inv hs hi he k (i + 1) _ n (by omega) (by omega) (hi _ _ _ hx hI),List.drop_eq_getElem_cons (show i < xs.length by omega)]
  rfl
def goL {α β R:Type} (body:β->α->(β->Option R)->Option R) (fin:β->Option R):List α->β->Option R
 | [],acc=>fin acc
 | x::r,acc=>body acc x (goL body fin r)
theorem loop_go {σ R α β:Type} {F:(σ->Option R)->σ->Option R} {mk:Nat->β->σ} {xs:List α} {body:β->α->(β->Option R)->Option R} {fin:β->Option R}
  (hs:∀ self i acc x,xs[i]? = some x->F self (mk i acc)=body acc x fun a=>self (mk (i + 1) a))
  (he:∀ self acc,F self (mk xs.length acc)=fin acc) :
  ∀ (k i:Nat) (acc:β) (n:Nat),i + k=xs.length->k < n->loopF F n (mk i acc)=goL body fin (xs.drop i) acc
 | _,_,_,0,_,hn=>by omega
 | 0,i,acc,n + 1,h,_=>by
  have:i=xs.length:=by omega
  subst this
  rw [q29_,he,List.drop_length]
  rfl
 | k + 1,i,acc,n + 1,h,hn=>by
  have hx:xs[i]? = some (xs[i]'(by omega)):=List.getElem?_eq_getElem (by omega)
  rw [q29_,hs _ _ _ _ hx,List.drop_eq_getElem_cons (show i < xs.length by omega)]
  show _=body acc _ (goL body fin (xs.drop (i + 1)))
  congr 1
  funext a
  exact loop_go hs he k (i + 1) a n (by omega) (by omega)
theorem foldl_app {α β:Type} (f:α->List β):∀ (xs:List α) (out:List β),xs.foldl (fun o x=>o++f x) out=out++xs.flatMap f
 | [],out=>by simp
 | x::r,out=>by simp [foldl_app f r]
theorem wr8 (x:Int):IntKind.u8.wrap x=x % 256:=by
 simp only [IntKind.wrap,IntKind.signed,IntKind.bits]
 simp
theorem wr16 (x:Int):IntKind.u16.wrap x=x % 65536:=by
 simp only [IntKind.wrap,IntKind.signed,IntKind.bits]
 simp
theorem cvt8 (x:Int):cvt .u8 x=x % 256:=wr8 x
theorem cvt16 (x:Int):cvt .u16 x=x % 65536:=wr16 x
theorem shr8 (k:IntKind) (x:Int) (hk:8≤k.bits):shr k x 8=x / 256:=by
 unfold shr
 have:min (8:Int).toNat k.bits=8:=by
  have:(8:Int).toNat=8:=rfl
  omega
 rw [this,Int.fdiv_eq_ediv_of_nonneg _ (by decide)]
 rfl
theorem u16_rng (x:Int):0≤IntKind.u16.wrap x∧IntKind.u16.wrap x < 65536:=by rw [wr16]; omega
theorem band15 (x:Int):0≤band .u16 x 15∧band .u16 x 15 < 16:=by
 have h:(BitVec.ofInt IntKind.u16.bits x &&& BitVec.ofInt IntKind.u16.bits 15).toNat≤15:=by
  rw [BitVec.toNat_and]
  exact Nat.le_trans Nat.and_le_right (by decide)
 unfold band
 rw [wr16]
 omega
end Pl
end
section
namespace Pl
open Go Ev Sx
theorem loop_dt {σ R:Type} {F:(σ->Option R)->σ->Option R} {mk:Nat->σ} {N:Nat} {r:Option R} (hs:∀ self i,i < N->F self (mk i)=self (mk (i + 1))) (he:∀ self,F self (mk N)=r) :
  ∀ (k i n:Nat),i + k=N->k < n->loopF F n (mk i)=r
 | _,_,0,_,h=>by omega
 | 0,i,n + 1,h,_=>by
  have:i=N:=by omega
  subst this
  rw [q29_,he]
 | k + 1,i,n + 1,h,hn=>by rw [q29_,hs _ _ (by omega),loop_dt hs he k (i + 1) n (by omega) (by omega)]
theorem set_at {α:Type} (p:List α) (x y:α) (q:List α):(p++x::q).set p.length y=p++y::q:=by
 rw [List.set_append_right _ _ (Nat.le_refl _),Nat.sub_self]
 rfl
end Pl
end
section
namespace Go.Proofs.Lx
open Go Ev Sx Pl
set_option maxRecDepth 100000
def crcT:List Int:=[0,52225,55297,5120,61441,15360,10240,58369,40961,27648,30720,46081,20480,39937,34817,17408]
theorem table_eq:qtq_ ()=some (crcT,()):=by kernel_rfl
def tab (i:Int):Int:=crcT.getD i.toNat 0
theorem tab_at {i:Int} (h0:0≤i) (h1:i < 16):at? crcT i=some (tab i):=by
 obtain ⟨n,rfl⟩:=Int.eq_ofNat_of_zero_le h0
 have:n < crcT.length:=by show n < 16; omega
 have e:crcT[n]? = some (crcT[n]'this):=List.getElem?_eq_getElem this
 rw [qp_ e]
 unfold tab
 rw [Int.toNat_natCast,List.getD_eq_getElem?_getD,e]
 rfl
def nib (s:Int):Int:=bxor .u16 (shr .u16 s 4) (tab (band .u16 s 15))
def stepV (s c:Int):Int:=nib (nib (bxor .u16 s (cvt .u16 c)))
theorem stepV_rng (s c:Int):0≤stepV s c∧stepV s c < 65536:=u16_rng _
theorem step_eq (s c:Int):qvy_ (s,c,crcT,())=some (stepV s c,crcT,()):=by
 show qsx_ s c crcT=_
 unfold qsx_
 have h1:=band15 (bxor .u16 s (cvt .u16 c))
 rw [qa_ (q9_.2 h1.2),tab_at h1.1 h1.2,Option.bind_some,Option.bind_some]
 have h2:=band15 (bxor .u16 (shr .u16 (bxor .u16 s (cvt .u16 c)) 4) (tab (band .u16 (bxor .u16 s (cvt .u16 c)) 15)))
 rw [qa_ (q9_.2 h2.2),tab_at h2.1 h2.2,Option.bind_some,Option.bind_some]
 rfl
def sumV (b:List Int):Int:=b.foldl stepV 65535
theorem sumV_rng (b:List Int):0≤sumV b∧sumV b < 65536:=by
 unfold sumV
 have:∀ (b:List Int) (s:Int),(0≤s∧s < 65536)->0≤b.foldl stepV s∧b.foldl stepV s < 65536:=by
  intro b
  induction b with
  | nil=>exact fun s h=>h
  | cons c r ih=>exact fun s _=>ih _ (stepV_rng s c)
 exact this b _ (by decide)
theorem sum_eq {b:List Int} (h:b.length < 4611686018427387904):qsj_ (b,())=some (sumV b,()):=by
 show quv_ qr5_ b=_
 unfold quv_
 rw [table_eq,Option.bind_some]
 rw [qa_ (by rfl),qa_ (by rfl)]
 unfold qr5_
 refine (loop_idx (xs:=b) (mk:=fun i acc=>(b,acc,Int.ofNat b.length,(i:Int),crcT)) (stp:=stepV) (fin:=fun acc=>some (acc,())) (fun _ _=>True) ?_ (fun _ _ _ _ _=>trivial) ?_ b.length 0 65535 _ (by omega) (by omega) trivial).trans ?_
 ·intro self i acc x hx _
  have hi:=(List.getElem?_eq_some_iff.1 hx).1
  show qkp_ _ b acc (Int.ofNat b.length) (i:Int) crcT=_
  unfold qkp_
  rw [if_pos (by rw [q9_,q1_]; omega),qp_ hx,Option.bind_some,step_eq,Option.bind_some,q1m_ (by omega)]
 ·intro self acc _
  show qkp_ _ b acc (Int.ofNat b.length) (b.length:Int) crcT=_
  unfold qkp_
  rw [if_neg (by rw [q9_,q1_]; omega)]
 ·rfl
theorem capOk_0 {n:Int} (h:0≤n):capOk 0 n=true:=by
 unfold capOk
 split
 ·rfl
 ·exact decide_eq_true h
theorem capOk_self (n:Int):capOk n n=true:=by
 unfold capOk
 rw [if_pos rfl]
def two (x:Int):List Int:=[x / 256 % 256,x % 256]
def putV (b:List Int):List Int:=b++[sumV b % 256,sumV b / 256]
theorem put_eq {b:List Int} (h:b.length < 1000000):qxi_ (b,())=some (putV b,()):=by
 show qun_ b=_
 unfold qun_
 have hs:=sumV_rng b
 have e:add .i64 (Int.ofNat b.length) 2=((b.length + 2:Nat):Int):=by rw [q1_]; exact addn64 (m:=2) (by omega)
 rw [sum_eq (by omega),Option.bind_some,e,qa_ (capOk_0 (by omega)),qa_ (by rw [small_iff]; omega),ql_ (by omega),ql_ (by simp; omega),cvt8,cvt8,shr8 _ _ (by decide)]
 have e2:sumV b / 256 % 256=sumV b / 256:=by omega
 rw [e2]
 rfl
end Go.Proofs.Lx
end
section
namespace Go.Proofs.Lx
open Go Ev Sx Pl
set_option maxRecDepth 100000
abbrev TA:=Int×Int×Int×Int×List Int×List Bool
structure OkA (a:TA):Prop where
 f0:0≤a.1
 f1:a.1≤255
 at0:0≤a.2.1
 at1:a.2.1≤65535
 m0:0≤a.2.2.1
 m1:a.2.2.1≤65535
 t0:0≤a.2.2.2.1
 t1:a.2.2.2.1≤65535
 w:∀ x ∈ a.2.2.2.2.1,0≤x∧x≤65535
 lw:a.2.2.2.2.1.length≤100000
 lb:a.2.2.2.2.2.length≤100000
def shp (f:Int):Option (Int×Int×Int×Bool×Bool) :=
 if eqi 1 f=true then some (2000,0,0,false,false) else if eqi 2 f=true then some (2000,0,0,false,false) else if eqi 3 f=true then some (125,0,0,false,false) else
 if eqi 4 f=true then some (125,0,0,false,false) else if eqi 5 f=true then some (0,1,0,false,false) else if eqi 6 f=true then some (0,0,1,false,false) else
 if eqi 15 f=true then some (1968,1968,0,false,true) else if eqi 16 f=true then some (123,0,123,false,true) else if eqi 23 f=true then some (125,0,121,true,false) else none
def shpD (f:Int):Int×Int×Int×Bool×Bool:=(shp f).getD (0,0,0,false,false)
theorem shape_eq (f:Int):q9r_ (f,())=some (shpD f,(shp f).isSome,()):=rfl
theorem shp_cases (f:Int):((f=1∨f=2)∧shp f=some (2000,0,0,false,false))∨((f=3∨f=4)∧shp f=some (125,0,0,false,false))∨(f=5∧shp f=some (0,1,0,false,false)) ∨
  (f=6∧shp f=some (0,0,1,false,false))∨(f=15∧shp f=some (1968,1968,0,false,true))∨(f=16∧shp f=some (123,0,123,false,true))∨(f=23∧shp f=some (125,0,121,true,false)) ∨
  ((f ≠ 1∧f ≠ 2∧f ≠ 3∧f ≠ 4∧f ≠ 5∧f ≠ 6∧f ≠ 15∧f ≠ 16∧f ≠ 23)∧shp f=none):=by
 by_cases h1:f=1
 ·subst h1; exact .inl ⟨.inl rfl,rfl⟩
 by_cases h2:f=2
 ·subst h2; exact .inl ⟨.inr rfl,rfl⟩
 by_cases h3:f=3
 ·subst h3; exact .inr (.inl ⟨.inl rfl,rfl⟩)
 by_cases h4:f=4
 ·subst h4; exact .inr (.inl ⟨.inr rfl,rfl⟩)
 by_cases h5:f=5
 ·subst h5; exact .inr (.inr (.inl ⟨rfl,rfl⟩))
 by_cases h6:f=6
 ·subst h6; exact .inr (.inr (.inr (.inl ⟨rfl,rfl⟩)))
 by_cases h7:f=15
 ·subst h7; exact .inr (.inr (.inr (.inr (.inl ⟨rfl,rfl⟩))))
 by_cases h8:f=16
 ·subst h8; exact .inr (.inr (.inr (.inr (.inr (.inl ⟨rfl,rfl⟩)))))
 by_cases h9:f=23
 ·subst h9; exact .inr (.inr (.inr (.inr (.inr (.inr (.inl ⟨rfl,rfl⟩))))))
 refine .inr (.inr (.inr (.inr (.inr (.inr (.inr ⟨⟨h1,h2,h3,h4,h5,h6,h7,h8,h9⟩,?_⟩))))))
 have e:∀ n:Int,f ≠ n->¬ eqi n f=true:=fun n hn h=>hn (q6_.1 h).symm
 unfold shp
 rw [if_neg (e _ h1),if_neg (e _ h2),if_neg (e _ h3),if_neg (e _ h4),if_neg (e _ h5),if_neg (e _ h6),if_neg (e _ h7),if_neg (e _ h8),if_neg (e _ h9)]
def withinV (n most:Int):Bool:=if eqi most 0=true then eqi n 0 else if ge n 1=true then le n most else false
theorem within_eq (n most:Int):qgl_ (n,most,())=some (withinV n most,()):=by
 show qn7_ n most=_
 unfold qn7_ withinV
 split
 ·rfl
 ·split <;> rfl
def rightS (a:TA) (s:Int×Int×Int×Bool×Bool):Bool:=(s.2.2.2.1 || eqi a.2.2.2.1 0) && (withinV a.2.2.1 s.1 && (withinV (Int.ofNat a.2.2.2.2.2.length) s.2.1 && (withinV (Int.ofNat a.2.2.2.2.1.length) s.2.2.1 &&
 (!s.2.2.2.2 || eqi (Int.ofNat a.2.2.2.2.2.length + Int.ofNat a.2.2.2.2.1.length) a.2.2.1))))
def q2n_ (a:TA):Bool:=match shp a.1 with
 | none=>false
 | some s=>rightS a s
theorem right_K2 (t:Bool) (a1 a2 a3 a4:Int) (a5:List Int) (a6:List Bool) (s1 s2 s3:Int) (s4 s5:Bool) :
  qjc_ t a1 a2 a3 a4 a5 a6 s1 s2 s3 s4 s5=some (!t && (!s5 || eqi (add .i64 (Int.ofNat a6.length) (Int.ofNat a5.length)) (cvt .i64 a3)),()):=by
 unfold qjc_ qvr_
 cases t <;> cases s5 <;> rfl
theorem right_K1 (t:Bool) (a1 a2 a3 a4:Int) (a5:List Int) (a6:List Bool) (s1 s2 s3:Int) (s4 s5:Bool) :
  qf5_ t a1 a2 a3 a4 a5 a6 s1 s2 s3 s4 s5=some (!t && (withinV (cvt .i64 a3) s1 && (withinV (Int.ofNat a6.length) s2 && (withinV (Int.ofNat a5.length) s3 && (!s5 || eqi (add .i64 (Int.ofNat a6.length) (Int.ofNat a5.length)) (cvt .i64 a3))))),()):=by
 unfold qf5_ qv4_
 rw [within_eq,within_eq,within_eq]
 simp only [Option.bind_some,right_K2]
 cases t <;> cases withinV (cvt .i64 a3) s1 <;> cases withinV (Int.ofNat a6.length) s2 <;> cases withinV (Int.ofNat a5.length) s3 <;> rfl
theorem right_eq {a:TA} (h:OkA a):qbc_ (a,())=some (q2n_ a,()):=by
 show qru_ qf5_ a=_
 unfold qru_
 have h1:=h.m0
 have h2:=h.m1
 have h3:=h.lw
 have h4:=h.lb
 rw [shape_eq,Option.bind_some]
 simp only [right_K1]
 rw [cvt64 (by omega) (by omega),add64 (by rw [q1_,q1_]; omega) (by rw [q1_,q1_]; omega)]
 unfold q2n_ shpD
 cases shp a.1 with
 | none=>rfl
 | some s =>
  obtain ⟨s1,s2,s3,s4,s5⟩:=s
  unfold rightS
  have e:nei a.2.2.2.1 0=!eqi a.2.2.2.1 0:=rfl
  rw [e]
  cases s4 <;> cases eqi a.2.2.2.1 0 <;> rfl
theorem two_eq {y:Int}:([cvt .u8 (shr .u16 y 8),cvt .u8 y]:List Int)=two y:=by
 rw [cvt8,cvt8,shr8 _ _ (by decide)]
 rfl
theorem numbers_eq {l out:List Int} (h:out.length + 2 * l.length≤1000000):q27_ (l,out,())=some (out++l.flatMap two,()):=by
 show qkb_ qfn_ l out=_
 unfold qkb_ qfn_
 refine (loop_idx (xs:=l) (mk:=fun i acc=>(l,Int.ofNat l.length,(i:Int),acc)) (stp:=fun o y=>o++two y) (fin:=fun acc=>some (acc,())) (fun i acc=>acc.length≤out.length + 2 * i) ?_ ?_ ?_ l.length 0 out _ (by omega) (by omega) (by omega)).trans ?_
 ·intro self i acc x hx hI
  have hi:=(List.getElem?_eq_some_iff.1 hx).1
  show qbe_ _ l (Int.ofNat l.length) (i:Int) acc=_
  unfold qbe_
  rw [if_pos (by rw [q9_,q1_]; omega),qp_ hx,Option.bind_some,ql_ (by omega),two_eq,q1m_ (by omega)]
 ·intro i acc x hx hI
  simp [two]
  omega
 ·intro self acc _
  show qbe_ _ l (Int.ofNat l.length) (l.length:Int) acc=_
  unfold qbe_
  rw [if_neg (by rw [q9_,q1_]; omega)]
 ·rw [List.drop_zero,foldl_app]
end Go.Proofs.Lx
end
section
namespace Pl
open Go Ev Sx
theorem loop_det {σ R:Type} {F:(σ->Option R)->σ->Option R} {mk:Nat->σ} {N:Nat} {r:Option R} (hs:∀ self i,i < N->F self (mk i)=self (mk (i + 1))) (he:∀ self,F self (mk N)=r) :
  ∀ (k i n:Nat),i + k=N->k < n->loopF F n (mk i)=r
 | _,_,0,_,h=>by omega
 | 0,i,n + 1,h,_=>by
  have:i=N:=by omega
  subst this
  rw [q29_,he]
 | k + 1,i,n + 1,h,hn=>by rw [q29_,hs _ _ (by omega),loop_det hs he k (i + 1) n (by omega) (by omega)]
theorem quo_nat {i d:Nat} (hi:i < 4611686018427387904):quo .i64 (i:Int) (d:Int)=((i / d:Nat):Int):=by
 unfold quo
 have h:=Nat.div_le_self i d
 have e:(i:Int).tdiv (d:Int)=((i / d:Nat):Int):=by rw [Int.ofNat_tdiv]
 rw [e]
 generalize i / d=q at h ⊢
 exact w64 (by omega) (by omega)
theorem rem_nat {i d:Nat}:rem (i:Int) (d:Int)=((i % d:Nat):Int):=by
 unfold rem
 rw [Int.ofNat_tmod]
theorem fill_step {α:Type} {f:Nat->α} {init:List α} {i:Nat} (hi:i < init.length):((List.range i).map f++init.drop i).set i (f i)=(List.range (i + 1)).map f++init.drop (i + 1):=by
 rw [List.drop_eq_getElem_cons hi,List.set_append_right _ _ (by simp)]
 simp only [List.length_map,List.length_range,Nat.sub_self,List.set_cons_zero,List.range_succ,List.map_append,List.map_cons,List.map_nil,List.append_assoc,List.singleton_append]
end Pl
namespace Go.Proofs.Lx
open Go Ev Sx Pl
set_option maxRecDepth 100000
def byteV:List Bool->Int
 | []=>0
 | b::r=>(if b=true then 1 else 0) + 2 * byteV r
theorem byteV_rng:∀ t:List Bool,0≤byteV t∧byteV t < 2 ^ t.length
 | []=>by simp [byteV]
 | b::r=>by
  have:=byteV_rng r
  rw [List.length_cons,Int.pow_succ]
  unfold byteV
  split <;> omega
theorem byteV_snoc (b:Bool):∀ t:List Bool,byteV (t++[b])=byteV t + (if b=true then 2 ^ t.length else 0)
 | []=>by cases b <;> rfl
 | a::r=>by
  rw [List.cons_append]
  unfold byteV
  rw [byteV_snoc b r,List.length_cons,Int.pow_succ]
  cases b <;> simp <;> omega
theorem byteV_bit:∀ (t:List Bool) (k:Nat),byteV t / 2 ^ k % 2=(if t.getD k false=true then 1 else 0)
 | [],k=>by simp [byteV]
 | b::r,0=>by
  unfold byteV
  cases b <;> simp <;> omega
 | b::r,k + 1=>by
  have:=byteV_bit r k
  rw [List.getD_cons_succ,<- this]
  have e:((if b=true then (1:Int) else 0) + 2 * byteV r) / 2 ^ (k + 1)=byteV r / 2 ^ k:=by
   rw [Int.pow_succ,Int.mul_comm (2 ^ k) 2,<- Int.ediv_ediv_of_nonneg (by decide)]
   congr 1
   split <;> omega
  show ((if b=true then (1:Int) else 0) + 2 * byteV r) / 2 ^ (k + 1) % 2=_
  rw [e]
def packN (n:Nat):Nat:=(n + 7) / 8
def packP (bits:List Bool) (i:Nat):List Int:=(List.range (packN bits.length)).map fun j=>byteV (((bits.take i).drop (8 * j)).take 8)
def packS (bits:List Bool):List Int:=(List.range (packN bits.length)).map fun j=>byteV ((bits.drop (8 * j)).take 8)
theorem packP_len (bits:List Bool) (i:Nat):(packP bits i).length=packN bits.length:=by simp [packP]
theorem q8n_ (bits:List Bool):(packS bits).length=packN bits.length:=by simp [packS]
theorem packP_all (bits:List Bool):packP bits bits.length=packS bits:=by unfold packP packS; rw [List.take_length]
theorem packP_zero (bits:List Bool):packP bits 0=List.replicate (packN bits.length) 0:=by
 unfold packP
 rw [List.take_zero]
 simp only [List.drop_nil,List.take_nil,byteV]
 exact List.map_const' ..|>.trans (by simp)
theorem chunk_next {bits:List Bool} {i j:Nat} {y:Bool} (hy:bits[i]? = some y):((bits.take (i + 1)).drop (8 * j)).take 8=((bits.take i).drop (8 * j)).take 8++(if j=i / 8 then [y] else []):=by
 have hi:=(List.getElem?_eq_some_iff.1 hy).1
 have e:bits.take (i + 1)=bits.take i++[y]:=by rw [List.take_add_one,hy]; rfl
 have hl:(bits.take i).length=i:=by rw [List.length_take]; omega
 by_cases h:j=i / 8
 ·rw [if_pos h,e,List.drop_append_of_le_length (by omega)]
  have h1:((bits.take i).drop (8 * j)++[y]).length≤8:=by rw [List.length_append,List.length_drop,hl,List.length_singleton]; omega
  rw [List.take_of_length_le h1,List.take_of_length_le (l:=(bits.take i).drop (8 * j)) (by rw [List.length_drop,hl]; omega)]
 ·rw [if_neg h,List.append_nil]
  by_cases h2:8 * j≤i
  ·rw [e,List.drop_append_of_le_length (by omega),List.take_append_of_le_length (by simp; omega)]
  ·rw [List.drop_of_length_le (by simp; omega),List.drop_of_length_le (by simp; omega)]
theorem packP_next {bits:List Bool} {i:Nat} {y:Bool} (hy:bits[i]? = some y) :
  ∃ v,(packP bits i)[i / 8]? = some v∧0≤v∧v < 2 ^ (i % 8)∧packP bits (i + 1)=(if y=true then (packP bits i).set (i / 8) (v + 2 ^ (i % 8)) else packP bits i):=by
 have hi:=(List.getElem?_eq_some_iff.1 hy).1
 have hm:i / 8 < packN bits.length:=by unfold packN; omega
 have hlen:((((bits.take i).drop (8 * (i / 8))).take 8)).length=i % 8:=by simp; omega
 refine ⟨byteV (((bits.take i).drop (8 * (i / 8))).take 8),?_,(byteV_rng _).1,?_,?_⟩
 ·unfold packP
  rw [List.getElem?_map,List.getElem?_range hm]
  rfl
 ·have:=(byteV_rng (((bits.take i).drop (8 * (i / 8))).take 8)).2
  rwa [hlen] at this
 ·apply List.ext_getElem?
  intro j
  have hj:∀ q,(packP bits q)[j]? = if j < packN bits.length then some (byteV (((bits.take q).drop (8 * j)).take 8)) else none:=by
   intro q
   unfold packP
   rw [List.getElem?_map]
   split
   ·rename_i h; rw [List.getElem?_range h]; rfl
   ·rename_i h; rw [List.getElem?_eq_none (by simp; omega)]; rfl
  rw [hj]
  by_cases hjm:j < packN bits.length
  ·rw [if_pos hjm,chunk_next hy]
   by_cases hji:j=i / 8
   ·rw [if_pos hji,byteV_snoc]
    cases y with
    | true =>
     rw [if_pos rfl,if_pos rfl,hji,hlen,List.getElem?_set_self (by rw [packP_len]; exact hm)]
    | false =>
     rw [if_neg (by decide),if_neg (by decide),hj,if_pos hjm,Int.add_zero]
   ·rw [if_neg hji,List.append_nil]
    cases y with
    | true=>rw [if_pos rfl,List.getElem?_set_ne (by omega),hj,if_pos hjm]
    | false=>rw [if_neg (by decide),hj,if_pos hjm]
  ·rw [if_neg hjm]
   cases y with
   | true=>rw [if_pos rfl,List.getElem?_set_ne (by omega),hj,if_neg hjm]
   | false=>rw [if_neg (by decide),hj,if_neg hjm]
theorem bor_bit {v:Int} {k:Nat} (h0:0≤v) (h1:v < 2 ^ k) (hk:k < 8):bor .u8 v (shl .u8 1 (k:Int))=v + 2 ^ k:=by
 have key:∀ (k:Fin 8) (v:Fin 128),v.1 < 2 ^ k.1->bor .u8 (v.1:Int) (shl .u8 1 (k.1:Int))=(v.1:Int) + 2 ^ k.1:=by decide +kernel
 obtain ⟨n,rfl⟩:=Int.eq_ofNat_of_zero_le h0
 have h2:n < 2 ^ k:=by exact_mod_cast h1
 have h3:2 ^ k≤2 ^ 7:=Nat.pow_le_pow_right (by decide) (by omega)
 exact key ⟨k,hk⟩ ⟨n,by omega⟩ h2
theorem pack_eq {bits:List Bool} (h:bits.length≤100000):qjb_ (bits,())=some (packS bits,()):=by
 show qsq_ qht_ bits=_
 have hK:qht_ bits (packN bits.length:Int)=some (packS bits,()):=by
  unfold qht_ qx8_
  have hN:packN bits.length≤100000:=by unfold packN; omega
  rw [qa_ (by rw [q1l_]; omega),qa_ (capOk_self _),Int.toNat_natCast,ql_ (by omega)]
  unfold qt5_
  rw [<- packP_zero,<- packP_all]
  refine loop_det (mk:=fun i=>(bits,Int.ofNat bits.length,(i:Int),packP bits i)) (N:=bits.length) ?_ ?_ bits.length 0 _ (by omega) (by omega)
  ·intro self i hi
   have hy:bits[i]? = some (bits[i]'hi):=List.getElem?_eq_getElem hi
   obtain ⟨v,hv,h0,h1,e⟩:=packP_next hy
   show qhw_ _ bits (Int.ofNat bits.length) (i:Int) (packP bits i)=_
   unfold qhw_
   have hq:quo .i64 (i:Int) 8=((i / 8:Nat):Int):=quo_nat (d:=8) (by omega)
   have hr:rem (i:Int) 8=((i % 8:Nat):Int):=rem_nat (d:=8)
   rw [if_pos (by rw [q9_,q1_]; omega),qp_ hy,Option.bind_some,hq,hr,qp_ hv,q1m_ (by omega)]
   simp only [Option.bind_some]
   rw [qa_ (by rw [q1l_]; omega),bor_bit h0 h1 (Nat.mod_lt _ (by decide)),Int.toNat_natCast,e]
   split <;> rfl
  ·intro self
   show qhw_ _ bits (Int.ofNat bits.length) (bits.length:Int) (packP bits bits.length)=_
   unfold qhw_
   rw [if_neg (by rw [q9_,q1_]; omega)]
 unfold qsq_
 have hq:quo .i64 (Int.ofNat bits.length) 8=((bits.length / 8:Nat):Int):=quo_nat (d:=8) (by omega)
 rw [hq]
 split
 ·rename_i h1
  rw [gt_iff,q1_,show rem (bits.length:Int) 8=((bits.length % 8:Nat):Int) from rem_nat (d:=8)] at h1
  rw [q1m_ (by omega)]
  have:bits.length / 8 + 1=packN bits.length:=by unfold packN; omega
  rw [this]
  exact hK
 ·rename_i h1
  rw [gt_iff,q1_,show rem (bits.length:Int) 8=((bits.length % 8:Nat):Int) from rem_nat (d:=8)] at h1
  have:bits.length / 8=packN bits.length:=by unfold packN; omega
  rw [this]
  exact hK
def bitV (y:Int) (k:Nat):Bool:=eqi (band .u8 (shr .u8 y (k:Int)) 1) 1
theorem bitV_eq {y:Int} {k:Nat} (h0:0≤y) (h1:y < 256) (hk:k < 8):bitV y k=decide (y / 2 ^ k % 2=1):=by
 have key:∀ (k:Fin 8) (v:Fin 256),bitV (v.1:Int) k.1=decide ((v.1:Int) / 2 ^ k.1 % 2=1):=by decide +kernel
 obtain ⟨n,rfl⟩:=Int.eq_ofNat_of_zero_le h0
 exact key ⟨k,hk⟩ ⟨n,by omega⟩
def unpackS (b:List Int):List Bool:=(List.range (8 * b.length)).map fun i=>bitV (b.getD (i / 8) 0) (i % 8)
theorem unpack_eq {b:List Int} (h:b.length≤100000):qdo_ (b,())=some (unpackS b,()):=by
 show qnk_ qhm_ b=_
 unfold qnk_
 have hm:mul .i64 8 (Int.ofNat b.length)=((8 * b.length:Nat):Int):=by
  rw [mul64 (by rw [q1_]; omega) (by rw [q1_]; omega)]
  simp
 rw [hm,qa_ (by rw [q1l_]; omega),qa_ (capOk_self _),Int.toNat_natCast,ql_ (by omega),List.length_replicate]
 unfold qhm_ unpackS
 refine (loop_det (mk:=fun i=>(b,Int.ofNat (8 * b.length),(i:Int),(List.range i).map (fun i=>bitV (b.getD (i / 8) 0) (i % 8))++(List.replicate (8 * b.length) false).drop i)) (N:=8 * b.length) ?_ ?_ (8 * b.length) 0 _ (by omega) (by omega))
 ·intro self i hi
  show qcj_ _ b (Int.ofNat (8 * b.length)) (i:Int) _=_
  unfold qcj_
  have hq:quo .i64 (i:Int) 8=((i / 8:Nat):Int):=quo_nat (d:=8) (by omega)
  have hr:rem (i:Int) 8=((i % 8:Nat):Int):=rem_nat (d:=8)
  have hlt:i / 8 < b.length:=by omega
  have hb:b[i / 8]? = some (b[i / 8]'hlt):=List.getElem?_eq_getElem hlt
  have hlen:((List.range i).map (fun i=>bitV (b.getD (i / 8) 0) (i % 8))++(List.replicate (8 * b.length) false).drop i).length=8 * b.length:=by simp; omega
  have ho:((List.range i).map (fun i=>bitV (b.getD (i / 8) 0) (i % 8))++(List.replicate (8 * b.length) false).drop i)[i]? = some (((List.range i).map (fun i=>bitV (b.getD (i / 8) 0) (i % 8))++(List.replicate (8 * b.length) false).drop i)[i]'(by omega)):=List.getElem?_eq_getElem (by omega)
  rw [if_pos (by rw [q9_,q1_]; omega),hq,hr,qp_ hb,Option.bind_some,qa_ (by rw [q1l_]; omega),qp_ ho,Option.bind_some,Option.bind_some,q1m_ (by omega),Int.toNat_natCast]
  have e:eqi (band .u8 (shr .u8 (b[i / 8]'hlt) ((i % 8:Nat):Int)) 1) 1=bitV (b.getD (i / 8) 0) (i % 8):=by
   rw [List.getD_eq_getElem?_getD,hb]
   rfl
  rw [e,fill_step (f:=fun i=>bitV (b.getD (i / 8) 0) (i % 8)) (by simp; omega)]
 ·intro self
  show qcj_ _ b (Int.ofNat (8 * b.length)) ((8 * b.length:Nat):Int) _=_
  unfold qcj_
  rw [if_neg (by rw [q9_,q1_]; omega),List.drop_of_length_le (by simp),List.append_nil]
end Go.Proofs.Lx
end
section
namespace Go.Proofs.Lx
open Go Ev Sx Pl
set_option maxRecDepth 100000
inductive RA:TA->Prop where
 | bits (f p n:Int) (hf:f=1∨f=2) (h1:1≤n) (h2:n≤2000):RA (f,p,n,0,[],[])
 | words (f p n:Int) (hf:f=3∨f=4) (h1:1≤n) (h2:n≤125):RA (f,p,n,0,[],[])
 | coil (p:Int) (b:Bool):RA (5,p,0,0,[],[b])
 | word (p:Int) (x:Int):RA (6,p,0,0,[x],[])
 | coils (p:Int) (l:List Bool) (h1:1≤l.length) (h2:l.length≤1968):RA (15,p,(l.length:Int),0,[],l)
 | regs (p:Int) (l:List Int) (h1:1≤l.length) (h2:l.length≤123):RA (16,p,(l.length:Int),0,l,[])
 | swap (p n t:Int) (l:List Int) (h1:1≤l.length) (h2:l.length≤121) (h3:1≤n) (h4:n≤125):RA (23,p,n,t,l,[])
theorem within0 {n:Int} (h:withinV n 0=true):n=0:=q6_.1 h
theorem within1 {n m:Int} (hm:0 < m) (h:withinV n m=true):1≤n∧n≤m:=by
 unfold withinV at h
 rw [if_neg (by rw [q6_]; omega)] at h
 split at h
 ·rename_i h1; exact ⟨q1l_.1 h1,q13_.1 h⟩
 ·cases h
theorem len0 {α:Type} {l:List α} (h:Int.ofNat l.length=0):l=[]:=by
 rw [q1_] at h
 exact List.eq_nil_of_length_eq_zero (by omega)
theorem len1 {α:Type} {l:List α} (h:1≤Int.ofNat l.length∧Int.ofNat l.length≤1):∃ x,l=[x]:=by
 rw [q1_] at h
 exact List.length_eq_one_iff.1 (by omega)
theorem q7c_ {a:TA} (hr:q2n_ a=true):RA a:=by
 obtain ⟨f,p,n,t,ws,bs⟩:=a
 unfold q2n_ at hr
 simp only at hr
 rcases shp_cases f with ⟨hf,e⟩ | ⟨hf,e⟩ | ⟨hf,e⟩ | ⟨hf,e⟩ | ⟨hf,e⟩ | ⟨hf,e⟩ | ⟨hf,e⟩ | ⟨hf,e⟩ <;> rw [e] at hr <;> simp only [rightS,Bool.and_eq_true,Bool.false_or,Bool.true_or,Bool.not_false,Bool.not_true,true_and,and_true] at hr
 ·obtain ⟨h1,h2,h3,h4⟩:=hr
  have h2:=within1 (by decide) h2
  rw [q6_.1 h1,len0 (within0 h3),len0 (within0 h4)]
  exact .bits f p n hf h2.1 h2.2
 ·obtain ⟨h1,h2,h3,h4⟩:=hr
  have h2:=within1 (by decide) h2
  rw [q6_.1 h1,len0 (within0 h3),len0 (within0 h4)]
  exact .words f p n hf h2.1 h2.2
 ·obtain ⟨h1,h2,h3,h4⟩:=hr
  obtain ⟨b,rfl⟩:=len1 (within1 (by decide) h3)
  rw [q6_.1 h1,within0 h2,len0 (within0 h4),hf]
  exact .coil p b
 ·obtain ⟨h1,h2,h3,h4⟩:=hr
  obtain ⟨b,rfl⟩:=len1 (within1 (by decide) h4)
  rw [q6_.1 h1,within0 h2,len0 (within0 h3),hf]
  exact .word p b
 ·obtain ⟨h1,h2,h3,h4,h5⟩:=hr
  have h3:=within1 (by decide) h3
  have e4:=len0 (within0 h4)
  subst e4
  rw [q6_.1 h1,<- q6_.1 h5,hf]
  rw [q1_] at h3
  exact .coils p bs (by omega) (by omega)
 ·obtain ⟨h1,h2,h3,h4,h5⟩:=hr
  have h4:=within1 (by decide) h4
  have e3:=len0 (within0 h3)
  subst e3
  have e5:(ws.length:Int)=n:=by have:=q6_.1 h5; simpa using this
  rw [q6_.1 h1,<- e5,hf]
  rw [q1_] at h4
  exact .regs p ws (by omega) (by omega)
 ·obtain ⟨h2,h3,h4⟩:=hr
  have h2:=within1 (by decide) h2
  have h4:=within1 (by decide) h4
  rw [len0 (within0 h3),hf]
  rw [q1_] at h4
  exact .swap p n t ws (by omega) (by omega) h2.1 h2.2
 ·cases hr
def askB (a:TA):List Int :=
 if a.1=5 then a.1::two a.2.1++two (if a.2.2.2.2.2.headD false=true then 65280 else 0)
 else if a.1=6 then a.1::two a.2.1++a.2.2.2.2.1.flatMap two
 else if a.1=15 then a.1::two a.2.1++two a.2.2.1++[(packN a.2.2.2.2.2.length:Int)]++packS a.2.2.2.2.2
 else if a.1=16 then a.1::two a.2.1++two a.2.2.1++[2 * (a.2.2.2.2.1.length:Int)]++a.2.2.2.2.1.flatMap two
 else if a.1=23 then a.1::two a.2.1++two a.2.2.1++two a.2.2.2.1++two (a.2.2.2.2.1.length:Int)++[2 * (a.2.2.2.2.1.length:Int)]++a.2.2.2.2.1.flatMap two
 else a.1::two a.2.1++two a.2.2.1
theorem q8e_ (l:List Int):(l.flatMap two).length=2 * l.length:=by
 induction l with
 | nil=>rfl
 | cons x r ih=>rw [List.flatMap_cons,List.length_append,ih]; simp [two]; omega
theorem two_len (x:Int):(two x).length=2:=rfl
theorem askB_len {a:TA} (h:RA a):5≤(askB a).length∧(askB a).length≤253:=by
 cases h with
 | bits f p n hf h1 h2=>rcases hf with rfl | rfl <;> exact ⟨Nat.le.refl,(by decide:5≤253)⟩
 | words f p n hf h1 h2=>rcases hf with rfl | rfl <;> exact ⟨Nat.le.refl,(by decide:5≤253)⟩
 | coil p b=>exact ⟨Nat.le.refl,(by decide:5≤253)⟩
 | word p x=>exact ⟨Nat.le.refl,(by decide:5≤253)⟩
 | coils p l h1 h2 =>
  show 5≤((15:Int)::two p++two _++[_]++packS l).length∧((15:Int)::two p++two _++[_]++packS l).length≤253
  simp only [List.length_append,List.length_cons,List.length_nil,q8n_,two_len]
  unfold packN
  omega
 | regs p l h1 h2 =>
  show 5≤((16:Int)::two p++two _++[_]++l.flatMap two).length∧((16:Int)::two p++two _++[_]++l.flatMap two).length≤253
  simp only [List.length_append,List.length_cons,List.length_nil,q8e_,two_len]
  omega
 | swap p n t l h1 h2 h3 h4 =>
  show 5≤((23:Int)::two p++two _++two _++two _++[_]++l.flatMap two).length∧((23:Int)::two p++two _++two _++two _++[_]++l.flatMap two).length≤253
  simp only [List.length_append,List.length_cons,List.length_nil,q8e_,two_len]
  omega
abbrev BO:=Option (As [.sl (.int .u8),.int .i64])
theorem bK0 (f p n s1:Int) (out:List Int) (h5:f=1∨f=2∨f=3∨f=4):q69_ f p n 0 [] [] s1 0 0 false false out=some (out,0,()):=by
 rcases h5 with rfl | rfl | rfl | rfl <;> rfl
theorem bK5 (p:Int) (b:Bool) (out:List Int):q69_ 5 p 0 0 [] [b] 0 1 0 false false out=Option.bind (q27_ ([if b=true then 65280 else 0],out,())) fun y=>(some (y.1,0,()):BO):=by
 cases b <;> rfl
theorem bK6 (p x:Int) (out:List Int):q69_ 6 p 0 0 [x] [] 0 0 1 false false out=Option.bind (q27_ ([x],out,())) fun y=>(some (y.1,0,()):BO):=rfl
theorem bK15 (p n:Int) (l:List Bool) (out:List Int):q69_ 15 p n 0 [] l 1968 1968 0 false true out =
  Option.bind (qjb_ (l,())) fun y=>need (small (out.length + 1)) (need (small ((out++[Int.ofNat (y.1.length % 256)]).length + y.1.length)) (some (out++[Int.ofNat (y.1.length % 256)]++y.1,0,()):BO)):=rfl
theorem bK16 (p n:Int) (l out:List Int):q69_ 16 p n 0 l [] 123 0 123 false true out =
  need (small (out.length + 1)) (Option.bind (q27_ (l,out++[cvt .u8 (mul .i64 2 (Int.ofNat l.length))],())) fun y=>(some (y.1,0,()):BO)):=rfl
theorem bK23 (p n t:Int) (l out:List Int):q69_ 23 p n t l [] 125 0 121 true false out =
  Option.bind (q27_ ([t,Int.ofNat (l.length % 65536)],out,())) fun y=>need (small (y.1.length + 1)) (Option.bind (q27_ (l,y.1++[cvt .u8 (mul .i64 2 (Int.ofNat l.length))],())) fun y=>(some (y.1,0,()):BO)):=rfl
theorem nums1 (x:Int) {out:List Int} (h:out.length≤900000):q27_ ([x],out,())=some (out++two x,()):=by
 rw [numbers_eq (by simp; omega)]
 simp
theorem q15b_ {a:TA} (h:OkA a):qdu_ (a,())=if q2n_ a=true then some (askB a,0,()) else some ([],12,()):=by
 show qpf_ q69_ a=_
 unfold qpf_
 rw [right_eq h,Option.bind_some]
 cases hr:q2n_ a with
 | false=>rfl
 | true =>
  have hra:=q7c_ hr
  rw [if_neg (by decide),if_pos rfl,shape_eq,Option.bind_some]
  clear hr h
  have hin:∀ f p:Int,q27_ ([p],[f],())=some (f::two p,()):=fun f p=>nums1 p (by simp)
  have hin2:∀ f p n:Int,q27_ ([n],f::two p,())=some (f::two p++two n,()):=fun f p n=>nums1 n (by simp [two])
  cases hra with
  | bits f p n hf h1 h2 =>
   rcases hf with rfl | rfl <;> rw [hin,Option.bind_some,if_pos (by rfl),hin2,Option.bind_some]
   ·exact bK0 1 p n 2000 _ (.inl rfl)
   ·exact bK0 2 p n 2000 _ (.inr (.inl rfl))
  | words f p n hf h1 h2 =>
   rcases hf with rfl | rfl <;> rw [hin,Option.bind_some,if_pos (by rfl),hin2,Option.bind_some]
   ·exact bK0 3 p n 125 _ (.inr (.inr (.inl rfl)))
   ·exact bK0 4 p n 125 _ (.inr (.inr (.inr rfl)))
  | coil p b =>
   rw [hin,Option.bind_some,if_neg (by show ¬ gt 0 0=true; decide)]
   exact (bK5 p b _).trans (by rw [nums1 _ (by simp [two]),Option.bind_some]; rfl)
  | word p x =>
   rw [hin,Option.bind_some,if_neg (by show ¬ gt 0 0=true; decide)]
   exact (bK6 p x _).trans (by rw [nums1 _ (by simp [two]),Option.bind_some]; simp [askB])
  | coils p l h1 h2 =>
   rw [hin,Option.bind_some,if_pos (by rfl),hin2,Option.bind_some]
   refine (bK15 p _ l _).trans ?_
   rw [pack_eq (by omega),Option.bind_some,ql_ (by simp [two]),ql_ (by simp [two,q8n_,packN]; omega)]
   refine congrArg (fun x=>some (x,0,())) ?_
   have e:packN l.length % 256=packN l.length:=by unfold packN; omega
   rw [q8n_,e]
   rfl
  | regs p l h1 h2 =>
   rw [hin,Option.bind_some,if_pos (by rfl),hin2,Option.bind_some]
   refine (bK16 p _ l _).trans ?_
   rw [ql_ (by simp [two]),mul64 (by rw [q1_]; omega) (by rw [q1_]; omega),cvt8,numbers_eq (by simp [two]; omega),Option.bind_some]
   refine congrArg (fun x=>some (x,0,())) ?_
   have e:(2 * Int.ofNat l.length) % 256=2 * (l.length:Int):=by rw [q1_]; omega
   rw [e]
   rfl
  | swap p n t l h1 h2 h3 h4 =>
   rw [hin,Option.bind_some,if_pos (by rfl),hin2,Option.bind_some]
   refine (bK23 p n t l _).trans ?_
   rw [numbers_eq (by simp [two]),Option.bind_some,ql_ (by simp [two]),mul64 (by rw [q1_]; omega) (by rw [q1_]; omega),cvt8,numbers_eq (by simp [two]; omega),Option.bind_some]
   refine congrArg (fun x=>some (x,0,())) ?_
   have e:(2 * Int.ofNat l.length) % 256=2 * (l.length:Int):=by rw [q1_]; omega
   have e2:Int.ofNat (l.length % 65536)=(l.length:Int):=by rw [q1_]; omega
   rw [e,e2]
   simp [askB]
end Go.Proofs.Lx
end
section
namespace Pl
open Go Ev Sx
theorem zip_at {α β:Type} {s1:List α} {s2:List β} (h:s1.length=s2.length) {i:Nat} {x:α×β} (hx:(s1.zip s2)[i]? = some x):s1[i]? = some x.1∧s2[i]? = some x.2:=by
 rw [List.getElem?_zip_eq_some] at hx
 exact hx
theorem goL_eq {α:Type} [DecidableEq α] {ne:α->α->Bool} (hne:∀ a b,ne a b=!decide (a=b)):∀ (s1 s2:List α),s1.length=s2.length ->
  goL (R:=Bool×Unit) (fun (_:Unit) (x:α×α) k=>if ne x.1 x.2=true then some (false,()) else k ()) (fun _=>some (true,())) (s1.zip s2) ()=some (decide (s1=s2),())
 | [],[],_=>rfl
 | a::r,b::q,h=>by
  rw [List.zip_cons_cons]
  show (if ne a b=true then some (false,()) else goL _ _ (r.zip q) ())=_
  rw [hne]
  by_cases e:a=b
  ·subst e
   rw [if_neg (by simp),goL_eq hne r q (by simpa using h)]
   simp
  ·rw [if_pos (by simp [e])]
   simp [e]
end Pl
namespace Go.Proofs.Lx
open Go Ev Sx Pl
set_option maxRecDepth 100000
theorem equalW_eq {s1 s2:List Int} (h:s1.length≤1000000):q1o_ (s1,s2,())=some (decide (s1=s2),()):=by
 show q8s_ q5n_ s1 s2=_
 unfold q8s_
 by_cases hl:s1.length=s2.length
 ·rw [if_neg (by rw [qn_,q1_,q1_]; omega)]
  unfold q5n_
  have hz:(s1.zip s2).length=s1.length:=by rw [List.length_zip]; omega
  rw [<- goL_eq (ne:=nei) (fun a b=>by simp [nei]; rfl) s1 s2 hl]
  refine loop_go (xs:=s1.zip s2) (mk:=fun i _=>(s1,s2,Int.ofNat s1.length,(i:Int))) ?_ ?_ s1.length 0 () _ (by rw [hz]; omega) (by omega)
  ·intro self i acc x hx
   have hi:=(List.getElem?_eq_some_iff.1 hx).1
   obtain ⟨h1,h2⟩:=zip_at hl hx
   show q43_ _ s1 s2 (Int.ofNat s1.length) (i:Int)=_
   unfold q43_
   rw [if_pos (by rw [q9_,q1_]; omega),qp_ h1,Option.bind_some,qp_ h2,Option.bind_some,q1m_ (by omega)]
  ·intro self acc
   show q43_ _ s1 s2 (Int.ofNat s1.length) (((s1.zip s2).length:Nat):Int)=_
   unfold q43_
   rw [if_neg (by rw [q9_,q1_]; omega)]
 ·rw [if_pos (by rw [qn_,q1_,q1_]; omega),decide_eq_false (fun e=>hl (by rw [e]))]
theorem equalB_eq {s1 s2:List Bool} (h:s1.length≤1000000):q72_ (s1,s2,())=some (decide (s1=s2),()):=by
 show qa2_ q7a_ s1 s2=_
 unfold qa2_
 by_cases hl:s1.length=s2.length
 ·rw [if_neg (by rw [qn_,q1_,q1_]; omega)]
  unfold q7a_
  have hz:(s1.zip s2).length=s1.length:=by rw [List.length_zip]; omega
  rw [<- goL_eq (ne:=neb) (fun a b=>by cases a <;> cases b <;> rfl) s1 s2 hl]
  refine loop_go (xs:=s1.zip s2) (mk:=fun i _=>(s1,s2,Int.ofNat s1.length,(i:Int))) ?_ ?_ s1.length 0 () _ (by rw [hz]; omega) (by omega)
  ·intro self i acc x hx
   have hi:=(List.getElem?_eq_some_iff.1 hx).1
   obtain ⟨h1,h2⟩:=zip_at hl hx
   show q4w_ _ s1 s2 (Int.ofNat s1.length) (i:Int)=_
   unfold q4w_
   rw [if_pos (by rw [q9_,q1_]; omega),qp_ h1,Option.bind_some,qp_ h2,Option.bind_some,q1m_ (by omega)]
  ·intro self acc
   show q4w_ _ s1 s2 (Int.ofNat s1.length) (((s1.zip s2).length:Nat):Int)=_
   unfold q4w_
   rw [if_neg (by rw [q9_,q1_]; omega)]
 ·rw [if_pos (by rw [qn_,q1_,q1_]; omega),decide_eq_false (fun e=>hl (by rw [e]))]
abbrev BB:=Option (As [.bool])
theorem if_dec {p:Prop} [Decidable p] {b:Bool} {k:BB} {q:Bool} (h:b=true ↔ p) (hk:p->k=some (q,())):(if b=true then k else some (false,()))=some (decide p && q,()):=by
 by_cases hp:p
 ·rw [if_pos (h.2 hp),hk hp,decide_eq_true hp]; rfl
 ·rw [if_neg (fun e=>hp (h.1 e)),decide_eq_false hp]; rfl
instance decA5:DecidableEq (Int×Int×Int×List Int×List Bool):=inferInstance
instance decA:DecidableEq TA:=inferInstance
abbrev TP:=Int×Int×Int×Int×Bool×TA×Int×Int×Int
instance decP1:DecidableEq (TA×Int×Int×Int):=inferInstance
instance decP2:DecidableEq (Int×Bool×TA×Int×Int×Int):=inferInstance
instance decP:DecidableEq TP:=inferInstance
theorem eqb_iff {a b:Bool}:eqb a b=true ↔ a=b:=by cases a <;> cases b <;> decide
theorem q5d_ {s:List Int} (h:s.length≤1000000):qb_ (s,())=some (s,()):=by
 show q8p_ s=_
 unfold q8p_
 split
 ·rename_i h0
  rw [len0 (q6_.1 h0)]
  rfl
 ·rw [ql_ (by omega)]
  all_goals rfl
theorem cloneB_eq {s:List Bool} (h:s.length≤1000000):q59_ (s,())=some (s,()):=by
 show qa3_ s=_
 unfold qa3_
 split
 ·rename_i h0
  rw [len0 (q6_.1 h0)]
  rfl
 ·rw [ql_ (by omega)]
  all_goals rfl
def mbapV (tx unit:Int) (pdu:List Int):List Int:=[tx / 256 % 256,tx % 256,0,0,0,(pdu.length + 1:Nat) % 256,unit]++pdu
theorem q1j4_ {tx unit:Int} {pdu:List Int} (h1:1≤pdu.length) (h2:pdu.length≤253):qu3_ ((tx,unit,pdu),())=some (mbapV tx unit pdu,0,()):=by
 show qp0_ qp2_ (tx,unit,pdu)=_
 unfold qp0_
 rw [if_neg (by rw [q9_]; simp only [q1_]; omega)]
 show qpy_ (Int.ofNat pdu.length) (gt (Int.ofNat pdu.length) 253) (tx,unit,pdu)=_
 unfold qpy_
 dsimp only
 have e:add .i64 7 (Int.ofNat pdu.length)=((7 + pdu.length:Nat):Int):=addn64 (n:=7) (by omega)
 rw [if_neg (by rw [gt_iff,q1_]; omega),e,qa_ (capOk_0 (by omega)),qa_ (by rw [small_iff]; omega),ql_ (by omega),ql_ (by simp; omega),cvt8,cvt8,cvt8,shr8 _ _ (by decide),q1_,q1m_ (by omega)]
 rfl
theorem rtub_eq {unit:Int} {pdu:List Int} (hu:1≤unit) (hu2:unit≤247) (h1:1≤pdu.length) (h2:pdu.length≤253):qtp_ (unit,pdu,())=some (putV (unit::pdu),0,()):=by
 show qry_ qrj_ unit pdu=_
 unfold qry_
 have e:qdh_ (unit,())=some (true,()):=by
  show qcu_ unit=_
  unfold qcu_
  rw [if_pos (q1l_.2 hu),q13_.2 hu2]
 rw [e,Option.bind_some,if_neg (by decide),if_neg (by rw [q9_,q1_]; omega)]
 show qqm_ unit pdu (gt (Int.ofNat pdu.length) 253)=_
 unfold qqm_
 rw [if_neg (by rw [gt_iff,q1_]; omega),ql_ (by omega),put_eq (by simp; omega),Option.bind_some]
structure OkP (p:TP):Prop where
 u0:1≤p.1
 u1:p.1≤247
 l:p.2.1=1∨p.2.1=2
 t0:1≤p.2.2.1
 t1:p.2.2.1≤100000
 r0:0≤p.2.2.2.1
 r1:p.2.2.2.1≤1000
 a:OkA p.2.2.2.2.2.1
 x0:0≤p.2.2.2.2.2.2.1
 x1:p.2.2.2.2.2.2.1≤65535
def zA:TA:=(0,0,0,0,[],[])
end Go.Proofs.Lx
end
section
namespace Pl
open Go Ev Sx
theorem shl8 {y:Int} (h0:0≤y) (h1:y≤255):shl .u16 (cvt .u16 y) 8=256 * y:=by
 rw [cvt16]
 unfold shl
 have:min (8:Int).toNat IntKind.u16.bits=8:=by decide
 rw [this,wr16]
 omega
theorem bor_hi {a b:Int} (ha:0≤a) (ha2:a≤255) (hb:0≤b) (hb':b≤255):bor .u16 (256 * a) b=256 * a + b:=by
 obtain ⟨n,rfl⟩:=Int.eq_ofNat_of_zero_le ha
 obtain ⟨m,rfl⟩:=Int.eq_ofNat_of_zero_le hb
 unfold bor
 rw [wr16]
 have e1:(BitVec.ofInt IntKind.u16.bits (256 * (n:Int))).toNat=256 * n:=by
  rw [BitVec.toNat_ofInt]
  have:((2 ^ IntKind.u16.bits:Nat):Int)=65536:=by decide
  rw [this]
  omega
 have e2:(BitVec.ofInt IntKind.u16.bits (m:Int)).toNat=m:=by
  rw [BitVec.toNat_ofInt]
  have:((2 ^ IntKind.u16.bits:Nat):Int)=65536:=by decide
  rw [this]
  omega
 rw [BitVec.toNat_or,e1,e2]
 have e3:256 * n ||| m=256 * n + m:=by
  have:=Nat.two_pow_add_eq_or_of_lt (i:=8) (b:=m) (by omega) n
  rw [show (2:Nat) ^ 8=256 from rfl] at this
  exact this.symm
 rw [e3]
 omega
theorem bor_comm {a b:Int}:bor .u16 a b=bor .u16 b a:=by
 unfold bor
 rw [BitVec.or_comm]
def numV (y z:Int):Int:=bor .u16 (shl .u16 (cvt .u16 y) 8) (cvt .u16 z)
theorem numV_rng (y z:Int):0≤numV y z∧numV y z < 65536:=u16_rng _
theorem numV_eq {y z:Int} (h0:0≤y) (h1:y≤255) (h2:0≤z) (h3:z≤255):numV y z=256 * y + z:=by
 unfold numV
 rw [shl8 h0 h1,cvt16]
 have:z % 65536=z:=by omega
 rw [this,bor_hi h0 h1 h2 h3]
def listS (b:List Int):List Int:=(List.range (b.length / 2)).map fun i=>numV (b.getD (2 * i) 0) (b.getD (2 * i + 1) 0)
end Pl
namespace Go.Proofs.Lx
open Go Ev Sx Pl
set_option maxRecDepth 100000
abbrev TR:=Int×Int×List Bool×List Int×Int×Int
instance decR5:DecidableEq (Int×List Bool×List Int×Int×Int):=inferInstance
instance decR:DecidableEq TR:=inferInstance
def zR:TR:=(0,0,[],[],0,0)
structure SmR (r:TR):Prop where
 b:r.2.2.1.length≤100000
 w:r.2.2.2.1.length≤100000
theorem sameR_eq {a b:TR} (h:SmR a):q3m_ (a,b,())=some (decide (a=b),()):=by
 show qnc_ a b=_
 unfold qnc_
 have h1:=h.b
 have h2:=h.w
 rw [equalW_eq (by omega),Option.bind_some,equalB_eq (by omega),Option.bind_some]
 obtain ⟨a1,a2,a3,a4,a5,a6⟩:=a
 obtain ⟨b1,b2,b3,b4,b5,b6⟩:=b
 rw [if_dec (q6_) fun _=>if_dec (q6_) fun _=>if_dec (q6_) fun _=>if_dec (q6_) fun _=>if_dec (p:=a3=b3) (by simp) fun _=>rfl]
 refine congrArg (fun x=>some (x,())) ?_
 rw [Bool.eq_iff_iff]
 simp only [Bool.and_eq_true,decide_eq_true_eq,Prod.ext_iff]
 constructor
 ·rintro ⟨h1,h2,h3,h4,h5,h6⟩; exact ⟨h1,h2,h5,h6,h3,h4⟩
 ·rintro ⟨h1,h2,h5,h6,h3,h4⟩; exact ⟨h1,h2,h3,h4,h5,h6⟩
def exR (r:TR):Bool:=decide (r.1 < 128) && (decide (1≤r.2.1) && (decide (r.2.1≤4) && decide (r=(rem r.1 128,r.2.1,[],[],0,0))))
def bitR (r:TR):Bool:=decide (8≤r.2.2.1.length) && (decide (r.2.2.1.length≤2000) && (decide (r.2.2.1.length % 8=0) && decide (r=(r.1,0,r.2.2.1,[],0,0))))
def wordR (r:TR):Bool:=decide (1≤r.2.2.2.1.length) && (decide (r.2.2.2.1.length≤125) && decide (r=(r.1,0,[],r.2.2.2.1,0,0)))
def obR (r:TR):Bool:=decide (r.2.2.1.length=1) && decide (r=(r.1,0,r.2.2.1,[],r.2.2.2.2.1,0))
def owR (r:TR):Bool:=decide (r.2.2.2.1.length=1) && decide (r=(r.1,0,[],r.2.2.2.1,r.2.2.2.2.1,0))
def ctR (k:Int) (r:TR):Bool:=decide (1≤r.2.2.2.2.2) && (decide (r.2.2.2.2.2≤k) && decide (r=(r.1,0,[],[],r.2.2.2.2.1,r.2.2.2.2.2)))
theorem exR_eq {r:TR} (h:SmR r):q2y_ ((),r,())=some (exR r,()):=by
 show q8c_ () r=_
 unfold q8c_ exR
 have e:qe_ (r.1,r.2.1,())=some ((rem r.1 128,r.2.1,[],[],0,0),()):=rfl
 rw [e,Option.bind_some,sameR_eq h,Option.bind_some]
 rw [if_dec (q9_) fun _=>if_dec (q1l_) fun _=>if_dec (q13_) fun _=>rfl]
theorem bitR_eq {r:TR} (h:SmR r):q1u_ ((),r,())=some (bitR r,()):=by
 show q9e_ () r=_
 unfold q9e_ bitR
 rw [sameR_eq h,Option.bind_some]
 rw [if_dec (p:=8≤r.2.2.1.length) (by rw [q1l_,q1_]; omega) fun _=>if_dec (p:=r.2.2.1.length≤2000) (by rw [q13_,q1_]; omega) fun _=>if_dec (p:=r.2.2.1.length % 8=0) (by rw [q6_,q1_,show rem (r.2.2.1.length:Int) 8=((r.2.2.1.length % 8:Nat):Int) from rem_nat (d:=8)]; omega) fun _=>rfl]
theorem wordR_eq {r:TR} (h:SmR r):q15_ ((),r,())=some (wordR r,()):=by
 show q8v_ () r=_
 unfold q8v_ wordR
 rw [sameR_eq h,Option.bind_some]
 rw [if_dec (p:=1≤r.2.2.2.1.length) (by rw [q1l_,q1_]; omega) fun _=>if_dec (p:=r.2.2.2.1.length≤125) (by rw [q13_,q1_]; omega) fun _=>rfl]
theorem obR_eq {r:TR} (h:SmR r):q42_ ((),r,())=some (obR r,()):=by
 show qa9_ () r=_
 unfold qa9_ obR
 rw [sameR_eq h,Option.bind_some]
 rw [if_dec (p:=r.2.2.1.length=1) (by rw [q6_,q1_]; omega) fun _=>rfl]
theorem owR_eq {r:TR} (h:SmR r):q3k_ ((),r,())=some (owR r,()):=by
 show q97_ () r=_
 unfold q97_ owR
 rw [sameR_eq h,Option.bind_some]
 rw [if_dec (p:=r.2.2.2.1.length=1) (by rw [q6_,q1_]; omega) fun _=>rfl]
theorem ctR_eq {r:TR} {k:Int} (h:SmR r):q2m_ (k,r,())=some (ctR k r,()):=by
 show qar_ k r=_
 unfold qar_ ctR
 rw [sameR_eq h,Option.bind_some]
 rw [if_dec (q1l_) fun _=>if_dec (q13_) fun _=>rfl]
def rightR (r:TR):Bool:=if nei r.2.1 0=true then exR r else if eqi r.1 1=true then bitR r else if eqi r.1 2=true then bitR r else if eqi r.1 3=true then wordR r else if eqi r.1 4=true then wordR r else if eqi r.1 23=true then wordR r else
 if eqi r.1 5=true then obR r else if eqi r.1 6=true then owR r else if eqi r.1 15=true then ctR 1968 r else if eqi r.1 16=true then ctR 123 r else false
def exB (r:TR):List Int:=[add .u8 r.1 128,r.2.1]
def bitB (r:TR):List Int:=r.1::(packN r.2.2.1.length:Int) % 256::packS r.2.2.1
def wordB (r:TR):List Int:=[r.1,2 * (r.2.2.2.1.length:Int) % 256]++r.2.2.2.1.flatMap two
def obB (r:TR):List Int:=r.1::two r.2.2.2.2.1++two (if r.2.2.1.headD false=true then 65280 else 0)
def owB (r:TR):List Int:=r.1::two r.2.2.2.2.1++two (r.2.2.2.1.headD 0)
def ctB (r:TR):List Int:=r.1::two r.2.2.2.2.1++two r.2.2.2.2.2
theorem rnumbers_eq {l out:List Int} (h:out.length + 2 * l.length≤1000000):q3n_ (l,out,())=some (out++l.flatMap two,()):=by
 show qgh_ qbw_ l out=_
 unfold qgh_ qbw_
 refine (loop_idx (xs:=l) (mk:=fun i acc=>(l,Int.ofNat l.length,(i:Int),acc)) (stp:=fun o y=>o++two y) (fin:=fun acc=>some (acc,())) (fun i acc=>acc.length≤out.length + 2 * i) ?_ ?_ ?_ l.length 0 out _ (by omega) (by omega) (by omega)).trans ?_
 ·intro self i acc x hx hI
  have hi:=(List.getElem?_eq_some_iff.1 hx).1
  show q90_ _ l (Int.ofNat l.length) (i:Int) acc=_
  unfold q90_
  rw [if_pos (by rw [q9_,q1_]; omega),qp_ hx,Option.bind_some,ql_ (by omega),two_eq,q1m_ (by omega)]
 ·intro i acc x hx hI
  simp [two]
  omega
 ·intro self acc _
  show q90_ _ l (Int.ofNat l.length) (l.length:Int) acc=_
  unfold q90_
  rw [if_neg (by rw [q9_,q1_]; omega)]
 ·rw [List.drop_zero,foldl_app]
theorem exB_eq (r:TR):q3p_ ((),r,())=some (exB r,()):=rfl
theorem bitB_eq {r:TR} (h:SmR r):q2x_ ((),r,())=some (bitB r,()):=by
 show q9b_ () r=_
 unfold q9b_
 have hb:=h.b
 rw [pack_eq hb,Option.bind_some,ql_ (by rw [q8n_]; unfold packN; omega),q8n_]
 rfl
theorem wordB_eq {r:TR} (h:SmR r):q1p_ ((),r,())=some (wordB r,()):=by
 show q8t_ () r=_
 unfold q8t_
 have hw:=h.w
 rw [mul64 (by rw [q1_]; omega) (by rw [q1_]; omega),cvt8,rnumbers_eq (by simp; omega),Option.bind_some]
 rfl
theorem obB_eq {r:TR} (h:obR r=true):q5a_ ((),r,())=some (obB r,()):=by
 unfold obR at h
 rw [Bool.and_eq_true] at h
 obtain ⟨x,hx⟩:=List.length_eq_one_iff.1 (of_decide_eq_true h.1)
 show qa7_ q51_ () r=_
 unfold qa7_
 rw [hx,q2s_,Option.bind_some]
 have key:∀ (v:Int) (r2:Int) (r3:List Bool) (r4:List Int) (r6:Int),q51_ v r.1 r2 r3 r4 r.2.2.2.2.1 r6=some (r.1::two r.2.2.2.2.1++two v,()):=fun v r2 r3 r4 r6=>by
  unfold q51_ qeu_
  rw [rnumbers_eq (by simp),Option.bind_some]
  simp
 unfold obB
 rw [hx]
 cases x with
 | true=>rw [if_pos rfl,key]; rfl
 | false=>rw [if_neg (by decide),key]; rfl
theorem amb_same {R:Type} {eq:R->R->Bool} (h:∀ x,eq x x=true) (o:R):amb eq [some o,some o]=some o:=by
 show (if eq o o=true then some o else none)=_
 rw [if_pos (h o)]
theorem eqAs_refl:∀ (rs:List Ty) (x:As rs),eqAs rs x x=true
 | [],_=>rfl
 | t::r,x=>by
  show (eqV t x.1 x.1 && eqAs r x.2 x.2)=true
  rw [eqV_refl,eqAs_refl r]
  rfl
theorem owB_eq {r:TR} (h:owR r=true):q4r_ ((),r,())=some (owB r,()):=by
 unfold owR at h
 rw [Bool.and_eq_true] at h
 obtain ⟨x,hx⟩:=List.length_eq_one_iff.1 (of_decide_eq_true h.1)
 show q99_ () r=_
 unfold q99_
 rw [hx,q2s_,Option.bind_some,rnumbers_eq (by simp),Option.bind_some,amb_same (eqAs_refl _)]
 unfold owB
 rw [hx]
 simp
theorem ctB_eq (k:Int) (r:TR):q3l_ (k,r,())=some (ctB r,()):=by
 show qam_ k r=_
 unfold qam_
 rw [rnumbers_eq (by simp),Option.bind_some]
 simp [ctB]
end Go.Proofs.Lx
end
section
namespace Go.Proofs.Lx
open Go Ev Sx Pl
set_option maxRecDepth 100000
theorem listS_len (b:List Int):(listS b).length=b.length / 2:=by simp [listS]
theorem unpackS_len (b:List Int):(unpackS b).length=8 * b.length:=by simp [unpackS]
theorem cut_tail {α:Type} (x:α) (r:List α):cut (x::r) 1 (Int.ofNat (x::r).length)=some r:=cut_one x r
theorem at_one {α:Type} (p q:α) (r:List α):at? (p::q::r) 1=some q:=rfl
end Go.Proofs.Lx
end
section
namespace Go.Proofs.Lx
open Go Ev Sx Pl
set_option maxRecDepth 100000
def cutV (b:List Int):List Int×Int :=
 if b.length < 2 then ([],10) else
 if sumV (b.take (b.length - 2))=numV (b.getD (b.length - 1) 0) (b.getD (b.length - 2) 0) then (b.take (b.length - 2),0) else ([],11)
theorem fill_all {α:Type} {z:α} {n:Nat} {y:List α} (h:y.length=n):List.take (Int.toNat (Int.ofNat (List.length (List.replicate n z)))) y++List.drop (0 + List.length (List.take (Int.toNat (Int.ofNat (List.length (List.replicate n z)))) y)) (List.replicate n z)=y:=by
 rw [List.length_replicate,q1_,Int.toNat_natCast,List.take_of_length_le (by omega),List.drop_of_length_le (by simp; omega)]
 simp
theorem fill_take {α:Type} {z:α} {n:Nat} {y:List α} (h:n≤y.length):List.take (Int.toNat (Int.ofNat (List.length (List.replicate n z)))) y++List.drop (0 + List.length (List.take (Int.toNat (Int.ofNat (List.length (List.replicate n z)))) y)) (List.replicate n z)=y.take n:=by
 rw [List.length_replicate,q1_,Int.toNat_natCast,List.drop_of_length_le (by simp; omega)]
 simp
theorem ccut_eq {b:List Int} (h:b.length≤100000):qxv_ (b,())=some ((cutV b).1,(cutV b).2,()):=by
 show qul_ b=_
 unfold qul_ cutV
 by_cases h2:b.length < 2
 ·rw [if_pos (by rw [q9_,q1_]; omega),if_pos h2]
 ·have e1:sub .i64 (Int.ofNat b.length) 2=((b.length - 2:Nat):Int):=by
   rw [sub64 (by rw [q1_]; omega) (by rw [q1_]; omega),q1_]
   omega
  have g1:b[b.length - 2]? = some (b[b.length - 2]'(by omega)):=List.getElem?_eq_getElem (by omega)
  have g2:b[b.length - 2 + 1]? = some (b[b.length - 2 + 1]'(by omega)):=List.getElem?_eq_getElem (by omega)
  rw [if_neg (by rw [q9_,q1_]; omega),if_neg h2,e1,cut_to (by omega),Option.bind_some,q1m_ (by omega),qp_ g1,Option.bind_some,qp_ g2,Option.bind_some,sum_eq (by simp; omega),Option.bind_some]
  have e2:bor .u16 (cvt .u16 (b[b.length - 2]'(by omega))) (shl .u16 (cvt .u16 (b[b.length - 2 + 1]'(by omega))) 8)=numV (b.getD (b.length - 1) 0) (b.getD (b.length - 2) 0):=by
   rw [bor_comm]
   have e3:b.length - 1=b.length - 2 + 1:=by omega
   rw [e3,List.getD_eq_getElem?_getD,List.getD_eq_getElem?_getD,g1,g2]
   rfl
  rw [e2]
  by_cases hs:sumV (b.take (b.length - 2))=numV (b.getD (b.length - 1) 0) (b.getD (b.length - 2) 0)
  ·rw [if_neg (by rw [qn_]; exact fun e=>e hs),if_pos hs,qa_ (by rw [q1l_]; omega),qa_ (capOk_self _),Int.toNat_natCast,ql_ (by omega),qa_ (by rw [q13_]; simp only [List.length_replicate,q1_]; omega),fill_take (by omega)]
  ·rw [if_pos (by rw [qn_]; exact hs),if_neg hs]
theorem isUnit_eq (u:Int):qdh_ (u,())=some (decide (1≤u) && decide (u≤247),()):=by
 show qcu_ u=_
 unfold qcu_
 rw [if_dec (q1l_) fun _=>rfl]
 rfl
def rtuV (b:List Int):Int×List Int×Int :=
 if b.length < 4∨256 < b.length then (0,[],10) else
 if (cutV b).2 ≠ 0 then (0,[],(cutV b).2) else
 match (cutV b).1 with
 | []=>(0,[],10)
 | x::r=>if (decide (1≤x) && decide (x≤247))=true then (x,r,0) else (0,[],10)
theorem cutV_len {b:List Int} (h:(cutV b).2=0):(cutV b).1.length=b.length - 2:=by
 unfold cutV at h ⊢
 split
 ·rename_i h1; rw [if_pos h1] at h; cases h
 ·rename_i h1
  rw [if_neg h1] at h
  split
  ·simp
  ·rename_i h2; rw [if_neg h2] at h; cases h
theorem rtup_eq (b:List Int):qu6_ (b,())=some ((rtuV b).1,(rtuV b).2.1,(rtuV b).2.2,()):=by
 show qpb_ qiz_ b=_
 have K:∀ t,qiz_ b t=qqf_ b t:=fun _=>rfl
 unfold qpb_ rtuV
 rw [K,K]
 by_cases h:b.length < 4
 ·rw [if_pos (by rw [q9_,q1_]; omega),if_pos (.inl h)]
  rfl
 ·rw [if_neg (by rw [q9_,q1_]; omega)]
  unfold qqf_
  by_cases h2:256 < b.length
  ·rw [if_pos (by rw [gt_iff,q1_]; omega),if_pos (.inr h2)]
  ·rw [if_neg (by rw [gt_iff,q1_]; omega),if_neg (by omega),ccut_eq (by omega),Option.bind_some]
   dsimp only
   by_cases h3:(cutV b).2=0
   ·rw [if_neg (by rw [qn_]; exact fun e=>e h3),if_neg (fun e=>e h3)]
    have hl:=cutV_len h3
    match hc:(cutV b).1 with
    | []=>rw [hc] at hl; simp at hl; omega
    | x::r =>
     rw [q2s_,Option.bind_some,isUnit_eq,Option.bind_some,Option.bind_some]
     show _=some ((if (decide (1≤x) && decide (x≤247))=true then (x,r,0) else (0,[],10)).1,(if (decide (1≤x) && decide (x≤247))=true then (x,r,0) else (0,[],10)).2.1,(if (decide (1≤x) && decide (x≤247))=true then (x,r,0) else (0,[],10)).2.2,())
     cases decide (1≤x) && decide (x≤247) with
     | false=>rfl
     | true =>
      have e:cut (x::r) 1 (Int.ofNat (x::r).length)=some r:=cut_one x r
      rw [if_neg (by decide),e,Option.bind_some,qa_ (by rw [q13_]; omega),qa_ (by rw [q13_]; omega),if_pos rfl]
   ·rw [if_pos (by rw [qn_]; exact h3),if_pos h3]
def beginsV (b2 b3 b4 b5:Int):Bool:=!nei b2 0 && (!nei b3 0 && (!nei b4 0 && (!lt b5 2 && !gt (cvt .i64 b5) 254)))
theorem bstep {self:List Int->Int->Option (As [.bool])} {b:List Int} {i y:Int} (hi:i < 5) (hl:i < Int.ofNat b.length) (hy:at? b i=some y) :
  q77_ (q5g_ self) self b i=if nei y 0=true then some (false,()) else self b (add .i64 i 1):=by
 have e5:eqi i 5=false:=by
  rw [<- Bool.not_eq_true,q6_]
  omega
 unfold q77_
 rw [if_pos (by rw [q9_]; omega),q9_.2 hl]
 unfold q5g_ qjp_
 rw [if_pos rfl,if_pos (q9_.2 hi),hy,Option.bind_some]
 unfold qg3_ qkk_
 cases nei y 0 with
 | true=>rfl
 | false =>
  simp only [e5,Bool.false_eq_true,if_false]
  rfl
theorem bstep5 {self:List Int->Int->Option (As [.bool])} {b:List Int} {y:Int} (hl:5 < Int.ofNat b.length) (hy:at? b 5=some y) :
  q77_ (q5g_ self) self b 5=if lt y 2=true then some (false,()) else if gt (cvt .i64 y) 254=true then some (false,()) else self b 6:=by
 unfold q77_
 rw [if_pos (by decide),q9_.2 hl]
 unfold q5g_ qjp_
 rw [if_pos rfl,if_neg (by decide)]
 unfold qg3_ qkk_
 rw [if_neg (by decide),if_pos (by decide),hy,Option.bind_some,Option.bind_some]
 cases lt y 2 with
 | true=>rfl
 | false=>cases gt (cvt .i64 y) 254 <;> rfl
theorem bstep6 {self:List Int->Int->Option (As [.bool])} {b:List Int}:q77_ (q5g_ self) self b 6=some (true,()):=rfl
theorem begins_eq (b0 b1 b2 b3 b4 b5 b6 b7:Int) (r:List Int):qld_ (b0::b1::b2::b3::b4::b5::b6::b7::r,())=some (beginsV b2 b3 b4 b5,()):=by
 show qkn_ qf6_ _=_
 unfold qkn_ qf6_ beginsV
 have hlen:(Int.ofNat (b0::b1::b2::b3::b4::b5::b6::b7::r).length)=(r.length:Int) + 8:=by rw [q1_]; simp; omega
 generalize hb:b0::b1::b2::b3::b4::b5::b6::b7::r=b at hlen ⊢
 have h2:at? b 2=some b2:=by rw [<- hb]; rfl
 have h3:at? b 3=some b3:=by rw [<- hb]; rfl
 have h4:at? b 4=some b4:=by rw [<- hb]; rfl
 have h5:at? b 5=some b5:=by rw [<- hb]; rfl
 have key:∀ n:Nat,loopF (fun (self:(List Int)×(Int)->Option (As [.bool])) (s:(List Int)×(Int))=>q77_ (q5g_ (fun b i=>self (b,i))) (fun b i=>self (b,i)) s.1 s.2) (n + 5) (b,2) =
   some (!nei b2 0 && (!nei b3 0 && (!nei b4 0 && (!lt b5 2 && !gt (cvt .i64 b5) 254))),()):=by
  intro n
  rw [q29_]
  refine (bstep (by decide) (by rw [hlen]; omega) h2).trans ?_
  cases nei b2 0 with
  | true=>rfl
  | false =>
   rw [if_neg (by decide),q29_]
   refine (bstep (i:=3) (by decide) (by rw [hlen]; omega) h3).trans ?_
   cases nei b3 0 with
   | true=>rfl
   | false =>
    rw [if_neg (by decide),q29_]
    refine (bstep (i:=4) (by decide) (by rw [hlen]; omega) h4).trans ?_
    cases nei b4 0 with
    | true=>rfl
    | false =>
     rw [if_neg (by decide),q29_]
     refine (bstep5 (by rw [hlen]; omega) h5).trans ?_
     cases lt b5 2 with
     | true=>rfl
     | false =>
      cases gt (cvt .i64 b5) 254 with
      | true=>rfl
      | false =>
       rw [if_neg (by decide),if_neg (by decide),q29_]
       exact bstep6
 exact key 18446744073709551611
def zM:Int×Int×List Int:=(0,0,[])
def mbapP:List Int->(Int×Int×List Int)×Int
 | b0::b1::b2::b3::b4::b5::b6::r =>
  if r=[] then (zM,10) else if beginsV b2 b3 b4 b5=true then if (r.length:Int) + 1=b5 then ((numV b0 b1,b6,r),0) else (zM,10) else (zM,10)
 | _=>(zM,10)
theorem mparse_eq {b:List Int} (hl:b.length≤100000) (hb:∀ x ∈ b,0≤x∧x≤255):qr4_ (b,())=some ((mbapP b).1,(mbapP b).2,()):=by
 show qmj_ qhk_ b=_
 unfold qmj_
 have short:b.length≤7->qjz_ (b,())=some (zM,0,()):=fun h=>by
  show qcs_ qh9_ b=_
  unfold qcs_
  rw [if_pos (by rw [q13_,q1_]; omega)]
  rfl
 have shortP:b.length≤7->mbapP b=(zM,10):=fun h=>by
  match b with
  | [] | [_] | [_,_] | [_,_,_] | [_,_,_,_] | [_,_,_,_,_] | [_,_,_,_,_,_]=>rfl
  | [_,_,_,_,_,_,_]=>rfl
  | _::_::_::_::_::_::_::_::_=>exact absurd h (by simp)
 by_cases hs:b.length≤7
 ·rw [short hs,shortP hs]
  rfl
 ·match b with
  | [] | [_] | [_,_] | [_,_,_] | [_,_,_,_] | [_,_,_,_,_] | [_,_,_,_,_,_]=>simp at hs
  | [_,_,_,_,_,_,_]=>simp at hs
  | b0::b1::b2::b3::b4::b5::b6::b7::r =>
   have h5:=hb b5 (by simp)
   have hlr:r.length≤100000:=by simp at hl; omega
   have e5:cvt .i64 b5=b5:=cvt64 (by omega) (by omega)
   have hF:qjz_ (b0::b1::b2::b3::b4::b5::b6::b7::r,())=if beginsV b2 b3 b4 b5=true then if (r.length:Int) + 2 < b5 then some (zM,0,()) else some ((numV b0 b1,b6,(b7::r).take (b5 - 1).toNat),6 + b5,()) else some (zM,0,()):=by
    show qcs_ qh9_ _=_
    unfold qcs_
    rw [if_neg (by rw [q13_,q1_]; simp; omega),begins_eq,Option.bind_some]
    cases hbg:beginsV b2 b3 b4 b5 with
    | false=>rfl
    | true =>
     rw [if_pos rfl]
     have h52:2≤b5:=by
      unfold beginsV at hbg
      simp only [Bool.and_eq_true,Bool.not_eq_true',<- Bool.not_eq_true] at hbg
      have:=hbg.2.2.2.1
      rw [q9_] at this
      omega
     show qn0_ _ false 0 0=_
     unfold qn0_
     have g5:at? (b0::b1::b2::b3::b4::b5::b6::b7::r) 5=some b5:=rfl
     have ea:add .i64 6 (cvt .i64 b5)=6 + b5:=by rw [e5,add64 (by omega) (by omega)]
     rw [if_neg (by decide),g5,Option.bind_some,ea]
     by_cases hlt:(r.length:Int) + 2 < b5
     ·rw [if_pos (by rw [q9_,q1_]; simp; omega),if_pos hlt]
      rfl
     ·have es:sub .i64 (6 + b5) 7=(((b5 - 1).toNat:Nat):Int):=by rw [sub64 (by omega) (by omega)]; omega
      have ec:cut (b0::b1::b2::b3::b4::b5::b6::b7::r) 7 (6 + b5)=some ((b7::r).take (b5 - 1).toNat):=by
       have:=cut_nat (xs:=b0::b1::b2::b3::b4::b5::b6::b7::r) (i:=7) (j:=7 + (b5 - 1).toNat) (by omega) (by simp; omega)
       have e:((7 + (b5 - 1).toNat:Nat):Int)=6 + b5:=by omega
       rw [e,Nat.add_comm 7 (b5 - 1).toNat] at this
       exact this
      rw [if_neg (by rw [q9_,q1_]; simp; omega),if_neg hlt,es,qa_ (by rw [q1l_]; omega),qa_ (capOk_self _),Int.toNat_natCast,ql_ (by omega),ec,Option.bind_some,qa_ (by rw [q13_]; simp only [List.length_replicate,q1_]; omega)]
      have hlen:((b7::r).take (b5 - 1).toNat).length=(b5 - 1).toNat:=by rw [List.length_take,List.length_cons]; omega
      rw [fill_all hlen]
      rfl
   rw [hF]
   have K:∀ (t:Bool) (y1 y2:Int) (y3:List Int),qhk_ t 0 0 (y1,y2,y3)=if t=true then some (zM,10,()) else some ((y1,y2,y3),0,()):=fun t y1 y2 y3=>rfl
   show _=some ((mbapP (b0::b1::b2::b3::b4::b5::b6::b7::r)).1,(mbapP (b0::b1::b2::b3::b4::b5::b6::b7::r)).2,())
   unfold mbapP
   dsimp only
   have hne:¬ (b7::r=[]):=by simp
   rw [if_neg hne]
   cases hbg:beginsV b2 b3 b4 b5 with
   | false=>rfl
   | true =>
    simp only [if_true]
    have h52:2≤b5:=by
     unfold beginsV at hbg
     simp only [Bool.and_eq_true,Bool.not_eq_true',<- Bool.not_eq_true] at hbg
     have:=hbg.2.2.2.1
     rw [q9_] at this
     omega
    by_cases hlt:(r.length:Int) + 2 < b5
    ·have hq:¬ (((b7::r).length:Int) + 1=b5):=by simp; omega
     rw [if_pos hlt,if_neg hq]
     rfl
    ·rw [if_neg hlt,Option.bind_some]
     dsimp only
     rw [if_neg (by rw [q6_]; omega),K]
     by_cases he:(r.length:Int) + 2=b5
     ·have e1:nei (6 + b5) (Int.ofNat (b0::b1::b2::b3::b4::b5::b6::b7::r).length)=false:=by
       rw [<- Bool.not_eq_true,qn_,q1_]
       simp
       omega
      have hq:((b7::r).length:Int) + 1=b5:=by simp; omega
      rw [e1,if_pos hq]
      have e2:(b7::r).take (b5 - 1).toNat=b7::r:=List.take_of_length_le (by simp; omega)
      rw [e2]
      rfl
     ·have hq:¬ (((b7::r).length:Int) + 1=b5):=by simp; omega
      rw [if_neg hq,if_pos (by rw [qn_,q1_]; simp; omega)]
end Go.Proofs.Lx
end
section
namespace Go.Proofs.Lx
open Go Ev Sx Pl
set_option maxRecDepth 100000
theorem goL_index (v:Bool):∀ (s:List Bool) (n:Nat),∃ k:Int,goL (R:=Int×Unit) (fun (_:Unit) (x:Bool×Nat) k=>if eqb v x.1=true then some ((x.2:Int),()) else k ()) (fun _=>some (-1,())) (s.zipIdx n) ()=some (k,())∧(0≤k ↔ v ∈ s)
 | [],n=>⟨-1,rfl,by simp⟩
 | a::r,n=>by
  rw [List.zipIdx_cons]
  obtain ⟨k,h1,h2⟩:=goL_index v r (n + 1)
  by_cases e:v=a
  ·refine ⟨(n:Int),?_,by simp [e]⟩
   show (if eqb v a=true then _ else _)=_
   rw [if_pos (eqb_iff.2 e)]
  ·refine ⟨k,?_,?_⟩
   ·show (if eqb v a=true then _ else _)=_
    rw [if_neg (fun h=>e (eqb_iff.1 h))]
    exact h1
   ·rw [h2]
    simp [e]
theorem contains_eq {s:List Bool} (v:Bool) (h:s.length≤1000000):q52_ (s,v,())=some (decide (v ∈ s),()):=by
 obtain ⟨k,h1,h2⟩:=goL_index v s 0
 have e:q9s_ (s,v,())=some (k,()):=by
  rw [<- h1]
  show qa5_ q79_ s v=_
  unfold qa5_ q79_
  have hz:(s.zipIdx 0).length=s.length:=by simp
  refine loop_go (xs:=s.zipIdx 0) (mk:=fun i _=>(s,v,Int.ofNat s.length,(i:Int))) ?_ ?_ s.length 0 () _ (by rw [hz]; omega) (by omega)
  ·intro self i acc x hx
   have hi:=(List.getElem?_eq_some_iff.1 hx).1
   rw [hz] at hi
   have hx2:s[i]? = some x.1∧x.2=i:=by
    rw [List.getElem?_zipIdx] at hx
    obtain ⟨y,hy,rfl⟩:=Option.map_eq_some_iff.1 hx
    exact ⟨hy,by simp⟩
   show q4v_ _ s v (Int.ofNat s.length) (i:Int)=_
   unfold q4v_
   rw [if_pos (by rw [q9_,q1_]; omega),qp_ hx2.1,Option.bind_some,q1m_ (by omega),hx2.2]
  ·intro self acc
   show q4v_ _ s v (Int.ofNat s.length) (((s.zipIdx 0).length:Nat):Int)=_
   unfold q4v_
   rw [hz,if_neg (by rw [q9_,q1_]; omega)]
 show q85_ s v=_
 unfold q85_
 rw [e,Option.bind_some]
 refine congrArg (fun x=>some (x,())) ?_
 rw [ge_dec]
 by_cases hv:v ∈ s
 ·rw [decide_eq_true hv,decide_eq_true (h2.2 hv)]
 ·rw [decide_eq_false hv,decide_eq_false (fun h=>hv (h2.1 h))]
end Go.Proofs.Lx
end
section
namespace Go.Proofs.Lx
open Go Ev Sx Pl
set_option maxRecDepth 100000
end Go.Proofs.Lx
end
section
namespace Pl
open Go Ev Sx
theorem ok8 {x:Int} (h:(Lit.int .u8 x).wf=true):0≤x∧x≤255:=by
 simp [Lit.wf] at h
 have e1:IntKind.u8.min=0:=rfl
 have e2:IntKind.u8.max=255:=rfl
 omega
theorem ok16 {x:Int} (h:(Lit.int .u16 x).wf=true):0≤x∧x≤65535:=by
 simp [Lit.wf] at h
 have e1:IntKind.u16.min=0:=rfl
 have e2:IntKind.u16.max=65535:=rfl
 omega
end Pl
namespace Go.Proofs.Lx
open Go Ev Sx Pl
set_option maxRecDepth 100000
def fewV (ws:List Int) (bs:List Bool):Bool:=decide (ws.length≤200) && decide (bs.length≤2100)
theorem few_eq (ws:List Int) (bs:List Bool):qyg_ (ws,bs,())=some (fewV ws bs,()):=by
 show qv0_ ws bs=_
 unfold qv0_ fewV
 by_cases h:ws.length≤200
 ·rw [if_pos (by rw [q13_,q1_]; omega),decide_eq_true h,Bool.true_and,le_dec]
  refine congrArg (fun x=>some (x,())) ?_
  rw [q1_]
  by_cases h2:bs.length≤2100
  ·rw [decide_eq_true h2,decide_eq_true (by omega)]
  ·rw [decide_eq_false h2,decide_eq_false (by omega)]
 ·rw [if_neg (by rw [q13_,q1_]; omega),decide_eq_false h]
  rfl
theorem few_iff {ws:List Int} {bs:List Bool}:fewV ws bs=true ↔ ws.length≤200∧bs.length≤2100:=by simp [fewV]
end Go.Proofs.Lx
end
section
namespace Pl
open Go Ev Sx
theorem listS_two (y z:Int) (r:List Int):listS (y::z::r)=numV y z::listS r:=by
 unfold listS
 have e:(y::z::r).length / 2=r.length / 2 + 1:=by simp; omega
 rw [e,List.range_succ_eq_map,List.map_cons,List.map_map]
 congr 1
end Pl
namespace Go.Proofs.Lx
open Go Ev Sx Pl
set_option maxRecDepth 100000
theorem numV_two {x:Int} (h0:0≤x) (h1:x≤65535):numV (x / 256 % 256) (x % 256)=x:=by
 rw [numV_eq (by omega) (by omega) (by omega) (by omega)]
 omega
theorem listS_of_two {x:Int} (h0:0≤x) (h1:x≤65535) (r:List Int):listS (x / 256 % 256::x % 256::r)=x::listS r:=by rw [listS_two,numV_two h0 h1]
theorem listS_flat:∀ {l:List Int},(∀ x ∈ l,0≤x∧x≤65535)->listS (l.flatMap two)=l
 | [],_=>rfl
 | x::r,h=>by
  rw [List.flatMap_cons]
  show listS (x / 256 % 256::x % 256::r.flatMap two)=_
  have hx:=h x (by simp)
  rw [listS_of_two hx.1 hx.2,listS_flat fun y hy=>h y (List.mem_cons_of_mem _ hy)]
theorem byteV_256 {t:List Bool} (h:t.length≤8):0≤byteV t∧byteV t < 256:=by
 have h1:=byteV_rng t
 have h2:2 ^ t.length≤2 ^ 8:=Nat.pow_le_pow_right (by decide) h
 have h3:((2 ^ t.length:Nat):Int)=(2:Int) ^ t.length:=by norm_cast
 have h4:(2:Nat) ^ 8=256:=by decide
 exact ⟨h1.1,by omega⟩
theorem unpack_pack (l:List Bool):(unpackS (packS l)).take l.length=l:=by
 apply List.ext_getElem?
 intro i
 rw [List.getElem?_take]
 by_cases hi:i < l.length
 ·rw [if_pos hi]
  unfold unpackS
  have hm:i < 8 * (packS l).length:=by rw [q8n_]; unfold packN; omega
  rw [List.getElem?_map,List.getElem?_range hm,Option.map_some]
  have hq:i / 8 < packN l.length:=by unfold packN; omega
  have e:(packS l).getD (i / 8) 0=byteV ((l.drop (8 * (i / 8))).take 8):=by
   unfold packS
   rw [List.getD_eq_getElem?_getD,List.getElem?_map,List.getElem?_range hq]
   rfl
  have hr:=byteV_256 (t:=(l.drop (8 * (i / 8))).take 8) (by simp; omega)
  rw [e,bitV_eq hr.1 hr.2 (Nat.mod_lt _ (by decide)),byteV_bit]
  have e2:((l.drop (8 * (i / 8))).take 8).getD (i % 8) false=l[i]:=by
   rw [List.getD_eq_getElem?_getD,List.getElem?_take,if_pos (Nat.mod_lt _ (by decide)),List.getElem?_drop]
   have:8 * (i / 8) + i % 8=i:=by omega
   rw [this,List.getElem?_eq_getElem hi]
   rfl
  rw [e2,List.getElem?_eq_getElem hi]
  cases l[i] <;> rfl
 ·rw [if_neg hi,List.getElem?_eq_none (by omega)]
abbrev tup (p:TP):TP:=(p.1,p.2.1,p.2.2.1,p.2.2.2.1,p.2.2.2.2.1,(p.2.2.2.2.2.1.1,p.2.2.2.2.2.1.2.1,p.2.2.2.2.2.1.2.2.1,p.2.2.2.2.2.1.2.2.2.1,p.2.2.2.2.2.1.2.2.2.2.1,p.2.2.2.2.2.1.2.2.2.2.2),p.2.2.2.2.2.2.1,p.2.2.2.2.2.2.2.1,p.2.2.2.2.2.2.2.2)
theorem beg_rng {link timeout retries:Int} (h1:0≤link) (h2:0≤timeout) (h3:0≤retries):(add .u8 1 (rem link 2)=1 + link % 2)∧(add .i64 1 (cvt .i64 (rem timeout 20))=1 + timeout % 20)∧cvt .i64 (rem retries 6)=retries % 6:=by
 have e1:rem link 2=link % 2:=by unfold rem; exact Int.tmod_eq_emod_of_nonneg h1
 have e2:rem timeout 20=timeout % 20:=by unfold rem; exact Int.tmod_eq_emod_of_nonneg h2
 have e3:rem retries 6=retries % 6:=by unfold rem; exact Int.tmod_eq_emod_of_nonneg h3
 rw [e1,e2,e3,cvt64 (by omega) (by omega),cvt64 (by omega) (by omega),add64 (by omega) (by omega)]
 refine ⟨?_,rfl,rfl⟩
 unfold add
 rw [wu8 (by omega) (by omega)]
theorem q31_ (x:Int):∀ y ∈ two x,0≤y∧y≤255:=by
 intro y hy
 simp [two] at hy
 rcases hy with rfl | rfl <;> omega
theorem flat_bytes (l:List Int):∀ y ∈ l.flatMap two,0≤y∧y≤255:=by
 intro y hy
 obtain ⟨x,_,hx⟩:=List.mem_flatMap.1 hy
 exact q31_ x y hx
theorem pack_bytes (l:List Bool):∀ y ∈ packS l,0≤y∧y≤255:=by
 intro y hy
 unfold packS at hy
 obtain ⟨j,_,rfl⟩:=List.mem_map.1 hy
 have:=byteV_256 (t:=(l.drop (8 * j)).take 8) (by simp; omega)
 omega
theorem askB_bytes {a:TA} (h:RA a):∀ y ∈ askB a,0≤y∧y≤255:=by
 have app:∀ {l r:List Int},(∀ y ∈ l,0≤y∧y≤255)->(∀ y ∈ r,0≤y∧y≤255)->∀ y ∈ l++r,0≤y∧y≤255:=fun h1 h2 y hy=>by
  rcases List.mem_append.1 hy with h | h
  ·exact h1 y h
  ·exact h2 y h
 have con:∀ {x:Int} {r:List Int},(0≤x∧x≤255)->(∀ y ∈ r,0≤y∧y≤255)->∀ y ∈ x::r,0≤y∧y≤255:=fun h1 h2 y hy=>by
  rcases List.mem_cons.1 hy with h | h
  ·subst h; exact h1
  ·exact h2 y h
 have nil:∀ y ∈ ([]:List Int),0≤y∧y≤255:=fun y hy=>by cases hy
 cases h with
 | bits f p n hf h1 h2 =>
  rcases hf with rfl | rfl
  ·show ∀ y ∈ (1:Int)::two p++two n,0≤y∧y≤255
   exact app (con (by decide) (q31_ p)) (q31_ n)
  ·show ∀ y ∈ (2:Int)::two p++two n,0≤y∧y≤255
   exact app (con (by decide) (q31_ p)) (q31_ n)
 | words f p n hf h1 h2 =>
  rcases hf with rfl | rfl
  ·show ∀ y ∈ (3:Int)::two p++two n,0≤y∧y≤255
   exact app (con (by decide) (q31_ p)) (q31_ n)
  ·show ∀ y ∈ (4:Int)::two p++two n,0≤y∧y≤255
   exact app (con (by decide) (q31_ p)) (q31_ n)
 | coil p b =>
  show ∀ y ∈ (5:Int)::two p++two (if b=true then 65280 else 0),0≤y∧y≤255
  exact app (con (by decide) (q31_ p)) (q31_ _)
 | word p x =>
  show ∀ y ∈ (6:Int)::two p++[x].flatMap two,0≤y∧y≤255
  exact app (con (by decide) (q31_ p)) (flat_bytes _)
 | coils p l h1 h2 =>
  show ∀ y ∈ (15:Int)::two p++two (l.length:Int)++[(packN l.length:Int)]++packS l,0≤y∧y≤255
  exact app (app (app (con (by decide) (q31_ p)) (q31_ _)) (con (by unfold packN; omega) nil)) (pack_bytes l)
 | regs p l h1 h2 =>
  show ∀ y ∈ (16:Int)::two p++two (l.length:Int)++[2 * (l.length:Int)]++l.flatMap two,0≤y∧y≤255
  exact app (app (app (con (by decide) (q31_ p)) (q31_ _)) (con (by omega) nil)) (flat_bytes l)
 | swap p n t l h1 h2 h3 h4 =>
  show ∀ y ∈ (23:Int)::two p++two n++two t++two (l.length:Int)++[2 * (l.length:Int)]++l.flatMap two,0≤y∧y≤255
  exact app (app (app (app (app (con (by decide) (q31_ p)) (q31_ _)) (q31_ _)) (q31_ _)) (con (by omega) nil)) (flat_bytes l)
end Go.Proofs.Lx
end
