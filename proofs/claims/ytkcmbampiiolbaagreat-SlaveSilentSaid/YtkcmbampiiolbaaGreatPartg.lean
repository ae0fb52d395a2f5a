/- Proved in the last of these 12 parts (this is part 7): SlaveSilent returns true, whatever the bank, what came ahead, the unit, the bytes, the place and the pattern. Conditions: those of the given statement, and no others. -/
import Derived.Test.YtkcmbampiiolbaaGreatParte
import Derived.Test.YtkcmbampiiolbaaGreatPartf
import Derived.Test.YtkcmbampiiolbaaGreatProg
set_option linter.unusedVariables false
set_option linter.unusedSimpArgs false
set_option linter.unusedSectionVars false
section
open Go Go.Proofs Ev Sx
set_option maxRecDepth 100000
namespace Go.Proofs.Lx
abbrev YaA3q0:Type:=Int×Int×Int×Int×List Int×List Bool
@[reducible] def qn_:Sh:=⟨[.d (.pr YTT1 (.sl (.int .u16))),.d (.bool)],[],[.pr YTT1 (.sl (.int .u16)),.bool],[.d (.bool)],[],0,[.bool]⟩
def q10_:Env:=(cts [])
def q11_:List (Nat×Hint):=[(122,⟨[],[1,2,5,13,14,15,24,25,26,27,28,29,32,33,34,37,38,39,40,41,42,43,44,45,49,50]⟩),(31334,⟨[.agd 50 .bool],[1,2,7,13,14,15,51]⟩),(15666,⟨[.agd 25 (.int .i64),.agd 27 (.sl (.int .u16)),.agd 28 (.int .i64),.agd 29 .bool,.agd 33 (.int .i64),.agd 34 .bool,.agd 38 (.int .i64),.agd 40 (.sl (.int .u16)),.agd 41 (.int .i64),.agd 43 (.int .i64),.agd 44 (.int .i64),.agd 45 .bool],[1,2,7,13,14,15,46]⟩)]
def qs_ (fixed:Bool) (endV:Int) (t13:List YTT5) (t14 t15:Int) (t:List YTT5×List Int):St:={ fr:=[(1,.d .bool fixed),(2,.pb 0 0),(5,.d (.int .i64) endV),(13,.d YTT1 t13),(14,.d (.int .i64) t14),(15,.d (.int .i64) t15)],nt:=58,up:=[],own:=[(0,.box 172 [.d YTT1 t.1,.d (.sl (.int .u16)) t.2])],nx:=1,log:=[],ln:=0 }
def q5z_ (fixed:Bool) (t13:List YTT5) (t14 t15:Int) (t46:Bool) (t:List YTT5×List Int) (x:Int×Int×Bool×Bool×Bool):St:={ fr:=[(1,.d .bool fixed),(2,.pb 0 0),(7,.pb 1 0),(13,.d YTT1 t13),(14,.d (.int .i64) t14),(15,.d (.int .i64) t15),(46,.d .bool t46)],nt:=58,up:=[],own:=[(0,.box 172 [.d YTT1 t.1,.d (.sl (.int .u16)) t.2]),(1,.box 168 [.d (.int .i64) x.1,.d (.int .i64) x.2.1,.d .bool x.2.2.1,.d .bool x.2.2.2.1,.d .bool x.2.2.2.2])],nx:=2,log:=[],ln:=0 }
def q5y_ (fixed:Bool) (t13:List YTT5) (t14 t15:Int) (t51:Bool) (t:List YTT5×List Int) (x:Int×Int×Bool×Bool×Bool):St:={ fr:=[(1,.d .bool fixed),(2,.pb 0 0),(7,.pb 1 0),(13,.d YTT1 t13),(14,.d (.int .i64) t14),(15,.d (.int .i64) t15),(51,.d .bool t51)],nt:=58,up:=[],own:=[(0,.box 172 [.d YTT1 t.1,.d (.sl (.int .u16)) t.2]),(1,.box 168 [.d (.int .i64) x.1,.d (.int .i64) x.2.1,.d .bool x.2.2.1,.d .bool x.2.2.2.1,.d .bool x.2.2.2.2])],nx:=2,log:=[],ln:=0 }
def q2w_ (j2:Bool->List YTT5->Int->Int->Bool->List YTT5×List Int->Int×Int×Bool×Bool×Bool->Option (As [.bool])) (self1:Bool->Int->List YTT5->Int->Int->List YTT5×List Int->Option (As [.bool])) (fixed:Bool) (endV:Int) (t13:List YTT5) (t14 t15:Int) (t:List YTT5×List Int):Option (As [.bool]) :=
 if lt t15 t14=true then Option.bind (at? t13 t15) fun y=>if lt y.1 endV=true then j2 fixed t13 t14 t15 true t y else if gt y.1 (Int.ofNat (List.length t.2))=true then j2 fixed t13 t14 t15 true t y else if lt y.2.1 1=true then j2 fixed t13 t14 t15 true t y else j2 fixed t13 t14 t15 (gt y.2.1 (Sx.sub .i64 (Int.ofNat (List.length t.2)) y.1)) t y else some (true,())
def q9l_ (j3:Bool->List YTT5->Int->Int->Bool->List YTT5×List Int->Int×Int×Bool×Bool×Bool->Option (As [.bool])) (self1:Bool->Int->List YTT5->Int->Int->List YTT5×List Int->Option (As [.bool])) (fixed:Bool) (t13:List YTT5) (t14 t15:Int) (t46:Bool) (t:List YTT5×List Int) (x:Int×Int×Bool×Bool×Bool):Option (As [.bool]) :=
 if t46=true then some (false,()) else if fixed=true then j3 fixed t13 t14 t15 x.2.2.2.1 t x else j3 fixed t13 t14 t15 false t x
def q9w_ (self1:Bool->Int->List YTT5->Int->Int->List YTT5×List Int->Option (As [.bool])) (fixed:Bool) (t13:List YTT5) (t14 t15:Int) (t51:Bool) (t:List YTT5×List Int) (x:Int×Int×Bool×Bool×Bool):Option (As [.bool]) :=
 if t51=true then some (false,()) else self1 fixed (add .i64 x.1 x.2.1) t13 t14 (add .i64 t15 1) t
def q5x_ (j1:Bool->Int->List YTT5->Int->Int->List YTT5×List Int->Option (As [.bool])) (t:List YTT5×List Int) (fixed:Bool):Option (As [.bool]) :=
 if gt (Int.ofNat (List.length t.2)) 65536=true then some (false,()) else j1 fixed 0 t.1 (Int.ofNat (List.length t.1)) 0 t
def q3x_ (u1:Bool->Int->List YTT5->Int->Int->List YTT5×List Int->Option (As [.bool])) (fixed:Bool) (t13:List YTT5) (t14 t15:Int) (t51:Bool) (t:List YTT5×List Int) (x:Int×Int×Bool×Bool×Bool):Option (As [.bool]):=q9w_ u1 fixed t13 t14 t15 t51 t x
def q40_ (u1:Bool->Int->List YTT5->Int->Int->List YTT5×List Int->Option (As [.bool])) (fixed:Bool) (t13:List YTT5) (t14 t15:Int) (t46:Bool) (t:List YTT5×List Int) (x:Int×Int×Bool×Bool×Bool):Option (As [.bool]):=q9l_ (q3x_ u1) u1 fixed t13 t14 t15 t46 t x
def q2u_ (fixed:Bool) (endV:Int) (t13:List YTT5) (t14 t15:Int) (t:List YTT5×List Int):Option (As [.bool]) :=
 loopF (fun (self:(Bool)×(Int)×(List YTT5)×(Int)×(Int)×(List YTT5×List Int)->Option (As [.bool])) (s:(Bool)×(Int)×(List YTT5)×(Int)×(Int)×(List YTT5×List Int))=>q2w_ (q40_ (fun fixed endV t13 t14 t15 t=>self (fixed,endV,t13,t14,t15,t))) (fun fixed endV t13 t14 t15 t=>self (fixed,endV,t13,t14,t15,t)) s.1 s.2.1 s.2.2.1 s.2.2.2.1 s.2.2.2.2.1 s.2.2.2.2.2) 18446744073709551616 (fixed,endV,t13,t14,t15,t)
def q3n_ (x:As [.pr YTT1 (.sl (.int .u16)),.bool]):Option (As [.bool]):=q5x_ q2u_ x.1 x.2.1
theorem quk_ (J:Orc (As [.bool])) (w1:St->Option (As [.bool])) (fixed:Bool) (t13:List YTT5) (t14 t15:Int) (t51:Bool) (t:List YTT5×List Int) (x:Int×Int×Bool×Bool×Bool):pfn Tryz.prog q10_ 6 18446744073709551616 (Ev.get q11_) 119 qn_ J 31334 [w1] (q5y_ fixed t13 t14 t15 t51 t x)=q9w_ (fun fixed endV t13 t14 t15 t=>w1 (qs_ fixed endV t13 t14 t15 t)) fixed t13 t14 t15 t51 t x:=by kernel_rfl
theorem que_ (J:Orc (As [.bool])) (w1:St->Option (As [.bool])) (fixed:Bool) (t13:List YTT5) (t14 t15:Int) (t46:Bool) (t:List YTT5×List Int) (x:Int×Int×Bool×Bool×Bool):pfn Tryz.prog q10_ 6 18446744073709551616 (Ev.get q11_) 119 qn_ J 15666 [w1] (q5z_ fixed t13 t14 t15 t46 t x)=q9l_ (fun fixed t13 t14 t15 t51 t x=>J 31334 [w1] (q5y_ fixed t13 t14 t15 t51 t x)) (fun fixed endV t13 t14 t15 t=>w1 (qs_ fixed endV t13 t14 t15 t)) fixed t13 t14 t15 t46 t x:=by kernel_rfl
theorem qu6_ (J:Orc (As [.bool])) (w1:St->Option (As [.bool])) (fixed:Bool) (endV:Int) (t13:List YTT5) (t14 t15:Int) (t:List YTT5×List Int):pfn Tryz.prog q10_ 6 18446744073709551616 (Ev.get q11_) 119 qn_ J 122 [w1] (qs_ fixed endV t13 t14 t15 t)=q2w_ (fun fixed t13 t14 t15 t46 t x=>J 15666 [w1] (q5z_ fixed t13 t14 t15 t46 t x)) (fun fixed endV t13 t14 t15 t=>w1 (qs_ fixed endV t13 t14 t15 t)) fixed endV t13 t14 t15 t:=by kernel_rfl
theorem qtn_ (J:Orc (As [.bool])) (x:As [.pr YTT1 (.sl (.int .u16)),.bool]):rfn Tryz.prog q10_ 6 18446744073709551616 (Ev.get q11_) 119 qn_ J x=q5x_ (fun fixed endV t13 t14 t15 t=>J 122 [] (qs_ fixed endV t13 t14 t15 t)) x.1 x.2.1:=by kernel_rfl
theorem qtq_ (w1:St->Option (As [.bool])) (fixed:Bool) (t13:List YTT5) (t14 t15:Int) (t51:Bool) (t:List YTT5×List Int) (x:Int×Int×Bool×Bool×Bool):jfn Tryz.prog q10_ 6 18446744073709551616 (Ev.get q11_) 119 qn_ 31334 [w1] (q5y_ fixed t13 t14 t15 t51 t x)=q3x_ (fun fixed endV t13 t14 t15 t=>w1 (qs_ fixed endV t13 t14 t15 t)) fixed t13 t14 t15 t51 t x:=by
 rw [q8_ (by decide)]
 rw [quk_]
 rfl
theorem qub_ (w1:St->Option (As [.bool])) (fixed:Bool) (t13:List YTT5) (t14 t15:Int) (t46:Bool) (t:List YTT5×List Int) (x:Int×Int×Bool×Bool×Bool):jfn Tryz.prog q10_ 6 18446744073709551616 (Ev.get q11_) 119 qn_ 15666 [w1] (q5z_ fixed t13 t14 t15 t46 t x)=q40_ (fun fixed endV t13 t14 t15 t=>w1 (qs_ fixed endV t13 t14 t15 t)) fixed t13 t14 t15 t46 t x:=by
 rw [q8_ (by decide)]
 have e3:(fun fixed t13 t14 t15 t51 t x=>(jfn Tryz.prog q10_ 6 18446744073709551616 (Ev.get q11_) 119 qn_) 31334 [w1] (q5y_ fixed t13 t14 t15 t51 t x))=q3x_ (fun fixed endV t13 t14 t15 t=>w1 (qs_ fixed endV t13 t14 t15 t)):=by funext fixed t13 t14 t15 t51 t x; exact qtq_ w1 fixed t13 t14 t15 t51 t x
 rw [que_,e3]
 rfl
theorem qu8_ (fixed:Bool) (endV:Int) (t13:List YTT5) (t14 t15:Int) (t:List YTT5×List Int):jfn Tryz.prog q10_ 6 18446744073709551616 (Ev.get q11_) 119 qn_ 122 [] (qs_ fixed endV t13 t14 t15 t)=q2u_ fixed endV t13 t14 t15 t:=by
 rw [q8_ (by decide)]
 rw [qr_ (by kernel_rfl)]
 refine qi_ (σ:=(Bool)×(Int)×(List YTT5)×(Int)×(Int)×(List YTT5×List Int)) (mk:=fun s=>qs_ s.1 s.2.1 s.2.2.1 s.2.2.2.1 s.2.2.2.2.1 s.2.2.2.2.2) (fun w1 s=>?_) 18446744073709551616 (fixed,endV,t13,t14,t15,t)
 have e2:(fun fixed t13 t14 t15 t46 t x=>(jfn Tryz.prog q10_ 6 18446744073709551616 (Ev.get q11_) 119 qn_) 15666 [w1] (q5z_ fixed t13 t14 t15 t46 t x))=q40_ (fun fixed endV t13 t14 t15 t=>w1 (qs_ fixed endV t13 t14 t15 t)):=by funext fixed t13 t14 t15 t46 t x; exact qub_ w1 fixed t13 t14 t15 t46 t x
 refine (qu6_ _ w1 s.1 s.2.1 s.2.2.1 s.2.2.2.1 s.2.2.2.2.1 s.2.2.2.2.2).trans ?_
 rw [e2]
theorem qul_ (x:As [.pr YTT1 (.sl (.int .u16)),.bool]):evT Tryz.prog q10_ 6 18446744073709551616 (Ev.get q11_) 119 qn_ x=q3n_ x:=by
 have e1:(fun fixed endV t13 t14 t15 t=>(jfn Tryz.prog q10_ 6 18446744073709551616 (Ev.get q11_) 119 qn_) 122 [] (qs_ fixed endV t13 t14 t15 t))=q2u_:=by funext fixed endV t13 t14 t15 t; exact qu8_ fixed endV t13 t14 t15 t
 rw [q5_,qtn_,e1]
 rfl
theorem qtm_:CtOk Tryz.prog (fun _=>True) 119 ⟨qn_,q3n_⟩:=q3_ q4_ qul_
@[reducible] def qnl_:Sh:=⟨[.d (.pr YTT1 (.pr YTT1 (.pr YTT1 YTT1))),.d (.pr (.sl .bool) YTT10)],[],[.pr YTT1 (.pr YTT1 (.pr YTT1 YTT1)),.pr (.sl .bool) YTT10],[.d (.bool)],[],0,[.bool]⟩
def q10y_:Env:=(cts [(117,(⟨qjk_,qe0_⟩:Ct)),(118,(⟨qu_,q4o_⟩:Ct)),(119,(⟨qn_,q3n_⟩:Ct))])
def q11d_:List (Nat×Hint):=[]
def qk3_ (s:List YTT5×List YTT5×List YTT5×List YTT5) (m:List Bool×List Bool×List Int×List Int):Option (As [.bool]) :=
 Option.bind (qe0_ (s,m,())) fun y=>Option.bind (q4o_ (y.1.1,false,())) fun y_1=>if y_1.1=true then Option.bind (q4o_ (y.1.2.1,true,())) fun y_2=>if y_2.1=true then Option.bind (q3n_ (y.1.2.2.1,false,())) fun y_3=>if y_3.1=true then Option.bind (q3n_ (y.1.2.2.2,true,())) fun y=>some (y.1,()) else some (false,()) else some (false,()) else some (false,())
def qm8_ (x:As [.pr YTT1 (.pr YTT1 (.pr YTT1 YTT1)),.pr (.sl .bool) YTT10]):Option (As [.bool]):=qk3_ x.1 x.2.1
theorem q19j_ (J:Orc (As [.bool])) (x:As [.pr YTT1 (.pr YTT1 (.pr YTT1 YTT1)),.pr (.sl .bool) YTT10]):rfn Tryz.prog q10y_ 6 18446744073709551616 (Ev.get q11d_) 50 qnl_ J x=qk3_ x.1 x.2.1:=by kernel_rfl
theorem q1d1_ (x:As [.pr YTT1 (.pr YTT1 (.pr YTT1 YTT1)),.pr (.sl .bool) YTT10]):evT Tryz.prog q10y_ 6 18446744073709551616 (Ev.get q11d_) 50 qnl_ x=qm8_ x:=by
 rw [q5_,q19j_]
 rfl
theorem q19n_:CtOk Tryz.prog (fun _=>True) 50 ⟨qnl_,qm8_⟩:=q3_ (q0_ q117_ (q0_ qva_ (q0_ qtm_ q4_))) q1d1_
@[reducible] def q87_:Sh:=⟨[.d (.sl .bool)],[],[.sl .bool],[.d (.sl .bool)],[],0,[.sl .bool]⟩
def qr4_:Env:=(cts [])
def qpa_:List (Nat×Hint):=[]
def qa0_ (s:List Bool):Option (As [.sl .bool]) :=
 if eqi (Int.ofNat (List.length s)) 0=true then amb (eqAs q87_.rs) [some ([],()),need (small (0 + List.length s)) (some (s,()))] else need (small (0 + List.length s)) (some (s,()))
def q56_ (x:As [.sl .bool]):Option (As [.sl .bool]):=qa0_ x.1
theorem qzc_ (J:Orc (As [.sl .bool])) (x:As [.sl .bool]):rfn Tryz.prog qr4_ 6 18446744073709551616 (Ev.get qpa_) 130 q87_ J x=qa0_ x.1:=by kernel_rfl
theorem q10c_ (x:As [.sl .bool]):evT Tryz.prog qr4_ 6 18446744073709551616 (Ev.get qpa_) 130 q87_ x=q56_ x:=by
 rw [q5_,qzc_]
 rfl
theorem qzi_:CtOk Tryz.prog (fun _=>True) 130 ⟨q87_,q56_⟩:=q3_ q4_ q10c_
@[reducible] def q4k_:Sh:=⟨[.d (.sl (.bool))],[],[.sl (.bool)],[.row 0],[(0,.row (.bool) 4)],1,[.sl (.bool)]⟩
def qll_:Env:=(cts [])
def qle_:List (Nat×Hint):=[]
def q8q_ (s:List Bool):Option (As [.sl .bool]) :=
 if eqi (Int.ofNat (List.length s)) 0=true then amb (eqAs q4k_.rs) [some ([],()),need (small (0 + List.length s)) (some (s,()))] else need (small (0 + List.length s)) (some (s,()))
def q36_ (x:As [.sl .bool]):Option (As [.sl .bool]):=q8q_ x.1
theorem qwp_ (J:Orc (As [.sl .bool])) (x:As [.sl .bool]):rfn Tryz.prog qll_ 6 18446744073709551616 (Ev.get qle_) 130 q4k_ J x=q8q_ x.1:=by kernel_rfl
theorem qxp_ (x:As [.sl .bool]):evT Tryz.prog qll_ 6 18446744073709551616 (Ev.get qle_) 130 q4k_ x=q36_ x:=by
 rw [q5_,qwp_]
 rfl
theorem ql2_:CtOk Tryz.prog (fun _=>True) 130 ⟨q4k_,q36_⟩:=q3_ q4_ qxp_
def q1di_ (m:List Bool×List Bool×List Int×List Int):Option (As [.pr (.sl .bool) YTT10]) :=
 Option.bind (q56_ (m.1,())) fun y=>Option.bind (q56_ (m.2.1,())) fun y_1=>Option.bind (qe_ (m.2.2.1,())) fun y_2=>Option.bind (qe_ (m.2.2.2,())) fun y_3=>some ((y.1,y_1.1,y_2.1,y_3.1),())
def q1ju_ (x:As [.pr (.sl .bool) YTT10]):Option (As [.pr (.sl .bool) YTT10]):=q1di_ x.1
@[reducible] def q8r_:Sh:=⟨[.d (.pr YTT1 (.sl .bool)),.d (.int .i64),.d (.int .i64),.d (.int .i64)],[],[.pr YTT1 (.sl .bool),.int .i64,.int .i64,.int .i64],[.d (.sl .bool)],[],0,[.sl .bool]⟩
def ql1_:Env:=(cts [])
def qla_:List (Nat×Hint):=[]
def q8a_ (t:List YTT5×List Bool) (at' many step:Int):Option (As [.sl .bool]) :=
 need (nei step 0) (need (ge (mul .i64 (quo .i64 (Sx.sub .i64 (add .i64 many step) 1) step) step) 0) (need (Ev.capOk (mul .i64 (quo .i64 (Sx.sub .i64 (add .i64 many step) 1) step) step) (mul .i64 (quo .i64 (Sx.sub .i64 (add .i64 many step) 1) step) step)) (need (small (Int.toNat (mul .i64 (quo .i64 (Sx.sub .i64 (add .i64 many step) 1) step) step))) (Option.bind (cut t.2 at' (add .i64 at' many)) fun y=>need (le (Int.ofNat (0 + List.length (List.replicate (Int.toNat (mul .i64 (quo .i64 (Sx.sub .i64 (add .i64 many step) 1) step) step)) false))) (Int.ofNat (List.length (List.replicate (Int.toNat (mul .i64 (quo .i64 (Sx.sub .i64 (add .i64 many step) 1) step) step)) false)))) (some (List.take (Int.toNat (Int.ofNat (List.length (List.replicate (Int.toNat (mul .i64 (quo .i64 (Sx.sub .i64 (add .i64 many step) 1) step) step)) false)))) y++List.drop (0 + List.length (List.take (Int.toNat (Int.ofNat (List.length (List.replicate (Int.toNat (mul .i64 (quo .i64 (Sx.sub .i64 (add .i64 many step) 1) step) step)) false)))) y)) (List.replicate (Int.toNat (mul .i64 (quo .i64 (Sx.sub .i64 (add .i64 many step) 1) step) step)) false),()))))))
def q4y_ (x:As [.pr YTT1 (.sl .bool),.int .i64,.int .i64,.int .i64]):Option (As [.sl .bool]):=q8a_ x.1 x.2.1 x.2.2.1 x.2.2.2.1
theorem qw5_ (J:Orc (As [.sl .bool])) (x:As [.pr YTT1 (.sl .bool),.int .i64,.int .i64,.int .i64]):rfn Tryz.prog ql1_ 6 18446744073709551616 (Ev.get qla_) 199 q8r_ J x=q8a_ x.1 x.2.1 x.2.2.1 x.2.2.2.1:=by kernel_rfl
theorem qwk_ (x:As [.pr YTT1 (.sl .bool),.int .i64,.int .i64,.int .i64]):evT Tryz.prog ql1_ 6 18446744073709551616 (Ev.get qla_) 199 q8r_ x=q4y_ x:=by
 rw [q5_,qw5_]
 rfl
theorem qvx_:CtOk Tryz.prog (fun _=>True) 199 ⟨q8r_,q4y_⟩:=q3_ q4_ qwk_
@[reducible] def q7c_:Sh:=⟨[.d (.pr YTT1 (.sl (.int .u16))),.d (.int .i64),.d (.int .i64),.d (.int .i64)],[],[.pr YTT1 (.sl (.int .u16)),.int .i64,.int .i64,.int .i64],[.d (.sl (.int .u16))],[],0,[.sl (.int .u16)]⟩
def qit_:Env:=(cts [])
def qih_:List (Nat×Hint):=[]
def q6k_ (t:List YTT5×List Int) (at' many step:Int):Option (As [.sl (.int .u16)]) :=
 need (nei step 0) (need (ge (mul .i64 (quo .i64 (Sx.sub .i64 (add .i64 many step) 1) step) step) 0) (need (Ev.capOk (mul .i64 (quo .i64 (Sx.sub .i64 (add .i64 many step) 1) step) step) (mul .i64 (quo .i64 (Sx.sub .i64 (add .i64 many step) 1) step) step)) (need (small (Int.toNat (mul .i64 (quo .i64 (Sx.sub .i64 (add .i64 many step) 1) step) step))) (Option.bind (cut t.2 at' (add .i64 at' many)) fun y=>need (le (Int.ofNat (0 + List.length (List.replicate (α:=Int) (Int.toNat (mul .i64 (quo .i64 (Sx.sub .i64 (add .i64 many step) 1) step) step)) 0))) (Int.ofNat (List.length (List.replicate (α:=Int) (Int.toNat (mul .i64 (quo .i64 (Sx.sub .i64 (add .i64 many step) 1) step) step)) 0)))) (some (List.take (Int.toNat (Int.ofNat (List.length (List.replicate (α:=Int) (Int.toNat (mul .i64 (quo .i64 (Sx.sub .i64 (add .i64 many step) 1) step) step)) 0)))) y++List.drop (0 + List.length (List.take (Int.toNat (Int.ofNat (List.length (List.replicate (α:=Int) (Int.toNat (mul .i64 (quo .i64 (Sx.sub .i64 (add .i64 many step) 1) step) step)) 0)))) y)) (List.replicate (Int.toNat (mul .i64 (quo .i64 (Sx.sub .i64 (add .i64 many step) 1) step) step)) 0),()))))))
def q41_ (x:As [.pr YTT1 (.sl (.int .u16)),.int .i64,.int .i64,.int .i64]):Option (As [.sl (.int .u16)]):=q6k_ x.1 x.2.1 x.2.2.1 x.2.2.2.1
theorem qun_ (J:Orc (As [.sl (.int .u16)])) (x:As [.pr YTT1 (.sl (.int .u16)),.int .i64,.int .i64,.int .i64]):rfn Tryz.prog qit_ 6 18446744073709551616 (Ev.get qih_) 200 q7c_ J x=q6k_ x.1 x.2.1 x.2.2.1 x.2.2.2.1:=by kernel_rfl
theorem qv4_ (x:As [.pr YTT1 (.sl (.int .u16)),.int .i64,.int .i64,.int .i64]):evT Tryz.prog qit_ 6 18446744073709551616 (Ev.get qih_) 200 q7c_ x=q41_ x:=by
 rw [q5_,qun_]
 rfl
theorem quo_:CtOk Tryz.prog (fun _=>True) 200 ⟨q7c_,q41_⟩:=q3_ q4_ qv4_
@[reducible] def qa6_:Sh:=⟨[.d (.pr (.pr YTT1 (.sl .bool)) (.pr (.pr YTT1 (.sl .bool)) (.pr (.pr YTT1 (.sl (.int .u16))) (.pr YTT1 (.sl (.int .u16)))))),.d (.int .i64),.d (.pr (.int .u8) YTT4)],[],[.pr (.pr YTT1 (.sl .bool)) (.pr (.pr YTT1 (.sl .bool)) (.pr (.pr YTT1 (.sl (.int .u16))) (.pr YTT1 (.sl (.int .u16))))),.int .i64,.pr (.int .u8) YTT4],[.d (.pr (.int .u8) YTT3)],[],0,[.pr (.int .u8) YTT3]⟩
def qot_:Env:=(cts [(199,(⟨q8r_,q4y_⟩:Ct)),(200,(⟨q7c_,q41_⟩:Ct))])
def qoq_:List (Nat×Hint):=[]
def q9e_ (v:(List YTT5×List Bool)×(List YTT5×List Bool)×(List YTT5×List Int)×List YTT5×List Int) (p:Int) (a:YaA3q0):Option (As [.pr (.int .u8) YTT3]) :=
 if eqi p 1=true then Option.bind (q4y_ (v.1,cvt .i64 a.2.1,cvt .i64 a.2.2.1,8,())) fun y=>some ((a.1,0,y.1,[],0,0),()) else if eqi p 2=true then Option.bind (q4y_ (v.2.1,cvt .i64 a.2.1,cvt .i64 a.2.2.1,8,())) fun y=>some ((a.1,0,y.1,[],0,0),()) else if eqi p 3=true then Option.bind (q41_ (v.2.2.1,cvt .i64 a.2.1,cvt .i64 a.2.2.1,1,())) fun y=>some ((a.1,0,[],y.1,0,0),()) else if eqi p 4=true then Option.bind (q41_ (v.2.2.2,cvt .i64 a.2.1,cvt .i64 a.2.2.1,1,())) fun y=>some ((a.1,0,[],y.1,0,0),()) else some ((a.1,0,[],[],0,0),())
def q61_ (x:As [.pr (.pr YTT1 (.sl .bool)) (.pr (.pr YTT1 (.sl .bool)) (.pr (.pr YTT1 (.sl (.int .u16))) (.pr YTT1 (.sl (.int .u16))))),.int .i64,.pr (.int .u8) YTT4]):Option (As [.pr (.int .u8) YTT3]):=q9e_ x.1 x.2.1 x.2.2.1
theorem qxw_ (J:Orc (As [.pr (.int .u8) YTT3])) (x:As [.pr (.pr YTT1 (.sl .bool)) (.pr (.pr YTT1 (.sl .bool)) (.pr (.pr YTT1 (.sl (.int .u16))) (.pr YTT1 (.sl (.int .u16))))),.int .i64,.pr (.int .u8) YTT4]):rfn Tryz.prog qot_ 6 18446744073709551616 (Ev.get qoq_) 173 qa6_ J x=q9e_ x.1 x.2.1 x.2.2.1:=by kernel_rfl
theorem qy3_ (x:As [.pr (.pr YTT1 (.sl .bool)) (.pr (.pr YTT1 (.sl .bool)) (.pr (.pr YTT1 (.sl (.int .u16))) (.pr YTT1 (.sl (.int .u16))))),.int .i64,.pr (.int .u8) YTT4]):evT Tryz.prog qot_ 6 18446744073709551616 (Ev.get qoq_) 173 qa6_ x=q61_ x:=by
 rw [q5_,qxw_]
 rfl
theorem qxm_:CtOk Tryz.prog (fun _=>True) 173 ⟨qa6_,q61_⟩:=q3_ (q0_ qvx_ (q0_ quo_ q4_)) qy3_
@[reducible] def qgi_:Sh:=⟨[.d (.pr YTT1 (.pr YTT1 (.pr YTT1 YTT1))),.d (.pr (.sl .bool) YTT10),.d (.pr (.int .u8) YTT4)],[],[.pr YTT1 (.pr YTT1 (.pr YTT1 YTT1)),.pr (.sl .bool) YTT10,.pr (.int .u8) YTT4],[.d (.pr (.sl .bool) YTT10),.d (.pr (.int .u8) YTT3)],[],0,[.pr (.sl .bool) YTT10,.pr (.int .u8) YTT3]⟩
def qp5_:Env:=(cts [(50,(⟨qnl_,qm8_⟩:Ct)),(54,(⟨q4h_,qbo_⟩:Ct)),(68,(⟨q4c_,qb0_⟩:Ct)),(120,(⟨qaf_,qh_⟩:Ct)),(124,(⟨qiu_,qgt_⟩:Ct)),(126,(⟨qfc_,q9y_⟩:Ct)),(130,(⟨q4k_,q36_⟩:Ct)),(131,(⟨q3o_,q2o_⟩:Ct)),(173,(⟨qa6_,q61_⟩:Ct))])
def qpk_:List (Nat×Hint):=[(255,⟨[],[5,6,7,8,10,11]⟩)]
def qt3_ (a:YaA3q0) (t7 t7_2 t7_3 t7_4:Int) (o o_2:List Bool) (o_3 o_4:List Int) (v v_2 v_3 v_4:List YTT5) (u:Int×Int):St:={ fr:=[(5,.pb 0 0),(6,.pb 1 0),(7,.pb 2 0),(8,.pb 3 0),(10,.pb 8 0),(11,.pb 9 0)],nt:=79,up:=[],own:=[(0,.box 44 [.d (.int .u8) a.1,.d (.int .u16) a.2.1,.d (.int .u16) a.2.2.1,.d (.int .u16) a.2.2.2.1,.d (.sl (.int .u16)) a.2.2.2.2.1,.d (.sl .bool) a.2.2.2.2.2]),(1,.box 96 [.k (Go.Value.slice Option.none 0 0),.k (Go.Value.slice Option.none 0 0),.k (Go.Value.slice Option.none 0 0),.k (Go.Value.slice Option.none 0 0)]),(2,.box 46 [.d (.int .u8) t7,.d (.int .u8) t7_2,.k (Go.Value.slice Option.none 0 0),.k (Go.Value.slice Option.none 0 0),.d (.int .u16) t7_3,.d (.int .u16) t7_4]),(3,.box 96 [.row 4,.row 5,.row 6,.row 7]),(4,.row .bool 4 o),(5,.row .bool 4 o_2),(6,.row (.int .u16) 23 o_3),(7,.row (.int .u16) 23 o_4),(8,.box 174 [.d YTT1 v,.row 4,.d YTT1 v_2,.row 5,.d YTT1 v_3,.row 6,.d YTT1 v_4,.row 7]),(9,.box 183 [.d (.int .i64) u.1,.d (.int .i64) u.2])],nx:=10,log:=[],ln:=0 }
def q14h_ (a:YaA3q0) (t7 t7_2 t7_3 t7_4:Int) (o o_2:List Bool) (o_3 o_4:List Int) (v v_2 v_3 v_4:List YTT5) (u:Int×Int):Option (As [.pr (.sl .bool) YTT10,.pr (.int .u8) YTT3]) :=
 Option.bind (qb0_ (a,())) fun y=>if y.2.1=true then some ((o,o_2,o_3,o_4),y.1,()) else Option.bind (q61_ (((v,o),(v_2,o_2),(v_3,o_3),v_4,o_4),u.1,a,())) fun y=>some ((o,o_2,o_3,o_4),y.1,())
def qsy_ (j1:YaA3q0->Int->Int->Int->Int->List Bool->List Bool->List Int->List Int->List YTT5->List YTT5->List YTT5->List YTT5->Int×Int->Option (As [.pr (.sl .bool) YTT10,.pr (.int .u8) YTT3])) (s:List YTT5×List YTT5×List YTT5×List YTT5) (m:List Bool×List Bool×List Int×List Int) (a:YaA3q0):Option (As [.pr (.sl .bool) YTT10,.pr (.int .u8) YTT3]) :=
 Option.bind (q36_ (m.1,())) fun y=>Option.bind (q36_ (m.2.1,())) fun y_1=>Option.bind (q2o_ (m.2.2.1,())) fun y_2=>Option.bind (q2o_ (m.2.2.2,())) fun y_3=>Option.bind (qbo_ (s,a,())) fun y_4=>if nei y_4.1 0=true then Option.bind (qh_ (a.1,y_4.1,())) fun y_5=>some ((y.1,y_1.1,y_2.1,y_3.1),y_5.1,()) else Option.bind (qm8_ (s,m,())) fun y_5=>if (!y_5.1)=true then Option.bind (qh_ (a.1,4,())) fun y_6=>some ((y.1,y_1.1,y_2.1,y_3.1),y_6.1,()) else Option.bind (qgt_ (a.1,())) fun y_6=>Option.bind (q9y_ (a,())) fun y_7=>if eqi y_6.1.2 1=true then need (ge y_7.1 0) (need (le y_7.1 (Int.ofNat (List.length y.1))) (need (le (Int.ofNat (List.length y.1)) (Int.ofNat (List.length y.1))) (need (le (y_7.1 + (Int.ofNat (List.length y.1) - y_7.1)) (Int.ofNat (List.length y.1))) (j1 a 0 0 0 0 (List.take (Int.toNat y_7.1) y.1++List.take (Int.toNat (Int.ofNat (List.length y.1) - y_7.1)) a.2.2.2.2.2++List.drop (Int.toNat y_7.1 + List.length (List.take (Int.toNat (Int.ofNat (List.length y.1) - y_7.1)) a.2.2.2.2.2)) y.1) y_1.1 y_2.1 y_3.1 s.1 s.2.1 s.2.2.1 s.2.2.2 y_6.1)))) else if eqi y_6.1.2 3=true then need (ge y_7.1 0) (need (le y_7.1 (Int.ofNat (List.length y_2.1))) (need (le (Int.ofNat (List.length y_2.1)) (Int.ofNat (List.length y_2.1))) (need (le (y_7.1 + (Int.ofNat (List.length y_2.1) - y_7.1)) (Int.ofNat (List.length y_2.1))) (j1 a 0 0 0 0 y.1 y_1.1 (List.take (Int.toNat y_7.1) y_2.1++List.take (Int.toNat (Int.ofNat (List.length y_2.1) - y_7.1)) a.2.2.2.2.1++List.drop (Int.toNat y_7.1 + List.length (List.take (Int.toNat (Int.ofNat (List.length y_2.1) - y_7.1)) a.2.2.2.2.1)) y_2.1) y_3.1 s.1 s.2.1 s.2.2.1 s.2.2.2 y_6.1)))) else j1 a 0 0 0 0 y.1 y_1.1 y_2.1 y_3.1 s.1 s.2.1 s.2.2.1 s.2.2.2 y_6.1
def qi2_ (a:YaA3q0) (t7 t7_2 t7_3 t7_4:Int) (o o_2:List Bool) (o_3 o_4:List Int) (v v_2 v_3 v_4:List YTT5) (u:Int×Int):Option (As [.pr (.sl .bool) YTT10,.pr (.int .u8) YTT3]):=q14h_ a t7 t7_2 t7_3 t7_4 o o_2 o_3 o_4 v v_2 v_3 v_4 u
def q2h_ (x:As [.pr YTT1 (.pr YTT1 (.pr YTT1 YTT1)),.pr (.sl .bool) YTT10,.pr (.int .u8) YTT4]):Option (As [.pr (.sl .bool) YTT10,.pr (.int .u8) YTT3]):=qsy_ qi2_ x.1 x.2.1 x.2.2.1
theorem q1hi_ (J:Orc (As [.pr (.sl .bool) YTT10,.pr (.int .u8) YTT3])) (a:YaA3q0) (t7 t7_2 t7_3 t7_4:Int) (o o_2:List Bool) (o_3 o_4:List Int) (v v_2 v_3 v_4:List YTT5) (u:Int×Int):pfn Tryz.prog qp5_ 6 18446744073709551616 (Ev.get qpk_) 122 qgi_ J 255 [] (qt3_ a t7 t7_2 t7_3 t7_4 o o_2 o_3 o_4 v v_2 v_3 v_4 u)=q14h_ a t7 t7_2 t7_3 t7_4 o o_2 o_3 o_4 v v_2 v_3 v_4 u:=by kernel_rfl
theorem q1hu_ (J:Orc (As [.pr (.sl .bool) YTT10,.pr (.int .u8) YTT3])) (x:As [.pr YTT1 (.pr YTT1 (.pr YTT1 YTT1)),.pr (.sl .bool) YTT10,.pr (.int .u8) YTT4]):rfn Tryz.prog qp5_ 6 18446744073709551616 (Ev.get qpk_) 122 qgi_ J x=qsy_ (fun a t7 t7_2 t7_3 t7_4 o o_2 o_3 o_4 v v_2 v_3 v_4 u=>J 255 [] (qt3_ a t7 t7_2 t7_3 t7_4 o o_2 o_3 o_4 v v_2 v_3 v_4 u)) x.1 x.2.1 x.2.2.1:=by kernel_rfl
theorem q1iq_ (a:YaA3q0) (t7 t7_2 t7_3 t7_4:Int) (o o_2:List Bool) (o_3 o_4:List Int) (v v_2 v_3 v_4:List YTT5) (u:Int×Int):jfn Tryz.prog qp5_ 6 18446744073709551616 (Ev.get qpk_) 122 qgi_ 255 [] (qt3_ a t7 t7_2 t7_3 t7_4 o o_2 o_3 o_4 v v_2 v_3 v_4 u)=qi2_ a t7 t7_2 t7_3 t7_4 o o_2 o_3 o_4 v v_2 v_3 v_4 u:=by
 rw [q8_ (by decide)]
 rw [q1hi_]
 rfl
theorem q1j7_ (x:As [.pr YTT1 (.pr YTT1 (.pr YTT1 YTT1)),.pr (.sl .bool) YTT10,.pr (.int .u8) YTT4]):evT Tryz.prog qp5_ 6 18446744073709551616 (Ev.get qpk_) 122 qgi_ x=q2h_ x:=by
 have e1:(fun a t7 t7_2 t7_3 t7_4 o o_2 o_3 o_4 v v_2 v_3 v_4 u=>(jfn Tryz.prog qp5_ 6 18446744073709551616 (Ev.get qpk_) 122 qgi_) 255 [] (qt3_ a t7 t7_2 t7_3 t7_4 o o_2 o_3 o_4 v v_2 v_3 v_4 u))=qi2_:=by funext a t7 t7_2 t7_3 t7_4 o o_2 o_3 o_4 v v_2 v_3 v_4 u; exact q1iq_ a t7 t7_2 t7_3 t7_4 o o_2 o_3 o_4 v v_2 v_3 v_4 u
 rw [q5_,q1hu_,e1]
 rfl
theorem q1hl_:CtOk Tryz.prog (fun _=>True) 122 ⟨qgi_,q2h_⟩:=q3_ (q0_ q19n_ (q0_ qy0_ (q0_ q11c_ (q0_ qkl_ (q0_ q10k_ (q0_ qxd_ (q0_ ql2_ (q0_ qi9_ (q0_ qxm_ q4_))))))))) q1j7_
@[reducible] def qg_:Sh:=⟨[.d (.pr (.int .u8) (.pr (.int .u8) (.pr (.pr (.sl (.int .u16)) YTT0) (.sl .bool)))),.d (.pr (.int .u8) YTT4)],[],[.pr (.int .u8) (.pr (.int .u8) (.pr (.pr (.sl (.int .u16)) YTT0) (.sl .bool))),.pr (.int .u8) YTT4],[.d (.pr (.int .u8) YTT3)],[],0,[.pr (.int .u8) YTT3]⟩
def q75_:Env:=(cts [(2000038,Ev.bxCt),(47,(⟨q2_,q5b_⟩:Ct)),(49,(⟨q4d_,q5e_⟩:Ct)),(68,(⟨q4c_,qb0_⟩:Ct)),(122,(⟨qgi_,q2h_⟩:Ct))])
def q76_:List (Nat×Hint):=[(15,⟨[],[2,3,4,7]⟩),(31,⟨[],[3,4,9]⟩)]
def qiq_ (s:Int×Int×YTT2×List Bool) (a:YaA3q0) (t4 t4_2 t4_3 t4_4 read read_2 read_3 read_4:Int):St:={ fr:=[(2,.pe (.pr (.int .u8) (.pr (.int .u8) (.pr (.pr (.sl (.int .u16)) YTT0) (.sl .bool)))) s),(3,.pb 0 0),(4,.pb 1 0),(7,.pb 2 0)],nt:=40,up:=[],own:=[(0,.box 44 [.d (.int .u8) a.1,.d (.int .u16) a.2.1,.d (.int .u16) a.2.2.1,.d (.int .u16) a.2.2.2.1,.d (.sl (.int .u16)) a.2.2.2.2.1,.d (.sl .bool) a.2.2.2.2.2]),(1,.box 46 [.d (.int .u8) t4,.d (.int .u8) t4_2,.k (Go.Value.slice Option.none 0 0),.k (Go.Value.slice Option.none 0 0),.d (.int .u16) t4_3,.d (.int .u16) t4_4]),(2,.box 44 [.d (.int .u8) read,.d (.int .u16) read_2,.d (.int .u16) read_3,.d (.int .u16) read_4,.k (Go.Value.slice Option.none 0 0),.k (Go.Value.slice Option.none 0 0)])],nx:=3,log:=[],ln:=0 }
def qim_ (a:YaA3q0) (t4 t4_2 t4_3 t4_4:Int) (r:Int×Int×List Bool×List Int×Int×Int):St:={ fr:=[(3,.pb 0 0),(4,.pb 1 0),(9,.pb 2 0)],nt:=40,up:=[],own:=[(0,.box 44 [.d (.int .u8) a.1,.d (.int .u16) a.2.1,.d (.int .u16) a.2.2.1,.d (.int .u16) a.2.2.2.1,.d (.sl (.int .u16)) a.2.2.2.2.1,.d (.sl .bool) a.2.2.2.2.2]),(1,.box 46 [.d (.int .u8) t4,.d (.int .u8) t4_2,.k (Go.Value.slice Option.none 0 0),.k (Go.Value.slice Option.none 0 0),.d (.int .u16) t4_3,.d (.int .u16) t4_4]),(2,.box 46 [.d (.int .u8) r.1,.d (.int .u8) r.2.1,.d (.sl .bool) r.2.2.1,.d (.sl (.int .u16)) r.2.2.2.1,.d (.int .u16) r.2.2.2.2.1,.d (.int .u16) r.2.2.2.2.2])],nx:=3,log:=[],ln:=0 }
def qia_ (j2:YaA3q0->Int->Int->Int->Int->Int×Int×List Bool×List Int×Int×Int->Option (As [.pr (.int .u8) YTT3])) (s:Int×Int×YTT2×List Bool) (a:YaA3q0) (t4 t4_2 t4_3 t4_4 read read_2 read_3 read_4:Int):Option (As [.pr (.int .u8) YTT3]) :=
 amb (eqAs qg_.rs) [Option.bind (q5e_ ()) fun y=>amb (eqAs qg_.rs) [Option.bind (q5b_ (s,())) fun y_1=>amb (eqAs qg_.rs) [Option.bind (q2h_ (y.1,y_1.1,(read,read_2,read_3,read_4,[],[]),())) fun y=>amb (eqAs qg_.rs) [j2 a t4 t4_2 t4_3 t4_4 y.2.1,j2 a t4 t4_2 t4_3 t4_4 y.2.1],amb (eqAs qg_.rs) [amb (eqAs qg_.rs) [Option.bind (q2h_ (y.1,y_1.1,(read,read_2,read_3,read_4,[],[]),())) fun y=>j2 a t4 t4_2 t4_3 t4_4 y.2.1,Option.bind (q2h_ (y.1,y_1.1,(read,read_2,read_3,read_4,[],[]),())) fun y=>j2 a t4 t4_2 t4_3 t4_4 y.2.1],amb (eqAs qg_.rs) [Option.bind (q2h_ (y.1,y_1.1,(read,read_2,read_3,read_4,[],[]),())) fun y=>j2 a t4 t4_2 t4_3 t4_4 y.2.1,Option.bind (q2h_ (y.1,y_1.1,(read,read_2,read_3,read_4,[],[]),())) fun y=>j2 a t4 t4_2 t4_3 t4_4 y.2.1]]],amb (eqAs qg_.rs) [amb (eqAs qg_.rs) [Option.bind (q5b_ (s,())) fun y_1=>amb (eqAs qg_.rs) [Option.bind (q2h_ (y.1,y_1.1,(read,read_2,read_3,read_4,[],[]),())) fun y=>j2 a t4 t4_2 t4_3 t4_4 y.2.1,Option.bind (q2h_ (y.1,y_1.1,(read,read_2,read_3,read_4,[],[]),())) fun y=>j2 a t4 t4_2 t4_3 t4_4 y.2.1],Option.bind (q5b_ (s,())) fun y_1=>Option.bind (q2h_ (y.1,y_1.1,(read,read_2,read_3,read_4,[],[]),())) fun y=>j2 a t4 t4_2 t4_3 t4_4 y.2.1],amb (eqAs qg_.rs) [Option.bind (q5b_ (s,())) fun y_1=>amb (eqAs qg_.rs) [Option.bind (q2h_ (y.1,y_1.1,(read,read_2,read_3,read_4,[],[]),())) fun y=>j2 a t4 t4_2 t4_3 t4_4 y.2.1,Option.bind (q2h_ (y.1,y_1.1,(read,read_2,read_3,read_4,[],[]),())) fun y=>j2 a t4 t4_2 t4_3 t4_4 y.2.1],Option.bind (q5b_ (s,())) fun y_1=>Option.bind (q2h_ (y.1,y_1.1,(read,read_2,read_3,read_4,[],[]),())) fun y=>j2 a t4 t4_2 t4_3 t4_4 y.2.1]]],amb (eqAs qg_.rs) [amb (eqAs qg_.rs) [Option.bind (q5e_ ()) fun y=>amb (eqAs qg_.rs) [Option.bind (q5b_ (s,())) fun y_1=>amb (eqAs qg_.rs) [Option.bind (q2h_ (y.1,y_1.1,(read,read_2,read_3,read_4,[],[]),())) fun y=>j2 a t4 t4_2 t4_3 t4_4 y.2.1,Option.bind (q2h_ (y.1,y_1.1,(read,read_2,read_3,read_4,[],[]),())) fun y=>j2 a t4 t4_2 t4_3 t4_4 y.2.1],Option.bind (q5b_ (s,())) fun y_1=>Option.bind (q2h_ (y.1,y_1.1,(read,read_2,read_3,read_4,[],[]),())) fun y=>j2 a t4 t4_2 t4_3 t4_4 y.2.1],Option.bind (q5e_ ()) fun y=>Option.bind (q5b_ (s,())) fun y_1=>Option.bind (q2h_ (y.1,y_1.1,(read,read_2,read_3,read_4,[],[]),())) fun y=>j2 a t4 t4_2 t4_3 t4_4 y.2.1],amb (eqAs qg_.rs) [Option.bind (q5e_ ()) fun y=>amb (eqAs qg_.rs) [Option.bind (q5b_ (s,())) fun y_1=>amb (eqAs qg_.rs) [Option.bind (q2h_ (y.1,y_1.1,(read,read_2,read_3,read_4,[],[]),())) fun y=>j2 a t4 t4_2 t4_3 t4_4 y.2.1,Option.bind (q2h_ (y.1,y_1.1,(read,read_2,read_3,read_4,[],[]),())) fun y=>j2 a t4 t4_2 t4_3 t4_4 y.2.1],Option.bind (q5b_ (s,())) fun y_1=>Option.bind (q2h_ (y.1,y_1.1,(read,read_2,read_3,read_4,[],[]),())) fun y=>j2 a t4 t4_2 t4_3 t4_4 y.2.1],Option.bind (q5e_ ()) fun y=>Option.bind (q5b_ (s,())) fun y_1=>Option.bind (q2h_ (y.1,y_1.1,(read,read_2,read_3,read_4,[],[]),())) fun y=>j2 a t4 t4_2 t4_3 t4_4 y.2.1]]]
def qx0_ (a:YaA3q0) (t4 t4_2 t4_3 t4_4:Int) (r:Int×Int×List Bool×List Int×Int×Int):Option (As [.pr (.int .u8) YTT3]) :=
 some ((a.1,r.2),())
def qii_ (j1:Int×Int×YTT2×List Bool->YaA3q0->Int->Int->Int->Int->Int->Int->Int->Int->Option (As [.pr (.int .u8) YTT3])) (s:Int×Int×YTT2×List Bool) (a:YaA3q0):Option (As [.pr (.int .u8) YTT3]) :=
 Option.bind (qb0_ (a,())) fun y=>if y.2.1=true then some (y.1,()) else if eqi a.1 23=true then j1 s a 0 0 0 0 3 a.2.1 a.2.2.1 0 else j1 s a 0 0 0 0 a.1 a.2.1 a.2.2.1 0
def qir_ (a:YaA3q0) (t4 t4_2 t4_3 t4_4:Int) (r:Int×Int×List Bool×List Int×Int×Int):Option (As [.pr (.int .u8) YTT3]):=qx0_ a t4 t4_2 t4_3 t4_4 r
def qdh_ (s:Int×Int×YTT2×List Bool) (a:YaA3q0) (t4 t4_2 t4_3 t4_4 read read_2 read_3 read_4:Int):Option (As [.pr (.int .u8) YTT3]):=qia_ (qir_) s a t4 t4_2 t4_3 t4_4 read read_2 read_3 read_4
def qz_ (x:As [.pr (.int .u8) (.pr (.int .u8) (.pr (.pr (.sl (.int .u16)) YTT0) (.sl .bool))),.pr (.int .u8) YTT4]):Option (As [.pr (.int .u8) YTT3]):=qii_ qdh_ x.1 x.2.1
theorem q17c_ (J:Orc (As [.pr (.int .u8) YTT3])) (a:YaA3q0) (t4 t4_2 t4_3 t4_4:Int) (r:Int×Int×List Bool×List Int×Int×Int):pfn Tryz.prog q75_ 6 18446744073709551616 (Ev.get q76_) 129 qg_ J 31 [] (qim_ a t4 t4_2 t4_3 t4_4 r)=qx0_ a t4 t4_2 t4_3 t4_4 r:=by kernel_rfl
theorem q176_ (J:Orc (As [.pr (.int .u8) YTT3])) (s:Int×Int×YTT2×List Bool) (a:YaA3q0) (t4 t4_2 t4_3 t4_4 read read_2 read_3 read_4:Int):pfn Tryz.prog q75_ 6 18446744073709551616 (Ev.get q76_) 129 qg_ J 15 [] (qiq_ s a t4 t4_2 t4_3 t4_4 read read_2 read_3 read_4)=qia_ (fun a t4 t4_2 t4_3 t4_4 r=>J 31 [] (qim_ a t4 t4_2 t4_3 t4_4 r)) s a t4 t4_2 t4_3 t4_4 read read_2 read_3 read_4:=by kernel_rfl
theorem q16r_ (J:Orc (As [.pr (.int .u8) YTT3])) (x:As [.pr (.int .u8) (.pr (.int .u8) (.pr (.pr (.sl (.int .u16)) YTT0) (.sl .bool))),.pr (.int .u8) YTT4]):rfn Tryz.prog q75_ 6 18446744073709551616 (Ev.get q76_) 129 qg_ J x=qii_ (fun s a t4 t4_2 t4_3 t4_4 read read_2 read_3 read_4=>J 15 [] (qiq_ s a t4 t4_2 t4_3 t4_4 read read_2 read_3 read_4)) x.1 x.2.1:=by kernel_rfl
theorem q173_ (a:YaA3q0) (t4 t4_2 t4_3 t4_4:Int) (r:Int×Int×List Bool×List Int×Int×Int):jfn Tryz.prog q75_ 6 18446744073709551616 (Ev.get q76_) 129 qg_ 31 [] (qim_ a t4 t4_2 t4_3 t4_4 r)=qir_ a t4 t4_2 t4_3 t4_4 r:=by
 rw [q8_ (by decide)]
 rw [q17c_]
 rfl
theorem q16u_ (s:Int×Int×YTT2×List Bool) (a:YaA3q0) (t4 t4_2 t4_3 t4_4 read read_2 read_3 read_4:Int):jfn Tryz.prog q75_ 6 18446744073709551616 (Ev.get q76_) 129 qg_ 15 [] (qiq_ s a t4 t4_2 t4_3 t4_4 read read_2 read_3 read_4)=qdh_ s a t4 t4_2 t4_3 t4_4 read read_2 read_3 read_4:=by
 rw [q8_ (by decide)]
 have e2:(fun a t4 t4_2 t4_3 t4_4 r=>(jfn Tryz.prog q75_ 6 18446744073709551616 (Ev.get q76_) 129 qg_) 31 [] (qim_ a t4 t4_2 t4_3 t4_4 r))=qir_:=by funext a t4 t4_2 t4_3 t4_4 r; exact q173_ a t4 t4_2 t4_3 t4_4 r
 rw [q176_,e2]
 rfl
theorem q19s_ (x:As [.pr (.int .u8) (.pr (.int .u8) (.pr (.pr (.sl (.int .u16)) YTT0) (.sl .bool))),.pr (.int .u8) YTT4]):evT Tryz.prog q75_ 6 18446744073709551616 (Ev.get q76_) 129 qg_ x=qz_ x:=by
 have e1:(fun s a t4 t4_2 t4_3 t4_4 read read_2 read_3 read_4=>(jfn Tryz.prog q75_ 6 18446744073709551616 (Ev.get q76_) 129 qg_) 15 [] (qiq_ s a t4 t4_2 t4_3 t4_4 read read_2 read_3 read_4))=qdh_:=by funext s a t4 t4_2 t4_3 t4_4 read read_2 read_3 read_4; exact q16u_ s a t4 t4_2 t4_3 t4_4 read read_2 read_3 read_4
 rw [q5_,q16r_,e1]
 rfl
theorem q16l_:CtOk Tryz.prog (fun _=>True) 129 ⟨qg_,qz_⟩:=q3_ (q0_ Ev.bx_ok (q0_ q1gn_ (q0_ qze_ (q0_ q11c_ (q0_ q1hl_ q4_))))) q19s_
@[reducible] def qck_:Sh:=⟨[.d (.sl (.int .u16))],[],[.sl (.int .u16)],[.d (.pr (.int .u16) YTT6),.d (.int .i64)],[],0,[.pr (.int .u16) YTT6,.int .i64]⟩
def qji_:Env:=(cts [(81,(⟨qix_,qe2_⟩:Ct))])
def qjr_:List (Nat×Hint):=[(6,⟨[],[0,2,18]⟩)]
def qnk_ (w:List Int) (t18:Bool) (t2:Int×Int×Int×Int×Int):St:={ fr:=[(0,.d (.sl (.int .u16)) w),(2,.pb 0 0),(18,.d .bool t18)],nt:=45,up:=[],own:=[(0,.box 61 [.d (.int .u16) t2.1,.d (.int .u8) t2.2.1,.d (.int .u32) t2.2.2.1,.d (.int .u16) t2.2.2.2.1,.d (.int .u32) t2.2.2.2.2])],nx:=1,log:=[],ln:=0 }
def qn4_ (w:List Int) (t18:Bool) (t2:Int×Int×Int×Int×Int):Option (As [.pr (.int .u16) YTT6,.int .i64]) :=
 if t18=true then some ((0,0,0,0,0),2,()) else Option.bind (at? w 0) fun y=>Option.bind (at? w 1) fun y_1=>Option.bind (at? w 2) fun y_2=>Option.bind (at? w 3) fun y_3=>Option.bind (at? w 4) fun y_4=>Option.bind (at? w 5) fun y_5=>Option.bind (at? w 6) fun y_6=>Option.bind (qe2_ (y_2,y_3,())) fun y_7=>Option.bind (qe2_ (y_5,y_6,())) fun y_8=>some ((y,cvt .u8 y_1,y_7.1,y_4,y_8.1),0,())
def qnu_ (j1:List Int->Bool->Int×Int×Int×Int×Int->Option (As [.pr (.int .u16) YTT6,.int .i64])) (w:List Int):Option (As [.pr (.int .u16) YTT6,.int .i64]) :=
 if nei (Int.ofNat (List.length w)) 8=true then j1 w true (0,0,0,0,0) else Option.bind (at? w 7) fun y=>if nei y 0=true then j1 w true (0,0,0,0,0) else Option.bind (at? w 1) fun y=>j1 w (ge y 256) (0,0,0,0,0)
def qhk_ (w:List Int) (t18:Bool) (t2:Int×Int×Int×Int×Int):Option (As [.pr (.int .u16) YTT6,.int .i64]):=qn4_ w t18 t2
def qge_ (x:As [.sl (.int .u16)]):Option (As [.pr (.int .u16) YTT6,.int .i64]):=qnu_ qhk_ x.1
theorem q1bo_ (J:Orc (As [.pr (.int .u16) YTT6,.int .i64])) (w:List Int) (t18:Bool) (t2:Int×Int×Int×Int×Int):pfn Tryz.prog qji_ 6 18446744073709551616 (Ev.get qjr_) 203 qck_ J 6 [] (qnk_ w t18 t2)=qn4_ w t18 t2:=by kernel_rfl
theorem q1b8_ (J:Orc (As [.pr (.int .u16) YTT6,.int .i64])) (x:As [.sl (.int .u16)]):rfn Tryz.prog qji_ 6 18446744073709551616 (Ev.get qjr_) 203 qck_ J x=qnu_ (fun w t18 t2=>J 6 [] (qnk_ w t18 t2)) x.1:=by kernel_rfl
theorem q1dd_ (w:List Int) (t18:Bool) (t2:Int×Int×Int×Int×Int):jfn Tryz.prog qji_ 6 18446744073709551616 (Ev.get qjr_) 203 qck_ 6 [] (qnk_ w t18 t2)=qhk_ w t18 t2:=by
 rw [q8_ (by decide)]
 rw [q1bo_]
 rfl
theorem q1f9_ (x:As [.sl (.int .u16)]):evT Tryz.prog qji_ 6 18446744073709551616 (Ev.get qjr_) 203 qck_ x=qge_ x:=by
 have e1:(fun w t18 t2=>(jfn Tryz.prog qji_ 6 18446744073709551616 (Ev.get qjr_) 203 qck_) 6 [] (qnk_ w t18 t2))=qhk_:=by funext w t18 t2; exact q1dd_ w t18 t2
 rw [q5_,q1b8_,e1]
 rfl
theorem q1bx_:CtOk Tryz.prog (fun _=>True) 203 ⟨qck_,qge_⟩:=q3_ (q0_ q10h_ q4_) q1f9_
@[reducible] def q4l_:Sh:=⟨[.d (.pr (.sl (.int .u16)) YTT0)],[],[.pr (.sl (.int .u16)) YTT0],[.d (.pr (.sl (.int .u16)) YTT0)],[],0,[.pr (.sl (.int .u16)) YTT0]⟩
def qbi_:Env:=(cts [(131,(⟨q27_,qe_⟩:Ct))])
def qbe_:List (Nat×Hint):=[(58,⟨[],[1,2,12,13]⟩),(7475,⟨[.frb 5],[1,2,3,5,12,13]⟩)]
def q7t_ (a t2:Int) (t12:List Bool) (t13:Int) (a_2 t2_2:List YTT2):St:={ fr:=[(1,.prw 0 a 32 0),(2,.prw 1 t2 32 0),(12,.d (.ar 8 .bool) t12),(13,.d (.int .i64) t13)],nt:=41,up:=[],own:=[(0,.row (.pr (.sl (.int .u16)) YTT0) 35 a_2),(1,.row (.pr (.sl (.int .u16)) YTT0) 35 t2_2)],nx:=2,log:=[],ln:=0 }
def qrq_ (a t2 i:Int) (t12:List Bool) (t13:Int) (a_2 t2_2:List YTT2) (x:Int×List Int):St:={ fr:=[(1,.prw 0 a 32 0),(2,.prw 1 t2 32 0),(3,.d (.int .i64) i),(5,.pb 2 0),(12,.d (.ar 8 .bool) t12),(13,.d (.int .i64) t13)],nt:=41,up:=[],own:=[(0,.row (.pr (.sl (.int .u16)) YTT0) 35 a_2),(1,.row (.pr (.sl (.int .u16)) YTT0) 35 t2_2),(2,.box 30 [.d (.int .i64) x.1,.d (.sl (.int .u16)) x.2])],nx:=3,log:=[],ln:=0 }
def qf5_ (j2:Int->Int->Int->List Bool->Int->List YTT2->List YTT2->Int×List Int->Option (As [.pr (.sl (.int .u16)) YTT0])) (self1:Int->Int->List Bool->Int->List YTT2->List YTT2->Option (As [.pr (.sl (.int .u16)) YTT0])) (a t2:Int) (t12:List Bool) (t13:Int) (a_2 t2_2:List YTT2):Option (As [.pr (.sl (.int .u16)) YTT0]) :=
 if lt t13 8=true then need (lt t13 8) (Option.bind (at? t12 t13) fun y=>if y=true then need (ge t13 0) (need (lt t13 8) (Option.bind (at? a_2 a) fun y=>Option.bind (at? y.2.2.2.2.2.1.2.2 t13) fun z=>need (ge t13 0) (need (lt t13 8) (Option.bind (at? a_2 a) fun y=>Option.bind (at? y.2.2.2.2.2.1.2.2 t13) fun z_1=>Option.bind (qe_ (z_1.2,())) fun y=>j2 a t2 t13 t12 t13 a_2 t2_2 (z.1,y.1))))) else j2 a t2 t13 t12 t13 a_2 t2_2 (0,[])) else Option.bind (at? a_2 a) fun y=>Option.bind (at? t2_2 t2) fun x=>Option.bind (at? (List.set t2_2 (Int.toNat t2) y) t2) fun y_1=>Option.bind (at? (List.set t2_2 (Int.toNat t2) y) t2) fun y=>some (y,())
def qs2_ (self1:Int->Int->List Bool->Int->List YTT2->List YTT2->Option (As [.pr (.sl (.int .u16)) YTT0])) (a t2 i:Int) (t12:List Bool) (t13:Int) (a_2 t2_2:List YTT2) (x:Int×List Int):Option (As [.pr (.sl (.int .u16)) YTT0]) :=
 need (ge i 0) (need (lt i 8) (Option.bind (at? a_2 a) fun x_1=>Option.bind (at? x_1.2.2.2.2.2.1.2.2 i) fun z=>self1 a t2 t12 (add .i64 t13 1) (List.set a_2 (Int.toNat a) (x_1.1,x_1.2.1,x_1.2.2.1,x_1.2.2.2.1,x_1.2.2.2.2.1,(x_1.2.2.2.2.2.1.1,x_1.2.2.2.2.2.1.2.1,List.set x_1.2.2.2.2.2.1.2.2 (Int.toNat i) x),x_1.2.2.2.2.2.2)) t2_2))
def qq8_ (j1:Int->Int->List Bool->Int->List YTT2->List YTT2->Option (As [.pr (.sl (.int .u16)) YTT0])) (a:List Int×(Int×Int)×Int×Int×Int×YTT9×Int):Option (As [.pr (.sl (.int .u16)) YTT0]) :=
 Option.bind (qe_ (a.1,())) fun y=>j1 0 0 a.2.2.2.2.2.1.2.1 0 [(y.1,a.2)] [zAg0]
def qet_ (u1:Int->Int->List Bool->Int->List YTT2->List YTT2->Option (As [.pr (.sl (.int .u16)) YTT0])) (a t2 i:Int) (t12:List Bool) (t13:Int) (a_2 t2_2:List YTT2) (x:Int×List Int):Option (As [.pr (.sl (.int .u16)) YTT0]):=qs2_ u1 a t2 i t12 t13 a_2 t2_2 x
def qfh_ (a t2:Int) (t12:List Bool) (t13:Int) (a_2 t2_2:List YTT2):Option (As [.pr (.sl (.int .u16)) YTT0]) :=
 loopF (fun (self:(Int)×(Int)×(List Bool)×(Int)×(List YTT2)×(List YTT2)->Option (As [.pr (.sl (.int .u16)) YTT0])) (s:(Int)×(Int)×(List Bool)×(Int)×(List YTT2)×(List YTT2))=>qf5_ (qet_ (fun a t2 t12 t13 a_2 t2_2=>self (a,t2,t12,t13,a_2,t2_2))) (fun a t2 t12 t13 a_2 t2_2=>self (a,t2,t12,t13,a_2,t2_2)) s.1 s.2.1 s.2.2.1 s.2.2.2.1 s.2.2.2.2.1 s.2.2.2.2.2) 18446744073709551616 (a,t2,t12,t13,a_2,t2_2)
def q9o_ (x:As [.pr (.sl (.int .u16)) YTT0]):Option (As [.pr (.sl (.int .u16)) YTT0]):=qq8_ qfh_ x.1
theorem q1fw_ (J:Orc (As [.pr (.sl (.int .u16)) YTT0])) (w1:St->Option (As [.pr (.sl (.int .u16)) YTT0])) (a t2 i:Int) (t12:List Bool) (t13:Int) (a_2 t2_2:List YTT2) (x:Int×List Int):pfn Tryz.prog qbi_ 6 18446744073709551616 (Ev.get qbe_) 178 q4l_ J 7475 [w1] (qrq_ a t2 i t12 t13 a_2 t2_2 x)=qs2_ (fun a t2 t12 t13 a_2 t2_2=>w1 (q7t_ a t2 t12 t13 a_2 t2_2)) a t2 i t12 t13 a_2 t2_2 x:=by kernel_rfl
theorem q1g9_ (J:Orc (As [.pr (.sl (.int .u16)) YTT0])) (w1:St->Option (As [.pr (.sl (.int .u16)) YTT0])) (a t2:Int) (t12:List Bool) (t13:Int) (a_2 t2_2:List YTT2):pfn Tryz.prog qbi_ 6 18446744073709551616 (Ev.get qbe_) 178 q4l_ J 58 [w1] (q7t_ a t2 t12 t13 a_2 t2_2)=qf5_ (fun a t2 i t12 t13 a_2 t2_2 x=>J 7475 [w1] (qrq_ a t2 i t12 t13 a_2 t2_2 x)) (fun a t2 t12 t13 a_2 t2_2=>w1 (q7t_ a t2 t12 t13 a_2 t2_2)) a t2 t12 t13 a_2 t2_2:=by kernel_rfl
theorem q1dp_ (J:Orc (As [.pr (.sl (.int .u16)) YTT0])) (x:As [.pr (.sl (.int .u16)) YTT0]):rfn Tryz.prog qbi_ 6 18446744073709551616 (Ev.get qbe_) 178 q4l_ J x=qq8_ (fun a t2 t12 t13 a_2 t2_2=>J 58 [] (q7t_ a t2 t12 t13 a_2 t2_2)) x.1:=by kernel_rfl
theorem q1h1_ (w1:St->Option (As [.pr (.sl (.int .u16)) YTT0])) (a t2 i:Int) (t12:List Bool) (t13:Int) (a_2 t2_2:List YTT2) (x:Int×List Int):jfn Tryz.prog qbi_ 6 18446744073709551616 (Ev.get qbe_) 178 q4l_ 7475 [w1] (qrq_ a t2 i t12 t13 a_2 t2_2 x)=qet_ (fun a t2 t12 t13 a_2 t2_2=>w1 (q7t_ a t2 t12 t13 a_2 t2_2)) a t2 i t12 t13 a_2 t2_2 x:=by
 rw [q8_ (by decide)]
 rw [q1fw_]
 rfl
theorem q1ff_ (a t2:Int) (t12:List Bool) (t13:Int) (a_2 t2_2:List YTT2):jfn Tryz.prog qbi_ 6 18446744073709551616 (Ev.get qbe_) 178 q4l_ 58 [] (q7t_ a t2 t12 t13 a_2 t2_2)=qfh_ a t2 t12 t13 a_2 t2_2:=by
 rw [q8_ (by decide)]
 rw [qr_ (by kernel_rfl)]
 refine qi_ (σ:=(Int)×(Int)×(List Bool)×(Int)×(List YTT2)×(List YTT2)) (mk:=fun s=>q7t_ s.1 s.2.1 s.2.2.1 s.2.2.2.1 s.2.2.2.2.1 s.2.2.2.2.2) (fun w1 s=>?_) 18446744073709551616 (a,t2,t12,t13,a_2,t2_2)
 have e2:(fun a t2 i t12 t13 a_2 t2_2 x=>(jfn Tryz.prog qbi_ 6 18446744073709551616 (Ev.get qbe_) 178 q4l_) 7475 [w1] (qrq_ a t2 i t12 t13 a_2 t2_2 x))=qet_ (fun a t2 t12 t13 a_2 t2_2=>w1 (q7t_ a t2 t12 t13 a_2 t2_2)):=by funext a t2 i t12 t13 a_2 t2_2 x; exact q1h1_ w1 a t2 i t12 t13 a_2 t2_2 x
 refine (q1g9_ _ w1 s.1 s.2.1 s.2.2.1 s.2.2.2.1 s.2.2.2.2.1 s.2.2.2.2.2).trans ?_
 rw [e2]
theorem q1i1_ (x:As [.pr (.sl (.int .u16)) YTT0]):evT Tryz.prog qbi_ 6 18446744073709551616 (Ev.get qbe_) 178 q4l_ x=q9o_ x:=by
 have e1:(fun a t2 t12 t13 a_2 t2_2=>(jfn Tryz.prog qbi_ 6 18446744073709551616 (Ev.get qbe_) 178 q4l_) 58 [] (q7t_ a t2 t12 t13 a_2 t2_2))=qfh_:=by funext a t2 t12 t13 a_2 t2_2; exact q1ff_ a t2 t12 t13 a_2 t2_2
 rw [q5_,q1dp_,e1]
 rfl
theorem qs5_:CtOk Tryz.prog (fun _=>True) 178 ⟨q4l_,q9o_⟩:=q3_ (q0_ q5t_ q4_) q1i1_
@[reducible] def qfg_:Sh:=⟨[.d (.pr (.sl (.int .u16)) YTT0),.d (.int .u16)],[],[.pr (.sl (.int .u16)) YTT0,.int .u16],[.d (.bool)],[],0,[.bool]⟩
def qyk_:Env:=(cts [(2000035,Ev.bxCt),(113,(⟨q9x_,q5j_⟩:Ct))])
def qye_:List (Nat×Hint):=[]
def qij_ (a:List Int×(Int×Int)×Int×Int×Int×YTT9×Int) (owner:Int):Option (As [.bool]) :=
 Option.bind (q5j_ (a.2.1,())) fun y=>if (!y.1)=true then some (nei a.2.1.1 owner,()) else some (false,())
def q35_ (x:As [.pr (.sl (.int .u16)) YTT0,.int .u16]):Option (As [.bool]):=qij_ x.1 x.2.1
theorem q17j_ (J:Orc (As [.bool])) (x:As [.pr (.sl (.int .u16)) YTT0,.int .u16]):rfn Tryz.prog qyk_ 6 18446744073709551616 (Ev.get qye_) 214 qfg_ J x=qij_ x.1 x.2.1:=by kernel_rfl
theorem q1a4_ (x:As [.pr (.sl (.int .u16)) YTT0,.int .u16]):evT Tryz.prog qyk_ 6 18446744073709551616 (Ev.get qye_) 214 qfg_ x=q35_ x:=by
 rw [q5_,q17j_]
 rfl
theorem qx3_:CtOk Tryz.prog (fun _=>True) 214 ⟨qfg_,q35_⟩:=q3_ (q0_ Ev.bx_ok (q0_ qho_ q4_)) q1a4_
@[reducible] def qic_:Sh:=⟨[.d (.pr (.sl (.int .u16)) YTT0),.d (.pr (.int .u16) YTT6)],[],[.pr (.sl (.int .u16)) YTT0,.pr (.int .u16) YTT6],[.d (.bool)],[],0,[.bool]⟩
def qwx_:Env:=(cts [(2000035,Ev.bxCt)])
def qxa_:List (Nat×Hint):=[]
def qga_ (a:List Int×(Int×Int)×Int×Int×Int×YTT9×Int) (c:Int×Int×Int×Int×Int):Option (As [.bool]) :=
 if le c.2.2.1 a.2.2.2.2.1=true then some (true,()) else if nei a.2.2.1 0=true then some (lt c.2.2.1 a.2.2.2.1,()) else some (false,())
def qd6_ (x:As [.pr (.sl (.int .u16)) YTT0,.pr (.int .u16) YTT6]):Option (As [.bool]):=qga_ x.1 x.2.1
theorem q15j_ (J:Orc (As [.bool])) (x:As [.pr (.sl (.int .u16)) YTT0,.pr (.int .u16) YTT6]):rfn Tryz.prog qwx_ 6 18446744073709551616 (Ev.get qxa_) 219 qic_ J x=qga_ x.1 x.2.1:=by kernel_rfl
theorem q17g_ (x:As [.pr (.sl (.int .u16)) YTT0,.pr (.int .u16) YTT6]):evT Tryz.prog qwx_ 6 18446744073709551616 (Ev.get qxa_) 219 qic_ x=qd6_ x:=by
 rw [q5_,q15j_]
 rfl
theorem q14y_:CtOk Tryz.prog (fun _=>True) 219 ⟨qic_,qd6_⟩:=q3_ (q0_ Ev.bx_ok q4_) q17g_
@[reducible] def q8i_:Sh:=⟨[.d (.pr (.sl (.int .u16)) YTT0)],[],[.pr (.sl (.int .u16)) YTT0],[.d (.pr (.sl (.int .u16)) YTT0)],[],0,[.pr (.sl (.int .u16)) YTT0]⟩
def q10o_:Env:=(cts [])
def q114_:List (Nat×Hint):=[]
def qyh_ (a:List Int×(Int×Int)×Int×Int×Int×YTT9×Int):Option (As [.pr (.sl (.int .u16)) YTT0]) :=
 some ((a.1,(0,0),0,0,a.2.2.2.2.1,zSt,a.2.2.2.2.2.2),())
def q4n_ (x:As [.pr (.sl (.int .u16)) YTT0]):Option (As [.pr (.sl (.int .u16)) YTT0]):=qyh_ x.1
theorem q186_ (J:Orc (As [.pr (.sl (.int .u16)) YTT0])) (x:As [.pr (.sl (.int .u16)) YTT0]):rfn Tryz.prog q10o_ 6 18446744073709551616 (Ev.get q114_) 180 q8i_ J x=qyh_ x.1:=by kernel_rfl
theorem q1ah_ (x:As [.pr (.sl (.int .u16)) YTT0]):evT Tryz.prog q10o_ 6 18446744073709551616 (Ev.get q114_) 180 q8i_ x=q4n_ x:=by
 rw [q5_,q186_]
 rfl
theorem qfd_:CtOk Tryz.prog (fun _=>True) 180 ⟨q8i_,q4n_⟩:=q3_ q4_ q1ah_
@[reducible] def q65_:Sh:=⟨[.d (.pr (.int .u16) (.int .i64)),.d (.int .u16),.d (.int .i64)],[],[.pr (.int .u16) (.int .i64),.int .u16,.int .i64],[.d (.pr (.int .u16) (.int .i64)),.d (.int .i64)],[],0,[.pr (.int .u16) (.int .i64),.int .i64]⟩
def q9p_:Env:=(cts [(113,(⟨q9x_,q5j_⟩:Ct)),(167,(⟨q7o_,q4b_⟩:Ct)),(207,(⟨qc7_,q6l_⟩:Ct))])
def q9k_:List (Nat×Hint):=[(30,⟨[],[1,2,3,6,25]⟩),(14,⟨[],[1,2,3,6,15,21,22,23,24]⟩)]
def qn1_ (owner ticks:Int) (t15:Bool) (l t6:Int×Int):St:={ fr:=[(1,.d (.int .u16) owner),(2,.d (.int .i64) ticks),(3,.pb 0 0),(6,.pb 1 0),(15,.d .bool t15)],nt:=35,up:=[],own:=[(0,.box 27 [.d (.int .u16) l.1,.d (.int .i64) l.2]),(1,.box 27 [.d (.int .u16) t6.1,.d (.int .i64) t6.2])],nx:=2,log:=[],ln:=0 }
def qmr_ (owner ticks:Int) (t25:Bool) (l t6:Int×Int):St:={ fr:=[(1,.d (.int .u16) owner),(2,.d (.int .i64) ticks),(3,.pb 0 0),(6,.pb 1 0),(25,.d .bool t25)],nt:=35,up:=[],own:=[(0,.box 27 [.d (.int .u16) l.1,.d (.int .i64) l.2]),(1,.box 27 [.d (.int .u16) t6.1,.d (.int .i64) t6.2])],nx:=2,log:=[],ln:=0 }
def qne_ (j2:Int->Int->Bool->Int×Int->Int×Int->Option (As [.pr (.int .u16) (.int .i64),.int .i64])) (owner ticks:Int) (t15:Bool) (l t6:Int×Int):Option (As [.pr (.int .u16) (.int .i64),.int .i64]) :=
 if t15=true then some (l,2,()) else Option.bind (q5j_ (l,())) fun y=>if (!y.1)=true then j2 owner ticks (nei l.1 owner) l t6 else j2 owner ticks false l t6
def qna_ (owner ticks:Int) (t25:Bool) (l t6:Int×Int):Option (As [.pr (.int .u16) (.int .i64),.int .i64]) :=
 if t25=true then some (l,22,()) else Option.bind (q6l_ (owner,())) fun y=>if (eqi l.1 y.1.1 && (eqi l.2 y.1.2 && true))=true then some (l,0,()) else some ((owner,ticks),0,())
def qmm_ (j1:Int->Int->Bool->Int×Int->Int×Int->Option (As [.pr (.int .u16) (.int .i64),.int .i64])) (l:Int×Int) (owner ticks:Int):Option (As [.pr (.int .u16) (.int .i64),.int .i64]) :=
 Option.bind (q4b_ (l,())) fun y=>if eqi owner 0=true then j1 owner ticks true y.1 (0,0) else j1 owner ticks (lt ticks 1) y.1 (0,0)
def qhf_ (owner ticks:Int) (t25:Bool) (l t6:Int×Int):Option (As [.pr (.int .u16) (.int .i64),.int .i64]):=qna_ owner ticks t25 l t6
def qnt_ (owner ticks:Int) (t15:Bool) (l t6:Int×Int):Option (As [.pr (.int .u16) (.int .i64),.int .i64]):=qne_ (qhf_) owner ticks t15 l t6
def qrs_ (x:As [.pr (.int .u16) (.int .i64),.int .u16,.int .i64]):Option (As [.pr (.int .u16) (.int .i64),.int .i64]):=qmm_ qnt_ x.1 x.2.1 x.2.2.1
theorem q1bu_ (J:Orc (As [.pr (.int .u16) (.int .i64),.int .i64])) (owner ticks:Int) (t25:Bool) (l t6:Int×Int):pfn Tryz.prog q9p_ 6 18446744073709551616 (Ev.get q9k_) 227 q65_ J 30 [] (qmr_ owner ticks t25 l t6)=qna_ owner ticks t25 l t6:=by kernel_rfl
theorem q1d6_ (J:Orc (As [.pr (.int .u16) (.int .i64),.int .i64])) (owner ticks:Int) (t15:Bool) (l t6:Int×Int):pfn Tryz.prog q9p_ 6 18446744073709551616 (Ev.get q9k_) 227 q65_ J 14 [] (qn1_ owner ticks t15 l t6)=qne_ (fun owner ticks t25 l t6=>J 30 [] (qmr_ owner ticks t25 l t6)) owner ticks t15 l t6:=by kernel_rfl
theorem q1as_ (J:Orc (As [.pr (.int .u16) (.int .i64),.int .i64])) (x:As [.pr (.int .u16) (.int .i64),.int .u16,.int .i64]):rfn Tryz.prog q9p_ 6 18446744073709551616 (Ev.get q9k_) 227 q65_ J x=qmm_ (fun owner ticks t15 l t6=>J 14 [] (qn1_ owner ticks t15 l t6)) x.1 x.2.1 x.2.2.1:=by kernel_rfl
theorem q1cu_ (owner ticks:Int) (t25:Bool) (l t6:Int×Int):jfn Tryz.prog q9p_ 6 18446744073709551616 (Ev.get q9k_) 227 q65_ 30 [] (qmr_ owner ticks t25 l t6)=qhf_ owner ticks t25 l t6:=by
 rw [q8_ (by decide)]
 rw [q1bu_]
 rfl
theorem q1cr_ (owner ticks:Int) (t15:Bool) (l t6:Int×Int):jfn Tryz.prog q9p_ 6 18446744073709551616 (Ev.get q9k_) 227 q65_ 14 [] (qn1_ owner ticks t15 l t6)=qnt_ owner ticks t15 l t6:=by
 rw [q8_ (by decide)]
 have e2:(fun owner ticks t25 l t6=>(jfn Tryz.prog q9p_ 6 18446744073709551616 (Ev.get q9k_) 227 q65_) 30 [] (qmr_ owner ticks t25 l t6))=qhf_:=by funext owner ticks t25 l t6; exact q1cu_ owner ticks t25 l t6
 rw [q1d6_,e2]
 rfl
theorem q1dl_ (x:As [.pr (.int .u16) (.int .i64),.int .u16,.int .i64]):evT Tryz.prog q9p_ 6 18446744073709551616 (Ev.get q9k_) 227 q65_ x=qrs_ x:=by
 have e1:(fun owner ticks t15 l t6=>(jfn Tryz.prog q9p_ 6 18446744073709551616 (Ev.get q9k_) 227 q65_) 14 [] (qn1_ owner ticks t15 l t6))=qnt_:=by funext owner ticks t15 l t6; exact q1cr_ owner ticks t15 l t6
 rw [q5_,q1as_,e1]
 rfl
theorem q1cq_:CtOk Tryz.prog (fun _=>True) 227 ⟨q65_,qrs_⟩:=q3_ (q0_ qho_ (q0_ qgw_ (q0_ qo8_ q4_))) q1dl_
@[reducible] def qhr_:Sh:=⟨[.d (.pr (.sl (.int .u16)) YTT0),.d (.int .u16)],[],[.pr (.sl (.int .u16)) YTT0,.int .u16],[.d (.pr (.sl (.int .u16)) YTT0)],[],0,[.pr (.sl (.int .u16)) YTT0]⟩
def q10l_:Env:=(cts [(227,(⟨q65_,qrs_⟩:Ct))])
def q110_:List (Nat×Hint):=[]
def qkq_ (a:List Int×(Int×Int)×Int×Int×Int×YTT9×Int) (owner:Int):Option (As [.pr (.sl (.int .u16)) YTT0]) :=
 Option.bind (qrs_ (a.2.1,owner,a.2.2.2.2.2.2,())) fun y=>some ((a.1,y.1,a.2.2),())
def q9c_ (x:As [.pr (.sl (.int .u16)) YTT0,.int .u16]):Option (As [.pr (.sl (.int .u16)) YTT0]):=qkq_ x.1 x.2.1
theorem q187_ (J:Orc (As [.pr (.sl (.int .u16)) YTT0])) (x:As [.pr (.sl (.int .u16)) YTT0,.int .u16]):rfn Tryz.prog q10l_ 6 18446744073709551616 (Ev.get q110_) 217 qhr_ J x=qkq_ x.1 x.2.1:=by kernel_rfl
theorem q1bl_ (x:As [.pr (.sl (.int .u16)) YTT0,.int .u16]):evT Tryz.prog q10l_ 6 18446744073709551616 (Ev.get q110_) 217 qhr_ x=q9c_ x:=by
 rw [q5_,q187_]
 rfl
theorem qzd_:CtOk Tryz.prog (fun _=>True) 217 ⟨qhr_,q9c_⟩:=q3_ (q0_ q1cq_ q4_) q1bl_
@[reducible] def qmj_:Sh:=⟨[.d (.pr (.sl (.int .u16)) YTT0),.d (.pr (.int .u16) YTT6)],[],[.pr (.sl (.int .u16)) YTT0,.pr (.int .u16) YTT6],[.d (.pr (.sl (.int .u16)) YTT0)],[],0,[.pr (.sl (.int .u16)) YTT0]⟩
def q11e_:Env:=(cts [(180,(⟨q8i_,q4n_⟩:Ct)),(217,(⟨qhr_,q9c_⟩:Ct))])
def q111_:List (Nat×Hint):=[]
def qjy_ (a:List Int×(Int×Int)×Int×Int×Int×YTT9×Int) (c:Int×Int×Int×Int×Int):Option (As [.pr (.sl (.int .u16)) YTT0]) :=
 if eqi c.2.2.1 a.2.2.2.1=true then Option.bind (q9c_ (a,c.1,())) fun y=>some (y.1,()) else Option.bind (q4n_ (a,())) fun y=>Option.bind (q9c_ (y.1,c.1,())) fun y=>some ((y.1.1,y.1.2.1,1,c.2.2.1,y.1.2.2.2.2.1,(c.2.2.1,y.1.2.2.2.2.2.1.2),y.1.2.2.2.2.2.2),())
def qi4_ (x:As [.pr (.sl (.int .u16)) YTT0,.pr (.int .u16) YTT6]):Option (As [.pr (.sl (.int .u16)) YTT0]):=qjy_ x.1 x.2.1
theorem q18b_ (J:Orc (As [.pr (.sl (.int .u16)) YTT0])) (x:As [.pr (.sl (.int .u16)) YTT0,.pr (.int .u16) YTT6]):rfn Tryz.prog q11e_ 6 18446744073709551616 (Ev.get q111_) 220 qmj_ J x=qjy_ x.1 x.2.1:=by kernel_rfl
theorem q1ax_ (x:As [.pr (.sl (.int .u16)) YTT0,.pr (.int .u16) YTT6]):evT Tryz.prog q11e_ 6 18446744073709551616 (Ev.get q111_) 220 qmj_ x=qi4_ x:=by
 rw [q5_,q18b_]
 rfl
theorem q194_:CtOk Tryz.prog (fun _=>True) 220 ⟨qmj_,qi4_⟩:=q3_ (q0_ qfd_ (q0_ qzd_ q4_)) q1ax_
@[reducible] def qkd_:Sh:=⟨[.d (.pr (.sl (.int .u16)) YTT0),.d (.int .u8),.d (.int .u32)],[],[.pr (.sl (.int .u16)) YTT0,.int .u8,.int .u32],[.d (.bool)],[],0,[.bool]⟩
def q16z_:Env:=(cts [(2000035,Ev.bxCt)])
def q17s_:List (Nat×Hint):=[]
def qt7_ (a:List Int×(Int×Int)×Int×Int×Int×YTT9×Int) (phase tx:Int):Option (As [.bool]) :=
 if eqi a.2.2.1 phase=true then some (eqi a.2.2.2.1 tx,()) else some (false,())
def qe9_ (x:As [.pr (.sl (.int .u16)) YTT0,.int .u8,.int .u32]):Option (As [.bool]):=qt7_ x.1 x.2.1 x.2.2.1
theorem q1i6_ (J:Orc (As [.bool])) (x:As [.pr (.sl (.int .u16)) YTT0,.int .u8,.int .u32]):rfn Tryz.prog q16z_ 6 18446744073709551616 (Ev.get q17s_) 215 qkd_ J x=qt7_ x.1 x.2.1 x.2.2.1:=by kernel_rfl
theorem q1jg_ (x:As [.pr (.sl (.int .u16)) YTT0,.int .u8,.int .u32]):evT Tryz.prog q16z_ 6 18446744073709551616 (Ev.get q17s_) 215 qkd_ x=qe9_ x:=by
 rw [q5_,q1i6_]
 rfl
theorem qxv_:CtOk Tryz.prog (fun _=>True) 215 ⟨qkd_,qe9_⟩:=q3_ (q0_ Ev.bx_ok q4_) q1jg_
@[reducible] def qsx_:Sh:=⟨[.d (.int .u32)],[],[.int .u32],[.d (.int .u32)],[],0,[.int .u32]⟩
def q14p_:Env:=(cts [])
def q14m_:List (Nat×Hint):=[]
def qrn_ (sum:Int):Option (As [.int .u32]) :=
 if eqi (Sx.band .u32 sum 1) 1=true then some (Sx.bxor .u32 (Sx.shr .u32 sum 1) 3988292384,()) else some (Sx.shr .u32 sum 1,())
def qow_ (x:As [.int .u32]):Option (As [.int .u32]):=qrn_ x.1
theorem q1ee_ (J:Orc (As [.int .u32])) (x:As [.int .u32]):rfn Tryz.prog q14p_ 6 18446744073709551616 (Ev.get q14m_) 206 qsx_ J x=qrn_ x.1:=by kernel_rfl
theorem q1is_ (x:As [.int .u32]):evT Tryz.prog q14p_ 6 18446744073709551616 (Ev.get q14m_) 206 qsx_ x=qow_ x:=by
 rw [q5_,q1ee_]
 rfl
theorem q1h6_:CtOk Tryz.prog (fun _=>True) 206 ⟨qsx_,qow_⟩:=q3_ q4_ q1is_
@[reducible] def qjd_:Sh:=⟨[.d (.int .u32),.d (.int .u8)],[],[.int .u32,.int .u8],[.d (.int .u32)],[],0,[.int .u32]⟩
def qu0_:Env:=(cts [(206,(⟨qsx_,qow_⟩:Ct))])
def qui_:List (Nat×Hint):=[(58,⟨[],[0,9]⟩)]
def qkn_ (sum t9:Int):St:={ fr:=[(0,.d (.int .u32) sum),(9,.d (.int .i64) t9)],nt:=15,up:=[],own:=[],nx:=0,log:=[],ln:=0 }
def qrd_ (self1:Int->Int->Option (As [.int .u32])) (sum t9:Int):Option (As [.int .u32]) :=
 if lt t9 8=true then Option.bind (qow_ (sum,())) fun y=>self1 y.1 (add .i64 t9 1) else some (sum,())
def q16h_ (j1:Int->Int->Option (As [.int .u32])) (sum b:Int):Option (As [.int .u32]) :=
 j1 (Sx.bxor .u32 sum (cvt .u32 b)) 0
def qpf_ (sum t9:Int):Option (As [.int .u32]) :=
 loopF (fun (self:(Int)×(Int)->Option (As [.int .u32])) (s:(Int)×(Int))=>qrd_ (fun sum t9=>self (sum,t9)) s.1 s.2) 18446744073709551616 (sum,t9)
def qyy_ (x:As [.int .u32,.int .u8]):Option (As [.int .u32]):=q16h_ qpf_ x.1 x.2.1
theorem q1jj_ (J:Orc (As [.int .u32])) (w1:St->Option (As [.int .u32])) (sum t9:Int):pfn Tryz.prog qu0_ 6 18446744073709551616 (Ev.get qui_) 177 qjd_ J 58 [w1] (qkn_ sum t9)=qrd_ (fun sum t9=>w1 (qkn_ sum t9)) sum t9:=by kernel_rfl
theorem q1jf_ (J:Orc (As [.int .u32])) (x:As [.int .u32,.int .u8]):rfn Tryz.prog qu0_ 6 18446744073709551616 (Ev.get qui_) 177 qjd_ J x=q16h_ (fun sum t9=>J 58 [] (qkn_ sum t9)) x.1 x.2.1:=by kernel_rfl
theorem q1jp_ (sum t9:Int):jfn Tryz.prog qu0_ 6 18446744073709551616 (Ev.get qui_) 177 qjd_ 58 [] (qkn_ sum t9)=qpf_ sum t9:=by
 rw [q8_ (by decide)]
 rw [qr_ (by kernel_rfl)]
 refine qi_ (σ:=(Int)×(Int)) (mk:=fun s=>qkn_ s.1 s.2) (fun w1 s=>?_) 18446744073709551616 (sum,t9)
 refine (q1jj_ _ w1 s.1 s.2).trans ?_
 rfl
theorem q1jx_ (x:As [.int .u32,.int .u8]):evT Tryz.prog qu0_ 6 18446744073709551616 (Ev.get qui_) 177 qjd_ x=qyy_ x:=by
 have e1:(fun sum t9=>(jfn Tryz.prog qu0_ 6 18446744073709551616 (Ev.get qui_) 177 qjd_) 58 [] (qkn_ sum t9))=qpf_:=by funext sum t9; exact q1jp_ sum t9
 rw [q5_,q1jf_,e1]
 rfl
theorem q1je_:CtOk Tryz.prog (fun _=>True) 177 ⟨qjd_,qyy_⟩:=q3_ (q0_ q1h6_ q4_) q1jx_
@[reducible] def q7g_:Sh:=⟨[.d (.sl (.int .u8))],[],[.sl (.int .u8)],[.d (.int .u32)],[],0,[.int .u32]⟩
def qbl_:Env:=(cts [(177,(⟨qjd_,qyy_⟩:Ct))])
def qbq_:List (Nat×Hint):=[(7,⟨[],[3]⟩),(58,⟨[],[0,3,6,7]⟩)]
def qfs_ (b:List Int) (sum t6 t7:Int):St:={ fr:=[(0,.d (.sl (.int .u8)) b),(3,.d (.int .u32) sum),(6,.d (.int .i64) t6),(7,.d (.int .i64) t7)],nt:=19,up:=[],own:=[],nx:=0,log:=[],ln:=0 }
def qp7_ (sum:Int):St:={ fr:=[(3,.d (.int .u32) sum)],nt:=19,up:=[],own:=[],nx:=0,log:=[],ln:=0 }
def qf8_ (j2:Int->Option (As [.int .u32])) (self1:List Int->Int->Int->Int->Option (As [.int .u32])) (b:List Int) (sum t6 t7:Int):Option (As [.int .u32]) :=
 if lt t7 t6=true then Option.bind (at? b t7) fun y=>Option.bind (qyy_ (sum,y,())) fun y=>self1 b y.1 t6 (add .i64 t7 1) else j2 sum
def qvu_ (sum:Int):Option (As [.int .u32]) :=
 some (Int.ofNat (BitVec.toNat { toFin:=⟨4294967295 ^^^ BitVec.toNat { toFin:=⟨Int.toNat (sum % 4294967296),BitVec.ofInt._proof_1 (Go.IntKind.bits .u32) sum⟩ },BitVec.xor._proof_1 (BitVec.ofInt (Go.IntKind.bits .u32) (if Go.IntKind.signed .u32=true then -1 else Go.IntKind.max .u32)) (BitVec.ofInt (Go.IntKind.bits .u32) sum)⟩ } % 4294967296),())
def q13q_ (j1:List Int->Int->Int->Int->Option (As [.int .u32])) (b:List Int):Option (As [.int .u32]) :=
 j1 b 4294967295 (Int.ofNat (List.length b)) 0
def qvw_ (sum:Int):Option (As [.int .u32]):=qvu_ sum
def qj9_ (b:List Int) (sum t6 t7:Int):Option (As [.int .u32]) :=
 loopF (fun (self:(List Int)×(Int)×(Int)×(Int)->Option (As [.int .u32])) (s:(List Int)×(Int)×(Int)×(Int))=>qf8_ (qvw_) (fun b sum t6 t7=>self (b,sum,t6,t7)) s.1 s.2.1 s.2.2.1 s.2.2.2) 18446744073709551616 (b,sum,t6,t7)
def quf_ (x:As [.sl (.int .u8)]):Option (As [.int .u32]):=q13q_ qj9_ x.1
theorem q1gw_ (J:Orc (As [.int .u32])) (sum:Int):pfn Tryz.prog qbl_ 6 18446744073709551616 (Ev.get qbq_) 134 q7g_ J 7 [] (qp7_ sum)=qvu_ sum:=by kernel_rfl
theorem q1fe_ (J:Orc (As [.int .u32])) (w1:St->Option (As [.int .u32])) (b:List Int) (sum t6 t7:Int):pfn Tryz.prog qbl_ 6 18446744073709551616 (Ev.get qbq_) 134 q7g_ J 58 [w1] (qfs_ b sum t6 t7)=qf8_ (fun sum=>J 7 [] (qp7_ sum)) (fun b sum t6 t7=>w1 (qfs_ b sum t6 t7)) b sum t6 t7:=by kernel_rfl
theorem q1ew_ (J:Orc (As [.int .u32])) (x:As [.sl (.int .u8)]):rfn Tryz.prog qbl_ 6 18446744073709551616 (Ev.get qbq_) 134 q7g_ J x=q13q_ (fun b sum t6 t7=>J 58 [] (qfs_ b sum t6 t7)) x.1:=by kernel_rfl
theorem q1df_ (sum:Int):jfn Tryz.prog qbl_ 6 18446744073709551616 (Ev.get qbq_) 134 q7g_ 7 [] (qp7_ sum)=qvw_ sum:=by
 rw [q8_ (by decide)]
 rw [q1gw_]
 rfl
theorem q1h4_ (b:List Int) (sum t6 t7:Int):jfn Tryz.prog qbl_ 6 18446744073709551616 (Ev.get qbq_) 134 q7g_ 58 [] (qfs_ b sum t6 t7)=qj9_ b sum t6 t7:=by
 rw [q8_ (by decide)]
 rw [qr_ (by kernel_rfl)]
 refine qi_ (σ:=(List Int)×(Int)×(Int)×(Int)) (mk:=fun s=>qfs_ s.1 s.2.1 s.2.2.1 s.2.2.2) (fun w1 s=>?_) 18446744073709551616 (b,sum,t6,t7)
 have e2:(fun sum=>(jfn Tryz.prog qbl_ 6 18446744073709551616 (Ev.get qbq_) 134 q7g_) 7 [] (qp7_ sum))=qvw_:=funext fun sum=>q1df_ sum
 refine (q1fe_ _ w1 s.1 s.2.1 s.2.2.1 s.2.2.2).trans ?_
 rw [e2]
theorem q1i9_ (x:As [.sl (.int .u8)]):evT Tryz.prog qbl_ 6 18446744073709551616 (Ev.get qbq_) 134 q7g_ x=quf_ x:=by
 have e1:(fun b sum t6 t7=>(jfn Tryz.prog qbl_ 6 18446744073709551616 (Ev.get qbq_) 134 q7g_) 58 [] (qfs_ b sum t6 t7))=qj9_:=by funext b sum t6 t7; exact q1h4_ b sum t6 t7
 rw [q5_,q1ew_,e1]
 rfl
theorem q1fz_:CtOk Tryz.prog (fun _=>True) 134 ⟨q7g_,quf_⟩:=q3_ (q0_ q1je_ q4_) q1i9_
@[reducible] def q6u_:Sh:=⟨[.d (.sl (.int .u16))],[],[.sl (.int .u16)],[.d (.sl (.int .u8))],[],0,[.sl (.int .u8)]⟩
def qcq_:Env:=(cts [])
def qci_:List (Nat×Hint):=[(58,⟨[],[0,3,10,11]⟩)]
def q8g_ (l:List Int) (t10 t11:Int) (b:List Int):St:={ fr:=[(0,.d (.sl (.int .u16)) l),(3,.row 0),(10,.d (.int .i64) t10),(11,.d (.int .i64) t11)],nt:=36,up:=[],own:=[(0,.row (.int .u8) 5 b)],nx:=1,log:=[],ln:=0 }
def q8f_ (self1:List Int->Int->Int->List Int->Option (As [.sl (.int .u8)])) (l:List Int) (t10 t11:Int) (b:List Int):Option (As [.sl (.int .u8)]) :=
 if lt t11 t10=true then Option.bind (at? l t11) fun y=>Option.bind (at? l t11) fun y_1=>Option.bind (at? b (mul .i64 2 t11)) fun x=>Option.bind (at? b (mul .i64 2 t11)) fun x=>Option.bind (at? (List.set b (Int.toNat (mul .i64 2 t11)) (cvt .u8 (Sx.shr .u16 y 8))) (add .i64 (mul .i64 2 t11) 1)) fun x=>Option.bind (at? (List.set b (Int.toNat (mul .i64 2 t11)) (cvt .u8 (Sx.shr .u16 y 8))) (add .i64 (mul .i64 2 t11) 1)) fun x=>self1 l t10 (add .i64 t11 1) (List.set (List.set b (Int.toNat (mul .i64 2 t11)) (cvt .u8 (Sx.shr .u16 y 8))) (Int.toNat (add .i64 (mul .i64 2 t11) 1)) (cvt .u8 y_1)) else some (b,())
def qer_ (j1:List Int->Int->Int->List Int->Option (As [.sl (.int .u8)])) (l:List Int):Option (As [.sl (.int .u8)]) :=
 need (ge (mul .i64 2 (Int.ofNat (List.length l))) 0) (need (Ev.capOk (mul .i64 2 (Int.ofNat (List.length l))) (mul .i64 2 (Int.ofNat (List.length l)))) (need (small (Int.toNat (mul .i64 2 (Int.ofNat (List.length l))))) (j1 l (Int.ofNat (List.length l)) 0 (List.replicate (Int.toNat (mul .i64 2 (Int.ofNat (List.length l)))) 0))))
def qai_ (l:List Int) (t10 t11:Int) (b:List Int):Option (As [.sl (.int .u8)]) :=
 loopF (fun (self:(List Int)×(Int)×(Int)×(List Int)->Option (As [.sl (.int .u8)])) (s:(List Int)×(Int)×(Int)×(List Int))=>q8f_ (fun l t10 t11 b=>self (l,t10,t11,b)) s.1 s.2.1 s.2.2.1 s.2.2.2) 18446744073709551616 (l,t10,t11,b)
def qf7_ (x:As [.sl (.int .u16)]):Option (As [.sl (.int .u8)]):=qer_ qai_ x.1
theorem q140_ (J:Orc (As [.sl (.int .u8)])) (w1:St->Option (As [.sl (.int .u8)])) (l:List Int) (t10 t11:Int) (b:List Int):pfn Tryz.prog qcq_ 6 18446744073709551616 (Ev.get qci_) 135 q6u_ J 58 [w1] (q8g_ l t10 t11 b)=q8f_ (fun l t10 t11 b=>w1 (q8g_ l t10 t11 b)) l t10 t11 b:=by kernel_rfl
theorem q13y_ (J:Orc (As [.sl (.int .u8)])) (x:As [.sl (.int .u16)]):rfn Tryz.prog qcq_ 6 18446744073709551616 (Ev.get qci_) 135 q6u_ J x=qer_ (fun l t10 t11 b=>J 58 [] (q8g_ l t10 t11 b)) x.1:=by kernel_rfl
theorem q143_ (l:List Int) (t10 t11:Int) (b:List Int):jfn Tryz.prog qcq_ 6 18446744073709551616 (Ev.get qci_) 135 q6u_ 58 [] (q8g_ l t10 t11 b)=qai_ l t10 t11 b:=by
 rw [q8_ (by decide)]
 rw [qr_ (by kernel_rfl)]
 refine qi_ (σ:=(List Int)×(Int)×(Int)×(List Int)) (mk:=fun s=>q8g_ s.1 s.2.1 s.2.2.1 s.2.2.2) (fun w1 s=>?_) 18446744073709551616 (l,t10,t11,b)
 refine (q140_ _ w1 s.1 s.2.1 s.2.2.1 s.2.2.2).trans ?_
 rfl
theorem q155_ (x:As [.sl (.int .u16)]):evT Tryz.prog qcq_ 6 18446744073709551616 (Ev.get qci_) 135 q6u_ x=qf7_ x:=by
 have e1:(fun l t10 t11 b=>(jfn Tryz.prog qcq_ 6 18446744073709551616 (Ev.get qci_) 135 q6u_) 58 [] (q8g_ l t10 t11 b))=qai_:=by funext l t10 t11 b; exact q143_ l t10 t11 b
 rw [q5_,q13y_,e1]
 rfl
theorem q14a_:CtOk Tryz.prog (fun _=>True) 135 ⟨q6u_,qf7_⟩:=q3_ q4_ q155_
@[reducible] def qt4_:Sh:=⟨[.d (.sl (.int .u16))],[],[.sl (.int .u16)],[.d (.int .u32)],[],0,[.int .u32]⟩
def q14j_:Env:=(cts [(134,(⟨q7g_,quf_⟩:Ct)),(135,(⟨q6u_,qf7_⟩:Ct))])
def q14o_:List (Nat×Hint):=[]
def qq2_ (l:List Int):Option (As [.int .u32]) :=
 Option.bind (qf7_ (l,())) fun y=>Option.bind (quf_ (y.1,())) fun y=>some (y.1,())
def qts_ (x:As [.sl (.int .u16)]):Option (As [.int .u32]):=qq2_ x.1
theorem q1ej_ (J:Orc (As [.int .u32])) (x:As [.sl (.int .u16)]):rfn Tryz.prog q14j_ 6 18446744073709551616 (Ev.get q14o_) 74 qt4_ J x=qq2_ x.1:=by kernel_rfl
theorem q1j1_ (x:As [.sl (.int .u16)]):evT Tryz.prog q14j_ 6 18446744073709551616 (Ev.get q14o_) 74 qt4_ x=qts_ x:=by
 rw [q5_,q1ej_]
 rfl
theorem q1es_:CtOk Tryz.prog (fun _=>True) 74 ⟨qt4_,qts_⟩:=q3_ (q0_ q1fz_ (q0_ q14a_ q4_)) q1j1_
@[reducible] def q7h_:Sh:=⟨[.d (.sl YTT8)],[],[.sl YTT8],[.d (.int .u32)],[],0,[.int .u32]⟩
def qbg_:Env:=(cts [(73,(⟨q32_,q7n_⟩:Ct)),(74,(⟨qt4_,qts_⟩:Ct))])
def qb9_:List (Nat×Hint):=[(7,⟨[],[3]⟩),(58,⟨[.row 3 23],[3,6,7,8]⟩)]
def qg4_ (t6:List (Int×List Int)) (t7 t8:Int) (all:List Int):St:={ fr:=[(3,.row 0),(6,.d (.sl YTT8) t6),(7,.d (.int .i64) t7),(8,.d (.int .i64) t8)],nt:=19,up:=[],own:=[(0,.row (.int .u16) 23 all)],nx:=1,log:=[],ln:=0 }
def qpm_ (all:List Int):St:={ fr:=[(3,.row 0)],nt:=19,up:=[],own:=[(0,.row (.int .u16) 23 all)],nx:=1,log:=[],ln:=0 }
def qey_ (j2:List Int->Option (As [.int .u32])) (self1:List (Int×List Int)->Int->Int->List Int->Option (As [.int .u32])) (t6:List (Int×List Int)) (t7 t8:Int) (all:List Int):Option (As [.int .u32]) :=
 if lt t8 t7=true then Option.bind (at? t6 t8) fun y=>Option.bind (q7n_ (y,())) fun y=>need (small (List.length all + List.length y.1)) (self1 t6 t7 (add .i64 t8 1) (all++y.1)) else j2 all
def qr5_ (all:List Int):Option (As [.int .u32]) :=
 Option.bind (qts_ (all,())) fun y=>some (y.1,())
def q139_ (j1:List (Int×List Int)->Int->Int->List Int->Option (As [.int .u32])) (l:List (Int×List Int)):Option (As [.int .u32]) :=
 j1 l (Int.ofNat (List.length l)) 0 []
def qs1_ (all:List Int):Option (As [.int .u32]):=qr5_ all
def qiw_ (t6:List (Int×List Int)) (t7 t8:Int) (all:List Int):Option (As [.int .u32]) :=
 loopF (fun (self:(List (Int×List Int))×(Int)×(Int)×(List Int)->Option (As [.int .u32])) (s:(List (Int×List Int))×(Int)×(Int)×(List Int))=>qey_ (qs1_) (fun t6 t7 t8 all=>self (t6,t7,t8,all)) s.1 s.2.1 s.2.2.1 s.2.2.2) 18446744073709551616 (t6,t7,t8,all)
def qu2_ (x:As [.sl YTT8]):Option (As [.int .u32]):=q139_ qiw_ x.1
theorem q1g6_ (J:Orc (As [.int .u32])) (all:List Int):pfn Tryz.prog qbg_ 6 18446744073709551616 (Ev.get qb9_) 19 q7h_ J 7 [] (qpm_ all)=qr5_ all:=by kernel_rfl
theorem q1fy_ (J:Orc (As [.int .u32])) (w1:St->Option (As [.int .u32])) (t6:List (Int×List Int)) (t7 t8:Int) (all:List Int):pfn Tryz.prog qbg_ 6 18446744073709551616 (Ev.get qb9_) 19 q7h_ J 58 [w1] (qg4_ t6 t7 t8 all)=qey_ (fun all=>J 7 [] (qpm_ all)) (fun t6 t7 t8 all=>w1 (qg4_ t6 t7 t8 all)) t6 t7 t8 all:=by kernel_rfl
theorem q1h9_ (J:Orc (As [.int .u32])) (x:As [.sl YTT8]):rfn Tryz.prog qbg_ 6 18446744073709551616 (Ev.get qb9_) 19 q7h_ J x=q139_ (fun t6 t7 t8 all=>J 58 [] (qg4_ t6 t7 t8 all)) x.1:=by kernel_rfl
theorem q1gv_ (all:List Int):jfn Tryz.prog qbg_ 6 18446744073709551616 (Ev.get qb9_) 19 q7h_ 7 [] (qpm_ all)=qs1_ all:=by
 rw [q8_ (by decide)]
 rw [q1g6_]
 rfl
theorem q1dw_ (t6:List (Int×List Int)) (t7 t8:Int) (all:List Int):jfn Tryz.prog qbg_ 6 18446744073709551616 (Ev.get qb9_) 19 q7h_ 58 [] (qg4_ t6 t7 t8 all)=qiw_ t6 t7 t8 all:=by
 rw [q8_ (by decide)]
 rw [qr_ (by kernel_rfl)]
 refine qi_ (σ:=(List (Int×List Int))×(Int)×(Int)×(List Int)) (mk:=fun s=>qg4_ s.1 s.2.1 s.2.2.1 s.2.2.2) (fun w1 s=>?_) 18446744073709551616 (t6,t7,t8,all)
 have e2:(fun all=>(jfn Tryz.prog qbg_ 6 18446744073709551616 (Ev.get qb9_) 19 q7h_) 7 [] (qpm_ all))=qs1_:=funext fun all=>q1gv_ all
 refine (q1fy_ _ w1 s.1 s.2.1 s.2.2.1 s.2.2.2).trans ?_
 rw [e2]
theorem q1ig_ (x:As [.sl YTT8]):evT Tryz.prog qbg_ 6 18446744073709551616 (Ev.get qb9_) 19 q7h_ x=qu2_ x:=by
 have e1:(fun t6 t7 t8 all=>(jfn Tryz.prog qbg_ 6 18446744073709551616 (Ev.get qb9_) 19 q7h_) 58 [] (qg4_ t6 t7 t8 all))=qiw_:=by funext t6 t7 t8 all; exact q1dw_ t6 t7 t8 all
 rw [q5_,q1h9_,e1]
 rfl
theorem q1fx_:CtOk Tryz.prog (fun _=>True) 19 ⟨q7h_,qu2_⟩:=q3_ (q0_ qr2_ (q0_ q1es_ q4_)) q1ig_
@[reducible] def q5n_:Sh:=⟨[.d (.pr (.int .u32) (.pr (.ar 8 .bool) (.ar 8 YTT8)))],[],[.pr (.int .u32) (.pr (.ar 8 .bool) (.ar 8 YTT8))],[.d (.sl YTT8)],[],0,[.sl YTT8]⟩
def qg3_:Env:=(cts [(2000033,Ev.bxCt),(79,(⟨qi5_,qe3_⟩:Ct))])
def qfb_:List (Nat×Hint):=[(58,⟨[.row 3 30],[1,3,7,8]⟩)]
def qa3_ (s:Int×List Bool×List (Int×List Int)) (t7:List Bool) (t8:Int) (l:List (Int×List Int)):St:={ fr:=[(1,.pe (.pr (.int .u32) (.pr (.ar 8 .bool) (.ar 8 YTT8))) s),(3,.row 0),(7,.d (.ar 8 .bool) t7),(8,.d (.int .i64) t8)],nt:=23,up:=[],own:=[(0,.row YTT8 30 l)],nx:=1,log:=[],ln:=0 }
def qa9_ (self1:Int×List Bool×List (Int×List Int)->List Bool->Int->List (Int×List Int)->Option (As [.sl YTT8])) (s:Int×List Bool×List (Int×List Int)) (t7:List Bool) (t8:Int) (l:List (Int×List Int)):Option (As [.sl YTT8]) :=
 if lt t8 8=true then need (lt t8 8) (Option.bind (at? t7 t8) fun y=>if y=true then Option.bind (at? s.2.2 t8) fun y=>Option.bind (qe3_ (y,())) fun y=>need (small (List.length l + Nat.succ 0)) (self1 s t7 (add .i64 t8 1) (l++[y.1])) else self1 s t7 (add .i64 t8 1) l) else some (l,())
def qx1_ (j1:Int×List Bool×List (Int×List Int)->List Bool->Int->List (Int×List Int)->Option (As [.sl YTT8])) (s:Int×List Bool×List (Int×List Int)):Option (As [.sl YTT8]) :=
 j1 s s.2.1 0 []
def qdw_ (s:Int×List Bool×List (Int×List Int)) (t7:List Bool) (t8:Int) (l:List (Int×List Int)):Option (As [.sl YTT8]) :=
 loopF (fun (self:YTT9×(List Bool)×(Int)×(List (Int×List Int))->Option (As [.sl YTT8])) (s:YTT9×(List Bool)×(Int)×(List (Int×List Int)))=>qa9_ (fun s t7 t8 l=>self (s,t7,t8,l)) s.1 s.2.1 s.2.2.1 s.2.2.2) 18446744073709551616 (s,t7,t8,l)
def q6f_ (x:As [.pr (.int .u32) (.pr (.ar 8 .bool) (.ar 8 YTT8))]):Option (As [.sl YTT8]):=qx1_ qdw_ x.1
theorem q17k_ (J:Orc (As [.sl YTT8])) (w1:St->Option (As [.sl YTT8])) (s:Int×List Bool×List (Int×List Int)) (t7:List Bool) (t8:Int) (l:List (Int×List Int)):pfn Tryz.prog qg3_ 6 18446744073709551616 (Ev.get qfb_) 139 q5n_ J 58 [w1] (qa3_ s t7 t8 l)=qa9_ (fun s t7 t8 l=>w1 (qa3_ s t7 t8 l)) s t7 t8 l:=by kernel_rfl
theorem q17f_ (J:Orc (As [.sl YTT8])) (x:As [.pr (.int .u32) (.pr (.ar 8 .bool) (.ar 8 YTT8))]):rfn Tryz.prog qg3_ 6 18446744073709551616 (Ev.get qfb_) 139 q5n_ J x=qx1_ (fun s t7 t8 l=>J 58 [] (qa3_ s t7 t8 l)) x.1:=by kernel_rfl
theorem q16x_ (s:Int×List Bool×List (Int×List Int)) (t7:List Bool) (t8:Int) (l:List (Int×List Int)):jfn Tryz.prog qg3_ 6 18446744073709551616 (Ev.get qfb_) 139 q5n_ 58 [] (qa3_ s t7 t8 l)=qdw_ s t7 t8 l:=by
 rw [q8_ (by decide)]
 rw [qr_ (by kernel_rfl)]
 refine qi_ (σ:=YTT9×(List Bool)×(Int)×(List (Int×List Int))) (mk:=fun s=>qa3_ s.1 s.2.1 s.2.2.1 s.2.2.2) (fun w1 s=>?_) 18446744073709551616 (s,t7,t8,l)
 refine (q17k_ _ w1 s.1 s.2.1 s.2.2.1 s.2.2.2).trans ?_
 rfl
theorem q18l_ (x:As [.pr (.int .u32) (.pr (.ar 8 .bool) (.ar 8 YTT8))]):evT Tryz.prog qg3_ 6 18446744073709551616 (Ev.get qfb_) 139 q5n_ x=q6f_ x:=by
 have e1:(fun s t7 t8 l=>(jfn Tryz.prog qg3_ 6 18446744073709551616 (Ev.get qfb_) 139 q5n_) 58 [] (qa3_ s t7 t8 l))=qdw_:=by funext s t7 t8 l; exact q16x_ s t7 t8 l
 rw [q5_,q17f_,e1]
 rfl
theorem qpn_:CtOk Tryz.prog (fun _=>True) 139 ⟨q5n_,q6f_⟩:=q3_ (q0_ Ev.bx_ok (q0_ qwg_ q4_)) q18l_
@[reducible] def q33_:Sh:=⟨[.d (.pr (.int .u32) (.pr (.ar 8 .bool) (.ar 8 YTT8))),.d (.int .i64),.d (.int .u32)],[],[.pr (.int .u32) (.pr (.ar 8 .bool) (.ar 8 YTT8)),.int .i64,.int .u32],[.d (.bool)],[],0,[.bool]⟩
def q4f_:Env:=(cts [(2000033,Ev.bxCt),(19,(⟨q7h_,qu2_⟩:Ct)),(139,(⟨q5n_,q6f_⟩:Ct))])
def q4g_:List (Nat×Hint):=[(7,⟨[],[2,3]⟩),(58,⟨[],[1,2,3,16,17]⟩),(6,⟨[],[1,2,3,14]⟩)]
def qk2_ (count check:Int) (s:Int×List Bool×List (Int×List Int)) (t14:Bool):St:={ fr:=[(1,.d (.int .i64) count),(2,.d (.int .u32) check),(3,.pe (.pr (.int .u32) (.pr (.ar 8 .bool) (.ar 8 YTT8))) s),(14,.d .bool t14)],nt:=32,up:=[],own:=[],nx:=0,log:=[],ln:=0 }
def qbr_ (count check:Int) (s:Int×List Bool×List (Int×List Int)) (t16:List Bool) (t17:Int):St:={ fr:=[(1,.d (.int .i64) count),(2,.d (.int .u32) check),(3,.pe (.pr (.int .u32) (.pr (.ar 8 .bool) (.ar 8 YTT8))) s),(16,.d (.ar 8 .bool) t16),(17,.d (.int .i64) t17)],nt:=32,up:=[],own:=[],nx:=0,log:=[],ln:=0 }
def qk9_ (check:Int) (s:Int×List Bool×List (Int×List Int)):St:={ fr:=[(2,.d (.int .u32) check),(3,.pe (.pr (.int .u32) (.pr (.ar 8 .bool) (.ar 8 YTT8))) s)],nt:=32,up:=[],own:=[],nx:=0,log:=[],ln:=0 }
def qzf_ (j2:Int->Int->Int×List Bool×List (Int×List Int)->List Bool->Int->Option (As [.bool])) (count check:Int) (s:Int×List Bool×List (Int×List Int)) (t14:Bool):Option (As [.bool]) :=
 if t14=true then some (false,()) else j2 count check s s.2.1 0
def q91_ (j3:Int->Int×List Bool×List (Int×List Int)->Option (As [.bool])) (self2:Int->Int->Int×List Bool×List (Int×List Int)->List Bool->Int->Option (As [.bool])) (count check:Int) (s:Int×List Bool×List (Int×List Int)) (t16:List Bool) (t17:Int):Option (As [.bool]) :=
 if lt t17 8=true then need (lt t17 8) (Option.bind (at? t16 t17) fun y=>if Sx.neb y (lt t17 count)=true then some (false,()) else self2 count check s t16 (add .i64 t17 1)) else j3 check s
def qkv_ (check:Int) (s:Int×List Bool×List (Int×List Int)):Option (As [.bool]) :=
 Option.bind (q6f_ (s,())) fun y=>Option.bind (qu2_ (y.1,())) fun y=>some (eqi y.1 check,())
def qkf_ (j1:Int->Int->Int×List Bool×List (Int×List Int)->Bool->Option (As [.bool])) (s:Int×List Bool×List (Int×List Int)) (count check:Int):Option (As [.bool]) :=
 if lt count 0=true then j1 count check s true else j1 count check s (gt count 8)
def q5l_ (check:Int) (s:Int×List Bool×List (Int×List Int)):Option (As [.bool]):=qkv_ check s
def qfe_ (count check:Int) (s:Int×List Bool×List (Int×List Int)) (t16:List Bool) (t17:Int):Option (As [.bool]) :=
 loopF (fun (self:(Int)×(Int)×YTT9×(List Bool)×(Int)->Option (As [.bool])) (s:(Int)×(Int)×YTT9×(List Bool)×(Int))=>q91_ (q5l_) (fun count check s t16 t17=>self (count,check,s,t16,t17)) s.1 s.2.1 s.2.2.1 s.2.2.2.1 s.2.2.2.2) 18446744073709551616 (count,check,s,t16,t17)
def qf3_ (count check:Int) (s:Int×List Bool×List (Int×List Int)) (t14:Bool):Option (As [.bool]):=qzf_ (qfe_) count check s t14
def qmi_ (x:As [.pr (.int .u32) (.pr (.ar 8 .bool) (.ar 8 YTT8)),.int .i64,.int .u32]):Option (As [.bool]):=qkf_ qf3_ x.1 x.2.1 x.2.2.1
theorem q19r_ (J:Orc (As [.bool])) (check:Int) (s:Int×List Bool×List (Int×List Int)):pfn Tryz.prog q4f_ 6 18446744073709551616 (Ev.get q4g_) 229 q33_ J 7 [] (qk9_ check s)=qkv_ check s:=by kernel_rfl
theorem q18u_ (J:Orc (As [.bool])) (w2:St->Option (As [.bool])) (count check:Int) (s:Int×List Bool×List (Int×List Int)) (t16:List Bool) (t17:Int):pfn Tryz.prog q4f_ 6 18446744073709551616 (Ev.get q4g_) 229 q33_ J 58 [w2] (qbr_ count check s t16 t17)=q91_ (fun check s=>J 7 [] (qk9_ check s)) (fun count check s t16 t17=>w2 (qbr_ count check s t16 t17)) count check s t16 t17:=by kernel_rfl
theorem q19p_ (J:Orc (As [.bool])) (count check:Int) (s:Int×List Bool×List (Int×List Int)) (t14:Bool):pfn Tryz.prog q4f_ 6 18446744073709551616 (Ev.get q4g_) 229 q33_ J 6 [] (qk2_ count check s t14)=qzf_ (fun count check s t16 t17=>J 58 [] (qbr_ count check s t16 t17)) count check s t14:=by kernel_rfl
theorem q18x_ (J:Orc (As [.bool])) (x:As [.pr (.int .u32) (.pr (.ar 8 .bool) (.ar 8 YTT8)),.int .i64,.int .u32]):rfn Tryz.prog q4f_ 6 18446744073709551616 (Ev.get q4g_) 229 q33_ J x=qkf_ (fun count check s t14=>J 6 [] (qk2_ count check s t14)) x.1 x.2.1 x.2.2.1:=by kernel_rfl
theorem q19y_ (check:Int) (s:Int×List Bool×List (Int×List Int)):jfn Tryz.prog q4f_ 6 18446744073709551616 (Ev.get q4g_) 229 q33_ 7 [] (qk9_ check s)=q5l_ check s:=by
 rw [q8_ (by decide)]
 rw [q19r_]
 rfl
theorem q189_ (count check:Int) (s:Int×List Bool×List (Int×List Int)) (t16:List Bool) (t17:Int):jfn Tryz.prog q4f_ 6 18446744073709551616 (Ev.get q4g_) 229 q33_ 58 [] (qbr_ count check s t16 t17)=qfe_ count check s t16 t17:=by
 rw [q8_ (by decide)]
 rw [qr_ (by kernel_rfl)]
 refine qi_ (σ:=(Int)×(Int)×YTT9×(List Bool)×(Int)) (mk:=fun s=>qbr_ s.1 s.2.1 s.2.2.1 s.2.2.2.1 s.2.2.2.2) (fun w2 s=>?_) 18446744073709551616 (count,check,s,t16,t17)
 have e3:(fun check s=>(jfn Tryz.prog q4f_ 6 18446744073709551616 (Ev.get q4g_) 229 q33_) 7 [] (qk9_ check s))=q5l_:=by funext check s; exact q19y_ check s
 refine (q18u_ _ w2 s.1 s.2.1 s.2.2.1 s.2.2.2.1 s.2.2.2.2).trans ?_
 rw [e3]
theorem q18n_ (count check:Int) (s:Int×List Bool×List (Int×List Int)) (t14:Bool):jfn Tryz.prog q4f_ 6 18446744073709551616 (Ev.get q4g_) 229 q33_ 6 [] (qk2_ count check s t14)=qf3_ count check s t14:=by
 rw [q8_ (by decide)]
 have e2:(fun count check s t16 t17=>(jfn Tryz.prog q4f_ 6 18446744073709551616 (Ev.get q4g_) 229 q33_) 58 [] (qbr_ count check s t16 t17))=qfe_:=by funext count check s t16 t17; exact q189_ count check s t16 t17
 rw [q19p_,e2]
 rfl
theorem q1d0_ (x:As [.pr (.int .u32) (.pr (.ar 8 .bool) (.ar 8 YTT8)),.int .i64,.int .u32]):evT Tryz.prog q4f_ 6 18446744073709551616 (Ev.get q4g_) 229 q33_ x=qmi_ x:=by
 have e1:(fun count check s t14=>(jfn Tryz.prog q4f_ 6 18446744073709551616 (Ev.get q4g_) 229 q33_) 6 [] (qk2_ count check s t14))=qf3_:=by funext count check s t14; exact q18n_ count check s t14
 rw [q5_,q18x_,e1]
 rfl
theorem q18o_:CtOk Tryz.prog (fun _=>True) 229 ⟨q33_,qmi_⟩:=q3_ (q0_ Ev.bx_ok (q0_ q1fx_ (q0_ qpn_ q4_))) q1d0_
@[reducible] def qel_:Sh:=⟨[.d (.pr (.sl (.int .u16)) YTT0),.d (.pr (.int .u16) YTT6)],[],[.pr (.sl (.int .u16)) YTT0,.pr (.int .u16) YTT6],[.d (.bool)],[],0,[.bool]⟩
def qur_:Env:=(cts [(2000035,Ev.bxCt),(215,(⟨qkd_,qe9_⟩:Ct)),(229,(⟨q33_,qmi_⟩:Ct))])
def quv_:List (Nat×Hint):=[]
def qe4_ (a:List Int×(Int×Int)×Int×Int×Int×YTT9×Int) (c:Int×Int×Int×Int×Int):Option (As [.bool]) :=
 Option.bind (qe9_ (a,2,c.2.2.1,())) fun y=>if y.1=true then some (false,()) else Option.bind (qe9_ (a,1,c.2.2.1,())) fun y=>if (!y.1)=true then some (true,()) else Option.bind (qmi_ (a.2.2.2.2.2.1,cvt .i64 c.2.2.2.1,c.2.2.2.2,())) fun y=>some (!y.1,())
def q9z_ (x:As [.pr (.sl (.int .u16)) YTT0,.pr (.int .u16) YTT6]):Option (As [.bool]):=qe4_ x.1 x.2.1
theorem q130_ (J:Orc (As [.bool])) (x:As [.pr (.sl (.int .u16)) YTT0,.pr (.int .u16) YTT6]):rfn Tryz.prog qur_ 6 18446744073709551616 (Ev.get quv_) 221 qel_ J x=qe4_ x.1 x.2.1:=by kernel_rfl
theorem q142_ (x:As [.pr (.sl (.int .u16)) YTT0,.pr (.int .u16) YTT6]):evT Tryz.prog qur_ 6 18446744073709551616 (Ev.get quv_) 221 qel_ x=q9z_ x:=by
 rw [q5_,q130_]
 rfl
theorem q13w_:CtOk Tryz.prog (fun _=>True) 221 ⟨qel_,q9z_⟩:=q3_ (q0_ Ev.bx_ok (q0_ qxv_ (q0_ q18o_ q4_))) q142_
@[reducible] def qpp_:Sh:=⟨[.d (.pr (.int .u16) (.int .i64)),.d (.int .u16)],[],[.pr (.int .u16) (.int .i64),.int .u16],[.d (.pr (.int .u16) (.int .i64)),.d (.int .i64)],[],0,[.pr (.int .u16) (.int .i64),.int .i64]⟩
def q132_:Env:=(cts [(167,(⟨q7o_,q4b_⟩:Ct)),(207,(⟨qc7_,q6l_⟩:Ct))])
def q13k_:List (Nat×Hint):=[]
def qo2_ (l:Int×Int) (owner:Int):Option (As [.pr (.int .u16) (.int .i64),.int .i64]) :=
 Option.bind (q4b_ (l,())) fun y=>if eqi owner 0=true then some (y.1,2,()) else if nei y.1.1 owner=true then some (y.1,22,()) else Option.bind (q6l_ (owner,())) fun y=>some (y.1,0,())
def qs8_ (x:As [.pr (.int .u16) (.int .i64),.int .u16]):Option (As [.pr (.int .u16) (.int .i64),.int .i64]):=qo2_ x.1 x.2.1
theorem q1bz_ (J:Orc (As [.pr (.int .u16) (.int .i64),.int .i64])) (x:As [.pr (.int .u16) (.int .i64),.int .u16]):rfn Tryz.prog q132_ 6 18446744073709551616 (Ev.get q13k_) 230 qpp_ J x=qo2_ x.1 x.2.1:=by kernel_rfl
theorem q1f4_ (x:As [.pr (.int .u16) (.int .i64),.int .u16]):evT Tryz.prog q132_ 6 18446744073709551616 (Ev.get q13k_) 230 qpp_ x=qs8_ x:=by
 rw [q5_,q1bz_]
 rfl
theorem q1aw_:CtOk Tryz.prog (fun _=>True) 230 ⟨qpp_,qs8_⟩:=q3_ (q0_ qgw_ (q0_ qo8_ q4_)) q1f4_
@[reducible] def qig_:Sh:=⟨[.d (.pr (.sl (.int .u16)) YTT0),.d (.pr (.int .u16) YTT6)],[],[.pr (.sl (.int .u16)) YTT0,.pr (.int .u16) YTT6],[.d (.pr (.sl (.int .u16)) YTT0)],[],0,[.pr (.sl (.int .u16)) YTT0]⟩
def qwy_:Env:=(cts [(230,(⟨qpp_,qs8_⟩:Ct))])
def qx8_:List (Nat×Hint):=[]
def qh4_ (a:List Int×(Int×Int)×Int×Int×Int×YTT9×Int) (c:Int×Int×Int×Int×Int):Option (As [.pr (.sl (.int .u16)) YTT0]) :=
 Option.bind (qs8_ (a.2.1,c.1,())) fun y=>some ((a.1,y.1,2,a.2.2.2),())
def qda_ (x:As [.pr (.sl (.int .u16)) YTT0,.pr (.int .u16) YTT6]):Option (As [.pr (.sl (.int .u16)) YTT0]):=qh4_ x.1 x.2.1
theorem q159_ (J:Orc (As [.pr (.sl (.int .u16)) YTT0])) (x:As [.pr (.sl (.int .u16)) YTT0,.pr (.int .u16) YTT6]):rfn Tryz.prog qwy_ 6 18446744073709551616 (Ev.get qx8_) 222 qig_ J x=qh4_ x.1 x.2.1:=by kernel_rfl
theorem q16q_ (x:As [.pr (.sl (.int .u16)) YTT0,.pr (.int .u16) YTT6]):evT Tryz.prog qwy_ 6 18446744073709551616 (Ev.get qx8_) 222 qig_ x=qda_ x:=by
 rw [q5_,q159_]
 rfl
theorem q15i_:CtOk Tryz.prog (fun _=>True) 222 ⟨qig_,qda_⟩:=q3_ (q0_ q1aw_ q4_) q16q_
@[reducible] def qh1_:Sh:=⟨[.d (.pr (.sl (.int .u16)) YTT0),.d (.pr (.int .u16) YTT6)],[],[.pr (.sl (.int .u16)) YTT0,.pr (.int .u16) YTT6],[.d (.bool)],[],0,[.bool]⟩
def qwi_:Env:=(cts [(2000035,Ev.bxCt),(215,(⟨qkd_,qe9_⟩:Ct))])
def qwc_:List (Nat×Hint):=[]
def qeq_ (a:List Int×(Int×Int)×Int×Int×Int×YTT9×Int) (c:Int×Int×Int×Int×Int):Option (As [.bool]) :=
 if nei a.2.2.2.2.1 c.2.2.1=true then Option.bind (qe9_ (a,2,c.2.2.1,())) fun y=>some (!y.1,()) else some (false,())
def qbw_ (x:As [.pr (.sl (.int .u16)) YTT0,.pr (.int .u16) YTT6]):Option (As [.bool]):=qeq_ x.1 x.2.1
theorem q149_ (J:Orc (As [.bool])) (x:As [.pr (.sl (.int .u16)) YTT0,.pr (.int .u16) YTT6]):rfn Tryz.prog qwi_ 6 18446744073709551616 (Ev.get qwc_) 223 qh1_ J x=qeq_ x.1 x.2.1:=by kernel_rfl
theorem q15h_ (x:As [.pr (.sl (.int .u16)) YTT0,.pr (.int .u16) YTT6]):evT Tryz.prog qwi_ 6 18446744073709551616 (Ev.get qwc_) 223 qh1_ x=qbw_ x:=by
 rw [q5_,q149_]
 rfl
theorem q14b_:CtOk Tryz.prog (fun _=>True) 223 ⟨qh1_,qbw_⟩:=q3_ (q0_ Ev.bx_ok (q0_ qxv_ q4_)) q15h_
@[reducible] def qcw_:Sh:=⟨[.d YTT8],[],[.pr (.int .i64) (.sl (.int .u16))],[.d (.bool)],[],0,[.bool]⟩
def q11n_:Env:=(cts [(76,(⟨qe7_,q8h_⟩:Ct))])
def q10x_:List (Nat×Hint):=[]
def qk7_ (x:Int×List Int):Option (As [.bool]) :=
 Option.bind (q8h_ (x,())) fun y=>some (!y.1,())
def qe8_ (x:As [.pr (.int .i64) (.sl (.int .u16))]):Option (As [.bool]):=qk7_ x.1
theorem q18d_ (J:Orc (As [.bool])) (x:As [.pr (.int .i64) (.sl (.int .u16))]):rfn Tryz.prog q11n_ 6 18446744073709551616 (Ev.get q10x_) 236 qcw_ J x=qk7_ x.1:=by kernel_rfl
theorem q1b1_ (x:As [.pr (.int .i64) (.sl (.int .u16))]):evT Tryz.prog q11n_ 6 18446744073709551616 (Ev.get q10x_) 236 qcw_ x=qe8_ x:=by
 rw [q5_,q18d_]
 rfl
theorem qso_:CtOk Tryz.prog (fun _=>True) 236 ⟨qcw_,qe8_⟩:=q3_ (q0_ qph_ q4_) q1b1_
@[reducible] def q1t_:Sh:=⟨[.d (.sl YTT8),.fn (.func 236) [] []],[],[.sl YTT8],[.d (.int .i64)],[],0,[.int .i64]⟩
def q3g_:Env:=(cts [(236,(⟨qcw_,qe8_⟩:Ct))])
def q3f_:List (Nat×Hint):=[(26,⟨[],[0,1,7,8]⟩)]
def q29_ (s:List (Int×List Int)) (t7 t8:Int):St:={ fr:=[(0,.d (.sl YTT8) s),(1,.fn (.func 236) [] []),(7,.d (.int .i64) t7),(8,.d (.int .i64) t8)],nt:=19,up:=[],own:=[],nx:=0,log:=[],ln:=0 }
def q2c_ (self1:List (Int×List Int)->Int->Int->Option (As [.int .i64])) (s:List (Int×List Int)) (t7 t8:Int):Option (As [.int .i64]) :=
 if lt t8 t7=true then Option.bind (at? s t8) fun y=>Option.bind (qe8_ (y,())) fun y=>if y.1=true then some (t8,()) else self1 s t7 (add .i64 t8 1) else some (-1,())
def qe1_ (j1:List (Int×List Int)->Int->Int->Option (As [.int .i64])) (s:List (Int×List Int)):Option (As [.int .i64]) :=
 j1 s (Int.ofNat (List.length s)) 0
def q3a_ (s:List (Int×List Int)) (t7 t8:Int):Option (As [.int .i64]) :=
 loopF (fun (self:(List (Int×List Int))×(Int)×(Int)->Option (As [.int .i64])) (s:(List (Int×List Int))×(Int)×(Int))=>q2c_ (fun s t7 t8=>self (s,t7,t8)) s.1 s.2.1 s.2.2) 18446744073709551616 (s,t7,t8)
def q3z_ (x:As [.sl YTT8]):Option (As [.int .i64]):=qe1_ q3a_ x.1
theorem qrj_ (J:Orc (As [.int .i64])) (w1:St->Option (As [.int .i64])) (s:List (Int×List Int)) (t7 t8:Int):pfn Tryz.prog q3g_ 6 18446744073709551616 (Ev.get q3f_) 237 q1t_ J 26 [w1] (q29_ s t7 t8)=q2c_ (fun s t7 t8=>w1 (q29_ s t7 t8)) s t7 t8:=by kernel_rfl
theorem qpv_ (J:Orc (As [.int .i64])) (x:As [.sl YTT8]):rfn Tryz.prog q3g_ 6 18446744073709551616 (Ev.get q3f_) 237 q1t_ J x=qe1_ (fun s t7 t8=>J 26 [] (q29_ s t7 t8)) x.1:=by kernel_rfl
theorem qpo_ (s:List (Int×List Int)) (t7 t8:Int):jfn Tryz.prog q3g_ 6 18446744073709551616 (Ev.get q3f_) 237 q1t_ 26 [] (q29_ s t7 t8)=q3a_ s t7 t8:=by
 rw [q8_ (by decide)]
 rw [qr_ (by kernel_rfl)]
 refine qi_ (σ:=(List (Int×List Int))×(Int)×(Int)) (mk:=fun s=>q29_ s.1 s.2.1 s.2.2) (fun w1 s=>?_) 18446744073709551616 (s,t7,t8)
 refine (qrj_ _ w1 s.1 s.2.1 s.2.2).trans ?_
 rfl
theorem qsd_ (x:As [.sl YTT8]):evT Tryz.prog q3g_ 6 18446744073709551616 (Ev.get q3f_) 237 q1t_ x=q3z_ x:=by
 have e1:(fun s t7 t8=>(jfn Tryz.prog q3g_ 6 18446744073709551616 (Ev.get q3f_) 237 q1t_) 26 [] (q29_ s t7 t8))=q3a_:=by funext s t7 t8; exact qpo_ s t7 t8
 rw [q5_,qpv_,e1]
 rfl
theorem qqr_:CtOk Tryz.prog (fun _=>True) 237 ⟨q1t_,q3z_⟩:=q3_ (q0_ qso_ q4_) qsd_
@[reducible] def q46_:Sh:=⟨[.d (.sl YTT8),.fn (.func 236) [] []],[],[.sl YTT8],[.d (.bool)],[],0,[.bool]⟩
def qc9_:Env:=(cts [(236,(⟨qcw_,qe8_⟩:Ct)),(237,(⟨q1t_,q3z_⟩:Ct))])
def qcd_:List (Nat×Hint):=[]
def q3s_ (s:List (Int×List Int)):Option (As [.bool]) :=
 Option.bind (q3z_ (s,())) fun y=>some (ge y.1 0,())
def q34_ (x:As [.sl YTT8]):Option (As [.bool]):=q3s_ x.1
theorem qlk_ (J:Orc (As [.bool])) (x:As [.sl YTT8]):rfn Tryz.prog qc9_ 6 18446744073709551616 (Ev.get qcd_) 235 q46_ J x=q3s_ x.1:=by kernel_rfl
theorem qob_ (x:As [.sl YTT8]):evT Tryz.prog qc9_ 6 18446744073709551616 (Ev.get qcd_) 235 q46_ x=q34_ x:=by
 rw [q5_,qlk_]
 rfl
theorem qmb_:CtOk Tryz.prog (fun _=>True) 235 ⟨q46_,q34_⟩:=q3_ (q0_ qso_ (q0_ qqr_ q4_)) qob_
@[reducible] def quy_:Sh:=⟨[.d (.sl YTT8)],[],[.sl YTT8],[.d (.bool)],[],0,[.bool]⟩
def q16f_:Env:=(cts [(235,(⟨q46_,q34_⟩:Ct)),(236,(⟨qcw_,qe8_⟩:Ct))])
def q17a_:List (Nat×Hint):=[]
def qti_ (l:List (Int×List Int)):Option (As [.bool]) :=
 Option.bind (q34_ (l,())) fun y=>some (!y.1,())
def qw4_ (x:As [.sl YTT8]):Option (As [.bool]):=qti_ x.1
theorem q1hp_ (J:Orc (As [.bool])) (x:As [.sl YTT8]):rfn Tryz.prog q16f_ 6 18446744073709551616 (Ev.get q17a_) 233 quy_ J x=qti_ x.1:=by kernel_rfl
theorem q1jr_ (x:As [.sl YTT8]):evT Tryz.prog q16f_ 6 18446744073709551616 (Ev.get q17a_) 233 quy_ x=qw4_ x:=by
 rw [q5_,q1hp_]
 rfl
theorem q1ix_:CtOk Tryz.prog (fun _=>True) 233 ⟨quy_,qw4_⟩:=q3_ (q0_ qmb_ (q0_ qso_ q4_)) q1jr_
@[reducible] def q7j_:Sh:=⟨[.d (.sl (.int .u16)),.d (.sl YTT8)],[],[.sl (.int .u16),.sl YTT8],[.d (.sl (.int .u16)),.d (.int .i64)],[],0,[.sl (.int .u16),.int .i64]⟩
def qbc_:Env:=(cts [(131,(⟨q3o_,q2o_⟩:Ct)),(233,(⟨quy_,qw4_⟩:Ct))])
def qbh_:List (Nat×Hint):=[(31,⟨[],[0]⟩),(250,⟨[],[0,16,17,18]⟩)]
def qg1_ (t16:List (Int×List Int)) (t17 t18:Int) (bank:List Int):St:={ fr:=[(0,.row 0),(16,.d (.sl YTT8) t16),(17,.d (.int .i64) t17),(18,.d (.int .i64) t18)],nt:=31,up:=[],own:=[(0,.row (.int .u16) 23 bank)],nx:=1,log:=[],ln:=0 }
def qrt_ (bank:List Int):St:={ fr:=[(0,.row 0)],nt:=31,up:=[],own:=[(0,.row (.int .u16) 23 bank)],nx:=1,log:=[],ln:=0 }
def qfu_ (j2:List Int->Option (As [.sl (.int .u16),.int .i64])) (self1:List (Int×List Int)->Int->Int->List Int->Option (As [.sl (.int .u16),.int .i64])) (t16:List (Int×List Int)) (t17 t18:Int) (bank:List Int):Option (As [.sl (.int .u16),.int .i64]) :=
 if lt t18 t17=true then Option.bind (at? t16 t18) fun y=>need (ge y.1 0) (need (le y.1 (Int.ofNat (List.length bank))) (need (le (Int.ofNat (List.length bank)) (Int.ofNat (List.length bank))) (need (le (y.1 + (Int.ofNat (List.length bank) - y.1)) (Int.ofNat (List.length bank))) (self1 t16 t17 (add .i64 t18 1) (List.take (Int.toNat y.1) bank++List.take (Int.toNat (Int.ofNat (List.length bank) - y.1)) y.2++List.drop (Int.toNat y.1 + List.length (List.take (Int.toNat (Int.ofNat (List.length bank) - y.1)) y.2)) bank))))) else j2 bank
def q12v_ (bank:List Int):Option (As [.sl (.int .u16),.int .i64]) :=
 some (bank,0,())
def qs9_ (j1:List (Int×List Int)->Int->Int->List Int->Option (As [.sl (.int .u16),.int .i64])) (bank:List Int) (l:List (Int×List Int)):Option (As [.sl (.int .u16),.int .i64]) :=
 if nei (Int.ofNat (List.length bank)) 64=true then some ([],21,()) else Option.bind (qw4_ (l,())) fun y=>if (!y.1)=true then some ([],20,()) else Option.bind (q2o_ (bank,())) fun y=>j1 l (Int.ofNat (List.length l)) 0 y.1
def qvz_ (bank:List Int):Option (As [.sl (.int .u16),.int .i64]):=q12v_ bank
def qez_ (t16:List (Int×List Int)) (t17 t18:Int) (bank:List Int):Option (As [.sl (.int .u16),.int .i64]) :=
 loopF (fun (self:(List (Int×List Int))×(Int)×(Int)×(List Int)->Option (As [.sl (.int .u16),.int .i64])) (s:(List (Int×List Int))×(Int)×(Int)×(List Int))=>qfu_ (qvz_) (fun t16 t17 t18 bank=>self (t16,t17,t18,bank)) s.1 s.2.1 s.2.2.1 s.2.2.2) 18446744073709551616 (t16,t17,t18,bank)
def quc_ (x:As [.sl (.int .u16),.sl YTT8]):Option (As [.sl (.int .u16),.int .i64]):=qs9_ qez_ x.1 x.2.1
theorem q1ea_ (J:Orc (As [.sl (.int .u16),.int .i64])) (bank:List Int):pfn Tryz.prog qbc_ 6 18446744073709551616 (Ev.get qbh_) 231 q7j_ J 31 [] (qrt_ bank)=q12v_ bank:=by kernel_rfl
theorem q1f5_ (J:Orc (As [.sl (.int .u16),.int .i64])) (w1:St->Option (As [.sl (.int .u16),.int .i64])) (t16:List (Int×List Int)) (t17 t18:Int) (bank:List Int):pfn Tryz.prog qbc_ 6 18446744073709551616 (Ev.get qbh_) 231 q7j_ J 250 [w1] (qg1_ t16 t17 t18 bank)=qfu_ (fun bank=>J 31 [] (qrt_ bank)) (fun t16 t17 t18 bank=>w1 (qg1_ t16 t17 t18 bank)) t16 t17 t18 bank:=by kernel_rfl
theorem q1fn_ (J:Orc (As [.sl (.int .u16),.int .i64])) (x:As [.sl (.int .u16),.sl YTT8]):rfn Tryz.prog qbc_ 6 18446744073709551616 (Ev.get qbh_) 231 q7j_ J x=qs9_ (fun t16 t17 t18 bank=>J 250 [] (qg1_ t16 t17 t18 bank)) x.1 x.2.1:=by kernel_rfl
theorem q1fd_ (bank:List Int):jfn Tryz.prog qbc_ 6 18446744073709551616 (Ev.get qbh_) 231 q7j_ 31 [] (qrt_ bank)=qvz_ bank:=by
 rw [q8_ (by decide)]
 rw [q1ea_]
 rfl
theorem q1gp_ (t16:List (Int×List Int)) (t17 t18:Int) (bank:List Int):jfn Tryz.prog qbc_ 6 18446744073709551616 (Ev.get qbh_) 231 q7j_ 250 [] (qg1_ t16 t17 t18 bank)=qez_ t16 t17 t18 bank:=by
 rw [q8_ (by decide)]
 rw [qr_ (by kernel_rfl)]
 refine qi_ (σ:=(List (Int×List Int))×(Int)×(Int)×(List Int)) (mk:=fun s=>qg1_ s.1 s.2.1 s.2.2.1 s.2.2.2) (fun w1 s=>?_) 18446744073709551616 (t16,t17,t18,bank)
 have e2:(fun bank=>(jfn Tryz.prog qbc_ 6 18446744073709551616 (Ev.get qbh_) 231 q7j_) 31 [] (qrt_ bank))=qvz_:=funext fun bank=>q1fd_ bank
 refine (q1f5_ _ w1 s.1 s.2.1 s.2.2.1 s.2.2.2).trans ?_
 rw [e2]
theorem q1hk_ (x:As [.sl (.int .u16),.sl YTT8]):evT Tryz.prog qbc_ 6 18446744073709551616 (Ev.get qbh_) 231 q7j_ x=quc_ x:=by
 have e1:(fun t16 t17 t18 bank=>(jfn Tryz.prog qbc_ 6 18446744073709551616 (Ev.get qbh_) 231 q7j_) 250 [] (qg1_ t16 t17 t18 bank))=qez_:=by funext t16 t17 t18 bank; exact q1gp_ t16 t17 t18 bank
 rw [q5_,q1fn_,e1]
 rfl
theorem q1g2_:CtOk Tryz.prog (fun _=>True) 231 ⟨q7j_,quc_⟩:=q3_ (q0_ qi9_ (q0_ q1ix_ q4_)) q1hk_
@[reducible] def qka_:Sh:=⟨[.d (.pr (.sl (.int .u16)) YTT0),.d (.pr (.int .u16) YTT6)],[],[.pr (.sl (.int .u16)) YTT0,.pr (.int .u16) YTT6],[.d (.pr (.sl (.int .u16)) YTT0)],[],0,[.pr (.sl (.int .u16)) YTT0]⟩
def qyq_:Env:=(cts [(139,(⟨q5n_,q6f_⟩:Ct)),(180,(⟨q8i_,q4n_⟩:Ct)),(231,(⟨q7j_,quc_⟩:Ct))])
def qyp_:List (Nat×Hint):=[]
def qil_ (a:List Int×(Int×Int)×Int×Int×Int×YTT9×Int) (c:Int×Int×Int×Int×Int):Option (As [.pr (.sl (.int .u16)) YTT0]) :=
 if eqi a.2.2.2.2.1 c.2.2.1=true then some (a,()) else Option.bind (q6f_ (a.2.2.2.2.2.1,())) fun y=>Option.bind (quc_ (a.1,y.1,())) fun y=>if nei y.2.1 0=true then some (a,()) else Option.bind (q4n_ ((y.1,a.2.1,a.2.2.1,a.2.2.2.1,c.2.2.1,a.2.2.2.2.2),())) fun y=>some (y.1,())
def qfx_ (x:As [.pr (.sl (.int .u16)) YTT0,.pr (.int .u16) YTT6]):Option (As [.pr (.sl (.int .u16)) YTT0]):=qil_ x.1 x.2.1
theorem q178_ (J:Orc (As [.pr (.sl (.int .u16)) YTT0])) (x:As [.pr (.sl (.int .u16)) YTT0,.pr (.int .u16) YTT6]):rfn Tryz.prog qyq_ 6 18446744073709551616 (Ev.get qyp_) 224 qka_ J x=qil_ x.1 x.2.1:=by kernel_rfl
theorem q18m_ (x:As [.pr (.sl (.int .u16)) YTT0,.pr (.int .u16) YTT6]):evT Tryz.prog qyq_ 6 18446744073709551616 (Ev.get qyp_) 224 qka_ x=qfx_ x:=by
 rw [q5_,q178_]
 rfl
theorem q174_:CtOk Tryz.prog (fun _=>True) 224 ⟨qka_,qfx_⟩:=q3_ (q0_ qpn_ (q0_ qfd_ (q0_ q1g2_ q4_))) q18m_
@[reducible] def qio_:Sh:=⟨[.d (.pr (.sl (.int .u16)) YTT0),.d (.pr (.int .u16) YTT6)],[],[.pr (.sl (.int .u16)) YTT0,.pr (.int .u16) YTT6],[.d (.bool)],[],0,[.bool]⟩
def qxg_:Env:=(cts [(2000035,Ev.bxCt)])
def qxf_:List (Nat×Hint):=[]
def qvf_ (a:List Int×(Int×Int)×Int×Int×Int×YTT9×Int) (c:Int×Int×Int×Int×Int):Option (As [.bool]) :=
 some (le c.2.2.1 a.2.2.2.2.1,())
def qd5_ (x:As [.pr (.sl (.int .u16)) YTT0,.pr (.int .u16) YTT6]):Option (As [.bool]):=qvf_ x.1 x.2.1
theorem q15k_ (J:Orc (As [.bool])) (x:As [.pr (.sl (.int .u16)) YTT0,.pr (.int .u16) YTT6]):rfn Tryz.prog qxg_ 6 18446744073709551616 (Ev.get qxf_) 225 qio_ J x=qvf_ x.1 x.2.1:=by kernel_rfl
theorem q17n_ (x:As [.pr (.sl (.int .u16)) YTT0,.pr (.int .u16) YTT6]):evT Tryz.prog qxg_ 6 18446744073709551616 (Ev.get qxf_) 225 qio_ x=qd5_ x:=by
 rw [q5_,q15k_]
 rfl
theorem q15z_:CtOk Tryz.prog (fun _=>True) 225 ⟨qio_,qd5_⟩:=q3_ (q0_ Ev.bx_ok q4_) q17n_
@[reducible] def qae_:Sh:=⟨[.d (.pr (.sl (.int .u16)) YTT0),.d (.pr (.int .u16) YTT6)],[],[.pr (.sl (.int .u16)) YTT0,.pr (.int .u16) YTT6],[.d (.pr (.sl (.int .u16)) YTT0)],[],0,[.pr (.sl (.int .u16)) YTT0]⟩
def qhq_:Env:=(cts [(2000035,Ev.bxCt),(180,(⟨q8i_,q4n_⟩:Ct))])
def qha_:List (Nat×Hint):=[(6,⟨[],[2,4,17]⟩)]
def qkm_ (a:List Int×(Int×Int)×Int×Int×Int×YTT9×Int) (t4:Int) (t17:Bool) (t4_2:List YTT2):St:={ fr:=[(2,.pe (.pr (.sl (.int .u16)) YTT0) a),(4,.prw 0 t4 32 0),(17,.d .bool t17)],nt:=21,up:=[],own:=[(0,.row (.pr (.sl (.int .u16)) YTT0) 35 t4_2)],nx:=1,log:=[],ln:=0 }
def qju_ (a:List Int×(Int×Int)×Int×Int×Int×YTT9×Int) (t4:Int) (t17:Bool) (t4_2:List YTT2):Option (As [.pr (.sl (.int .u16)) YTT0]) :=
 if t17=true then Option.bind (at? t4_2 t4) fun x=>Option.bind (at? (List.set t4_2 (Int.toNat t4) a) t4) fun y=>Option.bind (at? (List.set t4_2 (Int.toNat t4) a) t4) fun y=>some (y,()) else Option.bind (q4n_ (a,())) fun y=>Option.bind (at? t4_2 t4) fun x=>Option.bind (at? (List.set t4_2 (Int.toNat t4) y.1) t4) fun y_1=>Option.bind (at? (List.set t4_2 (Int.toNat t4) y.1) t4) fun y=>some (y,())
def ql0_ (j1:List Int×(Int×Int)×Int×Int×Int×YTT9×Int->Int->Bool->List YTT2->Option (As [.pr (.sl (.int .u16)) YTT0])) (a:List Int×(Int×Int)×Int×Int×Int×YTT9×Int) (c:Int×Int×Int×Int×Int):Option (As [.pr (.sl (.int .u16)) YTT0]) :=
 if nei a.2.1.1 c.1=true then j1 a 0 true [zAg0] else j1 a 0 (nei a.2.2.2.1 c.2.2.1) [zAg0]
def qfq_ (a:List Int×(Int×Int)×Int×Int×Int×YTT9×Int) (t4:Int) (t17:Bool) (t4_2:List YTT2):Option (As [.pr (.sl (.int .u16)) YTT0]):=qju_ a t4 t17 t4_2
def qi0_ (x:As [.pr (.sl (.int .u16)) YTT0,.pr (.int .u16) YTT6]):Option (As [.pr (.sl (.int .u16)) YTT0]):=ql0_ qfq_ x.1 x.2.1
theorem q17z_ (J:Orc (As [.pr (.sl (.int .u16)) YTT0])) (a:List Int×(Int×Int)×Int×Int×Int×YTT9×Int) (t4:Int) (t17:Bool) (t4_2:List YTT2):pfn Tryz.prog qhq_ 6 18446744073709551616 (Ev.get qha_) 226 qae_ J 6 [] (qkm_ a t4 t17 t4_2)=qju_ a t4 t17 t4_2:=by kernel_rfl
theorem q18p_ (J:Orc (As [.pr (.sl (.int .u16)) YTT0])) (x:As [.pr (.sl (.int .u16)) YTT0,.pr (.int .u16) YTT6]):rfn Tryz.prog qhq_ 6 18446744073709551616 (Ev.get qha_) 226 qae_ J x=ql0_ (fun a t4 t17 t4_2=>J 6 [] (qkm_ a t4 t17 t4_2)) x.1 x.2.1:=by kernel_rfl
theorem q19q_ (a:List Int×(Int×Int)×Int×Int×Int×YTT9×Int) (t4:Int) (t17:Bool) (t4_2:List YTT2):jfn Tryz.prog qhq_ 6 18446744073709551616 (Ev.get qha_) 226 qae_ 6 [] (qkm_ a t4 t17 t4_2)=qfq_ a t4 t17 t4_2:=by
 rw [q8_ (by decide)]
 rw [q17z_]
 rfl
theorem q1c2_ (x:As [.pr (.sl (.int .u16)) YTT0,.pr (.int .u16) YTT6]):evT Tryz.prog qhq_ 6 18446744073709551616 (Ev.get qha_) 226 qae_ x=qi0_ x:=by
 have e1:(fun a t4 t17 t4_2=>(jfn Tryz.prog qhq_ 6 18446744073709551616 (Ev.get qha_) 226 qae_) 6 [] (qkm_ a t4 t17 t4_2))=qfq_:=by funext a t4 t17 t4_2; exact q19q_ a t4 t17 t4_2
 rw [q5_,q18p_,e1]
 rfl
theorem q183_:CtOk Tryz.prog (fun _=>True) 226 ⟨qae_,qi0_⟩:=q3_ (q0_ Ev.bx_ok (q0_ qfd_ q4_)) q1c2_
@[reducible] def qri_:Sh:=⟨[.d (.pr (.sl (.int .u16)) YTT0),.d (.pr (.int .u16) YTT6)],[],[.pr (.sl (.int .u16)) YTT0,.pr (.int .u16) YTT6],[.d (.pr (.sl (.int .u16)) YTT0),.d (.int .i64)],[],0,[.pr (.sl (.int .u16)) YTT0,.int .i64]⟩
def q17r_:Env:=(cts [(178,(⟨q4l_,q9o_⟩:Ct)),(214,(⟨qfg_,q35_⟩:Ct)),(219,(⟨qic_,qd6_⟩:Ct)),(220,(⟨qmj_,qi4_⟩:Ct)),(221,(⟨qel_,q9z_⟩:Ct)),(222,(⟨qig_,qda_⟩:Ct)),(223,(⟨qh1_,qbw_⟩:Ct)),(224,(⟨qka_,qfx_⟩:Ct)),(225,(⟨qio_,qd5_⟩:Ct)),(226,(⟨qae_,qi0_⟩:Ct))])
def q16v_:List (Nat×Hint):=[]
def qtf_ (a:List Int×(Int×Int)×Int×Int×Int×YTT9×Int) (c:Int×Int×Int×Int×Int):Option (As [.pr (.sl (.int .u16)) YTT0,.int .i64]) :=
 Option.bind (q9o_ (a,())) fun y=>amb (eqAs qri_.rs) [if eqi 1 c.2.1=true then if eqi c.1 0=true then some (y.1,2,()) else if eqi c.2.2.1 0=true then some (y.1,2,()) else Option.bind (q35_ (y.1,c.1,())) fun y_1=>if y_1.1=true then some (y.1,22,()) else Option.bind (qd6_ (y.1,c,())) fun y_2=>if y_2.1=true then some (y.1,23,()) else Option.bind (qi4_ (y.1,c,())) fun y=>some (y.1,0,()) else if eqi 2 c.2.1=true then if eqi c.1 0=true then some (y.1,2,()) else if eqi c.2.2.1 0=true then some (y.1,2,()) else Option.bind (q35_ (y.1,c.1,())) fun y_1=>if y_1.1=true then some (y.1,22,()) else Option.bind (q9z_ (y.1,c,())) fun y_2=>if y_2.1=true then some (y.1,23,()) else Option.bind (qda_ (y.1,c,())) fun y=>some (y.1,0,()) else if eqi 3 c.2.1=true then if eqi c.1 0=true then some (y.1,2,()) else if eqi c.2.2.1 0=true then some (y.1,2,()) else Option.bind (q35_ (y.1,c.1,())) fun y_1=>if y_1.1=true then some (y.1,22,()) else Option.bind (qbw_ (y.1,c,())) fun y_2=>if y_2.1=true then some (y.1,23,()) else Option.bind (qfx_ (y.1,c,())) fun y=>some (y.1,0,()) else if eqi 4 c.2.1=true then if eqi c.1 0=true then some (y.1,2,()) else if eqi c.2.2.1 0=true then some (y.1,2,()) else Option.bind (q35_ (y.1,c.1,())) fun y_1=>if y_1.1=true then some (y.1,22,()) else Option.bind (qd5_ (y.1,c,())) fun y_2=>if y_2.1=true then some (y.1,23,()) else Option.bind (qi0_ (y.1,c,())) fun y=>some (y.1,0,()) else if eqi c.1 0=true then some (y.1,2,()) else if eqi c.2.2.1 0=true then some (y.1,2,()) else some (y.1,2,()),if eqi 1 c.2.1=true then if eqi c.1 0=true then some (y.1,2,()) else if eqi c.2.2.1 0=true then some (y.1,2,()) else Option.bind (q35_ (y.1,c.1,())) fun y_1=>if y_1.1=true then some (y.1,22,()) else Option.bind (qd6_ (y.1,c,())) fun y_2=>if y_2.1=true then some (y.1,23,()) else Option.bind (qi4_ (y.1,c,())) fun y=>some (y.1,0,()) else if eqi 2 c.2.1=true then if eqi c.1 0=true then some (y.1,2,()) else if eqi c.2.2.1 0=true then some (y.1,2,()) else Option.bind (q35_ (y.1,c.1,())) fun y_1=>if y_1.1=true then some (y.1,22,()) else Option.bind (q9z_ (y.1,c,())) fun y_2=>if y_2.1=true then some (y.1,23,()) else Option.bind (qda_ (y.1,c,())) fun y=>some (y.1,0,()) else if eqi 3 c.2.1=true then if eqi c.1 0=true then some (y.1,2,()) else if eqi c.2.2.1 0=true then some (y.1,2,()) else Option.bind (q35_ (y.1,c.1,())) fun y_1=>if y_1.1=true then some (y.1,22,()) else Option.bind (qbw_ (y.1,c,())) fun y_2=>if y_2.1=true then some (y.1,23,()) else Option.bind (qfx_ (y.1,c,())) fun y=>some (y.1,0,()) else if eqi 4 c.2.1=true then if eqi c.1 0=true then some (y.1,2,()) else if eqi c.2.2.1 0=true then some (y.1,2,()) else Option.bind (q35_ (y.1,c.1,())) fun y_1=>if y_1.1=true then some (y.1,22,()) else Option.bind (qd5_ (y.1,c,())) fun y_2=>if y_2.1=true then some (y.1,23,()) else Option.bind (qi0_ (y.1,c,())) fun y=>some (y.1,0,()) else if eqi c.1 0=true then some (y.1,2,()) else if eqi c.2.2.1 0=true then some (y.1,2,()) else some (y.1,2,())]
def qed_ (x:As [.pr (.sl (.int .u16)) YTT0,.pr (.int .u16) YTT6]):Option (As [.pr (.sl (.int .u16)) YTT0,.int .i64]):=qtf_ x.1 x.2.1
theorem q1iz_ (J:Orc (As [.pr (.sl (.int .u16)) YTT0,.int .i64])) (x:As [.pr (.sl (.int .u16)) YTT0,.pr (.int .u16) YTT6]):rfn Tryz.prog q17r_ 6 18446744073709551616 (Ev.get q16v_) 204 qri_ J x=qtf_ x.1 x.2.1:=by kernel_rfl
theorem q1ja_ (x:As [.pr (.sl (.int .u16)) YTT0,.pr (.int .u16) YTT6]):evT Tryz.prog q17r_ 6 18446744073709551616 (Ev.get q16v_) 204 qri_ x=qed_ x:=by
 rw [q5_,q1iz_]
 rfl
theorem q1hn_:CtOk Tryz.prog (fun _=>True) 204 ⟨qri_,qed_⟩:=q3_ (q0_ qs5_ (q0_ qx3_ (q0_ q14y_ (q0_ q194_ (q0_ q13w_ (q0_ q15i_ (q0_ q14b_ (q0_ q174_ (q0_ q15z_ (q0_ q183_ q4_)))))))))) q1ja_
end Go.Proofs.Lx
end
