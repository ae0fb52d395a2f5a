/- Proved in the last of these 12 parts (this is part 7): SlaveOwns returns true, whatever the link, the bank, the ticks and what comes. Conditions: those of the given statement, and no others. -/
import Derived.Test.YtkcmbampiiolbaaGreatParte
import Derived.Test.YtkcmbampiiolbaaGreatPartf
import Derived.Test.YtkcmbampiiolbaaGreatProg
set_option linter.unusedVariables false
set_option linter.unusedSimpArgs false
set_option linter.unusedSectionVars false
section
open Go Go.Proofs Ev Sx
set_option maxRecDepth 100000
namespace Go.Proofs.Lx
abbrev YaA3q0:Type:=Int×Int×Int×Int×List Int×List Bool
@[reducible] def qm_:Sh:=⟨[.d (.pr YTT1 (.sl (.int .u16))),.d (.bool)],[],[.pr YTT1 (.sl (.int .u16)),.bool],[.d (.bool)],[],0,[.bool]⟩
def q11_:Env:=(cts [])
def q10_:List (Nat×Hint):=[(122,⟨[],[1,2,5,13,14,15,24,25,26,27,28,29,32,33,34,37,38,39,40,41,42,43,44,45,49,50]⟩),(31334,⟨[.agd 50 .bool],[1,2,7,13,14,15,51]⟩),(15666,⟨[.agd 25 (.int .i64),.agd 27 (.sl (.int .u16)),.agd 28 (.int .i64),.agd 29 .bool,.agd 33 (.int .i64),.agd 34 .bool,.agd 38 (.int .i64),.agd 40 (.sl (.int .u16)),.agd 41 (.int .i64),.agd 43 (.int .i64),.agd 44 (.int .i64),.agd 45 .bool],[1,2,7,13,14,15,46]⟩)]
def qs_ (fixed:Bool) (endV:Int) (t13:List YTT5) (t14 t15:Int) (t:List YTT5×List Int):St:={ fr:=[(1,.d .bool fixed),(2,.pb 0 0),(5,.d (.int .i64) endV),(13,.d YTT1 t13),(14,.d (.int .i64) t14),(15,.d (.int .i64) t15)],nt:=58,up:=[],own:=[(0,.box 172 [.d YTT1 t.1,.d (.sl (.int .u16)) t.2])],nx:=1,log:=[],ln:=0 }
def q5s_ (fixed:Bool) (t13:List YTT5) (t14 t15:Int) (t46:Bool) (t:List YTT5×List Int) (x:Int×Int×Bool×Bool×Bool):St:={ fr:=[(1,.d .bool fixed),(2,.pb 0 0),(7,.pb 1 0),(13,.d YTT1 t13),(14,.d (.int .i64) t14),(15,.d (.int .i64) t15),(46,.d .bool t46)],nt:=58,up:=[],own:=[(0,.box 172 [.d YTT1 t.1,.d (.sl (.int .u16)) t.2]),(1,.box 168 [.d (.int .i64) x.1,.d (.int .i64) x.2.1,.d .bool x.2.2.1,.d .bool x.2.2.2.1,.d .bool x.2.2.2.2])],nx:=2,log:=[],ln:=0 }
def q5t_ (fixed:Bool) (t13:List YTT5) (t14 t15:Int) (t51:Bool) (t:List YTT5×List Int) (x:Int×Int×Bool×Bool×Bool):St:={ fr:=[(1,.d .bool fixed),(2,.pb 0 0),(7,.pb 1 0),(13,.d YTT1 t13),(14,.d (.int .i64) t14),(15,.d (.int .i64) t15),(51,.d .bool t51)],nt:=58,up:=[],own:=[(0,.box 172 [.d YTT1 t.1,.d (.sl (.int .u16)) t.2]),(1,.box 168 [.d (.int .i64) x.1,.d (.int .i64) x.2.1,.d .bool x.2.2.1,.d .bool x.2.2.2.1,.d .bool x.2.2.2.2])],nx:=2,log:=[],ln:=0 }
def q30_ (j2:Bool->List YTT5->Int->Int->Bool->List YTT5×List Int->Int×Int×Bool×Bool×Bool->Option (As [.bool])) (self1:Bool->Int->List YTT5->Int->Int->List YTT5×List Int->Option (As [.bool])) (fixed:Bool) (endV:Int) (t13:List YTT5) (t14 t15:Int) (t:List YTT5×List Int):Option (As [.bool]) :=
 if lt t15 t14=true then Option.bind (at? t13 t15) fun y=>if lt y.1 endV=true then j2 fixed t13 t14 t15 true t y else if gt y.1 (Int.ofNat (List.length t.2))=true then j2 fixed t13 t14 t15 true t y else if lt y.2.1 1=true then j2 fixed t13 t14 t15 true t y else j2 fixed t13 t14 t15 (gt y.2.1 (Sx.sub .i64 (Int.ofNat (List.length t.2)) y.1)) t y else some (true,())
def q9x_ (j3:Bool->List YTT5->Int->Int->Bool->List YTT5×List Int->Int×Int×Bool×Bool×Bool->Option (As [.bool])) (self1:Bool->Int->List YTT5->Int->Int->List YTT5×List Int->Option (As [.bool])) (fixed:Bool) (t13:List YTT5) (t14 t15:Int) (t46:Bool) (t:List YTT5×List Int) (x:Int×Int×Bool×Bool×Bool):Option (As [.bool]) :=
 if t46=true then some (false,()) else if fixed=true then j3 fixed t13 t14 t15 x.2.2.2.1 t x else j3 fixed t13 t14 t15 false t x
def q9u_ (self1:Bool->Int->List YTT5->Int->Int->List YTT5×List Int->Option (As [.bool])) (fixed:Bool) (t13:List YTT5) (t14 t15:Int) (t51:Bool) (t:List YTT5×List Int) (x:Int×Int×Bool×Bool×Bool):Option (As [.bool]) :=
 if t51=true then some (false,()) else self1 fixed (add .i64 x.1 x.2.1) t13 t14 (add .i64 t15 1) t
def q5w_ (j1:Bool->Int->List YTT5->Int->Int->List YTT5×List Int->Option (As [.bool])) (t:List YTT5×List Int) (fixed:Bool):Option (As [.bool]) :=
 if gt (Int.ofNat (List.length t.2)) 65536=true then some (false,()) else j1 fixed 0 t.1 (Int.ofNat (List.length t.1)) 0 t
def q40_ (u1:Bool->Int->List YTT5->Int->Int->List YTT5×List Int->Option (As [.bool])) (fixed:Bool) (t13:List YTT5) (t14 t15:Int) (t51:Bool) (t:List YTT5×List Int) (x:Int×Int×Bool×Bool×Bool):Option (As [.bool]):=q9u_ u1 fixed t13 t14 t15 t51 t x
def q3y_ (u1:Bool->Int->List YTT5->Int->Int->List YTT5×List Int->Option (As [.bool])) (fixed:Bool) (t13:List YTT5) (t14 t15:Int) (t46:Bool) (t:List YTT5×List Int) (x:Int×Int×Bool×Bool×Bool):Option (As [.bool]):=q9x_ (q40_ u1) u1 fixed t13 t14 t15 t46 t x
def q2z_ (fixed:Bool) (endV:Int) (t13:List YTT5) (t14 t15:Int) (t:List YTT5×List Int):Option (As [.bool]) :=
 loopF (fun (self:(Bool)×(Int)×(List YTT5)×(Int)×(Int)×(List YTT5×List Int)->Option (As [.bool])) (s:(Bool)×(Int)×(List YTT5)×(Int)×(Int)×(List YTT5×List Int))=>q30_ (q3y_ (fun fixed endV t13 t14 t15 t=>self (fixed,endV,t13,t14,t15,t))) (fun fixed endV t13 t14 t15 t=>self (fixed,endV,t13,t14,t15,t)) s.1 s.2.1 s.2.2.1 s.2.2.2.1 s.2.2.2.2.1 s.2.2.2.2.2) 18446744073709551616 (fixed,endV,t13,t14,t15,t)
def q3q_ (x:As [.pr YTT1 (.sl (.int .u16)),.bool]):Option (As [.bool]):=q5w_ q2z_ x.1 x.2.1
theorem qu8_ (J:Orc (As [.bool])) (w1:St->Option (As [.bool])) (fixed:Bool) (t13:List YTT5) (t14 t15:Int) (t51:Bool) (t:List YTT5×List Int) (x:Int×Int×Bool×Bool×Bool):pfn Tryz.prog q11_ 6 18446744073709551616 (Ev.get q10_) 119 qm_ J 31334 [w1] (q5t_ fixed t13 t14 t15 t51 t x)=q9u_ (fun fixed endV t13 t14 t15 t=>w1 (qs_ fixed endV t13 t14 t15 t)) fixed t13 t14 t15 t51 t x:=by kernel_rfl
theorem qtc_ (J:Orc (As [.bool])) (w1:St->Option (As [.bool])) (fixed:Bool) (t13:List YTT5) (t14 t15:Int) (t46:Bool) (t:List YTT5×List Int) (x:Int×Int×Bool×Bool×Bool):pfn Tryz.prog q11_ 6 18446744073709551616 (Ev.get q10_) 119 qm_ J 15666 [w1] (q5s_ fixed t13 t14 t15 t46 t x)=q9x_ (fun fixed t13 t14 t15 t51 t x=>J 31334 [w1] (q5t_ fixed t13 t14 t15 t51 t x)) (fun fixed endV t13 t14 t15 t=>w1 (qs_ fixed endV t13 t14 t15 t)) fixed t13 t14 t15 t46 t x:=by kernel_rfl
theorem qtt_ (J:Orc (As [.bool])) (w1:St->Option (As [.bool])) (fixed:Bool) (endV:Int) (t13:List YTT5) (t14 t15:Int) (t:List YTT5×List Int):pfn Tryz.prog q11_ 6 18446744073709551616 (Ev.get q10_) 119 qm_ J 122 [w1] (qs_ fixed endV t13 t14 t15 t)=q30_ (fun fixed t13 t14 t15 t46 t x=>J 15666 [w1] (q5s_ fixed t13 t14 t15 t46 t x)) (fun fixed endV t13 t14 t15 t=>w1 (qs_ fixed endV t13 t14 t15 t)) fixed endV t13 t14 t15 t:=by kernel_rfl
theorem qu7_ (J:Orc (As [.bool])) (x:As [.pr YTT1 (.sl (.int .u16)),.bool]):rfn Tryz.prog q11_ 6 18446744073709551616 (Ev.get q10_) 119 qm_ J x=q5w_ (fun fixed endV t13 t14 t15 t=>J 122 [] (qs_ fixed endV t13 t14 t15 t)) x.1 x.2.1:=by kernel_rfl
theorem qtd_ (w1:St->Option (As [.bool])) (fixed:Bool) (t13:List YTT5) (t14 t15:Int) (t51:Bool) (t:List YTT5×List Int) (x:Int×Int×Bool×Bool×Bool):jfn Tryz.prog q11_ 6 18446744073709551616 (Ev.get q10_) 119 qm_ 31334 [w1] (q5t_ fixed t13 t14 t15 t51 t x)=q40_ (fun fixed endV t13 t14 t15 t=>w1 (qs_ fixed endV t13 t14 t15 t)) fixed t13 t14 t15 t51 t x:=by
 rw [q8_ (by decide)]
 rw [qu8_]
 rfl
theorem qtf_ (w1:St->Option (As [.bool])) (fixed:Bool) (t13:List YTT5) (t14 t15:Int) (t46:Bool) (t:List YTT5×List Int) (x:Int×Int×Bool×Bool×Bool):jfn Tryz.prog q11_ 6 18446744073709551616 (Ev.get q10_) 119 qm_ 15666 [w1] (q5s_ fixed t13 t14 t15 t46 t x)=q3y_ (fun fixed endV t13 t14 t15 t=>w1 (qs_ fixed endV t13 t14 t15 t)) fixed t13 t14 t15 t46 t x:=by
 rw [q8_ (by decide)]
 have e3:(fun fixed t13 t14 t15 t51 t x=>(jfn Tryz.prog q11_ 6 18446744073709551616 (Ev.get q10_) 119 qm_) 31334 [w1] (q5t_ fixed t13 t14 t15 t51 t x))=q40_ (fun fixed endV t13 t14 t15 t=>w1 (qs_ fixed endV t13 t14 t15 t)):=by funext fixed t13 t14 t15 t51 t x; exact qtd_ w1 fixed t13 t14 t15 t51 t x
 rw [qtc_,e3]
 rfl
theorem qth_ (fixed:Bool) (endV:Int) (t13:List YTT5) (t14 t15:Int) (t:List YTT5×List Int):jfn Tryz.prog q11_ 6 18446744073709551616 (Ev.get q10_) 119 qm_ 122 [] (qs_ fixed endV t13 t14 t15 t)=q2z_ fixed endV t13 t14 t15 t:=by
 rw [q8_ (by decide)]
 rw [qr_ (by kernel_rfl)]
 refine qi_ (σ:=(Bool)×(Int)×(List YTT5)×(Int)×(Int)×(List YTT5×List Int)) (mk:=fun s=>qs_ s.1 s.2.1 s.2.2.1 s.2.2.2.1 s.2.2.2.2.1 s.2.2.2.2.2) (fun w1 s=>?_) 18446744073709551616 (fixed,endV,t13,t14,t15,t)
 have e2:(fun fixed t13 t14 t15 t46 t x=>(jfn Tryz.prog q11_ 6 18446744073709551616 (Ev.get q10_) 119 qm_) 15666 [w1] (q5s_ fixed t13 t14 t15 t46 t x))=q3y_ (fun fixed endV t13 t14 t15 t=>w1 (qs_ fixed endV t13 t14 t15 t)):=by funext fixed t13 t14 t15 t46 t x; exact qtf_ w1 fixed t13 t14 t15 t46 t x
 refine (qtt_ _ w1 s.1 s.2.1 s.2.2.1 s.2.2.2.1 s.2.2.2.2.1 s.2.2.2.2.2).trans ?_
 rw [e2]
theorem qud_ (x:As [.pr YTT1 (.sl (.int .u16)),.bool]):evT Tryz.prog q11_ 6 18446744073709551616 (Ev.get q10_) 119 qm_ x=q3q_ x:=by
 have e1:(fun fixed endV t13 t14 t15 t=>(jfn Tryz.prog q11_ 6 18446744073709551616 (Ev.get q10_) 119 qm_) 122 [] (qs_ fixed endV t13 t14 t15 t))=q2z_:=by funext fixed endV t13 t14 t15 t; exact qth_ fixed endV t13 t14 t15 t
 rw [q5_,qu7_,e1]
 rfl
theorem qtg_:CtOk Tryz.prog (fun _=>True) 119 ⟨qm_,q3q_⟩:=q3_ q4_ qud_
@[reducible] def qnh_:Sh:=⟨[.d (.pr YTT1 (.pr YTT1 (.pr YTT1 YTT1))),.d (.pr (.sl .bool) YTT10)],[],[.pr YTT1 (.pr YTT1 (.pr YTT1 YTT1)),.pr (.sl .bool) YTT10],[.d (.bool)],[],0,[.bool]⟩
def q109_:Env:=(cts [(117,(⟨qis_,qdd_⟩:Ct)),(118,(⟨qu_,q4p_⟩:Ct)),(119,(⟨qm_,q3q_⟩:Ct))])
def qzy_:List (Nat×Hint):=[]
def qk2_ (s:List YTT5×List YTT5×List YTT5×List YTT5) (m:List Bool×List Bool×List Int×List Int):Option (As [.bool]) :=
 Option.bind (qdd_ (s,m,())) fun y=>Option.bind (q4p_ (y.1.1,false,())) fun y_1=>if y_1.1=true then Option.bind (q4p_ (y.1.2.1,true,())) fun y_2=>if y_2.1=true then Option.bind (q3q_ (y.1.2.2.1,false,())) fun y_3=>if y_3.1=true then Option.bind (q3q_ (y.1.2.2.2,true,())) fun y=>some (y.1,()) else some (false,()) else some (false,()) else some (false,())
def qlm_ (x:As [.pr YTT1 (.pr YTT1 (.pr YTT1 YTT1)),.pr (.sl .bool) YTT10]):Option (As [.bool]):=qk2_ x.1 x.2.1
theorem q17x_ (J:Orc (As [.bool])) (x:As [.pr YTT1 (.pr YTT1 (.pr YTT1 YTT1)),.pr (.sl .bool) YTT10]):rfn Tryz.prog q109_ 6 18446744073709551616 (Ev.get qzy_) 50 qnh_ J x=qk2_ x.1 x.2.1:=by kernel_rfl
theorem q19x_ (x:As [.pr YTT1 (.pr YTT1 (.pr YTT1 YTT1)),.pr (.sl .bool) YTT10]):evT Tryz.prog q109_ 6 18446744073709551616 (Ev.get qzy_) 50 qnh_ x=qlm_ x:=by
 rw [q5_,q17x_]
 rfl
theorem q195_:CtOk Tryz.prog (fun _=>True) 50 ⟨qnh_,qlm_⟩:=q3_ (q0_ q10q_ (q0_ quk_ (q0_ qtg_ q4_))) q19x_
@[reducible] def q83_:Sh:=⟨[.d (.sl .bool)],[],[.sl .bool],[.d (.sl .bool)],[],0,[.sl .bool]⟩
def qpd_:Env:=(cts [])
def qqb_:List (Nat×Hint):=[]
def qa3_ (s:List Bool):Option (As [.sl .bool]) :=
 if eqi (Int.ofNat (List.length s)) 0=true then amb (eqAs q83_.rs) [some ([],()),need (small (0 + List.length s)) (some (s,()))] else need (small (0 + List.length s)) (some (s,()))
def q59_ (x:As [.sl .bool]):Option (As [.sl .bool]):=qa3_ x.1
theorem qxu_ (J:Orc (As [.sl .bool])) (x:As [.sl .bool]):rfn Tryz.prog qpd_ 6 18446744073709551616 (Ev.get qqb_) 130 q83_ J x=qa3_ x.1:=by kernel_rfl
theorem qzd_ (x:As [.sl .bool]):evT Tryz.prog qpd_ 6 18446744073709551616 (Ev.get qqb_) 130 q83_ x=q59_ x:=by
 rw [q5_,qxu_]
 rfl
theorem qz1_:CtOk Tryz.prog (fun _=>True) 130 ⟨q83_,q59_⟩:=q3_ q4_ qzd_
@[reducible] def q4l_:Sh:=⟨[.d (.sl (.bool))],[],[.sl (.bool)],[.row 0],[(0,.row (.bool) 4)],1,[.sl (.bool)]⟩
def qlw_:Env:=(cts [])
def qlj_:List (Nat×Hint):=[]
def q8u_ (s:List Bool):Option (As [.sl .bool]) :=
 if eqi (Int.ofNat (List.length s)) 0=true then amb (eqAs q4l_.rs) [some ([],()),need (small (0 + List.length s)) (some (s,()))] else need (small (0 + List.length s)) (some (s,()))
def q3c_ (x:As [.sl .bool]):Option (As [.sl .bool]):=q8u_ x.1
theorem qwa_ (J:Orc (As [.sl .bool])) (x:As [.sl .bool]):rfn Tryz.prog qlw_ 6 18446744073709551616 (Ev.get qlj_) 130 q4l_ J x=q8u_ x.1:=by kernel_rfl
theorem qx5_ (x:As [.sl .bool]):evT Tryz.prog qlw_ 6 18446744073709551616 (Ev.get qlj_) 130 q4l_ x=q3c_ x:=by
 rw [q5_,qwa_]
 rfl
theorem ql4_:CtOk Tryz.prog (fun _=>True) 130 ⟨q4l_,q3c_⟩:=q3_ q4_ qx5_
def q1dg_ (m:List Bool×List Bool×List Int×List Int):Option (As [.pr (.sl .bool) YTT10]) :=
 Option.bind (q59_ (m.1,())) fun y=>Option.bind (q59_ (m.2.1,())) fun y_1=>Option.bind (qb_ (m.2.2.1,())) fun y_2=>Option.bind (qb_ (m.2.2.2,())) fun y_3=>some ((y.1,y_1.1,y_2.1,y_3.1),())
def q1j1_ (x:As [.pr (.sl .bool) YTT10]):Option (As [.pr (.sl .bool) YTT10]):=q1dg_ x.1
@[reducible] def q8q_:Sh:=⟨[.d (.pr YTT1 (.sl .bool)),.d (.int .i64),.d (.int .i64),.d (.int .i64)],[],[.pr YTT1 (.sl .bool),.int .i64,.int .i64,.int .i64],[.d (.sl .bool)],[],0,[.sl .bool]⟩
def qkz_:Env:=(cts [])
def ql3_:List (Nat×Hint):=[]
def q82_ (t:List YTT5×List Bool) (at' many step:Int):Option (As [.sl .bool]) :=
 need (nei step 0) (need (ge (mul .i64 (quo .i64 (Sx.sub .i64 (add .i64 many step) 1) step) step) 0) (need (Ev.capOk (mul .i64 (quo .i64 (Sx.sub .i64 (add .i64 many step) 1) step) step) (mul .i64 (quo .i64 (Sx.sub .i64 (add .i64 many step) 1) step) step)) (need (small (Int.toNat (mul .i64 (quo .i64 (Sx.sub .i64 (add .i64 many step) 1) step) step))) (Option.bind (cut t.2 at' (add .i64 at' many)) fun y=>need (le (Int.ofNat (0 + List.length (List.replicate (Int.toNat (mul .i64 (quo .i64 (Sx.sub .i64 (add .i64 many step) 1) step) step)) false))) (Int.ofNat (List.length (List.replicate (Int.toNat (mul .i64 (quo .i64 (Sx.sub .i64 (add .i64 many step) 1) step) step)) false)))) (some (List.take (Int.toNat (Int.ofNat (List.length (List.replicate (Int.toNat (mul .i64 (quo .i64 (Sx.sub .i64 (add .i64 many step) 1) step) step)) false)))) y++List.drop (0 + List.length (List.take (Int.toNat (Int.ofNat (List.length (List.replicate (Int.toNat (mul .i64 (quo .i64 (Sx.sub .i64 (add .i64 many step) 1) step) step)) false)))) y)) (List.replicate (Int.toNat (mul .i64 (quo .i64 (Sx.sub .i64 (add .i64 many step) 1) step) step)) false),()))))))
def q4y_ (x:As [.pr YTT1 (.sl .bool),.int .i64,.int .i64,.int .i64]):Option (As [.sl .bool]):=q82_ x.1 x.2.1 x.2.2.1 x.2.2.2.1
theorem qvw_ (J:Orc (As [.sl .bool])) (x:As [.pr YTT1 (.sl .bool),.int .i64,.int .i64,.int .i64]):rfn Tryz.prog qkz_ 6 18446744073709551616 (Ev.get ql3_) 199 q8q_ J x=q82_ x.1 x.2.1 x.2.2.1 x.2.2.2.1:=by kernel_rfl
theorem qw3_ (x:As [.pr YTT1 (.sl .bool),.int .i64,.int .i64,.int .i64]):evT Tryz.prog qkz_ 6 18446744073709551616 (Ev.get ql3_) 199 q8q_ x=q4y_ x:=by
 rw [q5_,qvw_]
 rfl
theorem qvb_:CtOk Tryz.prog (fun _=>True) 199 ⟨q8q_,q4y_⟩:=q3_ q4_ qw3_
@[reducible] def q7e_:Sh:=⟨[.d (.pr YTT1 (.sl (.int .u16))),.d (.int .i64),.d (.int .i64),.d (.int .i64)],[],[.pr YTT1 (.sl (.int .u16)),.int .i64,.int .i64,.int .i64],[.d (.sl (.int .u16))],[],0,[.sl (.int .u16)]⟩
def qic_:Env:=(cts [])
def qim_:List (Nat×Hint):=[]
def q6k_ (t:List YTT5×List Int) (at' many step:Int):Option (As [.sl (.int .u16)]) :=
 need (nei step 0) (need (ge (mul .i64 (quo .i64 (Sx.sub .i64 (add .i64 many step) 1) step) step) 0) (need (Ev.capOk (mul .i64 (quo .i64 (Sx.sub .i64 (add .i64 many step) 1) step) step) (mul .i64 (quo .i64 (Sx.sub .i64 (add .i64 many step) 1) step) step)) (need (small (Int.toNat (mul .i64 (quo .i64 (Sx.sub .i64 (add .i64 many step) 1) step) step))) (Option.bind (cut t.2 at' (add .i64 at' many)) fun y=>need (le (Int.ofNat (0 + List.length (List.replicate (α:=Int) (Int.toNat (mul .i64 (quo .i64 (Sx.sub .i64 (add .i64 many step) 1) step) step)) 0))) (Int.ofNat (List.length (List.replicate (α:=Int) (Int.toNat (mul .i64 (quo .i64 (Sx.sub .i64 (add .i64 many step) 1) step) step)) 0)))) (some (List.take (Int.toNat (Int.ofNat (List.length (List.replicate (α:=Int) (Int.toNat (mul .i64 (quo .i64 (Sx.sub .i64 (add .i64 many step) 1) step) step)) 0)))) y++List.drop (0 + List.length (List.take (Int.toNat (Int.ofNat (List.length (List.replicate (α:=Int) (Int.toNat (mul .i64 (quo .i64 (Sx.sub .i64 (add .i64 many step) 1) step) step)) 0)))) y)) (List.replicate (Int.toNat (mul .i64 (quo .i64 (Sx.sub .i64 (add .i64 many step) 1) step) step)) 0),()))))))
def q44_ (x:As [.pr YTT1 (.sl (.int .u16)),.int .i64,.int .i64,.int .i64]):Option (As [.sl (.int .u16)]):=q6k_ x.1 x.2.1 x.2.2.1 x.2.2.2.1
theorem quc_ (J:Orc (As [.sl (.int .u16)])) (x:As [.pr YTT1 (.sl (.int .u16)),.int .i64,.int .i64,.int .i64]):rfn Tryz.prog qic_ 6 18446744073709551616 (Ev.get qim_) 200 q7e_ J x=q6k_ x.1 x.2.1 x.2.2.1 x.2.2.2.1:=by kernel_rfl
theorem qus_ (x:As [.pr YTT1 (.sl (.int .u16)),.int .i64,.int .i64,.int .i64]):evT Tryz.prog qic_ 6 18446744073709551616 (Ev.get qim_) 200 q7e_ x=q44_ x:=by
 rw [q5_,quc_]
 rfl
theorem qua_:CtOk Tryz.prog (fun _=>True) 200 ⟨q7e_,q44_⟩:=q3_ q4_ qus_
@[reducible] def qa1_:Sh:=⟨[.d (.pr (.pr YTT1 (.sl .bool)) (.pr (.pr YTT1 (.sl .bool)) (.pr (.pr YTT1 (.sl (.int .u16))) (.pr YTT1 (.sl (.int .u16)))))),.d (.int .i64),.d (.pr (.int .u8) YTT4)],[],[.pr (.pr YTT1 (.sl .bool)) (.pr (.pr YTT1 (.sl .bool)) (.pr (.pr YTT1 (.sl (.int .u16))) (.pr YTT1 (.sl (.int .u16))))),.int .i64,.pr (.int .u8) YTT4],[.d (.pr (.int .u8) YTT3)],[],0,[.pr (.int .u8) YTT3]⟩
def qol_:Env:=(cts [(199,(⟨q8q_,q4y_⟩:Ct)),(200,(⟨q7e_,q44_⟩:Ct))])
def qoc_:List (Nat×Hint):=[]
def q98_ (v:(List YTT5×List Bool)×(List YTT5×List Bool)×(List YTT5×List Int)×List YTT5×List Int) (p:Int) (a:YaA3q0):Option (As [.pr (.int .u8) YTT3]) :=
 if eqi p 1=true then Option.bind (q4y_ (v.1,cvt .i64 a.2.1,cvt .i64 a.2.2.1,8,())) fun y=>some ((a.1,0,y.1,[],0,0),()) else if eqi p 2=true then Option.bind (q4y_ (v.2.1,cvt .i64 a.2.1,cvt .i64 a.2.2.1,8,())) fun y=>some ((a.1,0,y.1,[],0,0),()) else if eqi p 3=true then Option.bind (q44_ (v.2.2.1,cvt .i64 a.2.1,cvt .i64 a.2.2.1,1,())) fun y=>some ((a.1,0,[],y.1,0,0),()) else if eqi p 4=true then Option.bind (q44_ (v.2.2.2,cvt .i64 a.2.1,cvt .i64 a.2.2.1,1,())) fun y=>some ((a.1,0,[],y.1,0,0),()) else some ((a.1,0,[],[],0,0),())
def q5y_ (x:As [.pr (.pr YTT1 (.sl .bool)) (.pr (.pr YTT1 (.sl .bool)) (.pr (.pr YTT1 (.sl (.int .u16))) (.pr YTT1 (.sl (.int .u16))))),.int .i64,.pr (.int .u8) YTT4]):Option (As [.pr (.int .u8) YTT3]):=q98_ x.1 x.2.1 x.2.2.1
theorem qx1_ (J:Orc (As [.pr (.int .u8) YTT3])) (x:As [.pr (.pr YTT1 (.sl .bool)) (.pr (.pr YTT1 (.sl .bool)) (.pr (.pr YTT1 (.sl (.int .u16))) (.pr YTT1 (.sl (.int .u16))))),.int .i64,.pr (.int .u8) YTT4]):rfn Tryz.prog qol_ 6 18446744073709551616 (Ev.get qoc_) 173 qa1_ J x=q98_ x.1 x.2.1 x.2.2.1:=by kernel_rfl
theorem qxx_ (x:As [.pr (.pr YTT1 (.sl .bool)) (.pr (.pr YTT1 (.sl .bool)) (.pr (.pr YTT1 (.sl (.int .u16))) (.pr YTT1 (.sl (.int .u16))))),.int .i64,.pr (.int .u8) YTT4]):evT Tryz.prog qol_ 6 18446744073709551616 (Ev.get qoc_) 173 qa1_ x=q5y_ x:=by
 rw [q5_,qx1_]
 rfl
theorem qx9_:CtOk Tryz.prog (fun _=>True) 173 ⟨qa1_,q5y_⟩:=q3_ (q0_ qvb_ (q0_ qua_ q4_)) qxx_
@[reducible] def qgy_:Sh:=⟨[.d (.pr YTT1 (.pr YTT1 (.pr YTT1 YTT1))),.d (.pr (.sl .bool) YTT10),.d (.pr (.int .u8) YTT4)],[],[.pr YTT1 (.pr YTT1 (.pr YTT1 YTT1)),.pr (.sl .bool) YTT10,.pr (.int .u8) YTT4],[.d (.pr (.sl .bool) YTT10),.d (.pr (.int .u8) YTT3)],[],0,[.pr (.sl .bool) YTT10,.pr (.int .u8) YTT3]⟩
def qp1_:Env:=(cts [(50,(⟨qnh_,qlm_⟩:Ct)),(54,(⟨q4j_,qb2_⟩:Ct)),(68,(⟨q4d_,qan_⟩:Ct)),(120,(⟨qag_,qe_⟩:Ct)),(124,(⟨qjg_,qgc_⟩:Ct)),(126,(⟨qfu_,q9i_⟩:Ct)),(130,(⟨q4l_,q3c_⟩:Ct)),(131,(⟨q3o_,q2r_⟩:Ct)),(173,(⟨qa1_,q5y_⟩:Ct))])
def qra_:List (Nat×Hint):=[(255,⟨[],[5,6,7,8,10,11]⟩)]
def qsu_ (a:YaA3q0) (t7 t7_2 t7_3 t7_4:Int) (o o_2:List Bool) (o_3 o_4:List Int) (v v_2 v_3 v_4:List YTT5) (u:Int×Int):St:={ fr:=[(5,.pb 0 0),(6,.pb 1 0),(7,.pb 2 0),(8,.pb 3 0),(10,.pb 8 0),(11,.pb 9 0)],nt:=79,up:=[],own:=[(0,.box 44 [.d (.int .u8) a.1,.d (.int .u16) a.2.1,.d (.int .u16) a.2.2.1,.d (.int .u16) a.2.2.2.1,.d (.sl (.int .u16)) a.2.2.2.2.1,.d (.sl .bool) a.2.2.2.2.2]),(1,.box 96 [.k (Go.Value.slice Option.none 0 0),.k (Go.Value.slice Option.none 0 0),.k (Go.Value.slice Option.none 0 0),.k (Go.Value.slice Option.none 0 0)]),(2,.box 46 [.d (.int .u8) t7,.d (.int .u8) t7_2,.k (Go.Value.slice Option.none 0 0),.k (Go.Value.slice Option.none 0 0),.d (.int .u16) t7_3,.d (.int .u16) t7_4]),(3,.box 96 [.row 4,.row 5,.row 6,.row 7]),(4,.row .bool 4 o),(5,.row .bool 4 o_2),(6,.row (.int .u16) 23 o_3),(7,.row (.int .u16) 23 o_4),(8,.box 174 [.d YTT1 v,.row 4,.d YTT1 v_2,.row 5,.d YTT1 v_3,.row 6,.d YTT1 v_4,.row 7]),(9,.box 183 [.d (.int .i64) u.1,.d (.int .i64) u.2])],nx:=10,log:=[],ln:=0 }
def q140_ (a:YaA3q0) (t7 t7_2 t7_3 t7_4:Int) (o o_2:List Bool) (o_3 o_4:List Int) (v v_2 v_3 v_4:List YTT5) (u:Int×Int):Option (As [.pr (.sl .bool) YTT10,.pr (.int .u8) YTT3]) :=
 Option.bind (qan_ (a,())) fun y=>if y.2.1=true then some ((o,o_2,o_3,o_4),y.1,()) else Option.bind (q5y_ (((v,o),(v_2,o_2),(v_3,o_3),v_4,o_4),u.1,a,())) fun y=>some ((o,o_2,o_3,o_4),y.1,())
def qt2_ (j1:YaA3q0->Int->Int->Int->Int->List Bool->List Bool->List Int->List Int->List YTT5->List YTT5->List YTT5->List YTT5->Int×Int->Option (As [.pr (.sl .bool) YTT10,.pr (.int .u8) YTT3])) (s:List YTT5×List YTT5×List YTT5×List YTT5) (m:List Bool×List Bool×List Int×List Int) (a:YaA3q0):Option (As [.pr (.sl .bool) YTT10,.pr (.int .u8) YTT3]) :=
 Option.bind (q3c_ (m.1,())) fun y=>Option.bind (q3c_ (m.2.1,())) fun y_1=>Option.bind (q2r_ (m.2.2.1,())) fun y_2=>Option.bind (q2r_ (m.2.2.2,())) fun y_3=>Option.bind (qb2_ (s,a,())) fun y_4=>if nei y_4.1 0=true then Option.bind (qe_ (a.1,y_4.1,())) fun y_5=>some ((y.1,y_1.1,y_2.1,y_3.1),y_5.1,()) else Option.bind (qlm_ (s,m,())) fun y_5=>if (!y_5.1)=true then Option.bind (qe_ (a.1,4,())) fun y_6=>some ((y.1,y_1.1,y_2.1,y_3.1),y_6.1,()) else Option.bind (qgc_ (a.1,())) fun y_6=>Option.bind (q9i_ (a,())) fun y_7=>if eqi y_6.1.2 1=true then need (ge y_7.1 0) (need (le y_7.1 (Int.ofNat (List.length y.1))) (need (le (Int.ofNat (List.length y.1)) (Int.ofNat (List.length y.1))) (need (le (y_7.1 + (Int.ofNat (List.length y.1) - y_7.1)) (Int.ofNat (List.length y.1))) (j1 a 0 0 0 0 (List.take (Int.toNat y_7.1) y.1++List.take (Int.toNat (Int.ofNat (List.length y.1) - y_7.1)) a.2.2.2.2.2++List.drop (Int.toNat y_7.1 + List.length (List.take (Int.toNat (Int.ofNat (List.length y.1) - y_7.1)) a.2.2.2.2.2)) y.1) y_1.1 y_2.1 y_3.1 s.1 s.2.1 s.2.2.1 s.2.2.2 y_6.1)))) else if eqi y_6.1.2 3=true then need (ge y_7.1 0) (need (le y_7.1 (Int.ofNat (List.length y_2.1))) (need (le (Int.ofNat (List.length y_2.1)) (Int.ofNat (List.length y_2.1))) (need (le (y_7.1 + (Int.ofNat (List.length y_2.1) - y_7.1)) (Int.ofNat (List.length y_2.1))) (j1 a 0 0 0 0 y.1 y_1.1 (List.take (Int.toNat y_7.1) y_2.1++List.take (Int.toNat (Int.ofNat (List.length y_2.1) - y_7.1)) a.2.2.2.2.1++List.drop (Int.toNat y_7.1 + List.length (List.take (Int.toNat (Int.ofNat (List.length y_2.1) - y_7.1)) a.2.2.2.2.1)) y_2.1) y_3.1 s.1 s.2.1 s.2.2.1 s.2.2.2 y_6.1)))) else j1 a 0 0 0 0 y.1 y_1.1 y_2.1 y_3.1 s.1 s.2.1 s.2.2.1 s.2.2.2 y_6.1
def qhy_ (a:YaA3q0) (t7 t7_2 t7_3 t7_4:Int) (o o_2:List Bool) (o_3 o_4:List Int) (v v_2 v_3 v_4:List YTT5) (u:Int×Int):Option (As [.pr (.sl .bool) YTT10,.pr (.int .u8) YTT3]):=q140_ a t7 t7_2 t7_3 t7_4 o o_2 o_3 o_4 v v_2 v_3 v_4 u
def q2h_ (x:As [.pr YTT1 (.pr YTT1 (.pr YTT1 YTT1)),.pr (.sl .bool) YTT10,.pr (.int .u8) YTT4]):Option (As [.pr (.sl .bool) YTT10,.pr (.int .u8) YTT3]):=qt2_ qhy_ x.1 x.2.1 x.2.2.1
theorem q1gr_ (J:Orc (As [.pr (.sl .bool) YTT10,.pr (.int .u8) YTT3])) (a:YaA3q0) (t7 t7_2 t7_3 t7_4:Int) (o o_2:List Bool) (o_3 o_4:List Int) (v v_2 v_3 v_4:List YTT5) (u:Int×Int):pfn Tryz.prog qp1_ 6 18446744073709551616 (Ev.get qra_) 122 qgy_ J 255 [] (qsu_ a t7 t7_2 t7_3 t7_4 o o_2 o_3 o_4 v v_2 v_3 v_4 u)=q140_ a t7 t7_2 t7_3 t7_4 o o_2 o_3 o_4 v v_2 v_3 v_4 u:=by kernel_rfl
theorem q1gx_ (J:Orc (As [.pr (.sl .bool) YTT10,.pr (.int .u8) YTT3])) (x:As [.pr YTT1 (.pr YTT1 (.pr YTT1 YTT1)),.pr (.sl .bool) YTT10,.pr (.int .u8) YTT4]):rfn Tryz.prog qp1_ 6 18446744073709551616 (Ev.get qra_) 122 qgy_ J x=qt2_ (fun a t7 t7_2 t7_3 t7_4 o o_2 o_3 o_4 v v_2 v_3 v_4 u=>J 255 [] (qsu_ a t7 t7_2 t7_3 t7_4 o o_2 o_3 o_4 v v_2 v_3 v_4 u)) x.1 x.2.1 x.2.2.1:=by kernel_rfl
theorem q1gy_ (a:YaA3q0) (t7 t7_2 t7_3 t7_4:Int) (o o_2:List Bool) (o_3 o_4:List Int) (v v_2 v_3 v_4:List YTT5) (u:Int×Int):jfn Tryz.prog qp1_ 6 18446744073709551616 (Ev.get qra_) 122 qgy_ 255 [] (qsu_ a t7 t7_2 t7_3 t7_4 o o_2 o_3 o_4 v v_2 v_3 v_4 u)=qhy_ a t7 t7_2 t7_3 t7_4 o o_2 o_3 o_4 v v_2 v_3 v_4 u:=by
 rw [q8_ (by decide)]
 rw [q1gr_]
 rfl
theorem q1il_ (x:As [.pr YTT1 (.pr YTT1 (.pr YTT1 YTT1)),.pr (.sl .bool) YTT10,.pr (.int .u8) YTT4]):evT Tryz.prog qp1_ 6 18446744073709551616 (Ev.get qra_) 122 qgy_ x=q2h_ x:=by
 have e1:(fun a t7 t7_2 t7_3 t7_4 o o_2 o_3 o_4 v v_2 v_3 v_4 u=>(jfn Tryz.prog qp1_ 6 18446744073709551616 (Ev.get qra_) 122 qgy_) 255 [] (qsu_ a t7 t7_2 t7_3 t7_4 o o_2 o_3 o_4 v v_2 v_3 v_4 u))=qhy_:=by funext a t7 t7_2 t7_3 t7_4 o o_2 o_3 o_4 v v_2 v_3 v_4 u; exact q1gy_ a t7 t7_2 t7_3 t7_4 o o_2 o_3 o_4 v v_2 v_3 v_4 u
 rw [q5_,q1gx_,e1]
 rfl
theorem q1gn_:CtOk Tryz.prog (fun _=>True) 122 ⟨qgy_,q2h_⟩:=q3_ (q0_ q195_ (q0_ qz0_ (q0_ qzt_ (q0_ qkh_ (q0_ q10e_ (q0_ qwm_ (q0_ ql4_ (q0_ qi8_ (q0_ qx9_ q4_))))))))) q1il_
@[reducible] def qd_:Sh:=⟨[.d (.pr (.int .u8) (.pr (.int .u8) (.pr (.pr (.sl (.int .u16)) YTT0) (.sl .bool)))),.d (.pr (.int .u8) YTT4)],[],[.pr (.int .u8) (.pr (.int .u8) (.pr (.pr (.sl (.int .u16)) YTT0) (.sl .bool))),.pr (.int .u8) YTT4],[.d (.pr (.int .u8) YTT3)],[],0,[.pr (.int .u8) YTT3]⟩
def q74_:Env:=(cts [(2000038,Ev.bxCt),(47,(⟨q2_,q5c_⟩:Ct)),(49,(⟨q4i_,q5e_⟩:Ct)),(68,(⟨q4d_,qan_⟩:Ct)),(122,(⟨qgy_,q2h_⟩:Ct))])
def q70_:List (Nat×Hint):=[(15,⟨[],[2,3,4,7]⟩),(31,⟨[],[3,4,9]⟩)]
def qir_ (s:Int×Int×YTT2×List Bool) (a:YaA3q0) (t4 t4_2 t4_3 t4_4 read read_2 read_3 read_4:Int):St:={ fr:=[(2,.pe (.pr (.int .u8) (.pr (.int .u8) (.pr (.pr (.sl (.int .u16)) YTT0) (.sl .bool)))) s),(3,.pb 0 0),(4,.pb 1 0),(7,.pb 2 0)],nt:=40,up:=[],own:=[(0,.box 44 [.d (.int .u8) a.1,.d (.int .u16) a.2.1,.d (.int .u16) a.2.2.1,.d (.int .u16) a.2.2.2.1,.d (.sl (.int .u16)) a.2.2.2.2.1,.d (.sl .bool) a.2.2.2.2.2]),(1,.box 46 [.d (.int .u8) t4,.d (.int .u8) t4_2,.k (Go.Value.slice Option.none 0 0),.k (Go.Value.slice Option.none 0 0),.d (.int .u16) t4_3,.d (.int .u16) t4_4]),(2,.box 44 [.d (.int .u8) read,.d (.int .u16) read_2,.d (.int .u16) read_3,.d (.int .u16) read_4,.k (Go.Value.slice Option.none 0 0),.k (Go.Value.slice Option.none 0 0)])],nx:=3,log:=[],ln:=0 }
def qi6_ (a:YaA3q0) (t4 t4_2 t4_3 t4_4:Int) (r:Int×Int×List Bool×List Int×Int×Int):St:={ fr:=[(3,.pb 0 0),(4,.pb 1 0),(9,.pb 2 0)],nt:=40,up:=[],own:=[(0,.box 44 [.d (.int .u8) a.1,.d (.int .u16) a.2.1,.d (.int .u16) a.2.2.1,.d (.int .u16) a.2.2.2.1,.d (.sl (.int .u16)) a.2.2.2.2.1,.d (.sl .bool) a.2.2.2.2.2]),(1,.box 46 [.d (.int .u8) t4,.d (.int .u8) t4_2,.k (Go.Value.slice Option.none 0 0),.k (Go.Value.slice Option.none 0 0),.d (.int .u16) t4_3,.d (.int .u16) t4_4]),(2,.box 46 [.d (.int .u8) r.1,.d (.int .u8) r.2.1,.d (.sl .bool) r.2.2.1,.d (.sl (.int .u16)) r.2.2.2.1,.d (.int .u16) r.2.2.2.2.1,.d (.int .u16) r.2.2.2.2.2])],nx:=3,log:=[],ln:=0 }
def qig_ (j2:YaA3q0->Int->Int->Int->Int->Int×Int×List Bool×List Int×Int×Int->Option (As [.pr (.int .u8) YTT3])) (s:Int×Int×YTT2×List Bool) (a:YaA3q0) (t4 t4_2 t4_3 t4_4 read read_2 read_3 read_4:Int):Option (As [.pr (.int .u8) YTT3]) :=
 amb (eqAs qd_.rs) [Option.bind (q5e_ ()) fun y=>amb (eqAs qd_.rs) [Option.bind (q5c_ (s,())) fun y_1=>amb (eqAs qd_.rs) [Option.bind (q2h_ (y.1,y_1.1,(read,read_2,read_3,read_4,[],[]),())) fun y=>amb (eqAs qd_.rs) [j2 a t4 t4_2 t4_3 t4_4 y.2.1,j2 a t4 t4_2 t4_3 t4_4 y.2.1],amb (eqAs qd_.rs) [amb (eqAs qd_.rs) [Option.bind (q2h_ (y.1,y_1.1,(read,read_2,read_3,read_4,[],[]),())) fun y=>j2 a t4 t4_2 t4_3 t4_4 y.2.1,Option.bind (q2h_ (y.1,y_1.1,(read,read_2,read_3,read_4,[],[]),())) fun y=>j2 a t4 t4_2 t4_3 t4_4 y.2.1],amb (eqAs qd_.rs) [Option.bind (q2h_ (y.1,y_1.1,(read,read_2,read_3,read_4,[],[]),())) fun y=>j2 a t4 t4_2 t4_3 t4_4 y.2.1,Option.bind (q2h_ (y.1,y_1.1,(read,read_2,read_3,read_4,[],[]),())) fun y=>j2 a t4 t4_2 t4_3 t4_4 y.2.1]]],amb (eqAs qd_.rs) [amb (eqAs qd_.rs) [Option.bind (q5c_ (s,())) fun y_1=>amb (eqAs qd_.rs) [Option.bind (q2h_ (y.1,y_1.1,(read,read_2,read_3,read_4,[],[]),())) fun y=>j2 a t4 t4_2 t4_3 t4_4 y.2.1,Option.bind (q2h_ (y.1,y_1.1,(read,read_2,read_3,read_4,[],[]),())) fun y=>j2 a t4 t4_2 t4_3 t4_4 y.2.1],Option.bind (q5c_ (s,())) fun y_1=>Option.bind (q2h_ (y.1,y_1.1,(read,read_2,read_3,read_4,[],[]),())) fun y=>j2 a t4 t4_2 t4_3 t4_4 y.2.1],amb (eqAs qd_.rs) [Option.bind (q5c_ (s,())) fun y_1=>amb (eqAs qd_.rs) [Option.bind (q2h_ (y.1,y_1.1,(read,read_2,read_3,read_4,[],[]),())) fun y=>j2 a t4 t4_2 t4_3 t4_4 y.2.1,Option.bind (q2h_ (y.1,y_1.1,(read,read_2,read_3,read_4,[],[]),())) fun y=>j2 a t4 t4_2 t4_3 t4_4 y.2.1],Option.bind (q5c_ (s,())) fun y_1=>Option.bind (q2h_ (y.1,y_1.1,(read,read_2,read_3,read_4,[],[]),())) fun y=>j2 a t4 t4_2 t4_3 t4_4 y.2.1]]],amb (eqAs qd_.rs) [amb (eqAs qd_.rs) [Option.bind (q5e_ ()) fun y=>amb (eqAs qd_.rs) [Option.bind (q5c_ (s,())) fun y_1=>amb (eqAs qd_.rs) [Option.bind (q2h_ (y.1,y_1.1,(read,read_2,read_3,read_4,[],[]),())) fun y=>j2 a t4 t4_2 t4_3 t4_4 y.2.1,Option.bind (q2h_ (y.1,y_1.1,(read,read_2,read_3,read_4,[],[]),())) fun y=>j2 a t4 t4_2 t4_3 t4_4 y.2.1],Option.bind (q5c_ (s,())) fun y_1=>Option.bind (q2h_ (y.1,y_1.1,(read,read_2,read_3,read_4,[],[]),())) fun y=>j2 a t4 t4_2 t4_3 t4_4 y.2.1],Option.bind (q5e_ ()) fun y=>Option.bind (q5c_ (s,())) fun y_1=>Option.bind (q2h_ (y.1,y_1.1,(read,read_2,read_3,read_4,[],[]),())) fun y=>j2 a t4 t4_2 t4_3 t4_4 y.2.1],amb (eqAs qd_.rs) [Option.bind (q5e_ ()) fun y=>amb (eqAs qd_.rs) [Option.bind (q5c_ (s,())) fun y_1=>amb (eqAs qd_.rs) [Option.bind (q2h_ (y.1,y_1.1,(read,read_2,read_3,read_4,[],[]),())) fun y=>j2 a t4 t4_2 t4_3 t4_4 y.2.1,Option.bind (q2h_ (y.1,y_1.1,(read,read_2,read_3,read_4,[],[]),())) fun y=>j2 a t4 t4_2 t4_3 t4_4 y.2.1],Option.bind (q5c_ (s,())) fun y_1=>Option.bind (q2h_ (y.1,y_1.1,(read,read_2,read_3,read_4,[],[]),())) fun y=>j2 a t4 t4_2 t4_3 t4_4 y.2.1],Option.bind (q5e_ ()) fun y=>Option.bind (q5c_ (s,())) fun y_1=>Option.bind (q2h_ (y.1,y_1.1,(read,read_2,read_3,read_4,[],[]),())) fun y=>j2 a t4 t4_2 t4_3 t4_4 y.2.1]]]
def qwp_ (a:YaA3q0) (t4 t4_2 t4_3 t4_4:Int) (r:Int×Int×List Bool×List Int×Int×Int):Option (As [.pr (.int .u8) YTT3]) :=
 some ((a.1,r.2),())
def qil_ (j1:Int×Int×YTT2×List Bool->YaA3q0->Int->Int->Int->Int->Int->Int->Int->Int->Option (As [.pr (.int .u8) YTT3])) (s:Int×Int×YTT2×List Bool) (a:YaA3q0):Option (As [.pr (.int .u8) YTT3]) :=
 Option.bind (qan_ (a,())) fun y=>if y.2.1=true then some (y.1,()) else if eqi a.1 23=true then j1 s a 0 0 0 0 3 a.2.1 a.2.2.1 0 else j1 s a 0 0 0 0 a.1 a.2.1 a.2.2.1 0
def qi9_ (a:YaA3q0) (t4 t4_2 t4_3 t4_4:Int) (r:Int×Int×List Bool×List Int×Int×Int):Option (As [.pr (.int .u8) YTT3]):=qwp_ a t4 t4_2 t4_3 t4_4 r
def qdq_ (s:Int×Int×YTT2×List Bool) (a:YaA3q0) (t4 t4_2 t4_3 t4_4 read read_2 read_3 read_4:Int):Option (As [.pr (.int .u8) YTT3]):=qig_ (qi9_) s a t4 t4_2 t4_3 t4_4 read read_2 read_3 read_4
def qz_ (x:As [.pr (.int .u8) (.pr (.int .u8) (.pr (.pr (.sl (.int .u16)) YTT0) (.sl .bool))),.pr (.int .u8) YTT4]):Option (As [.pr (.int .u8) YTT3]):=qil_ qdq_ x.1 x.2.1
theorem q16o_ (J:Orc (As [.pr (.int .u8) YTT3])) (a:YaA3q0) (t4 t4_2 t4_3 t4_4:Int) (r:Int×Int×List Bool×List Int×Int×Int):pfn Tryz.prog q74_ 6 18446744073709551616 (Ev.get q70_) 129 qd_ J 31 [] (qi6_ a t4 t4_2 t4_3 t4_4 r)=qwp_ a t4 t4_2 t4_3 t4_4 r:=by kernel_rfl
theorem q16a_ (J:Orc (As [.pr (.int .u8) YTT3])) (s:Int×Int×YTT2×List Bool) (a:YaA3q0) (t4 t4_2 t4_3 t4_4 read read_2 read_3 read_4:Int):pfn Tryz.prog q74_ 6 18446744073709551616 (Ev.get q70_) 129 qd_ J 15 [] (qir_ s a t4 t4_2 t4_3 t4_4 read read_2 read_3 read_4)=qig_ (fun a t4 t4_2 t4_3 t4_4 r=>J 31 [] (qi6_ a t4 t4_2 t4_3 t4_4 r)) s a t4 t4_2 t4_3 t4_4 read read_2 read_3 read_4:=by kernel_rfl
theorem q16j_ (J:Orc (As [.pr (.int .u8) YTT3])) (x:As [.pr (.int .u8) (.pr (.int .u8) (.pr (.pr (.sl (.int .u16)) YTT0) (.sl .bool))),.pr (.int .u8) YTT4]):rfn Tryz.prog q74_ 6 18446744073709551616 (Ev.get q70_) 129 qd_ J x=qil_ (fun s a t4 t4_2 t4_3 t4_4 read read_2 read_3 read_4=>J 15 [] (qir_ s a t4 t4_2 t4_3 t4_4 read read_2 read_3 read_4)) x.1 x.2.1:=by kernel_rfl
theorem q16x_ (a:YaA3q0) (t4 t4_2 t4_3 t4_4:Int) (r:Int×Int×List Bool×List Int×Int×Int):jfn Tryz.prog q74_ 6 18446744073709551616 (Ev.get q70_) 129 qd_ 31 [] (qi6_ a t4 t4_2 t4_3 t4_4 r)=qi9_ a t4 t4_2 t4_3 t4_4 r:=by
 rw [q8_ (by decide)]
 rw [q16o_]
 rfl
theorem q16e_ (s:Int×Int×YTT2×List Bool) (a:YaA3q0) (t4 t4_2 t4_3 t4_4 read read_2 read_3 read_4:Int):jfn Tryz.prog q74_ 6 18446744073709551616 (Ev.get q70_) 129 qd_ 15 [] (qir_ s a t4 t4_2 t4_3 t4_4 read read_2 read_3 read_4)=qdq_ s a t4 t4_2 t4_3 t4_4 read read_2 read_3 read_4:=by
 rw [q8_ (by decide)]
 have e2:(fun a t4 t4_2 t4_3 t4_4 r=>(jfn Tryz.prog q74_ 6 18446744073709551616 (Ev.get q70_) 129 qd_) 31 [] (qi6_ a t4 t4_2 t4_3 t4_4 r))=qi9_:=by funext a t4 t4_2 t4_3 t4_4 r; exact q16x_ a t4 t4_2 t4_3 t4_4 r
 rw [q16a_,e2]
 rfl
theorem q19d_ (x:As [.pr (.int .u8) (.pr (.int .u8) (.pr (.pr (.sl (.int .u16)) YTT0) (.sl .bool))),.pr (.int .u8) YTT4]):evT Tryz.prog q74_ 6 18446744073709551616 (Ev.get q70_) 129 qd_ x=qz_ x:=by
 have e1:(fun s a t4 t4_2 t4_3 t4_4 read read_2 read_3 read_4=>(jfn Tryz.prog q74_ 6 18446744073709551616 (Ev.get q70_) 129 qd_) 15 [] (qir_ s a t4 t4_2 t4_3 t4_4 read read_2 read_3 read_4))=qdq_:=by funext s a t4 t4_2 t4_3 t4_4 read read_2 read_3 read_4; exact q16e_ s a t4 t4_2 t4_3 t4_4 read read_2 read_3 read_4
 rw [q5_,q16j_,e1]
 rfl
theorem q16q_:CtOk Tryz.prog (fun _=>True) 129 ⟨qd_,qz_⟩:=q3_ (q0_ Ev.bx_ok (q0_ q1dd_ (q0_ qxr_ (q0_ qzt_ (q0_ q1gn_ q4_))))) q19d_
@[reducible] def qbt_:Sh:=⟨[.d (.sl (.int .u16))],[],[.sl (.int .u16)],[.d (.pr (.int .u16) YTT6),.d (.int .i64)],[],0,[.pr (.int .u16) YTT6,.int .i64]⟩
def qj2_:Env:=(cts [(81,(⟨qjf_,qdn_⟩:Ct))])
def qjh_:List (Nat×Hint):=[(6,⟨[],[0,2,18]⟩)]
def qnw_ (w:List Int) (t18:Bool) (t2:Int×Int×Int×Int×Int):St:={ fr:=[(0,.d (.sl (.int .u16)) w),(2,.pb 0 0),(18,.d .bool t18)],nt:=45,up:=[],own:=[(0,.box 61 [.d (.int .u16) t2.1,.d (.int .u8) t2.2.1,.d (.int .u32) t2.2.2.1,.d (.int .u16) t2.2.2.2.1,.d (.int .u32) t2.2.2.2.2])],nx:=1,log:=[],ln:=0 }
def qng_ (w:List Int) (t18:Bool) (t2:Int×Int×Int×Int×Int):Option (As [.pr (.int .u16) YTT6,.int .i64]) :=
 if t18=true then some ((0,0,0,0,0),2,()) else Option.bind (at? w 0) fun y=>Option.bind (at? w 1) fun y_1=>Option.bind (at? w 2) fun y_2=>Option.bind (at? w 3) fun y_3=>Option.bind (at? w 4) fun y_4=>Option.bind (at? w 5) fun y_5=>Option.bind (at? w 6) fun y_6=>Option.bind (qdn_ (y_2,y_3,())) fun y_7=>Option.bind (qdn_ (y_5,y_6,())) fun y_8=>some ((y,cvt .u8 y_1,y_7.1,y_4,y_8.1),0,())
def qo3_ (j1:List Int->Bool->Int×Int×Int×Int×Int->Option (As [.pr (.int .u16) YTT6,.int .i64])) (w:List Int):Option (As [.pr (.int .u16) YTT6,.int .i64]) :=
 if nei (Int.ofNat (List.length w)) 8=true then j1 w true (0,0,0,0,0) else Option.bind (at? w 7) fun y=>if nei y 0=true then j1 w true (0,0,0,0,0) else Option.bind (at? w 1) fun y=>j1 w (ge y 256) (0,0,0,0,0)
def qhq_ (w:List Int) (t18:Bool) (t2:Int×Int×Int×Int×Int):Option (As [.pr (.int .u16) YTT6,.int .i64]):=qng_ w t18 t2
def qga_ (x:As [.sl (.int .u16)]):Option (As [.pr (.int .u16) YTT6,.int .i64]):=qo3_ qhq_ x.1
theorem q1cf_ (J:Orc (As [.pr (.int .u16) YTT6,.int .i64])) (w:List Int) (t18:Bool) (t2:Int×Int×Int×Int×Int):pfn Tryz.prog qj2_ 6 18446744073709551616 (Ev.get qjh_) 203 qbt_ J 6 [] (qnw_ w t18 t2)=qng_ w t18 t2:=by kernel_rfl
theorem q1aq_ (J:Orc (As [.pr (.int .u16) YTT6,.int .i64])) (x:As [.sl (.int .u16)]):rfn Tryz.prog qj2_ 6 18446744073709551616 (Ev.get qjh_) 203 qbt_ J x=qo3_ (fun w t18 t2=>J 6 [] (qnw_ w t18 t2)) x.1:=by kernel_rfl
theorem q1cm_ (w:List Int) (t18:Bool) (t2:Int×Int×Int×Int×Int):jfn Tryz.prog qj2_ 6 18446744073709551616 (Ev.get qjh_) 203 qbt_ 6 [] (qnw_ w t18 t2)=qhq_ w t18 t2:=by
 rw [q8_ (by decide)]
 rw [q1cf_]
 rfl
theorem q1cv_ (x:As [.sl (.int .u16)]):evT Tryz.prog qj2_ 6 18446744073709551616 (Ev.get qjh_) 203 qbt_ x=qga_ x:=by
 have e1:(fun w t18 t2=>(jfn Tryz.prog qj2_ 6 18446744073709551616 (Ev.get qjh_) 203 qbt_) 6 [] (qnw_ w t18 t2))=qhq_:=by funext w t18 t2; exact q1cm_ w t18 t2
 rw [q5_,q1aq_,e1]
 rfl
theorem q1cd_:CtOk Tryz.prog (fun _=>True) 203 ⟨qbt_,qga_⟩:=q3_ (q0_ q10i_ q4_) q1cv_
@[reducible] def q4n_:Sh:=⟨[.d (.pr (.sl (.int .u16)) YTT0)],[],[.pr (.sl (.int .u16)) YTT0],[.d (.pr (.sl (.int .u16)) YTT0)],[],0,[.pr (.sl (.int .u16)) YTT0]⟩
def qb3_:Env:=(cts [(131,(⟨q28_,qb_⟩:Ct))])
def qb4_:List (Nat×Hint):=[(58,⟨[],[1,2,12,13]⟩),(7475,⟨[.frb 5],[1,2,3,5,12,13]⟩)]
def q7v_ (a t2:Int) (t12:List Bool) (t13:Int) (a_2 t2_2:List YTT2):St:={ fr:=[(1,.prw 0 a 32 0),(2,.prw 1 t2 32 0),(12,.d (.ar 8 .bool) t12),(13,.d (.int .i64) t13)],nt:=41,up:=[],own:=[(0,.row (.pr (.sl (.int .u16)) YTT0) 35 a_2),(1,.row (.pr (.sl (.int .u16)) YTT0) 35 t2_2)],nx:=2,log:=[],ln:=0 }
def qpp_ (a t2 i:Int) (t12:List Bool) (t13:Int) (a_2 t2_2:List YTT2) (x:Int×List Int):St:={ fr:=[(1,.prw 0 a 32 0),(2,.prw 1 t2 32 0),(3,.d (.int .i64) i),(5,.pb 2 0),(12,.d (.ar 8 .bool) t12),(13,.d (.int .i64) t13)],nt:=41,up:=[],own:=[(0,.row (.pr (.sl (.int .u16)) YTT0) 35 a_2),(1,.row (.pr (.sl (.int .u16)) YTT0) 35 t2_2),(2,.box 30 [.d (.int .i64) x.1,.d (.sl (.int .u16)) x.2])],nx:=3,log:=[],ln:=0 }
def qfo_ (j2:Int->Int->Int->List Bool->Int->List YTT2->List YTT2->Int×List Int->Option (As [.pr (.sl (.int .u16)) YTT0])) (self1:Int->Int->List Bool->Int->List YTT2->List YTT2->Option (As [.pr (.sl (.int .u16)) YTT0])) (a t2:Int) (t12:List Bool) (t13:Int) (a_2 t2_2:List YTT2):Option (As [.pr (.sl (.int .u16)) YTT0]) :=
 if lt t13 8=true then need (lt t13 8) (Option.bind (at? t12 t13) fun y=>if y=true then need (ge t13 0) (need (lt t13 8) (Option.bind (at? a_2 a) fun y=>Option.bind (at? y.2.2.2.2.2.1.2.2 t13) fun z=>need (ge t13 0) (need (lt t13 8) (Option.bind (at? a_2 a) fun y=>Option.bind (at? y.2.2.2.2.2.1.2.2 t13) fun z_1=>Option.bind (qb_ (z_1.2,())) fun y=>j2 a t2 t13 t12 t13 a_2 t2_2 (z.1,y.1))))) else j2 a t2 t13 t12 t13 a_2 t2_2 (0,[])) else Option.bind (at? a_2 a) fun y=>Option.bind (at? t2_2 t2) fun x=>Option.bind (at? (List.set t2_2 (Int.toNat t2) y) t2) fun y_1=>Option.bind (at? (List.set t2_2 (Int.toNat t2) y) t2) fun y=>some (y,())
def qrt_ (self1:Int->Int->List Bool->Int->List YTT2->List YTT2->Option (As [.pr (.sl (.int .u16)) YTT0])) (a t2 i:Int) (t12:List Bool) (t13:Int) (a_2 t2_2:List YTT2) (x:Int×List Int):Option (As [.pr (.sl (.int .u16)) YTT0]) :=
 need (ge i 0) (need (lt i 8) (Option.bind (at? a_2 a) fun x_1=>Option.bind (at? x_1.2.2.2.2.2.1.2.2 i) fun z=>self1 a t2 t12 (add .i64 t13 1) (List.set a_2 (Int.toNat a) (x_1.1,x_1.2.1,x_1.2.2.1,x_1.2.2.2.1,x_1.2.2.2.2.1,(x_1.2.2.2.2.2.1.1,x_1.2.2.2.2.2.1.2.1,List.set x_1.2.2.2.2.2.1.2.2 (Int.toNat i) x),x_1.2.2.2.2.2.2)) t2_2))
def qqg_ (j1:Int->Int->List Bool->Int->List YTT2->List YTT2->Option (As [.pr (.sl (.int .u16)) YTT0])) (a:List Int×(Int×Int)×Int×Int×Int×YTT9×Int):Option (As [.pr (.sl (.int .u16)) YTT0]) :=
 Option.bind (qb_ (a.1,())) fun y=>j1 0 0 a.2.2.2.2.2.1.2.1 0 [(y.1,a.2)] [zAg0]
def qfb_ (u1:Int->Int->List Bool->Int->List YTT2->List YTT2->Option (As [.pr (.sl (.int .u16)) YTT0])) (a t2 i:Int) (t12:List Bool) (t13:Int) (a_2 t2_2:List YTT2) (x:Int×List Int):Option (As [.pr (.sl (.int .u16)) YTT0]):=qrt_ u1 a t2 i t12 t13 a_2 t2_2 x
def qfc_ (a t2:Int) (t12:List Bool) (t13:Int) (a_2 t2_2:List YTT2):Option (As [.pr (.sl (.int .u16)) YTT0]) :=
 loopF (fun (self:(Int)×(Int)×(List Bool)×(Int)×(List YTT2)×(List YTT2)->Option (As [.pr (.sl (.int .u16)) YTT0])) (s:(Int)×(Int)×(List Bool)×(Int)×(List YTT2)×(List YTT2))=>qfo_ (qfb_ (fun a t2 t12 t13 a_2 t2_2=>self (a,t2,t12,t13,a_2,t2_2))) (fun a t2 t12 t13 a_2 t2_2=>self (a,t2,t12,t13,a_2,t2_2)) s.1 s.2.1 s.2.2.1 s.2.2.2.1 s.2.2.2.2.1 s.2.2.2.2.2) 18446744073709551616 (a,t2,t12,t13,a_2,t2_2)
def q9p_ (x:As [.pr (.sl (.int .u16)) YTT0]):Option (As [.pr (.sl (.int .u16)) YTT0]):=qqg_ qfc_ x.1
theorem q1gc_ (J:Orc (As [.pr (.sl (.int .u16)) YTT0])) (w1:St->Option (As [.pr (.sl (.int .u16)) YTT0])) (a t2 i:Int) (t12:List Bool) (t13:Int) (a_2 t2_2:List YTT2) (x:Int×List Int):pfn Tryz.prog qb3_ 6 18446744073709551616 (Ev.get qb4_) 178 q4n_ J 7475 [w1] (qpp_ a t2 i t12 t13 a_2 t2_2 x)=qrt_ (fun a t2 t12 t13 a_2 t2_2=>w1 (q7v_ a t2 t12 t13 a_2 t2_2)) a t2 i t12 t13 a_2 t2_2 x:=by kernel_rfl
theorem q1ej_ (J:Orc (As [.pr (.sl (.int .u16)) YTT0])) (w1:St->Option (As [.pr (.sl (.int .u16)) YTT0])) (a t2:Int) (t12:List Bool) (t13:Int) (a_2 t2_2:List YTT2):pfn Tryz.prog qb3_ 6 18446744073709551616 (Ev.get qb4_) 178 q4n_ J 58 [w1] (q7v_ a t2 t12 t13 a_2 t2_2)=qfo_ (fun a t2 i t12 t13 a_2 t2_2 x=>J 7475 [w1] (qpp_ a t2 i t12 t13 a_2 t2_2 x)) (fun a t2 t12 t13 a_2 t2_2=>w1 (q7v_ a t2 t12 t13 a_2 t2_2)) a t2 t12 t13 a_2 t2_2:=by kernel_rfl
theorem q1e1_ (J:Orc (As [.pr (.sl (.int .u16)) YTT0])) (x:As [.pr (.sl (.int .u16)) YTT0]):rfn Tryz.prog qb3_ 6 18446744073709551616 (Ev.get qb4_) 178 q4n_ J x=qqg_ (fun a t2 t12 t13 a_2 t2_2=>J 58 [] (q7v_ a t2 t12 t13 a_2 t2_2)) x.1:=by kernel_rfl
theorem q1fi_ (w1:St->Option (As [.pr (.sl (.int .u16)) YTT0])) (a t2 i:Int) (t12:List Bool) (t13:Int) (a_2 t2_2:List YTT2) (x:Int×List Int):jfn Tryz.prog qb3_ 6 18446744073709551616 (Ev.get qb4_) 178 q4n_ 7475 [w1] (qpp_ a t2 i t12 t13 a_2 t2_2 x)=qfb_ (fun a t2 t12 t13 a_2 t2_2=>w1 (q7v_ a t2 t12 t13 a_2 t2_2)) a t2 i t12 t13 a_2 t2_2 x:=by
 rw [q8_ (by decide)]
 rw [q1gc_]
 rfl
theorem q1f7_ (a t2:Int) (t12:List Bool) (t13:Int) (a_2 t2_2:List YTT2):jfn Tryz.prog qb3_ 6 18446744073709551616 (Ev.get qb4_) 178 q4n_ 58 [] (q7v_ a t2 t12 t13 a_2 t2_2)=qfc_ a t2 t12 t13 a_2 t2_2:=by
 rw [q8_ (by decide)]
 rw [qr_ (by kernel_rfl)]
 refine qi_ (σ:=(Int)×(Int)×(List Bool)×(Int)×(List YTT2)×(List YTT2)) (mk:=fun s=>q7v_ s.1 s.2.1 s.2.2.1 s.2.2.2.1 s.2.2.2.2.1 s.2.2.2.2.2) (fun w1 s=>?_) 18446744073709551616 (a,t2,t12,t13,a_2,t2_2)
 have e2:(fun a t2 i t12 t13 a_2 t2_2 x=>(jfn Tryz.prog qb3_ 6 18446744073709551616 (Ev.get qb4_) 178 q4n_) 7475 [w1] (qpp_ a t2 i t12 t13 a_2 t2_2 x))=qfb_ (fun a t2 t12 t13 a_2 t2_2=>w1 (q7v_ a t2 t12 t13 a_2 t2_2)):=by funext a t2 i t12 t13 a_2 t2_2 x; exact q1fi_ w1 a t2 i t12 t13 a_2 t2_2 x
 refine (q1ej_ _ w1 s.1 s.2.1 s.2.2.1 s.2.2.2.1 s.2.2.2.2.1 s.2.2.2.2.2).trans ?_
 rw [e2]
theorem q1hg_ (x:As [.pr (.sl (.int .u16)) YTT0]):evT Tryz.prog qb3_ 6 18446744073709551616 (Ev.get qb4_) 178 q4n_ x=q9p_ x:=by
 have e1:(fun a t2 t12 t13 a_2 t2_2=>(jfn Tryz.prog qb3_ 6 18446744073709551616 (Ev.get qb4_) 178 q4n_) 58 [] (q7v_ a t2 t12 t13 a_2 t2_2))=qfc_:=by funext a t2 t12 t13 a_2 t2_2; exact q1f7_ a t2 t12 t13 a_2 t2_2
 rw [q5_,q1e1_,e1]
 rfl
theorem qpl_:CtOk Tryz.prog (fun _=>True) 178 ⟨q4n_,q9p_⟩:=q3_ (q0_ q5o_ q4_) q1hg_
@[reducible] def qfe_:Sh:=⟨[.d (.pr (.sl (.int .u16)) YTT0),.d (.int .u16)],[],[.pr (.sl (.int .u16)) YTT0,.int .u16],[.d (.bool)],[],0,[.bool]⟩
def qxn_:Env:=(cts [(2000035,Ev.bxCt),(113,(⟨q9q_,q5h_⟩:Ct))])
def qy0_:List (Nat×Hint):=[]
def qi7_ (a:List Int×(Int×Int)×Int×Int×Int×YTT9×Int) (owner:Int):Option (As [.bool]) :=
 Option.bind (q5h_ (a.2.1,())) fun y=>if (!y.1)=true then some (nei a.2.1.1 owner,()) else some (false,())
def q37_ (x:As [.pr (.sl (.int .u16)) YTT0,.int .u16]):Option (As [.bool]):=qi7_ x.1 x.2.1
theorem q15u_ (J:Orc (As [.bool])) (x:As [.pr (.sl (.int .u16)) YTT0,.int .u16]):rfn Tryz.prog qxn_ 6 18446744073709551616 (Ev.get qy0_) 214 qfe_ J x=qi7_ x.1 x.2.1:=by kernel_rfl
theorem q19f_ (x:As [.pr (.sl (.int .u16)) YTT0,.int .u16]):evT Tryz.prog qxn_ 6 18446744073709551616 (Ev.get qy0_) 214 qfe_ x=q37_ x:=by
 rw [q5_,q15u_]
 rfl
theorem qwv_:CtOk Tryz.prog (fun _=>True) 214 ⟨qfe_,q37_⟩:=q3_ (q0_ Ev.bx_ok (q0_ qha_ q4_)) q19f_
@[reducible] def qi3_:Sh:=⟨[.d (.pr (.sl (.int .u16)) YTT0),.d (.pr (.int .u16) YTT6)],[],[.pr (.sl (.int .u16)) YTT0,.pr (.int .u16) YTT6],[.d (.bool)],[],0,[.bool]⟩
def qww_:Env:=(cts [(2000035,Ev.bxCt)])
def qwu_:List (Nat×Hint):=[]
def qgx_ (a:List Int×(Int×Int)×Int×Int×Int×YTT9×Int) (c:Int×Int×Int×Int×Int):Option (As [.bool]) :=
 if le c.2.2.1 a.2.2.2.2.1=true then some (true,()) else if nei a.2.2.1 0=true then some (lt c.2.2.1 a.2.2.2.1,()) else some (false,())
def qct_ (x:As [.pr (.sl (.int .u16)) YTT0,.pr (.int .u16) YTT6]):Option (As [.bool]):=qgx_ x.1 x.2.1
theorem q14g_ (J:Orc (As [.bool])) (x:As [.pr (.sl (.int .u16)) YTT0,.pr (.int .u16) YTT6]):rfn Tryz.prog qww_ 6 18446744073709551616 (Ev.get qwu_) 219 qi3_ J x=qgx_ x.1 x.2.1:=by kernel_rfl
theorem q175_ (x:As [.pr (.sl (.int .u16)) YTT0,.pr (.int .u16) YTT6]):evT Tryz.prog qww_ 6 18446744073709551616 (Ev.get qwu_) 219 qi3_ x=qct_ x:=by
 rw [q5_,q14g_]
 rfl
theorem q14w_:CtOk Tryz.prog (fun _=>True) 219 ⟨qi3_,qct_⟩:=q3_ (q0_ Ev.bx_ok q4_) q175_
@[reducible] def q8l_:Sh:=⟨[.d (.pr (.sl (.int .u16)) YTT0)],[],[.pr (.sl (.int .u16)) YTT0],[.d (.pr (.sl (.int .u16)) YTT0)],[],0,[.pr (.sl (.int .u16)) YTT0]⟩
def qzp_:Env:=(cts [])
def qzr_:List (Nat×Hint):=[]
def qxy_ (a:List Int×(Int×Int)×Int×Int×Int×YTT9×Int):Option (As [.pr (.sl (.int .u16)) YTT0]) :=
 some ((a.1,(0,0),0,0,a.2.2.2.2.1,zSt,a.2.2.2.2.2.2),())
def q4q_ (x:As [.pr (.sl (.int .u16)) YTT0]):Option (As [.pr (.sl (.int .u16)) YTT0]):=qxy_ x.1
theorem q17w_ (J:Orc (As [.pr (.sl (.int .u16)) YTT0])) (x:As [.pr (.sl (.int .u16)) YTT0]):rfn Tryz.prog qzp_ 6 18446744073709551616 (Ev.get qzr_) 180 q8l_ J x=qxy_ x.1:=by kernel_rfl
theorem q1bm_ (x:As [.pr (.sl (.int .u16)) YTT0]):evT Tryz.prog qzp_ 6 18446744073709551616 (Ev.get qzr_) 180 q8l_ x=q4q_ x:=by
 rw [q5_,q17w_]
 rfl
theorem qey_:CtOk Tryz.prog (fun _=>True) 180 ⟨q8l_,q4q_⟩:=q3_ q4_ q1bm_
@[reducible] def q60_:Sh:=⟨[.d (.pr (.int .u16) (.int .i64)),.d (.int .u16),.d (.int .i64)],[],[.pr (.int .u16) (.int .i64),.int .u16,.int .i64],[.d (.pr (.int .u16) (.int .i64)),.d (.int .i64)],[],0,[.pr (.int .u16) (.int .i64),.int .i64]⟩
def q9n_:Env:=(cts [(113,(⟨q9q_,q5h_⟩:Ct)),(167,(⟨q88_,q4f_⟩:Ct)),(207,(⟨qbp_,q6i_⟩:Ct))])
def q9z_:List (Nat×Hint):=[(30,⟨[],[1,2,3,6,25]⟩),(14,⟨[],[1,2,3,6,15,21,22,23,24]⟩)]
def qnq_ (owner ticks:Int) (t15:Bool) (l t6:Int×Int):St:={ fr:=[(1,.d (.int .u16) owner),(2,.d (.int .i64) ticks),(3,.pb 0 0),(6,.pb 1 0),(15,.d .bool t15)],nt:=35,up:=[],own:=[(0,.box 27 [.d (.int .u16) l.1,.d (.int .i64) l.2]),(1,.box 27 [.d (.int .u16) t6.1,.d (.int .i64) t6.2])],nx:=2,log:=[],ln:=0 }
def qnd_ (owner ticks:Int) (t25:Bool) (l t6:Int×Int):St:={ fr:=[(1,.d (.int .u16) owner),(2,.d (.int .i64) ticks),(3,.pb 0 0),(6,.pb 1 0),(25,.d .bool t25)],nt:=35,up:=[],own:=[(0,.box 27 [.d (.int .u16) l.1,.d (.int .i64) l.2]),(1,.box 27 [.d (.int .u16) t6.1,.d (.int .i64) t6.2])],nx:=2,log:=[],ln:=0 }
def qnb_ (j2:Int->Int->Bool->Int×Int->Int×Int->Option (As [.pr (.int .u16) (.int .i64),.int .i64])) (owner ticks:Int) (t15:Bool) (l t6:Int×Int):Option (As [.pr (.int .u16) (.int .i64),.int .i64]) :=
 if t15=true then some (l,2,()) else Option.bind (q5h_ (l,())) fun y=>if (!y.1)=true then j2 owner ticks (nei l.1 owner) l t6 else j2 owner ticks false l t6
def qn6_ (owner ticks:Int) (t25:Bool) (l t6:Int×Int):Option (As [.pr (.int .u16) (.int .i64),.int .i64]) :=
 if t25=true then some (l,22,()) else Option.bind (q6i_ (owner,())) fun y=>if (eqi l.1 y.1.1 && (eqi l.2 y.1.2 && true))=true then some (l,0,()) else some ((owner,ticks),0,())
def qn8_ (j1:Int->Int->Bool->Int×Int->Int×Int->Option (As [.pr (.int .u16) (.int .i64),.int .i64])) (l:Int×Int) (owner ticks:Int):Option (As [.pr (.int .u16) (.int .i64),.int .i64]) :=
 Option.bind (q4f_ (l,())) fun y=>if eqi owner 0=true then j1 owner ticks true y.1 (0,0) else j1 owner ticks (lt ticks 1) y.1 (0,0)
def qhe_ (owner ticks:Int) (t25:Bool) (l t6:Int×Int):Option (As [.pr (.int .u16) (.int .i64),.int .i64]):=qn6_ owner ticks t25 l t6
def qnv_ (owner ticks:Int) (t15:Bool) (l t6:Int×Int):Option (As [.pr (.int .u16) (.int .i64),.int .i64]):=qnb_ (qhe_) owner ticks t15 l t6
def qrx_ (x:As [.pr (.int .u16) (.int .i64),.int .u16,.int .i64]):Option (As [.pr (.int .u16) (.int .i64),.int .i64]):=qn8_ qnv_ x.1 x.2.1 x.2.2.1
theorem q1aj_ (J:Orc (As [.pr (.int .u16) (.int .i64),.int .i64])) (owner ticks:Int) (t25:Bool) (l t6:Int×Int):pfn Tryz.prog q9n_ 6 18446744073709551616 (Ev.get q9z_) 227 q60_ J 30 [] (qnd_ owner ticks t25 l t6)=qn6_ owner ticks t25 l t6:=by kernel_rfl
theorem q1bp_ (J:Orc (As [.pr (.int .u16) (.int .i64),.int .i64])) (owner ticks:Int) (t15:Bool) (l t6:Int×Int):pfn Tryz.prog q9n_ 6 18446744073709551616 (Ev.get q9z_) 227 q60_ J 14 [] (qnq_ owner ticks t15 l t6)=qnb_ (fun owner ticks t25 l t6=>J 30 [] (qnd_ owner ticks t25 l t6)) owner ticks t15 l t6:=by kernel_rfl
theorem q1a6_ (J:Orc (As [.pr (.int .u16) (.int .i64),.int .i64])) (x:As [.pr (.int .u16) (.int .i64),.int .u16,.int .i64]):rfn Tryz.prog q9n_ 6 18446744073709551616 (Ev.get q9z_) 227 q60_ J x=qn8_ (fun owner ticks t15 l t6=>J 14 [] (qnq_ owner ticks t15 l t6)) x.1 x.2.1 x.2.2.1:=by kernel_rfl
theorem q1cb_ (owner ticks:Int) (t25:Bool) (l t6:Int×Int):jfn Tryz.prog q9n_ 6 18446744073709551616 (Ev.get q9z_) 227 q60_ 30 [] (qnd_ owner ticks t25 l t6)=qhe_ owner ticks t25 l t6:=by
 rw [q8_ (by decide)]
 rw [q1aj_]
 rfl
theorem q1c4_ (owner ticks:Int) (t15:Bool) (l t6:Int×Int):jfn Tryz.prog q9n_ 6 18446744073709551616 (Ev.get q9z_) 227 q60_ 14 [] (qnq_ owner ticks t15 l t6)=qnv_ owner ticks t15 l t6:=by
 rw [q8_ (by decide)]
 have e2:(fun owner ticks t25 l t6=>(jfn Tryz.prog q9n_ 6 18446744073709551616 (Ev.get q9z_) 227 q60_) 30 [] (qnd_ owner ticks t25 l t6))=qhe_:=by funext owner ticks t25 l t6; exact q1cb_ owner ticks t25 l t6
 rw [q1bp_,e2]
 rfl
theorem q1dc_ (x:As [.pr (.int .u16) (.int .i64),.int .u16,.int .i64]):evT Tryz.prog q9n_ 6 18446744073709551616 (Ev.get q9z_) 227 q60_ x=qrx_ x:=by
 have e1:(fun owner ticks t15 l t6=>(jfn Tryz.prog q9n_ 6 18446744073709551616 (Ev.get q9z_) 227 q60_) 14 [] (qnq_ owner ticks t15 l t6))=qnv_:=by funext owner ticks t15 l t6; exact q1c4_ owner ticks t15 l t6
 rw [q5_,q1a6_,e1]
 rfl
theorem q1bn_:CtOk Tryz.prog (fun _=>True) 227 ⟨q60_,qrx_⟩:=q3_ (q0_ qha_ (q0_ qge_ (q0_ qmp_ q4_))) q1dc_
@[reducible] def qhc_:Sh:=⟨[.d (.pr (.sl (.int .u16)) YTT0),.d (.int .u16)],[],[.pr (.sl (.int .u16)) YTT0,.int .u16],[.d (.pr (.sl (.int .u16)) YTT0)],[],0,[.pr (.sl (.int .u16)) YTT0]⟩
def qzn_:Env:=(cts [(227,(⟨q60_,qrx_⟩:Ct))])
def qzs_:List (Nat×Hint):=[]
def qk8_ (a:List Int×(Int×Int)×Int×Int×Int×YTT9×Int) (owner:Int):Option (As [.pr (.sl (.int .u16)) YTT0]) :=
 Option.bind (qrx_ (a.2.1,owner,a.2.2.2.2.2.2,())) fun y=>some ((a.1,y.1,a.2.2),())
def q9g_ (x:As [.pr (.sl (.int .u16)) YTT0,.int .u16]):Option (As [.pr (.sl (.int .u16)) YTT0]):=qk8_ x.1 x.2.1
theorem q196_ (J:Orc (As [.pr (.sl (.int .u16)) YTT0])) (x:As [.pr (.sl (.int .u16)) YTT0,.int .u16]):rfn Tryz.prog qzn_ 6 18446744073709551616 (Ev.get qzs_) 217 qhc_ J x=qk8_ x.1 x.2.1:=by kernel_rfl
theorem q1bc_ (x:As [.pr (.sl (.int .u16)) YTT0,.int .u16]):evT Tryz.prog qzn_ 6 18446744073709551616 (Ev.get qzs_) 217 qhc_ x=q9g_ x:=by
 rw [q5_,q196_]
 rfl
theorem qxz_:CtOk Tryz.prog (fun _=>True) 217 ⟨qhc_,q9g_⟩:=q3_ (q0_ q1bn_ q4_) q1bc_
@[reducible] def qmi_:Sh:=⟨[.d (.pr (.sl (.int .u16)) YTT0),.d (.pr (.int .u16) YTT6)],[],[.pr (.sl (.int .u16)) YTT0,.pr (.int .u16) YTT6],[.d (.pr (.sl (.int .u16)) YTT0)],[],0,[.pr (.sl (.int .u16)) YTT0]⟩
def qzk_:Env:=(cts [(180,(⟨q8l_,q4q_⟩:Ct)),(217,(⟨qhc_,q9g_⟩:Ct))])
def qzm_:List (Nat×Hint):=[]
def qk5_ (a:List Int×(Int×Int)×Int×Int×Int×YTT9×Int) (c:Int×Int×Int×Int×Int):Option (As [.pr (.sl (.int .u16)) YTT0]) :=
 if eqi c.2.2.1 a.2.2.2.1=true then Option.bind (q9g_ (a,c.1,())) fun y=>some (y.1,()) else Option.bind (q4q_ (a,())) fun y=>Option.bind (q9g_ (y.1,c.1,())) fun y=>some ((y.1.1,y.1.2.1,1,c.2.2.1,y.1.2.2.2.2.1,(c.2.2.1,y.1.2.2.2.2.2.1.2),y.1.2.2.2.2.2.2),())
def qi1_ (x:As [.pr (.sl (.int .u16)) YTT0,.pr (.int .u16) YTT6]):Option (As [.pr (.sl (.int .u16)) YTT0]):=qk5_ x.1 x.2.1
theorem q17e_ (J:Orc (As [.pr (.sl (.int .u16)) YTT0])) (x:As [.pr (.sl (.int .u16)) YTT0,.pr (.int .u16) YTT6]):rfn Tryz.prog qzk_ 6 18446744073709551616 (Ev.get qzm_) 220 qmi_ J x=qk5_ x.1 x.2.1:=by kernel_rfl
theorem q1bi_ (x:As [.pr (.sl (.int .u16)) YTT0,.pr (.int .u16) YTT6]):evT Tryz.prog qzk_ 6 18446744073709551616 (Ev.get qzm_) 220 qmi_ x=qi1_ x:=by
 rw [q5_,q17e_]
 rfl
theorem q186_:CtOk Tryz.prog (fun _=>True) 220 ⟨qmi_,qi1_⟩:=q3_ (q0_ qey_ (q0_ qxz_ q4_)) q1bi_
@[reducible] def qjx_:Sh:=⟨[.d (.pr (.sl (.int .u16)) YTT0),.d (.int .u8),.d (.int .u32)],[],[.pr (.sl (.int .u16)) YTT0,.int .u8,.int .u32],[.d (.bool)],[],0,[.bool]⟩
def q168_:Env:=(cts [(2000035,Ev.bxCt)])
def q15x_:List (Nat×Hint):=[]
def qt4_ (a:List Int×(Int×Int)×Int×Int×Int×YTT9×Int) (phase tx:Int):Option (As [.bool]) :=
 if eqi a.2.2.1 phase=true then some (eqi a.2.2.2.1 tx,()) else some (false,())
def qea_ (x:As [.pr (.sl (.int .u16)) YTT0,.int .u8,.int .u32]):Option (As [.bool]):=qt4_ x.1 x.2.1 x.2.2.1
theorem q1ho_ (J:Orc (As [.bool])) (x:As [.pr (.sl (.int .u16)) YTT0,.int .u8,.int .u32]):rfn Tryz.prog q168_ 6 18446744073709551616 (Ev.get q15x_) 215 qjx_ J x=qt4_ x.1 x.2.1 x.2.2.1:=by kernel_rfl
theorem q1ie_ (x:As [.pr (.sl (.int .u16)) YTT0,.int .u8,.int .u32]):evT Tryz.prog q168_ 6 18446744073709551616 (Ev.get q15x_) 215 qjx_ x=qea_ x:=by
 rw [q5_,q1ho_]
 rfl
theorem qxh_:CtOk Tryz.prog (fun _=>True) 215 ⟨qjx_,qea_⟩:=q3_ (q0_ Ev.bx_ok q4_) q1ie_
@[reducible] def qt7_:Sh:=⟨[.d (.int .u32)],[],[.int .u32],[.d (.int .u32)],[],0,[.int .u32]⟩
def q143_:Env:=(cts [])
def q13z_:List (Nat×Hint):=[]
def qp4_ (sum:Int):Option (As [.int .u32]) :=
 if eqi (Sx.band .u32 sum 1) 1=true then some (Sx.bxor .u32 (Sx.shr .u32 sum 1) 3988292384,()) else some (Sx.shr .u32 sum 1,())
def qob_ (x:As [.int .u32]):Option (As [.int .u32]):=qp4_ x.1
theorem q1f5_ (J:Orc (As [.int .u32])) (x:As [.int .u32]):rfn Tryz.prog q143_ 6 18446744073709551616 (Ev.get q13z_) 206 qt7_ J x=qp4_ x.1:=by kernel_rfl
theorem q1go_ (x:As [.int .u32]):evT Tryz.prog q143_ 6 18446744073709551616 (Ev.get q13z_) 206 qt7_ x=qob_ x:=by
 rw [q5_,q1f5_]
 rfl
theorem q1cy_:CtOk Tryz.prog (fun _=>True) 206 ⟨qt7_,qob_⟩:=q3_ q4_ q1go_
@[reducible] def qj3_:Sh:=⟨[.d (.int .u32),.d (.int .u8)],[],[.int .u32,.int .u8],[.d (.int .u32)],[],0,[.int .u32]⟩
def qtj_:Env:=(cts [(206,(⟨qt7_,qob_⟩:Ct))])
def qtx_:List (Nat×Hint):=[(58,⟨[],[0,9]⟩)]
def qjw_ (sum t9:Int):St:={ fr:=[(0,.d (.int .u32) sum),(9,.d (.int .i64) t9)],nt:=15,up:=[],own:=[],nx:=0,log:=[],ln:=0 }
def qpt_ (self1:Int->Int->Option (As [.int .u32])) (sum t9:Int):Option (As [.int .u32]) :=
 if lt t9 8=true then Option.bind (qob_ (sum,())) fun y=>self1 y.1 (add .i64 t9 1) else some (sum,())
def q177_ (j1:Int->Int->Option (As [.int .u32])) (sum b:Int):Option (As [.int .u32]) :=
 j1 (Sx.bxor .u32 sum (cvt .u32 b)) 0
def qpk_ (sum t9:Int):Option (As [.int .u32]) :=
 loopF (fun (self:(Int)×(Int)->Option (As [.int .u32])) (s:(Int)×(Int))=>qpt_ (fun sum t9=>self (sum,t9)) s.1 s.2) 18446744073709551616 (sum,t9)
def qxw_ (x:As [.int .u32,.int .u8]):Option (As [.int .u32]):=q177_ qpk_ x.1 x.2.1
theorem q1iv_ (J:Orc (As [.int .u32])) (w1:St->Option (As [.int .u32])) (sum t9:Int):pfn Tryz.prog qtj_ 6 18446744073709551616 (Ev.get qtx_) 177 qj3_ J 58 [w1] (qjw_ sum t9)=qpt_ (fun sum t9=>w1 (qjw_ sum t9)) sum t9:=by kernel_rfl
theorem q1ib_ (J:Orc (As [.int .u32])) (x:As [.int .u32,.int .u8]):rfn Tryz.prog qtj_ 6 18446744073709551616 (Ev.get qtx_) 177 qj3_ J x=q177_ (fun sum t9=>J 58 [] (qjw_ sum t9)) x.1 x.2.1:=by kernel_rfl
theorem q1in_ (sum t9:Int):jfn Tryz.prog qtj_ 6 18446744073709551616 (Ev.get qtx_) 177 qj3_ 58 [] (qjw_ sum t9)=qpk_ sum t9:=by
 rw [q8_ (by decide)]
 rw [qr_ (by kernel_rfl)]
 refine qi_ (σ:=(Int)×(Int)) (mk:=fun s=>qjw_ s.1 s.2) (fun w1 s=>?_) 18446744073709551616 (sum,t9)
 refine (q1iv_ _ w1 s.1 s.2).trans ?_
 rfl
theorem q1j0_ (x:As [.int .u32,.int .u8]):evT Tryz.prog qtj_ 6 18446744073709551616 (Ev.get qtx_) 177 qj3_ x=qxw_ x:=by
 have e1:(fun sum t9=>(jfn Tryz.prog qtj_ 6 18446744073709551616 (Ev.get qtx_) 177 qj3_) 58 [] (qjw_ sum t9))=qpk_:=by funext sum t9; exact q1in_ sum t9
 rw [q5_,q1ib_,e1]
 rfl
theorem q1if_:CtOk Tryz.prog (fun _=>True) 177 ⟨qj3_,qxw_⟩:=q3_ (q0_ q1cy_ q4_) q1j0_
@[reducible] def q7p_:Sh:=⟨[.d (.sl (.int .u8))],[],[.sl (.int .u8)],[.d (.int .u32)],[],0,[.int .u32]⟩
def qaz_:Env:=(cts [(177,(⟨qj3_,qxw_⟩:Ct))])
def qb9_:List (Nat×Hint):=[(7,⟨[],[3]⟩),(58,⟨[],[0,3,6,7]⟩)]
def qg0_ (b:List Int) (sum t6 t7:Int):St:={ fr:=[(0,.d (.sl (.int .u8)) b),(3,.d (.int .u32) sum),(6,.d (.int .i64) t6),(7,.d (.int .i64) t7)],nt:=19,up:=[],own:=[],nx:=0,log:=[],ln:=0 }
def qqs_ (sum:Int):St:={ fr:=[(3,.d (.int .u32) sum)],nt:=19,up:=[],own:=[],nx:=0,log:=[],ln:=0 }
def qev_ (j2:Int->Option (As [.int .u32])) (self1:List Int->Int->Int->Int->Option (As [.int .u32])) (b:List Int) (sum t6 t7:Int):Option (As [.int .u32]) :=
 if lt t7 t6=true then Option.bind (at? b t7) fun y=>Option.bind (qxw_ (sum,y,())) fun y=>self1 b y.1 t6 (add .i64 t7 1) else j2 sum
def qv5_ (sum:Int):Option (As [.int .u32]) :=
 some (Int.ofNat (BitVec.toNat { toFin:=⟨4294967295 ^^^ BitVec.toNat { toFin:=⟨Int.toNat (sum % 4294967296),BitVec.ofInt._proof_1 (Go.IntKind.bits .u32) sum⟩ },BitVec.xor._proof_1 (BitVec.ofInt (Go.IntKind.bits .u32) (if Go.IntKind.signed .u32=true then -1 else Go.IntKind.max .u32)) (BitVec.ofInt (Go.IntKind.bits .u32) sum)⟩ } % 4294967296),())
def q12o_ (j1:List Int->Int->Int->Int->Option (As [.int .u32])) (b:List Int):Option (As [.int .u32]) :=
 j1 b 4294967295 (Int.ofNat (List.length b)) 0
def qvi_ (sum:Int):Option (As [.int .u32]):=qv5_ sum
def qj0_ (b:List Int) (sum t6 t7:Int):Option (As [.int .u32]) :=
 loopF (fun (self:(List Int)×(Int)×(Int)×(Int)->Option (As [.int .u32])) (s:(List Int)×(Int)×(Int)×(Int))=>qev_ (qvi_) (fun b sum t6 t7=>self (b,sum,t6,t7)) s.1 s.2.1 s.2.2.1 s.2.2.2) 18446744073709551616 (b,sum,t6,t7)
def qtv_ (x:As [.sl (.int .u8)]):Option (As [.int .u32]):=q12o_ qj0_ x.1
theorem q1df_ (J:Orc (As [.int .u32])) (sum:Int):pfn Tryz.prog qaz_ 6 18446744073709551616 (Ev.get qb9_) 134 q7p_ J 7 [] (qqs_ sum)=qv5_ sum:=by kernel_rfl
theorem q1dq_ (J:Orc (As [.int .u32])) (w1:St->Option (As [.int .u32])) (b:List Int) (sum t6 t7:Int):pfn Tryz.prog qaz_ 6 18446744073709551616 (Ev.get qb9_) 134 q7p_ J 58 [w1] (qg0_ b sum t6 t7)=qev_ (fun sum=>J 7 [] (qqs_ sum)) (fun b sum t6 t7=>w1 (qg0_ b sum t6 t7)) b sum t6 t7:=by kernel_rfl
theorem q1d3_ (J:Orc (As [.int .u32])) (x:As [.sl (.int .u8)]):rfn Tryz.prog qaz_ 6 18446744073709551616 (Ev.get qb9_) 134 q7p_ J x=q12o_ (fun b sum t6 t7=>J 58 [] (qg0_ b sum t6 t7)) x.1:=by kernel_rfl
theorem q1eu_ (sum:Int):jfn Tryz.prog qaz_ 6 18446744073709551616 (Ev.get qb9_) 134 q7p_ 7 [] (qqs_ sum)=qvi_ sum:=by
 rw [q8_ (by decide)]
 rw [q1df_]
 rfl
theorem q1cx_ (b:List Int) (sum t6 t7:Int):jfn Tryz.prog qaz_ 6 18446744073709551616 (Ev.get qb9_) 134 q7p_ 58 [] (qg0_ b sum t6 t7)=qj0_ b sum t6 t7:=by
 rw [q8_ (by decide)]
 rw [qr_ (by kernel_rfl)]
 refine qi_ (σ:=(List Int)×(Int)×(Int)×(Int)) (mk:=fun s=>qg0_ s.1 s.2.1 s.2.2.1 s.2.2.2) (fun w1 s=>?_) 18446744073709551616 (b,sum,t6,t7)
 have e2:(fun sum=>(jfn Tryz.prog qaz_ 6 18446744073709551616 (Ev.get qb9_) 134 q7p_) 7 [] (qqs_ sum))=qvi_:=funext fun sum=>q1eu_ sum
 refine (q1dq_ _ w1 s.1 s.2.1 s.2.2.1 s.2.2.2).trans ?_
 rw [e2]
theorem q1hs_ (x:As [.sl (.int .u8)]):evT Tryz.prog qaz_ 6 18446744073709551616 (Ev.get qb9_) 134 q7p_ x=qtv_ x:=by
 have e1:(fun b sum t6 t7=>(jfn Tryz.prog qaz_ 6 18446744073709551616 (Ev.get qb9_) 134 q7p_) 58 [] (qg0_ b sum t6 t7))=qj0_:=by funext b sum t6 t7; exact q1cx_ b sum t6 t7
 rw [q5_,q1d3_,e1]
 rfl
theorem q1gi_:CtOk Tryz.prog (fun _=>True) 134 ⟨q7p_,qtv_⟩:=q3_ (q0_ q1if_ q4_) q1hs_
@[reducible] def q6s_:Sh:=⟨[.d (.sl (.int .u16))],[],[.sl (.int .u16)],[.d (.sl (.int .u8))],[],0,[.sl (.int .u8)]⟩
def qc5_:Env:=(cts [])
def qbs_:List (Nat×Hint):=[(58,⟨[],[0,3,10,11]⟩)]
def q8f_ (l:List Int) (t10 t11:Int) (b:List Int):St:={ fr:=[(0,.d (.sl (.int .u16)) l),(3,.row 0),(10,.d (.int .i64) t10),(11,.d (.int .i64) t11)],nt:=36,up:=[],own:=[(0,.row (.int .u8) 5 b)],nx:=1,log:=[],ln:=0 }
def q8g_ (self1:List Int->Int->Int->List Int->Option (As [.sl (.int .u8)])) (l:List Int) (t10 t11:Int) (b:List Int):Option (As [.sl (.int .u8)]) :=
 if lt t11 t10=true then Option.bind (at? l t11) fun y=>Option.bind (at? l t11) fun y_1=>Option.bind (at? b (mul .i64 2 t11)) fun x=>Option.bind (at? b (mul .i64 2 t11)) fun x=>Option.bind (at? (List.set b (Int.toNat (mul .i64 2 t11)) (cvt .u8 (Sx.shr .u16 y 8))) (add .i64 (mul .i64 2 t11) 1)) fun x=>Option.bind (at? (List.set b (Int.toNat (mul .i64 2 t11)) (cvt .u8 (Sx.shr .u16 y 8))) (add .i64 (mul .i64 2 t11) 1)) fun x=>self1 l t10 (add .i64 t11 1) (List.set (List.set b (Int.toNat (mul .i64 2 t11)) (cvt .u8 (Sx.shr .u16 y 8))) (Int.toNat (add .i64 (mul .i64 2 t11) 1)) (cvt .u8 y_1)) else some (b,())
def qer_ (j1:List Int->Int->Int->List Int->Option (As [.sl (.int .u8)])) (l:List Int):Option (As [.sl (.int .u8)]) :=
 need (ge (mul .i64 2 (Int.ofNat (List.length l))) 0) (need (Ev.capOk (mul .i64 2 (Int.ofNat (List.length l))) (mul .i64 2 (Int.ofNat (List.length l)))) (need (small (Int.toNat (mul .i64 2 (Int.ofNat (List.length l))))) (j1 l (Int.ofNat (List.length l)) 0 (List.replicate (Int.toNat (mul .i64 2 (Int.ofNat (List.length l)))) 0))))
def qal_ (l:List Int) (t10 t11:Int) (b:List Int):Option (As [.sl (.int .u8)]) :=
 loopF (fun (self:(List Int)×(Int)×(Int)×(List Int)->Option (As [.sl (.int .u8)])) (s:(List Int)×(Int)×(Int)×(List Int))=>q8g_ (fun l t10 t11 b=>self (l,t10,t11,b)) s.1 s.2.1 s.2.2.1 s.2.2.2) 18446744073709551616 (l,t10,t11,b)
def qft_ (x:As [.sl (.int .u16)]):Option (As [.sl (.int .u8)]):=qer_ qal_ x.1
theorem q13j_ (J:Orc (As [.sl (.int .u8)])) (w1:St->Option (As [.sl (.int .u8)])) (l:List Int) (t10 t11:Int) (b:List Int):pfn Tryz.prog qc5_ 6 18446744073709551616 (Ev.get qbs_) 135 q6s_ J 58 [w1] (q8f_ l t10 t11 b)=q8g_ (fun l t10 t11 b=>w1 (q8f_ l t10 t11 b)) l t10 t11 b:=by kernel_rfl
theorem q13o_ (J:Orc (As [.sl (.int .u8)])) (x:As [.sl (.int .u16)]):rfn Tryz.prog qc5_ 6 18446744073709551616 (Ev.get qbs_) 135 q6s_ J x=qer_ (fun l t10 t11 b=>J 58 [] (q8f_ l t10 t11 b)) x.1:=by kernel_rfl
theorem q13h_ (l:List Int) (t10 t11:Int) (b:List Int):jfn Tryz.prog qc5_ 6 18446744073709551616 (Ev.get qbs_) 135 q6s_ 58 [] (q8f_ l t10 t11 b)=qal_ l t10 t11 b:=by
 rw [q8_ (by decide)]
 rw [qr_ (by kernel_rfl)]
 refine qi_ (σ:=(List Int)×(Int)×(Int)×(List Int)) (mk:=fun s=>q8f_ s.1 s.2.1 s.2.2.1 s.2.2.2) (fun w1 s=>?_) 18446744073709551616 (l,t10,t11,b)
 refine (q13j_ _ w1 s.1 s.2.1 s.2.2.1 s.2.2.2).trans ?_
 rfl
theorem q15f_ (x:As [.sl (.int .u16)]):evT Tryz.prog qc5_ 6 18446744073709551616 (Ev.get qbs_) 135 q6s_ x=qft_ x:=by
 have e1:(fun l t10 t11 b=>(jfn Tryz.prog qc5_ 6 18446744073709551616 (Ev.get qbs_) 135 q6s_) 58 [] (q8f_ l t10 t11 b))=qal_:=by funext l t10 t11 b; exact q13h_ l t10 t11 b
 rw [q5_,q13o_,e1]
 rfl
theorem q13n_:CtOk Tryz.prog (fun _=>True) 135 ⟨q6s_,qft_⟩:=q3_ q4_ q15f_
@[reducible] def qst_:Sh:=⟨[.d (.sl (.int .u16))],[],[.sl (.int .u16)],[.d (.int .u32)],[],0,[.int .u32]⟩
def q146_:Env:=(cts [(134,(⟨q7p_,qtv_⟩:Ct)),(135,(⟨q6s_,qft_⟩:Ct))])
def q13w_:List (Nat×Hint):=[]
def qqv_ (l:List Int):Option (As [.int .u32]) :=
 Option.bind (qft_ (l,())) fun y=>Option.bind (qtv_ (y.1,())) fun y=>some (y.1,())
def qtb_ (x:As [.sl (.int .u16)]):Option (As [.int .u32]):=qqv_ x.1
theorem q1fo_ (J:Orc (As [.int .u32])) (x:As [.sl (.int .u16)]):rfn Tryz.prog q146_ 6 18446744073709551616 (Ev.get q13w_) 74 qst_ J x=qqv_ x.1:=by kernel_rfl
theorem q1i7_ (x:As [.sl (.int .u16)]):evT Tryz.prog q146_ 6 18446744073709551616 (Ev.get q13w_) 74 qst_ x=qtb_ x:=by
 rw [q5_,q1fo_]
 rfl
theorem q1dx_:CtOk Tryz.prog (fun _=>True) 74 ⟨qst_,qtb_⟩:=q3_ (q0_ q1gi_ (q0_ q13n_ q4_)) q1i7_
@[reducible] def q7o_:Sh:=⟨[.d (.sl YTT8)],[],[.sl YTT8],[.d (.int .u32)],[],0,[.int .u32]⟩
def qb1_:Env:=(cts [(73,(⟨q36_,q7t_⟩:Ct)),(74,(⟨qst_,qtb_⟩:Ct))])
def qb0_:List (Nat×Hint):=[(7,⟨[],[3]⟩),(58,⟨[.row 3 23],[3,6,7,8]⟩)]
def qfs_ (t6:List (Int×List Int)) (t7 t8:Int) (all:List Int):St:={ fr:=[(3,.row 0),(6,.d (.sl YTT8) t6),(7,.d (.int .i64) t7),(8,.d (.int .i64) t8)],nt:=19,up:=[],own:=[(0,.row (.int .u16) 23 all)],nx:=1,log:=[],ln:=0 }
def qqq_ (all:List Int):St:={ fr:=[(3,.row 0)],nt:=19,up:=[],own:=[(0,.row (.int .u16) 23 all)],nx:=1,log:=[],ln:=0 }
def qfm_ (j2:List Int->Option (As [.int .u32])) (self1:List (Int×List Int)->Int->Int->List Int->Option (As [.int .u32])) (t6:List (Int×List Int)) (t7 t8:Int) (all:List Int):Option (As [.int .u32]) :=
 if lt t8 t7=true then Option.bind (at? t6 t8) fun y=>Option.bind (q7t_ (y,())) fun y=>need (small (List.length all + List.length y.1)) (self1 t6 t7 (add .i64 t8 1) (all++y.1)) else j2 all
def qpm_ (all:List Int):Option (As [.int .u32]) :=
 Option.bind (qtb_ (all,())) fun y=>some (y.1,())
def q139_ (j1:List (Int×List Int)->Int->Int->List Int->Option (As [.int .u32])) (l:List (Int×List Int)):Option (As [.int .u32]) :=
 j1 l (Int.ofNat (List.length l)) 0 []
def qpv_ (all:List Int):Option (As [.int .u32]):=qpm_ all
def qj8_ (t6:List (Int×List Int)) (t7 t8:Int) (all:List Int):Option (As [.int .u32]) :=
 loopF (fun (self:(List (Int×List Int))×(Int)×(Int)×(List Int)->Option (As [.int .u32])) (s:(List (Int×List Int))×(Int)×(Int)×(List Int))=>qfm_ (qpv_) (fun t6 t7 t8 all=>self (t6,t7,t8,all)) s.1 s.2.1 s.2.2.1 s.2.2.2) 18446744073709551616 (t6,t7,t8,all)
def qu0_ (x:As [.sl YTT8]):Option (As [.int .u32]):=q139_ qj8_ x.1
theorem q1d0_ (J:Orc (As [.int .u32])) (all:List Int):pfn Tryz.prog qb1_ 6 18446744073709551616 (Ev.get qb0_) 19 q7o_ J 7 [] (qqq_ all)=qpm_ all:=by kernel_rfl
theorem q1de_ (J:Orc (As [.int .u32])) (w1:St->Option (As [.int .u32])) (t6:List (Int×List Int)) (t7 t8:Int) (all:List Int):pfn Tryz.prog qb1_ 6 18446744073709551616 (Ev.get qb0_) 19 q7o_ J 58 [w1] (qfs_ t6 t7 t8 all)=qfm_ (fun all=>J 7 [] (qqq_ all)) (fun t6 t7 t8 all=>w1 (qfs_ t6 t7 t8 all)) t6 t7 t8 all:=by kernel_rfl
theorem q1el_ (J:Orc (As [.int .u32])) (x:As [.sl YTT8]):rfn Tryz.prog qb1_ 6 18446744073709551616 (Ev.get qb0_) 19 q7o_ J x=q139_ (fun t6 t7 t8 all=>J 58 [] (qfs_ t6 t7 t8 all)) x.1:=by kernel_rfl
theorem q1e4_ (all:List Int):jfn Tryz.prog qb1_ 6 18446744073709551616 (Ev.get qb0_) 19 q7o_ 7 [] (qqq_ all)=qpv_ all:=by
 rw [q8_ (by decide)]
 rw [q1d0_]
 rfl
theorem q1g3_ (t6:List (Int×List Int)) (t7 t8:Int) (all:List Int):jfn Tryz.prog qb1_ 6 18446744073709551616 (Ev.get qb0_) 19 q7o_ 58 [] (qfs_ t6 t7 t8 all)=qj8_ t6 t7 t8 all:=by
 rw [q8_ (by decide)]
 rw [qr_ (by kernel_rfl)]
 refine qi_ (σ:=(List (Int×List Int))×(Int)×(Int)×(List Int)) (mk:=fun s=>qfs_ s.1 s.2.1 s.2.2.1 s.2.2.2) (fun w1 s=>?_) 18446744073709551616 (t6,t7,t8,all)
 have e2:(fun all=>(jfn Tryz.prog qb1_ 6 18446744073709551616 (Ev.get qb0_) 19 q7o_) 7 [] (qqq_ all))=qpv_:=funext fun all=>q1e4_ all
 refine (q1de_ _ w1 s.1 s.2.1 s.2.2.1 s.2.2.2).trans ?_
 rw [e2]
theorem q1i8_ (x:As [.sl YTT8]):evT Tryz.prog qb1_ 6 18446744073709551616 (Ev.get qb0_) 19 q7o_ x=qu0_ x:=by
 have e1:(fun t6 t7 t8 all=>(jfn Tryz.prog qb1_ 6 18446744073709551616 (Ev.get qb0_) 19 q7o_) 58 [] (qfs_ t6 t7 t8 all))=qj8_:=by funext t6 t7 t8 all; exact q1g3_ t6 t7 t8 all
 rw [q5_,q1el_,e1]
 rfl
theorem q1eq_:CtOk Tryz.prog (fun _=>True) 19 ⟨q7o_,qu0_⟩:=q3_ (q0_ qq3_ (q0_ q1dx_ q4_)) q1i8_
@[reducible] def q5j_:Sh:=⟨[.d (.pr (.int .u32) (.pr (.ar 8 .bool) (.ar 8 YTT8)))],[],[.pr (.int .u32) (.pr (.ar 8 .bool) (.ar 8 YTT8))],[.d (.sl YTT8)],[],0,[.sl YTT8]⟩
def qfx_:Env:=(cts [(2000033,Ev.bxCt),(79,(⟨qi0_,qdv_⟩:Ct))])
def qet_:List (Nat×Hint):=[(58,⟨[.row 3 30],[1,3,7,8]⟩)]
def qa6_ (s:Int×List Bool×List (Int×List Int)) (t7:List Bool) (t8:Int) (l:List (Int×List Int)):St:={ fr:=[(1,.pe (.pr (.int .u32) (.pr (.ar 8 .bool) (.ar 8 YTT8))) s),(3,.row 0),(7,.d (.ar 8 .bool) t7),(8,.d (.int .i64) t8)],nt:=23,up:=[],own:=[(0,.row YTT8 30 l)],nx:=1,log:=[],ln:=0 }
def qa8_ (self1:Int×List Bool×List (Int×List Int)->List Bool->Int->List (Int×List Int)->Option (As [.sl YTT8])) (s:Int×List Bool×List (Int×List Int)) (t7:List Bool) (t8:Int) (l:List (Int×List Int)):Option (As [.sl YTT8]) :=
 if lt t8 8=true then need (lt t8 8) (Option.bind (at? t7 t8) fun y=>if y=true then Option.bind (at? s.2.2 t8) fun y=>Option.bind (qdv_ (y,())) fun y=>need (small (List.length l + Nat.succ 0)) (self1 s t7 (add .i64 t8 1) (l++[y.1])) else self1 s t7 (add .i64 t8 1) l) else some (l,())
def qwt_ (j1:Int×List Bool×List (Int×List Int)->List Bool->Int->List (Int×List Int)->Option (As [.sl YTT8])) (s:Int×List Bool×List (Int×List Int)):Option (As [.sl YTT8]) :=
 j1 s s.2.1 0 []
def qde_ (s:Int×List Bool×List (Int×List Int)) (t7:List Bool) (t8:Int) (l:List (Int×List Int)):Option (As [.sl YTT8]) :=
 loopF (fun (self:YTT9×(List Bool)×(Int)×(List (Int×List Int))->Option (As [.sl YTT8])) (s:YTT9×(List Bool)×(Int)×(List (Int×List Int)))=>qa8_ (fun s t7 t8 l=>self (s,t7,t8,l)) s.1 s.2.1 s.2.2.1 s.2.2.2) 18446744073709551616 (s,t7,t8,l)
def q6b_ (x:As [.pr (.int .u32) (.pr (.ar 8 .bool) (.ar 8 YTT8))]):Option (As [.sl YTT8]):=qwt_ qde_ x.1
theorem q171_ (J:Orc (As [.sl YTT8])) (w1:St->Option (As [.sl YTT8])) (s:Int×List Bool×List (Int×List Int)) (t7:List Bool) (t8:Int) (l:List (Int×List Int)):pfn Tryz.prog qfx_ 6 18446744073709551616 (Ev.get qet_) 139 q5j_ J 58 [w1] (qa6_ s t7 t8 l)=qa8_ (fun s t7 t8 l=>w1 (qa6_ s t7 t8 l)) s t7 t8 l:=by kernel_rfl
theorem q161_ (J:Orc (As [.sl YTT8])) (x:As [.pr (.int .u32) (.pr (.ar 8 .bool) (.ar 8 YTT8))]):rfn Tryz.prog qfx_ 6 18446744073709551616 (Ev.get qet_) 139 q5j_ J x=qwt_ (fun s t7 t8 l=>J 58 [] (qa6_ s t7 t8 l)) x.1:=by kernel_rfl
theorem q16y_ (s:Int×List Bool×List (Int×List Int)) (t7:List Bool) (t8:Int) (l:List (Int×List Int)):jfn Tryz.prog qfx_ 6 18446744073709551616 (Ev.get qet_) 139 q5j_ 58 [] (qa6_ s t7 t8 l)=qde_ s t7 t8 l:=by
 rw [q8_ (by decide)]
 rw [qr_ (by kernel_rfl)]
 refine qi_ (σ:=YTT9×(List Bool)×(Int)×(List (Int×List Int))) (mk:=fun s=>qa6_ s.1 s.2.1 s.2.2.1 s.2.2.2) (fun w1 s=>?_) 18446744073709551616 (s,t7,t8,l)
 refine (q171_ _ w1 s.1 s.2.1 s.2.2.1 s.2.2.2).trans ?_
 rfl
theorem q17b_ (x:As [.pr (.int .u32) (.pr (.ar 8 .bool) (.ar 8 YTT8))]):evT Tryz.prog qfx_ 6 18446744073709551616 (Ev.get qet_) 139 q5j_ x=q6b_ x:=by
 have e1:(fun s t7 t8 l=>(jfn Tryz.prog qfx_ 6 18446744073709551616 (Ev.get qet_) 139 q5j_) 58 [] (qa6_ s t7 t8 l))=qde_:=by funext s t7 t8 l; exact q16y_ s t7 t8 l
 rw [q5_,q161_,e1]
 rfl
theorem qqc_:CtOk Tryz.prog (fun _=>True) 139 ⟨q5j_,q6b_⟩:=q3_ (q0_ Ev.bx_ok (q0_ qw0_ q4_)) q17b_
@[reducible] def q35_:Sh:=⟨[.d (.pr (.int .u32) (.pr (.ar 8 .bool) (.ar 8 YTT8))),.d (.int .i64),.d (.int .u32)],[],[.pr (.int .u32) (.pr (.ar 8 .bool) (.ar 8 YTT8)),.int .i64,.int .u32],[.d (.bool)],[],0,[.bool]⟩
def q4h_:Env:=(cts [(2000033,Ev.bxCt),(19,(⟨q7o_,qu0_⟩:Ct)),(139,(⟨q5j_,q6b_⟩:Ct))])
def q4g_:List (Nat×Hint):=[(7,⟨[],[2,3]⟩),(58,⟨[],[1,2,3,16,17]⟩),(6,⟨[],[1,2,3,14]⟩)]
def qkm_ (count check:Int) (s:Int×List Bool×List (Int×List Int)) (t14:Bool):St:={ fr:=[(1,.d (.int .i64) count),(2,.d (.int .u32) check),(3,.pe (.pr (.int .u32) (.pr (.ar 8 .bool) (.ar 8 YTT8))) s),(14,.d .bool t14)],nt:=32,up:=[],own:=[],nx:=0,log:=[],ln:=0 }
def qbh_ (count check:Int) (s:Int×List Bool×List (Int×List Int)) (t16:List Bool) (t17:Int):St:={ fr:=[(1,.d (.int .i64) count),(2,.d (.int .u32) check),(3,.pe (.pr (.int .u32) (.pr (.ar 8 .bool) (.ar 8 YTT8))) s),(16,.d (.ar 8 .bool) t16),(17,.d (.int .i64) t17)],nt:=32,up:=[],own:=[],nx:=0,log:=[],ln:=0 }
def qk0_ (check:Int) (s:Int×List Bool×List (Int×List Int)):St:={ fr:=[(2,.d (.int .u32) check),(3,.pe (.pr (.int .u32) (.pr (.ar 8 .bool) (.ar 8 YTT8))) s)],nt:=32,up:=[],own:=[],nx:=0,log:=[],ln:=0 }
def qxs_ (j2:Int->Int->Int×List Bool×List (Int×List Int)->List Bool->Int->Option (As [.bool])) (count check:Int) (s:Int×List Bool×List (Int×List Int)) (t14:Bool):Option (As [.bool]) :=
 if t14=true then some (false,()) else j2 count check s s.2.1 0
def q91_ (j3:Int->Int×List Bool×List (Int×List Int)->Option (As [.bool])) (self2:Int->Int->Int×List Bool×List (Int×List Int)->List Bool->Int->Option (As [.bool])) (count check:Int) (s:Int×List Bool×List (Int×List Int)) (t16:List Bool) (t17:Int):Option (As [.bool]) :=
 if lt t17 8=true then need (lt t17 8) (Option.bind (at? t16 t17) fun y=>if Sx.neb y (lt t17 count)=true then some (false,()) else self2 count check s t16 (add .i64 t17 1)) else j3 check s
def qkl_ (check:Int) (s:Int×List Bool×List (Int×List Int)):Option (As [.bool]) :=
 Option.bind (q6b_ (s,())) fun y=>Option.bind (qu0_ (y.1,())) fun y=>some (eqi y.1 check,())
def qke_ (j1:Int->Int->Int×List Bool×List (Int×List Int)->Bool->Option (As [.bool])) (s:Int×List Bool×List (Int×List Int)) (count check:Int):Option (As [.bool]) :=
 if lt count 0=true then j1 count check s true else j1 count check s (gt count 8)
def q5i_ (check:Int) (s:Int×List Bool×List (Int×List Int)):Option (As [.bool]):=qkl_ check s
def qes_ (count check:Int) (s:Int×List Bool×List (Int×List Int)) (t16:List Bool) (t17:Int):Option (As [.bool]) :=
 loopF (fun (self:(Int)×(Int)×YTT9×(List Bool)×(Int)->Option (As [.bool])) (s:(Int)×(Int)×YTT9×(List Bool)×(Int))=>q91_ (q5i_) (fun count check s t16 t17=>self (count,check,s,t16,t17)) s.1 s.2.1 s.2.2.1 s.2.2.2.1 s.2.2.2.2) 18446744073709551616 (count,check,s,t16,t17)
def qfj_ (count check:Int) (s:Int×List Bool×List (Int×List Int)) (t14:Bool):Option (As [.bool]):=qxs_ (qes_) count check s t14
def qlf_ (x:As [.pr (.int .u32) (.pr (.ar 8 .bool) (.ar 8 YTT8)),.int .i64,.int .u32]):Option (As [.bool]):=qke_ qfj_ x.1 x.2.1 x.2.2.1
theorem q19l_ (J:Orc (As [.bool])) (check:Int) (s:Int×List Bool×List (Int×List Int)):pfn Tryz.prog q4h_ 6 18446744073709551616 (Ev.get q4g_) 229 q35_ J 7 [] (qk0_ check s)=qkl_ check s:=by kernel_rfl
theorem q178_ (J:Orc (As [.bool])) (w2:St->Option (As [.bool])) (count check:Int) (s:Int×List Bool×List (Int×List Int)) (t16:List Bool) (t17:Int):pfn Tryz.prog q4h_ 6 18446744073709551616 (Ev.get q4g_) 229 q35_ J 58 [w2] (qbh_ count check s t16 t17)=q91_ (fun check s=>J 7 [] (qk0_ check s)) (fun count check s t16 t17=>w2 (qbh_ count check s t16 t17)) count check s t16 t17:=by kernel_rfl
theorem q18y_ (J:Orc (As [.bool])) (count check:Int) (s:Int×List Bool×List (Int×List Int)) (t14:Bool):pfn Tryz.prog q4h_ 6 18446744073709551616 (Ev.get q4g_) 229 q35_ J 6 [] (qkm_ count check s t14)=qxs_ (fun count check s t16 t17=>J 58 [] (qbh_ count check s t16 t17)) count check s t14:=by kernel_rfl
theorem q19b_ (J:Orc (As [.bool])) (x:As [.pr (.int .u32) (.pr (.ar 8 .bool) (.ar 8 YTT8)),.int .i64,.int .u32]):rfn Tryz.prog q4h_ 6 18446744073709551616 (Ev.get q4g_) 229 q35_ J x=qke_ (fun count check s t14=>J 6 [] (qkm_ count check s t14)) x.1 x.2.1 x.2.2.1:=by kernel_rfl
theorem q17d_ (check:Int) (s:Int×List Bool×List (Int×List Int)):jfn Tryz.prog q4h_ 6 18446744073709551616 (Ev.get q4g_) 229 q35_ 7 [] (qk0_ check s)=q5i_ check s:=by
 rw [q8_ (by decide)]
 rw [q19l_]
 rfl
theorem q17n_ (count check:Int) (s:Int×List Bool×List (Int×List Int)) (t16:List Bool) (t17:Int):jfn Tryz.prog q4h_ 6 18446744073709551616 (Ev.get q4g_) 229 q35_ 58 [] (qbh_ count check s t16 t17)=qes_ count check s t16 t17:=by
 rw [q8_ (by decide)]
 rw [qr_ (by kernel_rfl)]
 refine qi_ (σ:=(Int)×(Int)×YTT9×(List Bool)×(Int)) (mk:=fun s=>qbh_ s.1 s.2.1 s.2.2.1 s.2.2.2.1 s.2.2.2.2) (fun w2 s=>?_) 18446744073709551616 (count,check,s,t16,t17)
 have e3:(fun check s=>(jfn Tryz.prog q4h_ 6 18446744073709551616 (Ev.get q4g_) 229 q35_) 7 [] (qk0_ check s))=q5i_:=by funext check s; exact q17d_ check s
 refine (q178_ _ w2 s.1 s.2.1 s.2.2.1 s.2.2.2.1 s.2.2.2.2).trans ?_
 rw [e3]
theorem q18w_ (count check:Int) (s:Int×List Bool×List (Int×List Int)) (t14:Bool):jfn Tryz.prog q4h_ 6 18446744073709551616 (Ev.get q4g_) 229 q35_ 6 [] (qkm_ count check s t14)=qfj_ count check s t14:=by
 rw [q8_ (by decide)]
 have e2:(fun count check s t16 t17=>(jfn Tryz.prog q4h_ 6 18446744073709551616 (Ev.get q4g_) 229 q35_) 58 [] (qbh_ count check s t16 t17))=qes_:=by funext count check s t16 t17; exact q17n_ count check s t16 t17
 rw [q18y_,e2]
 rfl
theorem q1a4_ (x:As [.pr (.int .u32) (.pr (.ar 8 .bool) (.ar 8 YTT8)),.int .i64,.int .u32]):evT Tryz.prog q4h_ 6 18446744073709551616 (Ev.get q4g_) 229 q35_ x=qlf_ x:=by
 have e1:(fun count check s t14=>(jfn Tryz.prog q4h_ 6 18446744073709551616 (Ev.get q4g_) 229 q35_) 6 [] (qkm_ count check s t14))=qfj_:=by funext count check s t14; exact q18w_ count check s t14
 rw [q5_,q19b_,e1]
 rfl
theorem q17l_:CtOk Tryz.prog (fun _=>True) 229 ⟨q35_,qlf_⟩:=q3_ (q0_ Ev.bx_ok (q0_ q1eq_ (q0_ qqc_ q4_))) q1a4_
@[reducible] def qen_:Sh:=⟨[.d (.pr (.sl (.int .u16)) YTT0),.d (.pr (.int .u16) YTT6)],[],[.pr (.sl (.int .u16)) YTT0,.pr (.int .u16) YTT6],[.d (.bool)],[],0,[.bool]⟩
def quh_:Env:=(cts [(2000035,Ev.bxCt),(215,(⟨qjx_,qea_⟩:Ct)),(229,(⟨q35_,qlf_⟩:Ct))])
def qug_:List (Nat×Hint):=[]
def qdi_ (a:List Int×(Int×Int)×Int×Int×Int×YTT9×Int) (c:Int×Int×Int×Int×Int):Option (As [.bool]) :=
 Option.bind (qea_ (a,2,c.2.2.1,())) fun y=>if y.1=true then some (false,()) else Option.bind (qea_ (a,1,c.2.2.1,())) fun y=>if (!y.1)=true then some (true,()) else Option.bind (qlf_ (a.2.2.2.2.2.1,cvt .i64 c.2.2.2.1,c.2.2.2.2,())) fun y=>some (!y.1,())
def qaa_ (x:As [.pr (.sl (.int .u16)) YTT0,.pr (.int .u16) YTT6]):Option (As [.bool]):=qdi_ x.1 x.2.1
theorem q11z_ (J:Orc (As [.bool])) (x:As [.pr (.sl (.int .u16)) YTT0,.pr (.int .u16) YTT6]):rfn Tryz.prog quh_ 6 18446744073709551616 (Ev.get qug_) 221 qen_ J x=qdi_ x.1 x.2.1:=by kernel_rfl
theorem q13d_ (x:As [.pr (.sl (.int .u16)) YTT0,.pr (.int .u16) YTT6]):evT Tryz.prog quh_ 6 18446744073709551616 (Ev.get qug_) 221 qen_ x=qaa_ x:=by
 rw [q5_,q11z_]
 rfl
theorem q12e_:CtOk Tryz.prog (fun _=>True) 221 ⟨qen_,qaa_⟩:=q3_ (q0_ Ev.bx_ok (q0_ qxh_ (q0_ q17l_ q4_))) q13d_
@[reducible] def qph_:Sh:=⟨[.d (.pr (.int .u16) (.int .i64)),.d (.int .u16)],[],[.pr (.int .u16) (.int .i64),.int .u16],[.d (.pr (.int .u16) (.int .i64)),.d (.int .i64)],[],0,[.pr (.int .u16) (.int .i64),.int .i64]⟩
def q136_:Env:=(cts [(167,(⟨q88_,q4f_⟩:Ct)),(207,(⟨qbp_,q6i_⟩:Ct))])
def q12n_:List (Nat×Hint):=[]
def qna_ (l:Int×Int) (owner:Int):Option (As [.pr (.int .u16) (.int .i64),.int .i64]) :=
 Option.bind (q4f_ (l,())) fun y=>if eqi owner 0=true then some (y.1,2,()) else if nei y.1.1 owner=true then some (y.1,22,()) else Option.bind (q6i_ (owner,())) fun y=>some (y.1,0,())
def qow_ (x:As [.pr (.int .u16) (.int .i64),.int .u16]):Option (As [.pr (.int .u16) (.int .i64),.int .i64]):=qna_ x.1 x.2.1
theorem q1bd_ (J:Orc (As [.pr (.int .u16) (.int .i64),.int .i64])) (x:As [.pr (.int .u16) (.int .i64),.int .u16]):rfn Tryz.prog q136_ 6 18446744073709551616 (Ev.get q12n_) 230 qph_ J x=qna_ x.1 x.2.1:=by kernel_rfl
theorem q1g2_ (x:As [.pr (.int .u16) (.int .i64),.int .u16]):evT Tryz.prog q136_ 6 18446744073709551616 (Ev.get q12n_) 230 qph_ x=qow_ x:=by
 rw [q5_,q1bd_]
 rfl
theorem q1ad_:CtOk Tryz.prog (fun _=>True) 230 ⟨qph_,qow_⟩:=q3_ (q0_ qge_ (q0_ qmp_ q4_)) q1g2_
@[reducible] def qid_:Sh:=⟨[.d (.pr (.sl (.int .u16)) YTT0),.d (.pr (.int .u16) YTT6)],[],[.pr (.sl (.int .u16)) YTT0,.pr (.int .u16) YTT6],[.d (.pr (.sl (.int .u16)) YTT0)],[],0,[.pr (.sl (.int .u16)) YTT0]⟩
def qwg_:Env:=(cts [(230,(⟨qph_,qow_⟩:Ct))])
def qx0_:List (Nat×Hint):=[]
def qgg_ (a:List Int×(Int×Int)×Int×Int×Int×YTT9×Int) (c:Int×Int×Int×Int×Int):Option (As [.pr (.sl (.int .u16)) YTT0]) :=
 Option.bind (qow_ (a.2.1,c.1,())) fun y=>some ((a.1,y.1,2,a.2.2.2),())
def qck_ (x:As [.pr (.sl (.int .u16)) YTT0,.pr (.int .u16) YTT6]):Option (As [.pr (.sl (.int .u16)) YTT0]):=qgg_ x.1 x.2.1
theorem q15e_ (J:Orc (As [.pr (.sl (.int .u16)) YTT0])) (x:As [.pr (.sl (.int .u16)) YTT0,.pr (.int .u16) YTT6]):rfn Tryz.prog qwg_ 6 18446744073709551616 (Ev.get qx0_) 222 qid_ J x=qgg_ x.1 x.2.1:=by kernel_rfl
theorem q15z_ (x:As [.pr (.sl (.int .u16)) YTT0,.pr (.int .u16) YTT6]):evT Tryz.prog qwg_ 6 18446744073709551616 (Ev.get qx0_) 222 qid_ x=qck_ x:=by
 rw [q5_,q15e_]
 rfl
theorem q15q_:CtOk Tryz.prog (fun _=>True) 222 ⟨qid_,qck_⟩:=q3_ (q0_ q1ad_ q4_) q15z_
@[reducible] def qh2_:Sh:=⟨[.d (.pr (.sl (.int .u16)) YTT0),.d (.pr (.int .u16) YTT6)],[],[.pr (.sl (.int .u16)) YTT0,.pr (.int .u16) YTT6],[.d (.bool)],[],0,[.bool]⟩
def qvs_:Env:=(cts [(2000035,Ev.bxCt),(215,(⟨qjx_,qea_⟩:Ct))])
def qv3_:List (Nat×Hint):=[]
def qek_ (a:List Int×(Int×Int)×Int×Int×Int×YTT9×Int) (c:Int×Int×Int×Int×Int):Option (As [.bool]) :=
 if nei a.2.2.2.2.1 c.2.2.1=true then Option.bind (qea_ (a,2,c.2.2.1,())) fun y=>some (!y.1,()) else some (false,())
def qbi_ (x:As [.pr (.sl (.int .u16)) YTT0,.pr (.int .u16) YTT6]):Option (As [.bool]):=qek_ x.1 x.2.1
theorem q13k_ (J:Orc (As [.bool])) (x:As [.pr (.sl (.int .u16)) YTT0,.pr (.int .u16) YTT6]):rfn Tryz.prog qvs_ 6 18446744073709551616 (Ev.get qv3_) 223 qh2_ J x=qek_ x.1 x.2.1:=by kernel_rfl
theorem q14r_ (x:As [.pr (.sl (.int .u16)) YTT0,.pr (.int .u16) YTT6]):evT Tryz.prog qvs_ 6 18446744073709551616 (Ev.get qv3_) 223 qh2_ x=qbi_ x:=by
 rw [q5_,q13k_]
 rfl
theorem q13l_:CtOk Tryz.prog (fun _=>True) 223 ⟨qh2_,qbi_⟩:=q3_ (q0_ Ev.bx_ok (q0_ qxh_ q4_)) q14r_
@[reducible] def qcn_:Sh:=⟨[.d YTT8],[],[.pr (.int .i64) (.sl (.int .u16))],[.d (.bool)],[],0,[.bool]⟩
def q102_:Env:=(cts [(76,(⟨qec_,q8h_⟩:Ct))])
def qzl_:List (Nat×Hint):=[]
def qka_ (x:Int×List Int):Option (As [.bool]) :=
 Option.bind (q8h_ (x,())) fun y=>some (!y.1,())
def qe6_ (x:As [.pr (.int .i64) (.sl (.int .u16))]):Option (As [.bool]):=qka_ x.1
theorem q17v_ (J:Orc (As [.bool])) (x:As [.pr (.int .i64) (.sl (.int .u16))]):rfn Tryz.prog q102_ 6 18446744073709551616 (Ev.get qzl_) 236 qcn_ J x=qka_ x.1:=by kernel_rfl
theorem q1be_ (x:As [.pr (.int .i64) (.sl (.int .u16))]):evT Tryz.prog q102_ 6 18446744073709551616 (Ev.get qzl_) 236 qcn_ x=qe6_ x:=by
 rw [q5_,q17v_]
 rfl
theorem qsg_:CtOk Tryz.prog (fun _=>True) 236 ⟨qcn_,qe6_⟩:=q3_ (q0_ qrv_ q4_) q1be_
@[reducible] def q1t_:Sh:=⟨[.d (.sl YTT8),.fn (.func 236) [] []],[],[.sl YTT8],[.d (.int .i64)],[],0,[.int .i64]⟩
def q3g_:Env:=(cts [(236,(⟨qcn_,qe6_⟩:Ct))])
def q3j_:List (Nat×Hint):=[(26,⟨[],[0,1,7,8]⟩)]
def q2b_ (s:List (Int×List Int)) (t7 t8:Int):St:={ fr:=[(0,.d (.sl YTT8) s),(1,.fn (.func 236) [] []),(7,.d (.int .i64) t7),(8,.d (.int .i64) t8)],nt:=19,up:=[],own:=[],nx:=0,log:=[],ln:=0 }
def q2c_ (self1:List (Int×List Int)->Int->Int->Option (As [.int .i64])) (s:List (Int×List Int)) (t7 t8:Int):Option (As [.int .i64]) :=
 if lt t8 t7=true then Option.bind (at? s t8) fun y=>Option.bind (qe6_ (y,())) fun y=>if y.1=true then some (t8,()) else self1 s t7 (add .i64 t8 1) else some (-1,())
def qdm_ (j1:List (Int×List Int)->Int->Int->Option (As [.int .i64])) (s:List (Int×List Int)):Option (As [.int .i64]) :=
 j1 s (Int.ofNat (List.length s)) 0
def q38_ (s:List (Int×List Int)) (t7 t8:Int):Option (As [.int .i64]) :=
 loopF (fun (self:(List (Int×List Int))×(Int)×(Int)->Option (As [.int .i64])) (s:(List (Int×List Int))×(Int)×(Int))=>q2c_ (fun s t7 t8=>self (s,t7,t8)) s.1 s.2.1 s.2.2) 18446744073709551616 (s,t7,t8)
def q3z_ (x:As [.sl YTT8]):Option (As [.int .i64]):=qdm_ q38_ x.1
theorem qrn_ (J:Orc (As [.int .i64])) (w1:St->Option (As [.int .i64])) (s:List (Int×List Int)) (t7 t8:Int):pfn Tryz.prog q3g_ 6 18446744073709551616 (Ev.get q3j_) 237 q1t_ J 26 [w1] (q2b_ s t7 t8)=q2c_ (fun s t7 t8=>w1 (q2b_ s t7 t8)) s t7 t8:=by kernel_rfl
theorem qpx_ (J:Orc (As [.int .i64])) (x:As [.sl YTT8]):rfn Tryz.prog q3g_ 6 18446744073709551616 (Ev.get q3j_) 237 q1t_ J x=qdm_ (fun s t7 t8=>J 26 [] (q2b_ s t7 t8)) x.1:=by kernel_rfl
theorem qpn_ (s:List (Int×List Int)) (t7 t8:Int):jfn Tryz.prog q3g_ 6 18446744073709551616 (Ev.get q3j_) 237 q1t_ 26 [] (q2b_ s t7 t8)=q38_ s t7 t8:=by
 rw [q8_ (by decide)]
 rw [qr_ (by kernel_rfl)]
 refine qi_ (σ:=(List (Int×List Int))×(Int)×(Int)) (mk:=fun s=>q2b_ s.1 s.2.1 s.2.2) (fun w1 s=>?_) 18446744073709551616 (s,t7,t8)
 refine (qrn_ _ w1 s.1 s.2.1 s.2.2).trans ?_
 rfl
theorem qs4_ (x:As [.sl YTT8]):evT Tryz.prog q3g_ 6 18446744073709551616 (Ev.get q3j_) 237 q1t_ x=q3z_ x:=by
 have e1:(fun s t7 t8=>(jfn Tryz.prog q3g_ 6 18446744073709551616 (Ev.get q3j_) 237 q1t_) 26 [] (q2b_ s t7 t8))=q38_:=by funext s t7 t8; exact qpn_ s t7 t8
 rw [q5_,qpx_,e1]
 rfl
theorem qrz_:CtOk Tryz.prog (fun _=>True) 237 ⟨q1t_,q3z_⟩:=q3_ (q0_ qsg_ q4_) qs4_
@[reducible] def q46_:Sh:=⟨[.d (.sl YTT8),.fn (.func 236) [] []],[],[.sl YTT8],[.d (.bool)],[],0,[.bool]⟩
def qby_:Env:=(cts [(236,(⟨qcn_,qe6_⟩:Ct)),(237,(⟨q1t_,q3z_⟩:Ct))])
def qbm_:List (Nat×Hint):=[]
def q3s_ (s:List (Int×List Int)):Option (As [.bool]) :=
 Option.bind (q3z_ (s,())) fun y=>some (ge y.1 0,())
def q39_ (x:As [.sl YTT8]):Option (As [.bool]):=q3s_ x.1
theorem qm0_ (J:Orc (As [.bool])) (x:As [.sl YTT8]):rfn Tryz.prog qby_ 6 18446744073709551616 (Ev.get qbm_) 235 q46_ J x=q3s_ x.1:=by kernel_rfl
theorem qo7_ (x:As [.sl YTT8]):evT Tryz.prog qby_ 6 18446744073709551616 (Ev.get qbm_) 235 q46_ x=q39_ x:=by
 rw [q5_,qm0_]
 rfl
theorem qlk_:CtOk Tryz.prog (fun _=>True) 235 ⟨q46_,q39_⟩:=q3_ (q0_ qsg_ (q0_ qrz_ q4_)) qo7_
@[reducible] def quu_:Sh:=⟨[.d (.sl YTT8)],[],[.sl YTT8],[.d (.bool)],[],0,[.bool]⟩
def q172_:Env:=(cts [(235,(⟨q46_,q39_⟩:Ct)),(236,(⟨qcn_,qe6_⟩:Ct))])
def q15v_:List (Nat×Hint):=[]
def qt0_ (l:List (Int×List Int)):Option (As [.bool]) :=
 Option.bind (q39_ (l,())) fun y=>some (!y.1,())
def qvp_ (x:As [.sl YTT8]):Option (As [.bool]):=qt0_ x.1
theorem q1h8_ (J:Orc (As [.bool])) (x:As [.sl YTT8]):rfn Tryz.prog q172_ 6 18446744073709551616 (Ev.get q15v_) 233 quu_ J x=qt0_ x.1:=by kernel_rfl
theorem q1it_ (x:As [.sl YTT8]):evT Tryz.prog q172_ 6 18446744073709551616 (Ev.get q15v_) 233 quu_ x=qvp_ x:=by
 rw [q5_,q1h8_]
 rfl
theorem q1i6_:CtOk Tryz.prog (fun _=>True) 233 ⟨quu_,qvp_⟩:=q3_ (q0_ qlk_ (q0_ qsg_ q4_)) q1it_
@[reducible] def q7j_:Sh:=⟨[.d (.sl (.int .u16)),.d (.sl YTT8)],[],[.sl (.int .u16),.sl YTT8],[.d (.sl (.int .u16)),.d (.int .i64)],[],0,[.sl (.int .u16),.int .i64]⟩
def qb5_:Env:=(cts [(131,(⟨q3o_,q2r_⟩:Ct)),(233,(⟨quu_,qvp_⟩:Ct))])
def qba_:List (Nat×Hint):=[(31,⟨[],[0]⟩),(250,⟨[],[0,16,17,18]⟩)]
def qez_ (t16:List (Int×List Int)) (t17 t18:Int) (bank:List Int):St:={ fr:=[(0,.row 0),(16,.d (.sl YTT8) t16),(17,.d (.int .i64) t17),(18,.d (.int .i64) t18)],nt:=31,up:=[],own:=[(0,.row (.int .u16) 23 bank)],nx:=1,log:=[],ln:=0 }
def qqh_ (bank:List Int):St:={ fr:=[(0,.row 0)],nt:=31,up:=[],own:=[(0,.row (.int .u16) 23 bank)],nx:=1,log:=[],ln:=0 }
def qf1_ (j2:List Int->Option (As [.sl (.int .u16),.int .i64])) (self1:List (Int×List Int)->Int->Int->List Int->Option (As [.sl (.int .u16),.int .i64])) (t16:List (Int×List Int)) (t17 t18:Int) (bank:List Int):Option (As [.sl (.int .u16),.int .i64]) :=
 if lt t18 t17=true then Option.bind (at? t16 t18) fun y=>need (ge y.1 0) (need (le y.1 (Int.ofNat (List.length bank))) (need (le (Int.ofNat (List.length bank)) (Int.ofNat (List.length bank))) (need (le (y.1 + (Int.ofNat (List.length bank) - y.1)) (Int.ofNat (List.length bank))) (self1 t16 t17 (add .i64 t18 1) (List.take (Int.toNat y.1) bank++List.take (Int.toNat (Int.ofNat (List.length bank) - y.1)) y.2++List.drop (Int.toNat y.1 + List.length (List.take (Int.toNat (Int.ofNat (List.length bank) - y.1)) y.2)) bank))))) else j2 bank
def q127_ (bank:List Int):Option (As [.sl (.int .u16),.int .i64]) :=
 some (bank,0,())
def qqj_ (j1:List (Int×List Int)->Int->Int->List Int->Option (As [.sl (.int .u16),.int .i64])) (bank:List Int) (l:List (Int×List Int)):Option (As [.sl (.int .u16),.int .i64]) :=
 if nei (Int.ofNat (List.length bank)) 64=true then some ([],21,()) else Option.bind (qvp_ (l,())) fun y=>if (!y.1)=true then some ([],20,()) else Option.bind (q2r_ (bank,())) fun y=>j1 l (Int.ofNat (List.length l)) 0 y.1
def qvd_ (bank:List Int):Option (As [.sl (.int .u16),.int .i64]):=q127_ bank
def qfi_ (t16:List (Int×List Int)) (t17 t18:Int) (bank:List Int):Option (As [.sl (.int .u16),.int .i64]) :=
 loopF (fun (self:(List (Int×List Int))×(Int)×(Int)×(List Int)->Option (As [.sl (.int .u16),.int .i64])) (s:(List (Int×List Int))×(Int)×(Int)×(List Int))=>qf1_ (qvd_) (fun t16 t17 t18 bank=>self (t16,t17,t18,bank)) s.1 s.2.1 s.2.2.1 s.2.2.2) 18446744073709551616 (t16,t17,t18,bank)
def qta_ (x:As [.sl (.int .u16),.sl YTT8]):Option (As [.sl (.int .u16),.int .i64]):=qqj_ qfi_ x.1 x.2.1
theorem q1g7_ (J:Orc (As [.sl (.int .u16),.int .i64])) (bank:List Int):pfn Tryz.prog qb5_ 6 18446744073709551616 (Ev.get qba_) 231 q7j_ J 31 [] (qqh_ bank)=q127_ bank:=by kernel_rfl
theorem q1dn_ (J:Orc (As [.sl (.int .u16),.int .i64])) (w1:St->Option (As [.sl (.int .u16),.int .i64])) (t16:List (Int×List Int)) (t17 t18:Int) (bank:List Int):pfn Tryz.prog qb5_ 6 18446744073709551616 (Ev.get qba_) 231 q7j_ J 250 [w1] (qez_ t16 t17 t18 bank)=qf1_ (fun bank=>J 31 [] (qqh_ bank)) (fun t16 t17 t18 bank=>w1 (qez_ t16 t17 t18 bank)) t16 t17 t18 bank:=by kernel_rfl
theorem q1e8_ (J:Orc (As [.sl (.int .u16),.int .i64])) (x:As [.sl (.int .u16),.sl YTT8]):rfn Tryz.prog qb5_ 6 18446744073709551616 (Ev.get qba_) 231 q7j_ J x=qqj_ (fun t16 t17 t18 bank=>J 250 [] (qez_ t16 t17 t18 bank)) x.1 x.2.1:=by kernel_rfl
theorem q1e2_ (bank:List Int):jfn Tryz.prog qb5_ 6 18446744073709551616 (Ev.get qba_) 231 q7j_ 31 [] (qqh_ bank)=qvd_ bank:=by
 rw [q8_ (by decide)]
 rw [q1g7_]
 rfl
theorem q1ex_ (t16:List (Int×List Int)) (t17 t18:Int) (bank:List Int):jfn Tryz.prog qb5_ 6 18446744073709551616 (Ev.get qba_) 231 q7j_ 250 [] (qez_ t16 t17 t18 bank)=qfi_ t16 t17 t18 bank:=by
 rw [q8_ (by decide)]
 rw [qr_ (by kernel_rfl)]
 refine qi_ (σ:=(List (Int×List Int))×(Int)×(Int)×(List Int)) (mk:=fun s=>qez_ s.1 s.2.1 s.2.2.1 s.2.2.2) (fun w1 s=>?_) 18446744073709551616 (t16,t17,t18,bank)
 have e2:(fun bank=>(jfn Tryz.prog qb5_ 6 18446744073709551616 (Ev.get qba_) 231 q7j_) 31 [] (qqh_ bank))=qvd_:=funext fun bank=>q1e2_ bank
 refine (q1dn_ _ w1 s.1 s.2.1 s.2.2.1 s.2.2.2).trans ?_
 rw [e2]
theorem q1h9_ (x:As [.sl (.int .u16),.sl YTT8]):evT Tryz.prog qb5_ 6 18446744073709551616 (Ev.get qba_) 231 q7j_ x=qta_ x:=by
 have e1:(fun t16 t17 t18 bank=>(jfn Tryz.prog qb5_ 6 18446744073709551616 (Ev.get qba_) 231 q7j_) 250 [] (qez_ t16 t17 t18 bank))=qfi_:=by funext t16 t17 t18 bank; exact q1ex_ t16 t17 t18 bank
 rw [q5_,q1e8_,e1]
 rfl
theorem q1du_:CtOk Tryz.prog (fun _=>True) 231 ⟨q7j_,qta_⟩:=q3_ (q0_ qi8_ (q0_ q1i6_ q4_)) q1h9_
@[reducible] def qjq_:Sh:=⟨[.d (.pr (.sl (.int .u16)) YTT0),.d (.pr (.int .u16) YTT6)],[],[.pr (.sl (.int .u16)) YTT0,.pr (.int .u16) YTT6],[.d (.pr (.sl (.int .u16)) YTT0)],[],0,[.pr (.sl (.int .u16)) YTT0]⟩
def qz5_:Env:=(cts [(139,(⟨q5j_,q6b_⟩:Ct)),(180,(⟨q8l_,q4q_⟩:Ct)),(231,(⟨q7j_,qta_⟩:Ct))])
def qyf_:List (Nat×Hint):=[]
def qi4_ (a:List Int×(Int×Int)×Int×Int×Int×YTT9×Int) (c:Int×Int×Int×Int×Int):Option (As [.pr (.sl (.int .u16)) YTT0]) :=
 if eqi a.2.2.2.2.1 c.2.2.1=true then some (a,()) else Option.bind (q6b_ (a.2.2.2.2.2.1,())) fun y=>Option.bind (qta_ (a.1,y.1,())) fun y=>if nei y.2.1 0=true then some (a,()) else Option.bind (q4q_ ((y.1,a.2.1,a.2.2.1,a.2.2.2.1,c.2.2.1,a.2.2.2.2.2),())) fun y=>some (y.1,())
def qfq_ (x:As [.pr (.sl (.int .u16)) YTT0,.pr (.int .u16) YTT6]):Option (As [.pr (.sl (.int .u16)) YTT0]):=qi4_ x.1 x.2.1
theorem q16v_ (J:Orc (As [.pr (.sl (.int .u16)) YTT0])) (x:As [.pr (.sl (.int .u16)) YTT0,.pr (.int .u16) YTT6]):rfn Tryz.prog qz5_ 6 18446744073709551616 (Ev.get qyf_) 224 qjq_ J x=qi4_ x.1 x.2.1:=by kernel_rfl
theorem q17i_ (x:As [.pr (.sl (.int .u16)) YTT0,.pr (.int .u16) YTT6]):evT Tryz.prog qz5_ 6 18446744073709551616 (Ev.get qyf_) 224 qjq_ x=qfq_ x:=by
 rw [q5_,q16v_]
 rfl
theorem q15y_:CtOk Tryz.prog (fun _=>True) 224 ⟨qjq_,qfq_⟩:=q3_ (q0_ qqc_ (q0_ qey_ (q0_ q1du_ q4_))) q17i_
@[reducible] def qih_:Sh:=⟨[.d (.pr (.sl (.int .u16)) YTT0),.d (.pr (.int .u16) YTT6)],[],[.pr (.sl (.int .u16)) YTT0,.pr (.int .u16) YTT6],[.d (.bool)],[],0,[.bool]⟩
def qwi_:Env:=(cts [(2000035,Ev.bxCt)])
def qwk_:List (Nat×Hint):=[]
def qvq_ (a:List Int×(Int×Int)×Int×Int×Int×YTT9×Int) (c:Int×Int×Int×Int×Int):Option (As [.bool]) :=
 some (le c.2.2.1 a.2.2.2.2.1,())
def qcw_ (x:As [.pr (.sl (.int .u16)) YTT0,.pr (.int .u16) YTT6]):Option (As [.bool]):=qvq_ x.1 x.2.1
theorem q14u_ (J:Orc (As [.bool])) (x:As [.pr (.sl (.int .u16)) YTT0,.pr (.int .u16) YTT6]):rfn Tryz.prog qwi_ 6 18446744073709551616 (Ev.get qwk_) 225 qih_ J x=qvq_ x.1 x.2.1:=by kernel_rfl
theorem q16k_ (x:As [.pr (.sl (.int .u16)) YTT0,.pr (.int .u16) YTT6]):evT Tryz.prog qwi_ 6 18446744073709551616 (Ev.get qwk_) 225 qih_ x=qcw_ x:=by
 rw [q5_,q14u_]
 rfl
theorem q15g_:CtOk Tryz.prog (fun _=>True) 225 ⟨qih_,qcw_⟩:=q3_ (q0_ Ev.bx_ok q4_) q16k_
@[reducible] def qaj_:Sh:=⟨[.d (.pr (.sl (.int .u16)) YTT0),.d (.pr (.int .u16) YTT6)],[],[.pr (.sl (.int .u16)) YTT0,.pr (.int .u16) YTT6],[.d (.pr (.sl (.int .u16)) YTT0)],[],0,[.pr (.sl (.int .u16)) YTT0]⟩
def qh8_:Env:=(cts [(2000035,Ev.bxCt),(180,(⟨q8l_,q4q_⟩:Ct))])
def qh7_:List (Nat×Hint):=[(6,⟨[],[2,4,17]⟩)]
def qjy_ (a:List Int×(Int×Int)×Int×Int×Int×YTT9×Int) (t4:Int) (t17:Bool) (t4_2:List YTT2):St:={ fr:=[(2,.pe (.pr (.sl (.int .u16)) YTT0) a),(4,.prw 0 t4 32 0),(17,.d .bool t17)],nt:=21,up:=[],own:=[(0,.row (.pr (.sl (.int .u16)) YTT0) 35 t4_2)],nx:=1,log:=[],ln:=0 }
def qk7_ (a:List Int×(Int×Int)×Int×Int×Int×YTT9×Int) (t4:Int) (t17:Bool) (t4_2:List YTT2):Option (As [.pr (.sl (.int .u16)) YTT0]) :=
 if t17=true then Option.bind (at? t4_2 t4) fun x=>Option.bind (at? (List.set t4_2 (Int.toNat t4) a) t4) fun y=>Option.bind (at? (List.set t4_2 (Int.toNat t4) a) t4) fun y=>some (y,()) else Option.bind (q4q_ (a,())) fun y=>Option.bind (at? t4_2 t4) fun x=>Option.bind (at? (List.set t4_2 (Int.toNat t4) y.1) t4) fun y_1=>Option.bind (at? (List.set t4_2 (Int.toNat t4) y.1) t4) fun y=>some (y,())
def qjr_ (j1:List Int×(Int×Int)×Int×Int×Int×YTT9×Int->Int->Bool->List YTT2->Option (As [.pr (.sl (.int .u16)) YTT0])) (a:List Int×(Int×Int)×Int×Int×Int×YTT9×Int) (c:Int×Int×Int×Int×Int):Option (As [.pr (.sl (.int .u16)) YTT0]) :=
 if nei a.2.1.1 c.1=true then j1 a 0 true [zAg0] else j1 a 0 (nei a.2.2.2.1 c.2.2.1) [zAg0]
def qf3_ (a:List Int×(Int×Int)×Int×Int×Int×YTT9×Int) (t4:Int) (t17:Bool) (t4_2:List YTT2):Option (As [.pr (.sl (.int .u16)) YTT0]):=qk7_ a t4 t17 t4_2
def qhx_ (x:As [.pr (.sl (.int .u16)) YTT0,.pr (.int .u16) YTT6]):Option (As [.pr (.sl (.int .u16)) YTT0]):=qjr_ qf3_ x.1 x.2.1
theorem q17f_ (J:Orc (As [.pr (.sl (.int .u16)) YTT0])) (a:List Int×(Int×Int)×Int×Int×Int×YTT9×Int) (t4:Int) (t17:Bool) (t4_2:List YTT2):pfn Tryz.prog qh8_ 6 18446744073709551616 (Ev.get qh7_) 226 qaj_ J 6 [] (qjy_ a t4 t17 t4_2)=qk7_ a t4 t17 t4_2:=by kernel_rfl
theorem q19n_ (J:Orc (As [.pr (.sl (.int .u16)) YTT0])) (x:As [.pr (.sl (.int .u16)) YTT0,.pr (.int .u16) YTT6]):rfn Tryz.prog qh8_ 6 18446744073709551616 (Ev.get qh7_) 226 qaj_ J x=qjr_ (fun a t4 t17 t4_2=>J 6 [] (qjy_ a t4 t17 t4_2)) x.1 x.2.1:=by kernel_rfl
theorem q197_ (a:List Int×(Int×Int)×Int×Int×Int×YTT9×Int) (t4:Int) (t17:Bool) (t4_2:List YTT2):jfn Tryz.prog qh8_ 6 18446744073709551616 (Ev.get qh7_) 226 qaj_ 6 [] (qjy_ a t4 t17 t4_2)=qf3_ a t4 t17 t4_2:=by
 rw [q8_ (by decide)]
 rw [q17f_]
 rfl
theorem q1cu_ (x:As [.pr (.sl (.int .u16)) YTT0,.pr (.int .u16) YTT6]):evT Tryz.prog qh8_ 6 18446744073709551616 (Ev.get qh7_) 226 qaj_ x=qhx_ x:=by
 have e1:(fun a t4 t17 t4_2=>(jfn Tryz.prog qh8_ 6 18446744073709551616 (Ev.get qh7_) 226 qaj_) 6 [] (qjy_ a t4 t17 t4_2))=qf3_:=by funext a t4 t17 t4_2; exact q197_ a t4 t17 t4_2
 rw [q5_,q19n_,e1]
 rfl
theorem q183_:CtOk Tryz.prog (fun _=>True) 226 ⟨qaj_,qhx_⟩:=q3_ (q0_ Ev.bx_ok (q0_ qey_ q4_)) q1cu_
@[reducible] def qr2_:Sh:=⟨[.d (.pr (.sl (.int .u16)) YTT0),.d (.pr (.int .u16) YTT6)],[],[.pr (.sl (.int .u16)) YTT0,.pr (.int .u16) YTT6],[.d (.pr (.sl (.int .u16)) YTT0),.d (.int .i64)],[],0,[.pr (.sl (.int .u16)) YTT0,.int .i64]⟩
def q16g_:Env:=(cts [(178,(⟨q4n_,q9p_⟩:Ct)),(214,(⟨qfe_,q37_⟩:Ct)),(219,(⟨qi3_,qct_⟩:Ct)),(220,(⟨qmi_,qi1_⟩:Ct)),(221,(⟨qen_,qaa_⟩:Ct)),(222,(⟨qid_,qck_⟩:Ct)),(223,(⟨qh2_,qbi_⟩:Ct)),(224,(⟨qjq_,qfq_⟩:Ct)),(225,(⟨qih_,qcw_⟩:Ct)),(226,(⟨qaj_,qhx_⟩:Ct))])
def q163_:List (Nat×Hint):=[]
def qss_ (a:List Int×(Int×Int)×Int×Int×Int×YTT9×Int) (c:Int×Int×Int×Int×Int):Option (As [.pr (.sl (.int .u16)) YTT0,.int .i64]) :=
 Option.bind (q9p_ (a,())) fun y=>amb (eqAs qr2_.rs) [if eqi 1 c.2.1=true then if eqi c.1 0=true then some (y.1,2,()) else if eqi c.2.2.1 0=true then some (y.1,2,()) else Option.bind (q37_ (y.1,c.1,())) fun y_1=>if y_1.1=true then some (y.1,22,()) else Option.bind (qct_ (y.1,c,())) fun y_2=>if y_2.1=true then some (y.1,23,()) else Option.bind (qi1_ (y.1,c,())) fun y=>some (y.1,0,()) else if eqi 2 c.2.1=true then if eqi c.1 0=true then some (y.1,2,()) else if eqi c.2.2.1 0=true then some (y.1,2,()) else Option.bind (q37_ (y.1,c.1,())) fun y_1=>if y_1.1=true then some (y.1,22,()) else Option.bind (qaa_ (y.1,c,())) fun y_2=>if y_2.1=true then some (y.1,23,()) else Option.bind (qck_ (y.1,c,())) fun y=>some (y.1,0,()) else if eqi 3 c.2.1=true then if eqi c.1 0=true then some (y.1,2,()) else if eqi c.2.2.1 0=true then some (y.1,2,()) else Option.bind (q37_ (y.1,c.1,())) fun y_1=>if y_1.1=true then some (y.1,22,()) else Option.bind (qbi_ (y.1,c,())) fun y_2=>if y_2.1=true then some (y.1,23,()) else Option.bind (qfq_ (y.1,c,())) fun y=>some (y.1,0,()) else if eqi 4 c.2.1=true then if eqi c.1 0=true then some (y.1,2,()) else if eqi c.2.2.1 0=true then some (y.1,2,()) else Option.bind (q37_ (y.1,c.1,())) fun y_1=>if y_1.1=true then some (y.1,22,()) else Option.bind (qcw_ (y.1,c,())) fun y_2=>if y_2.1=true then some (y.1,23,()) else Option.bind (qhx_ (y.1,c,())) fun y=>some (y.1,0,()) else if eqi c.1 0=true then some (y.1,2,()) else if eqi c.2.2.1 0=true then some (y.1,2,()) else some (y.1,2,()),if eqi 1 c.2.1=true then if eqi c.1 0=true then some (y.1,2,()) else if eqi c.2.2.1 0=true then some (y.1,2,()) else Option.bind (q37_ (y.1,c.1,())) fun y_1=>if y_1.1=true then some (y.1,22,()) else Option.bind (qct_ (y.1,c,())) fun y_2=>if y_2.1=true then some (y.1,23,()) else Option.bind (qi1_ (y.1,c,())) fun y=>some (y.1,0,()) else if eqi 2 c.2.1=true then if eqi c.1 0=true then some (y.1,2,()) else if eqi c.2.2.1 0=true then some (y.1,2,()) else Option.bind (q37_ (y.1,c.1,())) fun y_1=>if y_1.1=true then some (y.1,22,()) else Option.bind (qaa_ (y.1,c,())) fun y_2=>if y_2.1=true then some (y.1,23,()) else Option.bind (qck_ (y.1,c,())) fun y=>some (y.1,0,()) else if eqi 3 c.2.1=true then if eqi c.1 0=true then some (y.1,2,()) else if eqi c.2.2.1 0=true then some (y.1,2,()) else Option.bind (q37_ (y.1,c.1,())) fun y_1=>if y_1.1=true then some (y.1,22,()) else Option.bind (qbi_ (y.1,c,())) fun y_2=>if y_2.1=true then some (y.1,23,()) else Option.bind (qfq_ (y.1,c,())) fun y=>some (y.1,0,()) else if eqi 4 c.2.1=true then if eqi c.1 0=true then some (y.1,2,()) else if eqi c.2.2.1 0=true then some (y.1,2,()) else Option.bind (q37_ (y.1,c.1,())) fun y_1=>if y_1.1=true then some (y.1,22,()) else Option.bind (qcw_ (y.1,c,())) fun y_2=>if y_2.1=true then some (y.1,23,()) else Option.bind (qhx_ (y.1,c,())) fun y=>some (y.1,0,()) else if eqi c.1 0=true then some (y.1,2,()) else if eqi c.2.2.1 0=true then some (y.1,2,()) else some (y.1,2,())]
def qe7_ (x:As [.pr (.sl (.int .u16)) YTT0,.pr (.int .u16) YTT6]):Option (As [.pr (.sl (.int .u16)) YTT0,.int .i64]):=qss_ x.1 x.2.1
theorem q1gz_ (J:Orc (As [.pr (.sl (.int .u16)) YTT0,.int .i64])) (x:As [.pr (.sl (.int .u16)) YTT0,.pr (.int .u16) YTT6]):rfn Tryz.prog q16g_ 6 18446744073709551616 (Ev.get q163_) 204 qr2_ J x=qss_ x.1 x.2.1:=by kernel_rfl
theorem q1ix_ (x:As [.pr (.sl (.int .u16)) YTT0,.pr (.int .u16) YTT6]):evT Tryz.prog q16g_ 6 18446744073709551616 (Ev.get q163_) 204 qr2_ x=qe7_ x:=by
 rw [q5_,q1gz_]
 rfl
theorem q1h5_:CtOk Tryz.prog (fun _=>True) 204 ⟨qr2_,qe7_⟩:=q3_ (q0_ qpl_ (q0_ qwv_ (q0_ q14w_ (q0_ q186_ (q0_ q12e_ (q0_ q15q_ (q0_ q13l_ (q0_ q15y_ (q0_ q15g_ (q0_ q183_ q4_)))))))))) q1ix_
end Go.Proofs.Lx
end
