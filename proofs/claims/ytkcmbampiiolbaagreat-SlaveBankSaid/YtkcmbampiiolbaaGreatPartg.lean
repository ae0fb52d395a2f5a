/- Proved in the last of these 13 parts (this is part 7): SlaveBank returns true, whatever the link, the bank, the ticks and what comes. Conditions: those of the given statement, and no others. -/
import Derived.Test.YtkcmbampiiolbaaGreatParte
import Derived.Test.YtkcmbampiiolbaaGreatPartf
import Derived.Test.YtkcmbampiiolbaaGreatProg
set_option linter.unusedVariables false
set_option linter.unusedSimpArgs false
set_option linter.unusedSectionVars false
section
open Go Go.Proofs Ev Sx
set_option maxRecDepth 100000
namespace Go.Proofs.Lx
abbrev YaA3q0:Type:=Int×Int×Int×Int×List Int×List Bool
@[reducible] def qr_:Sh:=⟨[.d (.pr YTT1 (.sl (.int .u16))),.d (.bool)],[],[.pr YTT1 (.sl (.int .u16)),.bool],[.d (.bool)],[],0,[.bool]⟩
def qz_:Env:=(cts [])
def qx_:List (Nat×Hint):=[(122,⟨[],[1,2,5,13,14,15,24,25,26,27,28,29,32,33,34,37,38,39,40,41,42,43,44,45,49,50]⟩),(31334,⟨[.agd 50 .bool],[1,2,7,13,14,15,51]⟩),(15666,⟨[.agd 25 (.int .i64),.agd 27 (.sl (.int .u16)),.agd 28 (.int .i64),.agd 29 .bool,.agd 33 (.int .i64),.agd 34 .bool,.agd 38 (.int .i64),.agd 40 (.sl (.int .u16)),.agd 41 (.int .i64),.agd 43 (.int .i64),.agd 44 (.int .i64),.agd 45 .bool],[1,2,7,13,14,15,46]⟩)]
def qq_ (fixed:Bool) (endV:Int) (t13:List YTT5) (t14 t15:Int) (t:List YTT5×List Int):St:={ fr:=[(1,.d .bool fixed),(2,.pb 0 0),(5,.d (.int .i64) endV),(13,.d YTT1 t13),(14,.d (.int .i64) t14),(15,.d (.int .i64) t15)],nt:=58,up:=[],own:=[(0,.box 172 [.d YTT1 t.1,.d (.sl (.int .u16)) t.2])],nx:=1,log:=[],ln:=0 }
def q56_ (fixed:Bool) (t13:List YTT5) (t14 t15:Int) (t46:Bool) (t:List YTT5×List Int) (x:Int×Int×Bool×Bool×Bool):St:={ fr:=[(1,.d .bool fixed),(2,.pb 0 0),(7,.pb 1 0),(13,.d YTT1 t13),(14,.d (.int .i64) t14),(15,.d (.int .i64) t15),(46,.d .bool t46)],nt:=58,up:=[],own:=[(0,.box 172 [.d YTT1 t.1,.d (.sl (.int .u16)) t.2]),(1,.box 168 [.d (.int .i64) x.1,.d (.int .i64) x.2.1,.d .bool x.2.2.1,.d .bool x.2.2.2.1,.d .bool x.2.2.2.2])],nx:=2,log:=[],ln:=0 }
def q58_ (fixed:Bool) (t13:List YTT5) (t14 t15:Int) (t51:Bool) (t:List YTT5×List Int) (x:Int×Int×Bool×Bool×Bool):St:={ fr:=[(1,.d .bool fixed),(2,.pb 0 0),(7,.pb 1 0),(13,.d YTT1 t13),(14,.d (.int .i64) t14),(15,.d (.int .i64) t15),(51,.d .bool t51)],nt:=58,up:=[],own:=[(0,.box 172 [.d YTT1 t.1,.d (.sl (.int .u16)) t.2]),(1,.box 168 [.d (.int .i64) x.1,.d (.int .i64) x.2.1,.d .bool x.2.2.1,.d .bool x.2.2.2.1,.d .bool x.2.2.2.2])],nx:=2,log:=[],ln:=0 }
def q2p_ (j2:Bool->List YTT5->Int->Int->Bool->List YTT5×List Int->Int×Int×Bool×Bool×Bool->Option (As [.bool])) (self1:Bool->Int->List YTT5->Int->Int->List YTT5×List Int->Option (As [.bool])) (fixed:Bool) (endV:Int) (t13:List YTT5) (t14 t15:Int) (t:List YTT5×List Int):Option (As [.bool]) :=
 if lt t15 t14=true then Option.bind (at? t13 t15) fun y=>if lt y.1 endV=true then j2 fixed t13 t14 t15 true t y else if gt y.1 (Int.ofNat (List.length t.2))=true then j2 fixed t13 t14 t15 true t y else if lt y.2.1 1=true then j2 fixed t13 t14 t15 true t y else j2 fixed t13 t14 t15 (gt y.2.1 (Sx.sub .i64 (Int.ofNat (List.length t.2)) y.1)) t y else some (true,())
def q8m_ (j3:Bool->List YTT5->Int->Int->Bool->List YTT5×List Int->Int×Int×Bool×Bool×Bool->Option (As [.bool])) (self1:Bool->Int->List YTT5->Int->Int->List YTT5×List Int->Option (As [.bool])) (fixed:Bool) (t13:List YTT5) (t14 t15:Int) (t46:Bool) (t:List YTT5×List Int) (x:Int×Int×Bool×Bool×Bool):Option (As [.bool]) :=
 if t46=true then some (false,()) else if fixed=true then j3 fixed t13 t14 t15 x.2.2.2.1 t x else j3 fixed t13 t14 t15 false t x
def q8p_ (self1:Bool->Int->List YTT5->Int->Int->List YTT5×List Int->Option (As [.bool])) (fixed:Bool) (t13:List YTT5) (t14 t15:Int) (t51:Bool) (t:List YTT5×List Int) (x:Int×Int×Bool×Bool×Bool):Option (As [.bool]) :=
 if t51=true then some (false,()) else self1 fixed (add .i64 x.1 x.2.1) t13 t14 (add .i64 t15 1) t
def q59_ (j1:Bool->Int->List YTT5->Int->Int->List YTT5×List Int->Option (As [.bool])) (t:List YTT5×List Int) (fixed:Bool):Option (As [.bool]) :=
 if gt (Int.ofNat (List.length t.2)) 65536=true then some (false,()) else j1 fixed 0 t.1 (Int.ofNat (List.length t.1)) 0 t
def q3o_ (u1:Bool->Int->List YTT5->Int->Int->List YTT5×List Int->Option (As [.bool])) (fixed:Bool) (t13:List YTT5) (t14 t15:Int) (t51:Bool) (t:List YTT5×List Int) (x:Int×Int×Bool×Bool×Bool):Option (As [.bool]):=q8p_ u1 fixed t13 t14 t15 t51 t x
def q3p_ (u1:Bool->Int->List YTT5->Int->Int->List YTT5×List Int->Option (As [.bool])) (fixed:Bool) (t13:List YTT5) (t14 t15:Int) (t46:Bool) (t:List YTT5×List Int) (x:Int×Int×Bool×Bool×Bool):Option (As [.bool]):=q8m_ (q3o_ u1) u1 fixed t13 t14 t15 t46 t x
def q2r_ (fixed:Bool) (endV:Int) (t13:List YTT5) (t14 t15:Int) (t:List YTT5×List Int):Option (As [.bool]) :=
 loopF (fun (self:(Bool)×(Int)×(List YTT5)×(Int)×(Int)×(List YTT5×List Int)->Option (As [.bool])) (s:(Bool)×(Int)×(List YTT5)×(Int)×(Int)×(List YTT5×List Int))=>q2p_ (q3p_ (fun fixed endV t13 t14 t15 t=>self (fixed,endV,t13,t14,t15,t))) (fun fixed endV t13 t14 t15 t=>self (fixed,endV,t13,t14,t15,t)) s.1 s.2.1 s.2.2.1 s.2.2.2.1 s.2.2.2.2.1 s.2.2.2.2.2) 18446744073709551616 (fixed,endV,t13,t14,t15,t)
def q4s_ (x:As [.pr YTT1 (.sl (.int .u16)),.bool]):Option (As [.bool]):=q59_ q2r_ x.1 x.2.1
theorem qq9_  (J w1 fixed t13 t14 t15 t51 t x):pfn Tryz.prog qz_ 6 18446744073709551616 (Ev.get qx_) 119 qr_ J 31334 [w1] (q58_ fixed t13 t14 t15 t51 t x)=q8p_ (fun fixed endV t13 t14 t15 t=>w1 (qq_ fixed endV t13 t14 t15 t)) fixed t13 t14 t15 t51 t x:=by kernel_rfl
theorem qpt_  (J w1 fixed t13 t14 t15 t46 t x):pfn Tryz.prog qz_ 6 18446744073709551616 (Ev.get qx_) 119 qr_ J 15666 [w1] (q56_ fixed t13 t14 t15 t46 t x)=q8m_ (fun fixed t13 t14 t15 t51 t x=>J 31334 [w1] (q58_ fixed t13 t14 t15 t51 t x)) (fun fixed endV t13 t14 t15 t=>w1 (qq_ fixed endV t13 t14 t15 t)) fixed t13 t14 t15 t46 t x:=by kernel_rfl
theorem qpq_  (J w1 fixed endV t13 t14 t15 t):pfn Tryz.prog qz_ 6 18446744073709551616 (Ev.get qx_) 119 qr_ J 122 [w1] (qq_ fixed endV t13 t14 t15 t)=q2p_ (fun fixed t13 t14 t15 t46 t x=>J 15666 [w1] (q56_ fixed t13 t14 t15 t46 t x)) (fun fixed endV t13 t14 t15 t=>w1 (qq_ fixed endV t13 t14 t15 t)) fixed endV t13 t14 t15 t:=by kernel_rfl
theorem qpy_ (J:Orc (As [.bool])) (x:As [.pr YTT1 (.sl (.int .u16)),.bool]):rfn Tryz.prog qz_ 6 18446744073709551616 (Ev.get qx_) 119 qr_ J x=q59_ (fun fixed endV t13 t14 t15 t=>J 122 [] (qq_ fixed endV t13 t14 t15 t)) x.1 x.2.1:=by kernel_rfl
theorem qpx_  (w1 fixed t13 t14 t15 t51 t x):jfn Tryz.prog qz_ 6 18446744073709551616 (Ev.get qx_) 119 qr_ 31334 [w1] (q58_ fixed t13 t14 t15 t51 t x)=q3o_ (fun fixed endV t13 t14 t15 t=>w1 (qq_ fixed endV t13 t14 t15 t)) fixed t13 t14 t15 t51 t x:=by
 rw [q6_ (by decide)]
 rw [qq9_]
 rfl
theorem qqd_  (w1 fixed t13 t14 t15 t46 t x):jfn Tryz.prog qz_ 6 18446744073709551616 (Ev.get qx_) 119 qr_ 15666 [w1] (q56_ fixed t13 t14 t15 t46 t x)=q3p_ (fun fixed endV t13 t14 t15 t=>w1 (qq_ fixed endV t13 t14 t15 t)) fixed t13 t14 t15 t46 t x:=by
 rw [q6_ (by decide)]
 have e3:(fun fixed t13 t14 t15 t51 t x=>(jfn Tryz.prog qz_ 6 18446744073709551616 (Ev.get qx_) 119 qr_) 31334 [w1] (q58_ fixed t13 t14 t15 t51 t x))=q3o_ (fun fixed endV t13 t14 t15 t=>w1 (qq_ fixed endV t13 t14 t15 t)):=by funext fixed t13 t14 t15 t51 t x; exact qpx_ w1 fixed t13 t14 t15 t51 t x
 rw [qpt_,e3]
 rfl
theorem qpr_  (fixed endV t13 t14 t15 t):jfn Tryz.prog qz_ 6 18446744073709551616 (Ev.get qx_) 119 qr_ 122 [] (qq_ fixed endV t13 t14 t15 t)=q2r_ fixed endV t13 t14 t15 t:=by
 rw [q6_ (by decide)]
 rw [qn_ (by kernel_rfl)]
 refine qh_ (σ:=(Bool)×(Int)×(List YTT5)×(Int)×(Int)×(List YTT5×List Int)) (mk:=fun s=>qq_ s.1 s.2.1 s.2.2.1 s.2.2.2.1 s.2.2.2.2.1 s.2.2.2.2.2) (fun w1 s=>?_) 18446744073709551616 (fixed,endV,t13,t14,t15,t)
 have e2:(fun fixed t13 t14 t15 t46 t x=>(jfn Tryz.prog qz_ 6 18446744073709551616 (Ev.get qx_) 119 qr_) 15666 [w1] (q56_ fixed t13 t14 t15 t46 t x))=q3p_ (fun fixed endV t13 t14 t15 t=>w1 (qq_ fixed endV t13 t14 t15 t)):=by funext fixed t13 t14 t15 t46 t x; exact qqd_ w1 fixed t13 t14 t15 t46 t x
 refine (qpq_ _ w1 s.1 s.2.1 s.2.2.1 s.2.2.2.1 s.2.2.2.2.1 s.2.2.2.2.2).trans ?_
 rw [e2]
theorem qqo_ (x:As [.pr YTT1 (.sl (.int .u16)),.bool]):evT Tryz.prog qz_ 6 18446744073709551616 (Ev.get qx_) 119 qr_ x=q4s_ x:=by
 have e1:(fun fixed endV t13 t14 t15 t=>(jfn Tryz.prog qz_ 6 18446744073709551616 (Ev.get qx_) 119 qr_) 122 [] (qq_ fixed endV t13 t14 t15 t))=q2r_:=by funext fixed endV t13 t14 t15 t; exact qpr_ fixed endV t13 t14 t15 t
 rw [qi_,qpy_,e1]
 rfl
theorem qpn_:CtOk Tryz.prog (fun _=>True) 119 ⟨qr_,q4s_⟩:=qc_ q3_ qqo_
@[reducible] def quz_:Sh:=⟨[.d (.pr YTT1 (.pr YTT1 (.pr YTT1 YTT1))),.d (.pr (.sl .bool) YTT10)],[],[.pr YTT1 (.pr YTT1 (.pr YTT1 YTT1)),.pr (.sl .bool) YTT10],[.d (.bool)],[],0,[.bool]⟩
def qox_ (s:List YTT5×List YTT5×List YTT5×List YTT5) (m:List Bool×List Bool×List Int×List Int):Option (As [.bool]) :=
 Option.bind (qja_ (s,m,())) fun y=>Option.bind (q5f_ (y.1.1,false,())) fun y_1=>if y_1.1=true then Option.bind (q5f_ (y.1.2.1,true,())) fun y_2=>if y_2.1=true then Option.bind (q4s_ (y.1.2.2.1,false,())) fun y_3=>if y_3.1=true then Option.bind (q4s_ (y.1.2.2.2,true,())) fun y=>some (y.1,()) else some (false,()) else some (false,()) else some (false,())
def qp5_ (x:As [.pr YTT1 (.pr YTT1 (.pr YTT1 YTT1)),.pr (.sl .bool) YTT10]):Option (As [.bool]):=qox_ x.1 x.2.1
theorem q134_:CtOk Tryz.prog (fun _=>True) 50 ⟨quz_,qp5_⟩:=ctn (q0_ qv3_ (q0_ qr8_ (q0_ qpn_ q3_))) 6 fun J x=>by kernel_rfl
@[reducible] def qf7_:Sh:=⟨[.d (.sl .bool)],[],[.sl .bool],[.d (.sl .bool)],[],0,[.sl .bool]⟩
def qe0_ (s:List Bool):Option (As [.sl .bool]) :=
 if eqi (Int.ofNat (List.length s)) 0=true then amb (eqAs qf7_.rs) [some ([],()),need (small (0 + List.length s)) (some (s,()))] else need (small (0 + List.length s)) (some (s,()))
def q63_ (x:As [.sl .bool]):Option (As [.sl .bool]):=qe0_ x.1
theorem qtw_:CtOk Tryz.prog (fun _=>True) 130 ⟨qf7_,q63_⟩:=ctn q3_ 6 fun J x=>by kernel_rfl
@[reducible] def q8c_:Sh:=⟨[.d (.sl (.bool))],[],[.sl (.bool)],[.row 0],[(0,.row (.bool) 4)],1,[.sl (.bool)]⟩
def qbn_ (s:List Bool):Option (As [.sl .bool]) :=
 if eqi (Int.ofNat (List.length s)) 0=true then amb (eqAs q8c_.rs) [some ([],()),need (small (0 + List.length s)) (some (s,()))] else need (small (0 + List.length s)) (some (s,()))
def q3u_ (x:As [.sl .bool]):Option (As [.sl .bool]):=qbn_ x.1
theorem qji_:CtOk Tryz.prog (fun _=>True) 130 ⟨q8c_,q3u_⟩:=ctn q3_ 6 fun J x=>by kernel_rfl
def q18l_ (m:List Bool×List Bool×List Int×List Int):Option (As [.pr (.sl .bool) YTT10]) :=
 Option.bind (q63_ (m.1,())) fun y=>Option.bind (q63_ (m.2.1,())) fun y_1=>Option.bind (qf_ (m.2.2.1,())) fun y_2=>Option.bind (qf_ (m.2.2.2,())) fun y_3=>some ((y.1,y_1.1,y_2.1,y_3.1),())
def q1au_ (x:As [.pr (.sl .bool) YTT10]):Option (As [.pr (.sl .bool) YTT10]):=q18l_ x.1
@[reducible] def qsk_:Sh:=⟨[.d (.pr YTT1 (.sl .bool)),.d (.int .i64),.d (.int .i64),.d (.int .i64)],[],[.pr YTT1 (.sl .bool),.int .i64,.int .i64,.int .i64],[.d (.sl .bool)],[],0,[.sl .bool]⟩
def qat_ (t:List YTT5×List Bool) (at' many step:Int):Option (As [.sl .bool]) :=
 need (nei step 0) (need (ge (mul .i64 (quo .i64 (Sx.sub .i64 (add .i64 many step) 1) step) step) 0) (need (Ev.capOk (mul .i64 (quo .i64 (Sx.sub .i64 (add .i64 many step) 1) step) step) (mul .i64 (quo .i64 (Sx.sub .i64 (add .i64 many step) 1) step) step)) (need (small (Int.toNat (mul .i64 (quo .i64 (Sx.sub .i64 (add .i64 many step) 1) step) step))) (Option.bind (cut t.2 at' (add .i64 at' many)) fun y=>need (le (Int.ofNat (0 + List.length (List.replicate (Int.toNat (mul .i64 (quo .i64 (Sx.sub .i64 (add .i64 many step) 1) step) step)) false))) (Int.ofNat (List.length (List.replicate (Int.toNat (mul .i64 (quo .i64 (Sx.sub .i64 (add .i64 many step) 1) step) step)) false)))) (some (List.take (Int.toNat (Int.ofNat (List.length (List.replicate (Int.toNat (mul .i64 (quo .i64 (Sx.sub .i64 (add .i64 many step) 1) step) step)) false)))) y++List.drop (0 + List.length (List.take (Int.toNat (Int.ofNat (List.length (List.replicate (Int.toNat (mul .i64 (quo .i64 (Sx.sub .i64 (add .i64 many step) 1) step) step)) false)))) y)) (List.replicate (Int.toNat (mul .i64 (quo .i64 (Sx.sub .i64 (add .i64 many step) 1) step) step)) false),()))))))
def q8y_ (x:As [.pr YTT1 (.sl .bool),.int .i64,.int .i64,.int .i64]):Option (As [.sl .bool]):=qat_ x.1 x.2.1 x.2.2.1 x.2.2.2.1
theorem qrv_:CtOk Tryz.prog (fun _=>True) 199 ⟨qsk_,q8y_⟩:=ctn q3_ 6 fun J x=>by kernel_rfl
@[reducible] def qrc_:Sh:=⟨[.d (.pr YTT1 (.sl (.int .u16))),.d (.int .i64),.d (.int .i64),.d (.int .i64)],[],[.pr YTT1 (.sl (.int .u16)),.int .i64,.int .i64,.int .i64],[.d (.sl (.int .u16))],[],0,[.sl (.int .u16)]⟩
def q98_ (t:List YTT5×List Int) (at' many step:Int):Option (As [.sl (.int .u16)]) :=
 need (nei step 0) (need (ge (mul .i64 (quo .i64 (Sx.sub .i64 (add .i64 many step) 1) step) step) 0) (need (Ev.capOk (mul .i64 (quo .i64 (Sx.sub .i64 (add .i64 many step) 1) step) step) (mul .i64 (quo .i64 (Sx.sub .i64 (add .i64 many step) 1) step) step)) (need (small (Int.toNat (mul .i64 (quo .i64 (Sx.sub .i64 (add .i64 many step) 1) step) step))) (Option.bind (cut t.2 at' (add .i64 at' many)) fun y=>need (le (Int.ofNat (0 + List.length (List.replicate (α:=Int) (Int.toNat (mul .i64 (quo .i64 (Sx.sub .i64 (add .i64 many step) 1) step) step)) 0))) (Int.ofNat (List.length (List.replicate (α:=Int) (Int.toNat (mul .i64 (quo .i64 (Sx.sub .i64 (add .i64 many step) 1) step) step)) 0)))) (some (List.take (Int.toNat (Int.ofNat (List.length (List.replicate (α:=Int) (Int.toNat (mul .i64 (quo .i64 (Sx.sub .i64 (add .i64 many step) 1) step) step)) 0)))) y++List.drop (0 + List.length (List.take (Int.toNat (Int.ofNat (List.length (List.replicate (α:=Int) (Int.toNat (mul .i64 (quo .i64 (Sx.sub .i64 (add .i64 many step) 1) step) step)) 0)))) y)) (List.replicate (Int.toNat (mul .i64 (quo .i64 (Sx.sub .i64 (add .i64 many step) 1) step) step)) 0),()))))))
def q7u_ (x:As [.pr YTT1 (.sl (.int .u16)),.int .i64,.int .i64,.int .i64]):Option (As [.sl (.int .u16)]):=q98_ x.1 x.2.1 x.2.2.1 x.2.2.2.1
theorem qqq_:CtOk Tryz.prog (fun _=>True) 200 ⟨qrc_,q7u_⟩:=ctn q3_ 6 fun J x=>by kernel_rfl
@[reducible] def qlx_:Sh:=⟨[.d (.pr (.pr YTT1 (.sl .bool)) (.pr (.pr YTT1 (.sl .bool)) (.pr (.pr YTT1 (.sl (.int .u16))) (.pr YTT1 (.sl (.int .u16)))))),.d (.int .i64),.d (.pr (.int .u8) YTT4)],[],[.pr (.pr YTT1 (.sl .bool)) (.pr (.pr YTT1 (.sl .bool)) (.pr (.pr YTT1 (.sl (.int .u16))) (.pr YTT1 (.sl (.int .u16))))),.int .i64,.pr (.int .u8) YTT4],[.d (.pr (.int .u8) YTT3)],[],0,[.pr (.int .u8) YTT3]⟩
def qd0_ (v:(List YTT5×List Bool)×(List YTT5×List Bool)×(List YTT5×List Int)×List YTT5×List Int) (p:Int) (a:YaA3q0):Option (As [.pr (.int .u8) YTT3]) :=
 if eqi p 1=true then Option.bind (q8y_ (v.1,cvt .i64 a.2.1,cvt .i64 a.2.2.1,8,())) fun y=>some ((a.1,0,y.1,[],0,0),()) else if eqi p 2=true then Option.bind (q8y_ (v.2.1,cvt .i64 a.2.1,cvt .i64 a.2.2.1,8,())) fun y=>some ((a.1,0,y.1,[],0,0),()) else if eqi p 3=true then Option.bind (q7u_ (v.2.2.1,cvt .i64 a.2.1,cvt .i64 a.2.2.1,1,())) fun y=>some ((a.1,0,[],y.1,0,0),()) else if eqi p 4=true then Option.bind (q7u_ (v.2.2.2,cvt .i64 a.2.1,cvt .i64 a.2.2.1,1,())) fun y=>some ((a.1,0,[],y.1,0,0),()) else some ((a.1,0,[],[],0,0),())
def q7x_ (x:As [.pr (.pr YTT1 (.sl .bool)) (.pr (.pr YTT1 (.sl .bool)) (.pr (.pr YTT1 (.sl (.int .u16))) (.pr YTT1 (.sl (.int .u16))))),.int .i64,.pr (.int .u8) YTT4]):Option (As [.pr (.int .u8) YTT3]):=qd0_ x.1 x.2.1 x.2.2.1
theorem qtf_:CtOk Tryz.prog (fun _=>True) 173 ⟨qlx_,q7x_⟩:=ctn (q0_ qrv_ (q0_ qqq_ q3_)) 6 fun J x=>by kernel_rfl
@[reducible] def qfx_:Sh:=⟨[.d (.pr YTT1 (.pr YTT1 (.pr YTT1 YTT1))),.d (.pr (.sl .bool) YTT10),.d (.pr (.int .u8) YTT4)],[],[.pr YTT1 (.pr YTT1 (.pr YTT1 YTT1)),.pr (.sl .bool) YTT10,.pr (.int .u8) YTT4],[.d (.pr (.sl .bool) YTT10),.d (.pr (.int .u8) YTT3)],[],0,[.pr (.sl .bool) YTT10,.pr (.int .u8) YTT3]⟩
def qn9_:Env:=(cts [(50,(⟨quz_,qp5_⟩:Ct)),(54,(⟨q3y_,q9u_⟩:Ct)),(68,(⟨q43_,q9g_⟩:Ct)),(120,(⟨qqj_,ql_⟩:Ct)),(124,(⟨qs2_,qil_⟩:Ct)),(126,(⟨qov_,qap_⟩:Ct)),(130,(⟨q8c_,q3u_⟩:Ct)),(131,(⟨q75_,q37_⟩:Ct)),(173,(⟨qlx_,q7x_⟩:Ct))])
def qnf_:List (Nat×Hint):=[(255,⟨[],[5,6,7,8,10,11]⟩)]
def qp6_ (a:YaA3q0) (t7 t7_2 t7_3 t7_4:Int) (o o_2:List Bool) (o_3 o_4:List Int) (v v_2 v_3 v_4:List YTT5) (u:Int×Int):St:={ fr:=[(5,.pb 0 0),(6,.pb 1 0),(7,.pb 2 0),(8,.pb 3 0),(10,.pb 8 0),(11,.pb 9 0)],nt:=79,up:=[],own:=[(0,.box 44 [.d (.int .u8) a.1,.d (.int .u16) a.2.1,.d (.int .u16) a.2.2.1,.d (.int .u16) a.2.2.2.1,.d (.sl (.int .u16)) a.2.2.2.2.1,.d (.sl .bool) a.2.2.2.2.2]),(1,.box 96 [.k (Go.Value.slice Option.none 0 0),.k (Go.Value.slice Option.none 0 0),.k (Go.Value.slice Option.none 0 0),.k (Go.Value.slice Option.none 0 0)]),(2,.box 46 [.d (.int .u8) t7,.d (.int .u8) t7_2,.k (Go.Value.slice Option.none 0 0),.k (Go.Value.slice Option.none 0 0),.d (.int .u16) t7_3,.d (.int .u16) t7_4]),(3,.box 96 [.row 4,.row 5,.row 6,.row 7]),(4,.row .bool 4 o),(5,.row .bool 4 o_2),(6,.row (.int .u16) 23 o_3),(7,.row (.int .u16) 23 o_4),(8,.box 174 [.d YTT1 v,.row 4,.d YTT1 v_2,.row 5,.d YTT1 v_3,.row 6,.d YTT1 v_4,.row 7]),(9,.box 183 [.d (.int .i64) u.1,.d (.int .i64) u.2])],nx:=10,log:=[],ln:=0 }
def qy9_ (a:YaA3q0) (t7 t7_2 t7_3 t7_4:Int) (o o_2:List Bool) (o_3 o_4:List Int) (v v_2 v_3 v_4:List YTT5) (u:Int×Int):Option (As [.pr (.sl .bool) YTT10,.pr (.int .u8) YTT3]) :=
 Option.bind (q9g_ (a,())) fun y=>if y.2.1=true then some ((o,o_2,o_3,o_4),y.1,()) else Option.bind (q7x_ (((v,o),(v_2,o_2),(v_3,o_3),v_4,o_4),u.1,a,())) fun y=>some ((o,o_2,o_3,o_4),y.1,())
def qpc_ (j1:YaA3q0->Int->Int->Int->Int->List Bool->List Bool->List Int->List Int->List YTT5->List YTT5->List YTT5->List YTT5->Int×Int->Option (As [.pr (.sl .bool) YTT10,.pr (.int .u8) YTT3])) (s:List YTT5×List YTT5×List YTT5×List YTT5) (m:List Bool×List Bool×List Int×List Int) (a:YaA3q0):Option (As [.pr (.sl .bool) YTT10,.pr (.int .u8) YTT3]) :=
 Option.bind (q3u_ (m.1,())) fun y=>Option.bind (q3u_ (m.2.1,())) fun y_1=>Option.bind (q37_ (m.2.2.1,())) fun y_2=>Option.bind (q37_ (m.2.2.2,())) fun y_3=>Option.bind (q9u_ (s,a,())) fun y_4=>if nei y_4.1 0=true then Option.bind (ql_ (a.1,y_4.1,())) fun y_5=>some ((y.1,y_1.1,y_2.1,y_3.1),y_5.1,()) else Option.bind (qp5_ (s,m,())) fun y_5=>if (!y_5.1)=true then Option.bind (ql_ (a.1,4,())) fun y_6=>some ((y.1,y_1.1,y_2.1,y_3.1),y_6.1,()) else Option.bind (qil_ (a.1,())) fun y_6=>Option.bind (qap_ (a,())) fun y_7=>if eqi y_6.1.2 1=true then need (ge y_7.1 0) (need (le y_7.1 (Int.ofNat (List.length y.1))) (need (le (Int.ofNat (List.length y.1)) (Int.ofNat (List.length y.1))) (need (le (y_7.1 + (Int.ofNat (List.length y.1) - y_7.1)) (Int.ofNat (List.length y.1))) (j1 a 0 0 0 0 (List.take (Int.toNat y_7.1) y.1++List.take (Int.toNat (Int.ofNat (List.length y.1) - y_7.1)) a.2.2.2.2.2++List.drop (Int.toNat y_7.1 + List.length (List.take (Int.toNat (Int.ofNat (List.length y.1) - y_7.1)) a.2.2.2.2.2)) y.1) y_1.1 y_2.1 y_3.1 s.1 s.2.1 s.2.2.1 s.2.2.2 y_6.1)))) else if eqi y_6.1.2 3=true then need (ge y_7.1 0) (need (le y_7.1 (Int.ofNat (List.length y_2.1))) (need (le (Int.ofNat (List.length y_2.1)) (Int.ofNat (List.length y_2.1))) (need (le (y_7.1 + (Int.ofNat (List.length y_2.1) - y_7.1)) (Int.ofNat (List.length y_2.1))) (j1 a 0 0 0 0 y.1 y_1.1 (List.take (Int.toNat y_7.1) y_2.1++List.take (Int.toNat (Int.ofNat (List.length y_2.1) - y_7.1)) a.2.2.2.2.1++List.drop (Int.toNat y_7.1 + List.length (List.take (Int.toNat (Int.ofNat (List.length y_2.1) - y_7.1)) a.2.2.2.2.1)) y_2.1) y_3.1 s.1 s.2.1 s.2.2.1 s.2.2.2 y_6.1)))) else j1 a 0 0 0 0 y.1 y_1.1 y_2.1 y_3.1 s.1 s.2.1 s.2.2.1 s.2.2.2 y_6.1
def qgu_ (a:YaA3q0) (t7 t7_2 t7_3 t7_4:Int) (o o_2:List Bool) (o_3 o_4:List Int) (v v_2 v_3 v_4:List YTT5) (u:Int×Int):Option (As [.pr (.sl .bool) YTT10,.pr (.int .u8) YTT3]):=qy9_ a t7 t7_2 t7_3 t7_4 o o_2 o_3 o_4 v v_2 v_3 v_4 u
def q27_ (x:As [.pr YTT1 (.pr YTT1 (.pr YTT1 YTT1)),.pr (.sl .bool) YTT10,.pr (.int .u8) YTT4]):Option (As [.pr (.sl .bool) YTT10,.pr (.int .u8) YTT3]):=qpc_ qgu_ x.1 x.2.1 x.2.2.1
theorem q197_  (J a t7 t7_2 t7_3 t7_4 o o_2 o_3 o_4 v v_2 v_3 v_4 u):pfn Tryz.prog qn9_ 6 18446744073709551616 (Ev.get qnf_) 122 qfx_ J 255 [] (qp6_ a t7 t7_2 t7_3 t7_4 o o_2 o_3 o_4 v v_2 v_3 v_4 u)=qy9_ a t7 t7_2 t7_3 t7_4 o o_2 o_3 o_4 v v_2 v_3 v_4 u:=by kernel_rfl
theorem q18z_ (J:Orc (As [.pr (.sl .bool) YTT10,.pr (.int .u8) YTT3])) (x:As [.pr YTT1 (.pr YTT1 (.pr YTT1 YTT1)),.pr (.sl .bool) YTT10,.pr (.int .u8) YTT4]):rfn Tryz.prog qn9_ 6 18446744073709551616 (Ev.get qnf_) 122 qfx_ J x=qpc_ (fun a t7 t7_2 t7_3 t7_4 o o_2 o_3 o_4 v v_2 v_3 v_4 u=>J 255 [] (qp6_ a t7 t7_2 t7_3 t7_4 o o_2 o_3 o_4 v v_2 v_3 v_4 u)) x.1 x.2.1 x.2.2.1:=by kernel_rfl
theorem q1a4_  (a t7 t7_2 t7_3 t7_4 o o_2 o_3 o_4 v v_2 v_3 v_4 u):jfn Tryz.prog qn9_ 6 18446744073709551616 (Ev.get qnf_) 122 qfx_ 255 [] (qp6_ a t7 t7_2 t7_3 t7_4 o o_2 o_3 o_4 v v_2 v_3 v_4 u)=qgu_ a t7 t7_2 t7_3 t7_4 o o_2 o_3 o_4 v v_2 v_3 v_4 u:=by
 rw [q6_ (by decide)]
 rw [q197_]
 rfl
theorem q1al_ (x:As [.pr YTT1 (.pr YTT1 (.pr YTT1 YTT1)),.pr (.sl .bool) YTT10,.pr (.int .u8) YTT4]):evT Tryz.prog qn9_ 6 18446744073709551616 (Ev.get qnf_) 122 qfx_ x=q27_ x:=by
 have e1:(fun a t7 t7_2 t7_3 t7_4 o o_2 o_3 o_4 v v_2 v_3 v_4 u=>(jfn Tryz.prog qn9_ 6 18446744073709551616 (Ev.get qnf_) 122 qfx_) 255 [] (qp6_ a t7 t7_2 t7_3 t7_4 o o_2 o_3 o_4 v v_2 v_3 v_4 u))=qgu_:=by funext a t7 t7_2 t7_3 t7_4 o o_2 o_3 o_4 v v_2 v_3 v_4 u; exact q1a4_ a t7 t7_2 t7_3 t7_4 o o_2 o_3 o_4 v v_2 v_3 v_4 u
 rw [qi_,q18z_,e1]
 rfl
theorem q19y_:CtOk Tryz.prog (fun _=>True) 122 ⟨qfx_,q27_⟩:=qc_ (q0_ q134_ (q0_ qtv_ (q0_ quw_ (q0_ qj6_ (q0_ qv5_ (q0_ qss_ (q0_ qji_ (q0_ qh5_ (q0_ qtf_ q3_))))))))) q1al_
@[reducible] def qg_:Sh:=⟨[.d (.pr (.int .u8) (.pr (.int .u8) (.pr (.pr (.sl (.int .u16)) YTT0) (.sl .bool)))),.d (.pr (.int .u8) YTT4)],[],[.pr (.int .u8) (.pr (.int .u8) (.pr (.pr (.sl (.int .u16)) YTT0) (.sl .bool))),.pr (.int .u8) YTT4],[.d (.pr (.int .u8) YTT3)],[],0,[.pr (.int .u8) YTT3]⟩
def q6k_:Env:=(cts [(2000038,Ev.bxCt),(47,(⟨q2_,q4r_⟩:Ct)),(49,(⟨q44_,q4u_⟩:Ct)),(68,(⟨q43_,q9g_⟩:Ct)),(122,(⟨qfx_,q27_⟩:Ct))])
def q6d_:List (Nat×Hint):=[(15,⟨[],[2,3,4,7]⟩),(31,⟨[],[3,4,9]⟩)]
def qh7_ (s:Int×Int×YTT2×List Bool) (a:YaA3q0) (t4 t4_2 t4_3 t4_4 read read_2 read_3 read_4:Int):St:={ fr:=[(2,.pe (.pr (.int .u8) (.pr (.int .u8) (.pr (.pr (.sl (.int .u16)) YTT0) (.sl .bool)))) s),(3,.pb 0 0),(4,.pb 1 0),(7,.pb 2 0)],nt:=40,up:=[],own:=[(0,.box 44 [.d (.int .u8) a.1,.d (.int .u16) a.2.1,.d (.int .u16) a.2.2.1,.d (.int .u16) a.2.2.2.1,.d (.sl (.int .u16)) a.2.2.2.2.1,.d (.sl .bool) a.2.2.2.2.2]),(1,.box 46 [.d (.int .u8) t4,.d (.int .u8) t4_2,.k (Go.Value.slice Option.none 0 0),.k (Go.Value.slice Option.none 0 0),.d (.int .u16) t4_3,.d (.int .u16) t4_4]),(2,.box 44 [.d (.int .u8) read,.d (.int .u16) read_2,.d (.int .u16) read_3,.d (.int .u16) read_4,.k (Go.Value.slice Option.none 0 0),.k (Go.Value.slice Option.none 0 0)])],nx:=3,log:=[],ln:=0 }
def qhc_ (a:YaA3q0) (t4 t4_2 t4_3 t4_4:Int) (r:Int×Int×List Bool×List Int×Int×Int):St:={ fr:=[(3,.pb 0 0),(4,.pb 1 0),(9,.pb 2 0)],nt:=40,up:=[],own:=[(0,.box 44 [.d (.int .u8) a.1,.d (.int .u16) a.2.1,.d (.int .u16) a.2.2.1,.d (.int .u16) a.2.2.2.1,.d (.sl (.int .u16)) a.2.2.2.2.1,.d (.sl .bool) a.2.2.2.2.2]),(1,.box 46 [.d (.int .u8) t4,.d (.int .u8) t4_2,.k (Go.Value.slice Option.none 0 0),.k (Go.Value.slice Option.none 0 0),.d (.int .u16) t4_3,.d (.int .u16) t4_4]),(2,.box 46 [.d (.int .u8) r.1,.d (.int .u8) r.2.1,.d (.sl .bool) r.2.2.1,.d (.sl (.int .u16)) r.2.2.2.1,.d (.int .u16) r.2.2.2.2.1,.d (.int .u16) r.2.2.2.2.2])],nx:=3,log:=[],ln:=0 }
def qh9_ (j2:YaA3q0->Int->Int->Int->Int->Int×Int×List Bool×List Int×Int×Int->Option (As [.pr (.int .u8) YTT3])) (s:Int×Int×YTT2×List Bool) (a:YaA3q0) (t4 t4_2 t4_3 t4_4 read read_2 read_3 read_4:Int):Option (As [.pr (.int .u8) YTT3]) :=
 amb (eqAs qg_.rs) [Option.bind (q4u_ ()) fun y=>amb (eqAs qg_.rs) [Option.bind (q4r_ (s,())) fun y_1=>amb (eqAs qg_.rs) [Option.bind (q27_ (y.1,y_1.1,(read,read_2,read_3,read_4,[],[]),())) fun y=>amb (eqAs qg_.rs) [j2 a t4 t4_2 t4_3 t4_4 y.2.1,j2 a t4 t4_2 t4_3 t4_4 y.2.1],amb (eqAs qg_.rs) [amb (eqAs qg_.rs) [Option.bind (q27_ (y.1,y_1.1,(read,read_2,read_3,read_4,[],[]),())) fun y=>j2 a t4 t4_2 t4_3 t4_4 y.2.1,Option.bind (q27_ (y.1,y_1.1,(read,read_2,read_3,read_4,[],[]),())) fun y=>j2 a t4 t4_2 t4_3 t4_4 y.2.1],amb (eqAs qg_.rs) [Option.bind (q27_ (y.1,y_1.1,(read,read_2,read_3,read_4,[],[]),())) fun y=>j2 a t4 t4_2 t4_3 t4_4 y.2.1,Option.bind (q27_ (y.1,y_1.1,(read,read_2,read_3,read_4,[],[]),())) fun y=>j2 a t4 t4_2 t4_3 t4_4 y.2.1]]],amb (eqAs qg_.rs) [amb (eqAs qg_.rs) [Option.bind (q4r_ (s,())) fun y_1=>amb (eqAs qg_.rs) [Option.bind (q27_ (y.1,y_1.1,(read,read_2,read_3,read_4,[],[]),())) fun y=>j2 a t4 t4_2 t4_3 t4_4 y.2.1,Option.bind (q27_ (y.1,y_1.1,(read,read_2,read_3,read_4,[],[]),())) fun y=>j2 a t4 t4_2 t4_3 t4_4 y.2.1],Option.bind (q4r_ (s,())) fun y_1=>Option.bind (q27_ (y.1,y_1.1,(read,read_2,read_3,read_4,[],[]),())) fun y=>j2 a t4 t4_2 t4_3 t4_4 y.2.1],amb (eqAs qg_.rs) [Option.bind (q4r_ (s,())) fun y_1=>amb (eqAs qg_.rs) [Option.bind (q27_ (y.1,y_1.1,(read,read_2,read_3,read_4,[],[]),())) fun y=>j2 a t4 t4_2 t4_3 t4_4 y.2.1,Option.bind (q27_ (y.1,y_1.1,(read,read_2,read_3,read_4,[],[]),())) fun y=>j2 a t4 t4_2 t4_3 t4_4 y.2.1],Option.bind (q4r_ (s,())) fun y_1=>Option.bind (q27_ (y.1,y_1.1,(read,read_2,read_3,read_4,[],[]),())) fun y=>j2 a t4 t4_2 t4_3 t4_4 y.2.1]]],amb (eqAs qg_.rs) [amb (eqAs qg_.rs) [Option.bind (q4u_ ()) fun y=>amb (eqAs qg_.rs) [Option.bind (q4r_ (s,())) fun y_1=>amb (eqAs qg_.rs) [Option.bind (q27_ (y.1,y_1.1,(read,read_2,read_3,read_4,[],[]),())) fun y=>j2 a t4 t4_2 t4_3 t4_4 y.2.1,Option.bind (q27_ (y.1,y_1.1,(read,read_2,read_3,read_4,[],[]),())) fun y=>j2 a t4 t4_2 t4_3 t4_4 y.2.1],Option.bind (q4r_ (s,())) fun y_1=>Option.bind (q27_ (y.1,y_1.1,(read,read_2,read_3,read_4,[],[]),())) fun y=>j2 a t4 t4_2 t4_3 t4_4 y.2.1],Option.bind (q4u_ ()) fun y=>Option.bind (q4r_ (s,())) fun y_1=>Option.bind (q27_ (y.1,y_1.1,(read,read_2,read_3,read_4,[],[]),())) fun y=>j2 a t4 t4_2 t4_3 t4_4 y.2.1],amb (eqAs qg_.rs) [Option.bind (q4u_ ()) fun y=>amb (eqAs qg_.rs) [Option.bind (q4r_ (s,())) fun y_1=>amb (eqAs qg_.rs) [Option.bind (q27_ (y.1,y_1.1,(read,read_2,read_3,read_4,[],[]),())) fun y=>j2 a t4 t4_2 t4_3 t4_4 y.2.1,Option.bind (q27_ (y.1,y_1.1,(read,read_2,read_3,read_4,[],[]),())) fun y=>j2 a t4 t4_2 t4_3 t4_4 y.2.1],Option.bind (q4r_ (s,())) fun y_1=>Option.bind (q27_ (y.1,y_1.1,(read,read_2,read_3,read_4,[],[]),())) fun y=>j2 a t4 t4_2 t4_3 t4_4 y.2.1],Option.bind (q4u_ ()) fun y=>Option.bind (q4r_ (s,())) fun y_1=>Option.bind (q27_ (y.1,y_1.1,(read,read_2,read_3,read_4,[],[]),())) fun y=>j2 a t4 t4_2 t4_3 t4_4 y.2.1]]]
def qsy_ (a:YaA3q0) (t4 t4_2 t4_3 t4_4:Int) (r:Int×Int×List Bool×List Int×Int×Int):Option (As [.pr (.int .u8) YTT3]) :=
 some ((a.1,r.2),())
def qh4_ (j1:Int×Int×YTT2×List Bool->YaA3q0->Int->Int->Int->Int->Int->Int->Int->Int->Option (As [.pr (.int .u8) YTT3])) (s:Int×Int×YTT2×List Bool) (a:YaA3q0):Option (As [.pr (.int .u8) YTT3]) :=
 Option.bind (q9g_ (a,())) fun y=>if y.2.1=true then some (y.1,()) else if eqi a.1 23=true then j1 s a 0 0 0 0 3 a.2.1 a.2.2.1 0 else j1 s a 0 0 0 0 a.1 a.2.1 a.2.2.1 0
def qhg_ (a:YaA3q0) (t4 t4_2 t4_3 t4_4:Int) (r:Int×Int×List Bool×List Int×Int×Int):Option (As [.pr (.int .u8) YTT3]):=qsy_ a t4 t4_2 t4_3 t4_4 r
def qc3_ (s:Int×Int×YTT2×List Bool) (a:YaA3q0) (t4 t4_2 t4_3 t4_4 read read_2 read_3 read_4:Int):Option (As [.pr (.int .u8) YTT3]):=qh9_ (qhg_) s a t4 t4_2 t4_3 t4_4 read read_2 read_3 read_4
def qy_ (x:As [.pr (.int .u8) (.pr (.int .u8) (.pr (.pr (.sl (.int .u16)) YTT0) (.sl .bool))),.pr (.int .u8) YTT4]):Option (As [.pr (.int .u8) YTT3]):=qh4_ qc3_ x.1 x.2.1
theorem q110_  (J a t4 t4_2 t4_3 t4_4 r):pfn Tryz.prog q6k_ 6 18446744073709551616 (Ev.get q6d_) 129 qg_ J 31 [] (qhc_ a t4 t4_2 t4_3 t4_4 r)=qsy_ a t4 t4_2 t4_3 t4_4 r:=by kernel_rfl
theorem q109_  (J s a t4 t4_2 t4_3 t4_4 read read_2 read_3 read_4):pfn Tryz.prog q6k_ 6 18446744073709551616 (Ev.get q6d_) 129 qg_ J 15 [] (qh7_ s a t4 t4_2 t4_3 t4_4 read read_2 read_3 read_4)=qh9_ (fun a t4 t4_2 t4_3 t4_4 r=>J 31 [] (qhc_ a t4 t4_2 t4_3 t4_4 r)) s a t4 t4_2 t4_3 t4_4 read read_2 read_3 read_4:=by kernel_rfl
theorem q10z_ (J:Orc (As [.pr (.int .u8) YTT3])) (x:As [.pr (.int .u8) (.pr (.int .u8) (.pr (.pr (.sl (.int .u16)) YTT0) (.sl .bool))),.pr (.int .u8) YTT4]):rfn Tryz.prog q6k_ 6 18446744073709551616 (Ev.get q6d_) 129 qg_ J x=qh4_ (fun s a t4 t4_2 t4_3 t4_4 read read_2 read_3 read_4=>J 15 [] (qh7_ s a t4 t4_2 t4_3 t4_4 read read_2 read_3 read_4)) x.1 x.2.1:=by kernel_rfl
theorem q10q_  (a t4 t4_2 t4_3 t4_4 r):jfn Tryz.prog q6k_ 6 18446744073709551616 (Ev.get q6d_) 129 qg_ 31 [] (qhc_ a t4 t4_2 t4_3 t4_4 r)=qhg_ a t4 t4_2 t4_3 t4_4 r:=by
 rw [q6_ (by decide)]
 rw [q110_]
 rfl
theorem q10l_  (s a t4 t4_2 t4_3 t4_4 read read_2 read_3 read_4):jfn Tryz.prog q6k_ 6 18446744073709551616 (Ev.get q6d_) 129 qg_ 15 [] (qh7_ s a t4 t4_2 t4_3 t4_4 read read_2 read_3 read_4)=qc3_ s a t4 t4_2 t4_3 t4_4 read read_2 read_3 read_4:=by
 rw [q6_ (by decide)]
 have e2:(fun a t4 t4_2 t4_3 t4_4 r=>(jfn Tryz.prog q6k_ 6 18446744073709551616 (Ev.get q6d_) 129 qg_) 31 [] (qhc_ a t4 t4_2 t4_3 t4_4 r))=qhg_:=by funext a t4 t4_2 t4_3 t4_4 r; exact q10q_ a t4 t4_2 t4_3 t4_4 r
 rw [q109_,e2]
 rfl
theorem q123_ (x:As [.pr (.int .u8) (.pr (.int .u8) (.pr (.pr (.sl (.int .u16)) YTT0) (.sl .bool))),.pr (.int .u8) YTT4]):evT Tryz.prog q6k_ 6 18446744073709551616 (Ev.get q6d_) 129 qg_ x=qy_ x:=by
 have e1:(fun s a t4 t4_2 t4_3 t4_4 read read_2 read_3 read_4=>(jfn Tryz.prog q6k_ 6 18446744073709551616 (Ev.get q6d_) 129 qg_) 15 [] (qh7_ s a t4 t4_2 t4_3 t4_4 read read_2 read_3 read_4))=qc3_:=by funext s a t4 t4_2 t4_3 t4_4 read read_2 read_3 read_4; exact q10l_ s a t4 t4_2 t4_3 t4_4 read read_2 read_3 read_4
 rw [qi_,q10z_,e1]
 rfl
theorem qzz_:CtOk Tryz.prog (fun _=>True) 129 ⟨qg_,qy_⟩:=qc_ (q0_ Ev.bx_ok (q0_ q18m_ (q0_ qtu_ (q0_ quw_ (q0_ q19y_ q3_))))) q123_
@[reducible] def qas_:Sh:=⟨[.d (.sl (.int .u16))],[],[.sl (.int .u16)],[.d (.pr (.int .u16) YTT6),.d (.int .i64)],[],0,[.pr (.int .u16) YTT6,.int .i64]⟩
def qib_:Env:=(cts [(81,(⟨qrp_,qfq_⟩:Ct))])
def qhm_:List (Nat×Hint):=[(6,⟨[],[0,2,18]⟩)]
def qky_ (w:List Int) (t18:Bool) (t2:Int×Int×Int×Int×Int):St:={ fr:=[(0,.d (.sl (.int .u16)) w),(2,.pb 0 0),(18,.d .bool t18)],nt:=45,up:=[],own:=[(0,.box 61 [.d (.int .u16) t2.1,.d (.int .u8) t2.2.1,.d (.int .u32) t2.2.2.1,.d (.int .u16) t2.2.2.2.1,.d (.int .u32) t2.2.2.2.2])],nx:=1,log:=[],ln:=0 }
def ql8_ (w:List Int) (t18:Bool) (t2:Int×Int×Int×Int×Int):Option (As [.pr (.int .u16) YTT6,.int .i64]) :=
 if t18=true then some ((0,0,0,0,0),2,()) else Option.bind (at? w 0) fun y=>Option.bind (at? w 1) fun y_1=>Option.bind (at? w 2) fun y_2=>Option.bind (at? w 3) fun y_3=>Option.bind (at? w 4) fun y_4=>Option.bind (at? w 5) fun y_5=>Option.bind (at? w 6) fun y_6=>Option.bind (qfq_ (y_2,y_3,())) fun y_7=>Option.bind (qfq_ (y_5,y_6,())) fun y_8=>some ((y,cvt .u8 y_1,y_7.1,y_4,y_8.1),0,())
def qlf_ (j1:List Int->Bool->Int×Int×Int×Int×Int->Option (As [.pr (.int .u16) YTT6,.int .i64])) (w:List Int):Option (As [.pr (.int .u16) YTT6,.int .i64]) :=
 if nei (Int.ofNat (List.length w)) 8=true then j1 w true (0,0,0,0,0) else Option.bind (at? w 7) fun y=>if nei y 0=true then j1 w true (0,0,0,0,0) else Option.bind (at? w 1) fun y=>j1 w (ge y 256) (0,0,0,0,0)
def qgp_ (w:List Int) (t18:Bool) (t2:Int×Int×Int×Int×Int):Option (As [.pr (.int .u16) YTT6,.int .i64]):=ql8_ w t18 t2
def qf5_ (x:As [.sl (.int .u16)]):Option (As [.pr (.int .u16) YTT6,.int .i64]):=qlf_ qgp_ x.1
theorem q141_  (J w t18 t2):pfn Tryz.prog qib_ 6 18446744073709551616 (Ev.get qhm_) 203 qas_ J 6 [] (qky_ w t18 t2)=ql8_ w t18 t2:=by kernel_rfl
theorem q14e_ (J:Orc (As [.pr (.int .u16) YTT6,.int .i64])) (x:As [.sl (.int .u16)]):rfn Tryz.prog qib_ 6 18446744073709551616 (Ev.get qhm_) 203 qas_ J x=qlf_ (fun w t18 t2=>J 6 [] (qky_ w t18 t2)) x.1:=by kernel_rfl
theorem q14d_  (w t18 t2):jfn Tryz.prog qib_ 6 18446744073709551616 (Ev.get qhm_) 203 qas_ 6 [] (qky_ w t18 t2)=qgp_ w t18 t2:=by
 rw [q6_ (by decide)]
 rw [q141_]
 rfl
theorem q18r_ (x:As [.sl (.int .u16)]):evT Tryz.prog qib_ 6 18446744073709551616 (Ev.get qhm_) 203 qas_ x=qf5_ x:=by
 have e1:(fun w t18 t2=>(jfn Tryz.prog qib_ 6 18446744073709551616 (Ev.get qhm_) 203 qas_) 6 [] (qky_ w t18 t2))=qgp_:=by funext w t18 t2; exact q14d_ w t18 t2
 rw [qi_,q14e_,e1]
 rfl
theorem q150_:CtOk Tryz.prog (fun _=>True) 203 ⟨qas_,qf5_⟩:=qc_ (q0_ qv9_ q3_) q18r_
@[reducible] def q6v_:Sh:=⟨[.d (.pr (.sl (.int .u16)) YTT0)],[],[.pr (.sl (.int .u16)) YTT0],[.d (.pr (.sl (.int .u16)) YTT0)],[],0,[.pr (.sl (.int .u16)) YTT0]⟩
def qa5_:Env:=(cts [(131,(⟨q5k_,qf_⟩:Ct))])
def qa4_:List (Nat×Hint):=[(58,⟨[],[1,2,12,13]⟩),(7475,⟨[.frb 5],[1,2,3,5,12,13]⟩)]
def q7a_ (a t2:Int) (t12:List Bool) (t13:Int) (a_2 t2_2:List YTT2):St:={ fr:=[(1,.prw 0 a 32 0),(2,.prw 1 t2 32 0),(12,.d (.ar 8 .bool) t12),(13,.d (.int .i64) t13)],nt:=41,up:=[],own:=[(0,.row (.pr (.sl (.int .u16)) YTT0) 35 a_2),(1,.row (.pr (.sl (.int .u16)) YTT0) 35 t2_2)],nx:=2,log:=[],ln:=0 }
def qoc_ (a t2 i:Int) (t12:List Bool) (t13:Int) (a_2 t2_2:List YTT2) (x:Int×List Int):St:={ fr:=[(1,.prw 0 a 32 0),(2,.prw 1 t2 32 0),(3,.d (.int .i64) i),(5,.pb 2 0),(12,.d (.ar 8 .bool) t12),(13,.d (.int .i64) t13)],nt:=41,up:=[],own:=[(0,.row (.pr (.sl (.int .u16)) YTT0) 35 a_2),(1,.row (.pr (.sl (.int .u16)) YTT0) 35 t2_2),(2,.box 30 [.d (.int .i64) x.1,.d (.sl (.int .u16)) x.2])],nx:=3,log:=[],ln:=0 }
def qec_ (j2:Int->Int->Int->List Bool->Int->List YTT2->List YTT2->Int×List Int->Option (As [.pr (.sl (.int .u16)) YTT0])) (self1:Int->Int->List Bool->Int->List YTT2->List YTT2->Option (As [.pr (.sl (.int .u16)) YTT0])) (a t2:Int) (t12:List Bool) (t13:Int) (a_2 t2_2:List YTT2):Option (As [.pr (.sl (.int .u16)) YTT0]) :=
 if lt t13 8=true then need (lt t13 8) (Option.bind (at? t12 t13) fun y=>if y=true then need (ge t13 0) (need (lt t13 8) (Option.bind (at? a_2 a) fun y=>Option.bind (at? y.2.2.2.2.2.1.2.2 t13) fun z=>need (ge t13 0) (need (lt t13 8) (Option.bind (at? a_2 a) fun y=>Option.bind (at? y.2.2.2.2.2.1.2.2 t13) fun z_1=>Option.bind (qf_ (z_1.2,())) fun y=>j2 a t2 t13 t12 t13 a_2 t2_2 (z.1,y.1))))) else j2 a t2 t13 t12 t13 a_2 t2_2 (0,[])) else Option.bind (at? a_2 a) fun y=>Option.bind (at? t2_2 t2) fun x=>Option.bind (at? (List.set t2_2 (Int.toNat t2) y) t2) fun y_1=>Option.bind (at? (List.set t2_2 (Int.toNat t2) y) t2) fun y=>some (y,())
def qob_ (self1:Int->Int->List Bool->Int->List YTT2->List YTT2->Option (As [.pr (.sl (.int .u16)) YTT0])) (a t2 i:Int) (t12:List Bool) (t13:Int) (a_2 t2_2:List YTT2) (x:Int×List Int):Option (As [.pr (.sl (.int .u16)) YTT0]) :=
 need (ge i 0) (need (lt i 8) (Option.bind (at? a_2 a) fun x_1=>Option.bind (at? x_1.2.2.2.2.2.1.2.2 i) fun z=>self1 a t2 t12 (add .i64 t13 1) (List.set a_2 (Int.toNat a) (x_1.1,x_1.2.1,x_1.2.2.1,x_1.2.2.2.1,x_1.2.2.2.2.1,(x_1.2.2.2.2.2.1.1,x_1.2.2.2.2.2.1.2.1,List.set x_1.2.2.2.2.2.1.2.2 (Int.toNat i) x),x_1.2.2.2.2.2.2)) t2_2))
def qnm_ (j1:Int->Int->List Bool->Int->List YTT2->List YTT2->Option (As [.pr (.sl (.int .u16)) YTT0])) (a:List Int×(Int×Int)×Int×Int×Int×YTT9×Int):Option (As [.pr (.sl (.int .u16)) YTT0]) :=
 Option.bind (qf_ (a.1,())) fun y=>j1 0 0 a.2.2.2.2.2.1.2.1 0 [(y.1,a.2)] [zAg0]
def qef_ (u1:Int->Int->List Bool->Int->List YTT2->List YTT2->Option (As [.pr (.sl (.int .u16)) YTT0])) (a t2 i:Int) (t12:List Bool) (t13:Int) (a_2 t2_2:List YTT2) (x:Int×List Int):Option (As [.pr (.sl (.int .u16)) YTT0]):=qob_ u1 a t2 i t12 t13 a_2 t2_2 x
def qe7_ (a t2:Int) (t12:List Bool) (t13:Int) (a_2 t2_2:List YTT2):Option (As [.pr (.sl (.int .u16)) YTT0]) :=
 loopF (fun (self:(Int)×(Int)×(List Bool)×(Int)×(List YTT2)×(List YTT2)->Option (As [.pr (.sl (.int .u16)) YTT0])) (s:(Int)×(Int)×(List Bool)×(Int)×(List YTT2)×(List YTT2))=>qec_ (qef_ (fun a t2 t12 t13 a_2 t2_2=>self (a,t2,t12,t13,a_2,t2_2))) (fun a t2 t12 t13 a_2 t2_2=>self (a,t2,t12,t13,a_2,t2_2)) s.1 s.2.1 s.2.2.1 s.2.2.2.1 s.2.2.2.2.1 s.2.2.2.2.2) 18446744073709551616 (a,t2,t12,t13,a_2,t2_2)
def qf0_ (x:As [.pr (.sl (.int .u16)) YTT0]):Option (As [.pr (.sl (.int .u16)) YTT0]):=qnm_ qe7_ x.1
theorem q160_  (J w1 a t2 i t12 t13 a_2 t2_2 x):pfn Tryz.prog qa5_ 6 18446744073709551616 (Ev.get qa4_) 178 q6v_ J 7475 [w1] (qoc_ a t2 i t12 t13 a_2 t2_2 x)=qob_ (fun a t2 t12 t13 a_2 t2_2=>w1 (q7a_ a t2 t12 t13 a_2 t2_2)) a t2 i t12 t13 a_2 t2_2 x:=by kernel_rfl
theorem q164_  (J w1 a t2 t12 t13 a_2 t2_2):pfn Tryz.prog qa5_ 6 18446744073709551616 (Ev.get qa4_) 178 q6v_ J 58 [w1] (q7a_ a t2 t12 t13 a_2 t2_2)=qec_ (fun a t2 i t12 t13 a_2 t2_2 x=>J 7475 [w1] (qoc_ a t2 i t12 t13 a_2 t2_2 x)) (fun a t2 t12 t13 a_2 t2_2=>w1 (q7a_ a t2 t12 t13 a_2 t2_2)) a t2 t12 t13 a_2 t2_2:=by kernel_rfl
theorem q17g_ (J:Orc (As [.pr (.sl (.int .u16)) YTT0])) (x:As [.pr (.sl (.int .u16)) YTT0]):rfn Tryz.prog qa5_ 6 18446744073709551616 (Ev.get qa4_) 178 q6v_ J x=qnm_ (fun a t2 t12 t13 a_2 t2_2=>J 58 [] (q7a_ a t2 t12 t13 a_2 t2_2)) x.1:=by kernel_rfl
theorem q16t_  (w1 a t2 i t12 t13 a_2 t2_2 x):jfn Tryz.prog qa5_ 6 18446744073709551616 (Ev.get qa4_) 178 q6v_ 7475 [w1] (qoc_ a t2 i t12 t13 a_2 t2_2 x)=qef_ (fun a t2 t12 t13 a_2 t2_2=>w1 (q7a_ a t2 t12 t13 a_2 t2_2)) a t2 i t12 t13 a_2 t2_2 x:=by
 rw [q6_ (by decide)]
 rw [q160_]
 rfl
theorem q16q_  (a t2 t12 t13 a_2 t2_2):jfn Tryz.prog qa5_ 6 18446744073709551616 (Ev.get qa4_) 178 q6v_ 58 [] (q7a_ a t2 t12 t13 a_2 t2_2)=qe7_ a t2 t12 t13 a_2 t2_2:=by
 rw [q6_ (by decide)]
 rw [qn_ (by kernel_rfl)]
 refine qh_ (σ:=(Int)×(Int)×(List Bool)×(Int)×(List YTT2)×(List YTT2)) (mk:=fun s=>q7a_ s.1 s.2.1 s.2.2.1 s.2.2.2.1 s.2.2.2.2.1 s.2.2.2.2.2) (fun w1 s=>?_) 18446744073709551616 (a,t2,t12,t13,a_2,t2_2)
 have e2:(fun a t2 i t12 t13 a_2 t2_2 x=>(jfn Tryz.prog qa5_ 6 18446744073709551616 (Ev.get qa4_) 178 q6v_) 7475 [w1] (qoc_ a t2 i t12 t13 a_2 t2_2 x))=qef_ (fun a t2 t12 t13 a_2 t2_2=>w1 (q7a_ a t2 t12 t13 a_2 t2_2)):=by funext a t2 i t12 t13 a_2 t2_2 x; exact q16t_ w1 a t2 i t12 t13 a_2 t2_2 x
 refine (q164_ _ w1 s.1 s.2.1 s.2.2.1 s.2.2.2.1 s.2.2.2.2.1 s.2.2.2.2.2).trans ?_
 rw [e2]
theorem q1a6_ (x:As [.pr (.sl (.int .u16)) YTT0]):evT Tryz.prog qa5_ 6 18446744073709551616 (Ev.get qa4_) 178 q6v_ x=qf0_ x:=by
 have e1:(fun a t2 t12 t13 a_2 t2_2=>(jfn Tryz.prog qa5_ 6 18446744073709551616 (Ev.get qa4_) 178 q6v_) 58 [] (q7a_ a t2 t12 t13 a_2 t2_2))=qe7_:=by funext a t2 t12 t13 a_2 t2_2; exact q16q_ a t2 t12 t13 a_2 t2_2
 rw [qi_,q17g_,e1]
 rfl
theorem qn0_:CtOk Tryz.prog (fun _=>True) 178 ⟨q6v_,qf0_⟩:=qc_ (q0_ q54_ q3_) q1a6_
@[reducible] def qu7_:Sh:=⟨[.d (.pr (.sl (.int .u16)) YTT0),.d (.int .u16)],[],[.pr (.sl (.int .u16)) YTT0,.int .u16],[.d (.bool)],[],0,[.bool]⟩
def q12w_:Env:=(cts [(2000035,Ev.bxCt),(113,(⟨qea_,q5p_⟩:Ct))])
def qo3_ (a:List Int×(Int×Int)×Int×Int×Int×YTT9×Int) (owner:Int):Option (As [.bool]) :=
 Option.bind (q5p_ (a.2.1,())) fun y=>if (!y.1)=true then some (nei a.2.1.1 owner,()) else some (false,())
def q42_ (x:As [.pr (.sl (.int .u16)) YTT0,.int .u16]):Option (As [.bool]):=qo3_ x.1 x.2.1
theorem qsz_:CtOk Tryz.prog (fun _=>True) 214 ⟨qu7_,q42_⟩:=ctn (env:=q12w_) (q0_ Ev.bx_ok (q0_ qgr_ q3_)) 6 fun J x=>by kernel_rfl
@[reducible] def q107_:Sh:=⟨[.d (.pr (.sl (.int .u16)) YTT0),.d (.pr (.int .u16) YTT6)],[],[.pr (.sl (.int .u16)) YTT0,.pr (.int .u16) YTT6],[.d (.bool)],[],0,[.bool]⟩
def q10o_:Env:=(cts [(2000035,Ev.bxCt)])
def qlv_ (a:List Int×(Int×Int)×Int×Int×Int×YTT9×Int) (c:Int×Int×Int×Int×Int):Option (As [.bool]) :=
 if le c.2.2.1 a.2.2.2.2.1=true then some (true,()) else if nei a.2.2.1 0=true then some (lt c.2.2.1 a.2.2.2.1,()) else some (false,())
def qli_ (x:As [.pr (.sl (.int .u16)) YTT0,.pr (.int .u16) YTT6]):Option (As [.bool]):=qlv_ x.1 x.2.1
theorem qz4_:CtOk Tryz.prog (fun _=>True) 219 ⟨q107_,qli_⟩:=ctn (env:=q10o_) (q0_ Ev.bx_ok q3_) 6 fun J x=>by kernel_rfl
@[reducible] def qv6_:Sh:=⟨[.d (.pr (.sl (.int .u16)) YTT0)],[],[.pr (.sl (.int .u16)) YTT0],[.d (.pr (.sl (.int .u16)) YTT0)],[],0,[.pr (.sl (.int .u16)) YTT0]⟩
def q120_ (a:List Int×(Int×Int)×Int×Int×Int×YTT9×Int):Option (As [.pr (.sl (.int .u16)) YTT0]) :=
 some ((a.1,(0,0),0,0,a.2.2.2.2.1,zSt,a.2.2.2.2.2.2),())
def qa2_ (x:As [.pr (.sl (.int .u16)) YTT0]):Option (As [.pr (.sl (.int .u16)) YTT0]):=q120_ x.1
theorem qdx_:CtOk Tryz.prog (fun _=>True) 180 ⟨qv6_,qa2_⟩:=ctn q3_ 6 fun J x=>by kernel_rfl
@[reducible] def q79_:Sh:=⟨[.d (.pr (.int .u16) (.int .i64)),.d (.int .u16),.d (.int .i64)],[],[.pr (.int .u16) (.int .i64),.int .u16,.int .i64],[.d (.pr (.int .u16) (.int .i64)),.d (.int .i64)],[],0,[.pr (.int .u16) (.int .i64),.int .i64]⟩
def q8j_:Env:=(cts [(113,(⟨qea_,q5p_⟩:Ct)),(167,(⟨qmc_,q7p_⟩:Ct)),(207,(⟨qrl_,q9l_⟩:Ct))])
def q8e_:List (Nat×Hint):=[(30,⟨[],[1,2,3,6,25]⟩),(14,⟨[],[1,2,3,6,15,21,22,23,24]⟩)]
def qkj_ (owner ticks:Int) (t15:Bool) (l t6:Int×Int):St:={ fr:=[(1,.d (.int .u16) owner),(2,.d (.int .i64) ticks),(3,.pb 0 0),(6,.pb 1 0),(15,.d .bool t15)],nt:=35,up:=[],own:=[(0,.box 27 [.d (.int .u16) l.1,.d (.int .i64) l.2]),(1,.box 27 [.d (.int .u16) t6.1,.d (.int .i64) t6.2])],nx:=2,log:=[],ln:=0 }
def ql4_ (owner ticks:Int) (t25:Bool) (l t6:Int×Int):St:={ fr:=[(1,.d (.int .u16) owner),(2,.d (.int .i64) ticks),(3,.pb 0 0),(6,.pb 1 0),(25,.d .bool t25)],nt:=35,up:=[],own:=[(0,.box 27 [.d (.int .u16) l.1,.d (.int .i64) l.2]),(1,.box 27 [.d (.int .u16) t6.1,.d (.int .i64) t6.2])],nx:=2,log:=[],ln:=0 }
def qks_ (j2:Int->Int->Bool->Int×Int->Int×Int->Option (As [.pr (.int .u16) (.int .i64),.int .i64])) (owner ticks:Int) (t15:Bool) (l t6:Int×Int):Option (As [.pr (.int .u16) (.int .i64),.int .i64]) :=
 if t15=true then some (l,2,()) else Option.bind (q5p_ (l,())) fun y=>if (!y.1)=true then j2 owner ticks (nei l.1 owner) l t6 else j2 owner ticks false l t6
def qkn_ (owner ticks:Int) (t25:Bool) (l t6:Int×Int):Option (As [.pr (.int .u16) (.int .i64),.int .i64]) :=
 if t25=true then some (l,22,()) else Option.bind (q9l_ (owner,())) fun y=>if (eqi l.1 y.1.1 && (eqi l.2 y.1.2 && true))=true then some (l,0,()) else some ((owner,ticks),0,())
def ql0_ (j1:Int->Int->Bool->Int×Int->Int×Int->Option (As [.pr (.int .u16) (.int .i64),.int .i64])) (l:Int×Int) (owner ticks:Int):Option (As [.pr (.int .u16) (.int .i64),.int .i64]) :=
 Option.bind (q7p_ (l,())) fun y=>if eqi owner 0=true then j1 owner ticks true y.1 (0,0) else j1 owner ticks (lt ticks 1) y.1 (0,0)
def qg9_ (owner ticks:Int) (t25:Bool) (l t6:Int×Int):Option (As [.pr (.int .u16) (.int .i64),.int .i64]):=qkn_ owner ticks t25 l t6
def ql3_ (owner ticks:Int) (t15:Bool) (l t6:Int×Int):Option (As [.pr (.int .u16) (.int .i64),.int .i64]):=qks_ (qg9_) owner ticks t15 l t6
def qr5_ (x:As [.pr (.int .u16) (.int .i64),.int .u16,.int .i64]):Option (As [.pr (.int .u16) (.int .i64),.int .i64]):=ql0_ ql3_ x.1 x.2.1 x.2.2.1
theorem q15i_  (J owner ticks t25 l t6):pfn Tryz.prog q8j_ 6 18446744073709551616 (Ev.get q8e_) 227 q79_ J 30 [] (ql4_ owner ticks t25 l t6)=qkn_ owner ticks t25 l t6:=by kernel_rfl
theorem q15b_  (J owner ticks t15 l t6):pfn Tryz.prog q8j_ 6 18446744073709551616 (Ev.get q8e_) 227 q79_ J 14 [] (qkj_ owner ticks t15 l t6)=qks_ (fun owner ticks t25 l t6=>J 30 [] (ql4_ owner ticks t25 l t6)) owner ticks t15 l t6:=by kernel_rfl
theorem q14m_ (J:Orc (As [.pr (.int .u16) (.int .i64),.int .i64])) (x:As [.pr (.int .u16) (.int .i64),.int .u16,.int .i64]):rfn Tryz.prog q8j_ 6 18446744073709551616 (Ev.get q8e_) 227 q79_ J x=ql0_ (fun owner ticks t15 l t6=>J 14 [] (qkj_ owner ticks t15 l t6)) x.1 x.2.1 x.2.2.1:=by kernel_rfl
theorem q13f_  (owner ticks t25 l t6):jfn Tryz.prog q8j_ 6 18446744073709551616 (Ev.get q8e_) 227 q79_ 30 [] (ql4_ owner ticks t25 l t6)=qg9_ owner ticks t25 l t6:=by
 rw [q6_ (by decide)]
 rw [q15i_]
 rfl
theorem q156_  (owner ticks t15 l t6):jfn Tryz.prog q8j_ 6 18446744073709551616 (Ev.get q8e_) 227 q79_ 14 [] (qkj_ owner ticks t15 l t6)=ql3_ owner ticks t15 l t6:=by
 rw [q6_ (by decide)]
 have e2:(fun owner ticks t25 l t6=>(jfn Tryz.prog q8j_ 6 18446744073709551616 (Ev.get q8e_) 227 q79_) 30 [] (ql4_ owner ticks t25 l t6))=qg9_:=by funext owner ticks t25 l t6; exact q13f_ owner ticks t25 l t6
 rw [q15b_,e2]
 rfl
theorem q15s_ (x:As [.pr (.int .u16) (.int .i64),.int .u16,.int .i64]):evT Tryz.prog q8j_ 6 18446744073709551616 (Ev.get q8e_) 227 q79_ x=qr5_ x:=by
 have e1:(fun owner ticks t15 l t6=>(jfn Tryz.prog q8j_ 6 18446744073709551616 (Ev.get q8e_) 227 q79_) 14 [] (qkj_ owner ticks t15 l t6))=ql3_:=by funext owner ticks t15 l t6; exact q156_ owner ticks t15 l t6
 rw [qi_,q14m_,e1]
 rfl
theorem q149_:CtOk Tryz.prog (fun _=>True) 227 ⟨q79_,qr5_⟩:=qc_ (q0_ qgr_ (q0_ qfy_ (q0_ qko_ q3_))) q15s_
@[reducible] def qv0_:Sh:=⟨[.d (.pr (.sl (.int .u16)) YTT0),.d (.int .u16)],[],[.pr (.sl (.int .u16)) YTT0,.int .u16],[.d (.pr (.sl (.int .u16)) YTT0)],[],0,[.pr (.sl (.int .u16)) YTT0]⟩
def qoj_ (a:List Int×(Int×Int)×Int×Int×Int×YTT9×Int) (owner:Int):Option (As [.pr (.sl (.int .u16)) YTT0]) :=
 Option.bind (qr5_ (a.2.1,owner,a.2.2.2.2.2.2,())) fun y=>some ((a.1,y.1,a.2.2),())
def qd5_ (x:As [.pr (.sl (.int .u16)) YTT0,.int .u16]):Option (As [.pr (.sl (.int .u16)) YTT0]):=qoj_ x.1 x.2.1
theorem qtp_:CtOk Tryz.prog (fun _=>True) 217 ⟨qv0_,qd5_⟩:=ctn (q0_ q149_ q3_) 6 fun J x=>by kernel_rfl
@[reducible] def q159_:Sh:=⟨[.d (.pr (.sl (.int .u16)) YTT0),.d (.pr (.int .u16) YTT6)],[],[.pr (.sl (.int .u16)) YTT0,.pr (.int .u16) YTT6],[.d (.pr (.sl (.int .u16)) YTT0)],[],0,[.pr (.sl (.int .u16)) YTT0]⟩
def qoq_ (a:List Int×(Int×Int)×Int×Int×Int×YTT9×Int) (c:Int×Int×Int×Int×Int):Option (As [.pr (.sl (.int .u16)) YTT0]) :=
 if eqi c.2.2.1 a.2.2.2.1=true then Option.bind (qd5_ (a,c.1,())) fun y=>some (y.1,()) else Option.bind (qa2_ (a,())) fun y=>Option.bind (qd5_ (y.1,c.1,())) fun y=>some ((y.1.1,y.1.2.1,1,c.2.2.1,y.1.2.2.2.2.1,(c.2.2.1,y.1.2.2.2.2.2.1.2),y.1.2.2.2.2.2.2),())
def qpj_ (x:As [.pr (.sl (.int .u16)) YTT0,.pr (.int .u16) YTT6]):Option (As [.pr (.sl (.int .u16)) YTT0]):=qoq_ x.1 x.2.1
theorem q11l_:CtOk Tryz.prog (fun _=>True) 220 ⟨q159_,qpj_⟩:=ctn (q0_ qdx_ (q0_ qtp_ q3_)) 6 fun J x=>by kernel_rfl
@[reducible] def qrb_:Sh:=⟨[.d (.pr (.sl (.int .u16)) YTT0),.d (.int .u8),.d (.int .u32)],[],[.pr (.sl (.int .u16)) YTT0,.int .u8,.int .u32],[.d (.bool)],[],0,[.bool]⟩
def q1ag_:Env:=(cts [(2000035,Ev.bxCt)])
def qt5_ (a:List Int×(Int×Int)×Int×Int×Int×YTT9×Int) (phase tx:Int):Option (As [.bool]) :=
 if eqi a.2.2.1 phase=true then some (eqi a.2.2.2.1 tx,()) else some (false,())
def qfe_ (x:As [.pr (.sl (.int .u16)) YTT0,.int .u8,.int .u32]):Option (As [.bool]):=qt5_ x.1 x.2.1 x.2.2.1
theorem qtd_:CtOk Tryz.prog (fun _=>True) 215 ⟨qrb_,qfe_⟩:=ctn (env:=q1ag_) (q0_ Ev.bx_ok q3_) 6 fun J x=>by kernel_rfl
@[reducible] def qy6_:Sh:=⟨[.d (.int .u32)],[],[.int .u32],[.d (.int .u32)],[],0,[.int .u32]⟩
def qry_ (sum:Int):Option (As [.int .u32]) :=
 if eqi (Sx.band .u32 sum 1) 1=true then some (Sx.bxor .u32 (Sx.shr .u32 sum 1) 3988292384,()) else some (Sx.shr .u32 sum 1,())
def qqf_ (x:As [.int .u32]):Option (As [.int .u32]):=qry_ x.1
theorem q16w_:CtOk Tryz.prog (fun _=>True) 206 ⟨qy6_,qqf_⟩:=ctn q3_ 6 fun J x=>by kernel_rfl
@[reducible] def qic_:Sh:=⟨[.d (.int .u32),.d (.int .u8)],[],[.int .u32,.int .u8],[.d (.int .u32)],[],0,[.int .u32]⟩
def qqe_:Env:=(cts [(206,(⟨qy6_,qqf_⟩:Ct))])
def qqg_:List (Nat×Hint):=[(58,⟨[],[0,9]⟩)]
def qih_ (sum t9:Int):St:={ fr:=[(0,.d (.int .u32) sum),(9,.d (.int .i64) t9)],nt:=15,up:=[],own:=[],nx:=0,log:=[],ln:=0 }
def qma_ (self1:Int->Int->Option (As [.int .u32])) (sum t9:Int):Option (As [.int .u32]) :=
 if lt t9 8=true then Option.bind (qqf_ (sum,())) fun y=>self1 y.1 (add .i64 t9 1) else some (sum,())
def q10g_ (j1:Int->Int->Option (As [.int .u32])) (sum b:Int):Option (As [.int .u32]) :=
 j1 (Sx.bxor .u32 sum (cvt .u32 b)) 0
def qna_ (sum t9:Int):Option (As [.int .u32]) :=
 loopF (fun (self:(Int)×(Int)->Option (As [.int .u32])) (s:(Int)×(Int))=>qma_ (fun sum t9=>self (sum,t9)) s.1 s.2) 18446744073709551616 (sum,t9)
def qtq_ (x:As [.int .u32,.int .u8]):Option (As [.int .u32]):=q10g_ qna_ x.1 x.2.1
theorem q1ap_  (J w1 sum t9):pfn Tryz.prog qqe_ 6 18446744073709551616 (Ev.get qqg_) 177 qic_ J 58 [w1] (qih_ sum t9)=qma_ (fun sum t9=>w1 (qih_ sum t9)) sum t9:=by kernel_rfl
theorem q1ah_ (J:Orc (As [.int .u32])) (x:As [.int .u32,.int .u8]):rfn Tryz.prog qqe_ 6 18446744073709551616 (Ev.get qqg_) 177 qic_ J x=q10g_ (fun sum t9=>J 58 [] (qih_ sum t9)) x.1 x.2.1:=by kernel_rfl
theorem q1an_  (sum t9):jfn Tryz.prog qqe_ 6 18446744073709551616 (Ev.get qqg_) 177 qic_ 58 [] (qih_ sum t9)=qna_ sum t9:=by
 rw [q6_ (by decide)]
 rw [qn_ (by kernel_rfl)]
 refine qh_ (σ:=(Int)×(Int)) (mk:=fun s=>qih_ s.1 s.2) (fun w1 s=>?_) 18446744073709551616 (sum,t9)
 refine (q1ap_ _ w1 s.1 s.2).trans ?_
 rfl
theorem q1at_ (x:As [.int .u32,.int .u8]):evT Tryz.prog qqe_ 6 18446744073709551616 (Ev.get qqg_) 177 qic_ x=qtq_ x:=by
 have e1:(fun sum t9=>(jfn Tryz.prog qqe_ 6 18446744073709551616 (Ev.get qqg_) 177 qic_) 58 [] (qih_ sum t9))=qna_:=by funext sum t9; exact q1an_ sum t9
 rw [qi_,q1ah_,e1]
 rfl
theorem q1aa_:CtOk Tryz.prog (fun _=>True) 177 ⟨qic_,qtq_⟩:=qc_ (q0_ q16w_ q3_) q1at_
@[reducible] def q8d_:Sh:=⟨[.d (.sl (.int .u8))],[],[.sl (.int .u8)],[.d (.int .u32)],[],0,[.int .u32]⟩
def qa0_:Env:=(cts [(177,(⟨qic_,qtq_⟩:Ct))])
def q9q_:List (Nat×Hint):=[(7,⟨[],[3]⟩),(58,⟨[],[0,3,6,7]⟩)]
def qdl_ (b:List Int) (sum t6 t7:Int):St:={ fr:=[(0,.d (.sl (.int .u8)) b),(3,.d (.int .u32) sum),(6,.d (.int .i64) t6),(7,.d (.int .i64) t7)],nt:=19,up:=[],own:=[],nx:=0,log:=[],ln:=0 }
def qnu_ (sum:Int):St:={ fr:=[(3,.d (.int .u32) sum)],nt:=19,up:=[],own:=[],nx:=0,log:=[],ln:=0 }
def qee_ (j2:Int->Option (As [.int .u32])) (self1:List Int->Int->Int->Int->Option (As [.int .u32])) (b:List Int) (sum t6 t7:Int):Option (As [.int .u32]) :=
 if lt t7 t6=true then Option.bind (at? b t7) fun y=>Option.bind (qtq_ (sum,y,())) fun y=>self1 b y.1 t6 (add .i64 t7 1) else j2 sum
def qro_ (sum:Int):Option (As [.int .u32]) :=
 some (Int.ofNat (BitVec.toNat { toFin:=⟨4294967295 ^^^ BitVec.toNat { toFin:=⟨Int.toNat (sum % 4294967296),BitVec.ofInt._proof_1 (Go.IntKind.bits .u32) sum⟩ },BitVec.xor._proof_1 (BitVec.ofInt (Go.IntKind.bits .u32) (if Go.IntKind.signed .u32=true then -1 else Go.IntKind.max .u32)) (BitVec.ofInt (Go.IntKind.bits .u32) sum)⟩ } % 4294967296),())
def qwi_ (j1:List Int->Int->Int->Int->Option (As [.int .u32])) (b:List Int):Option (As [.int .u32]) :=
 j1 b 4294967295 (Int.ofNat (List.length b)) 0
def qrq_ (sum:Int):Option (As [.int .u32]):=qro_ sum
def qi8_ (b:List Int) (sum t6 t7:Int):Option (As [.int .u32]) :=
 loopF (fun (self:(List Int)×(Int)×(Int)×(Int)->Option (As [.int .u32])) (s:(List Int)×(Int)×(Int)×(Int))=>qee_ (qrq_) (fun b sum t6 t7=>self (b,sum,t6,t7)) s.1 s.2.1 s.2.2.1 s.2.2.2) 18446744073709551616 (b,sum,t6,t7)
def qsw_ (x:As [.sl (.int .u8)]):Option (As [.int .u32]):=qwi_ qi8_ x.1
theorem q18a_  (J sum):pfn Tryz.prog qa0_ 6 18446744073709551616 (Ev.get q9q_) 134 q8d_ J 7 [] (qnu_ sum)=qro_ sum:=by kernel_rfl
theorem q17w_  (J w1 b sum t6 t7):pfn Tryz.prog qa0_ 6 18446744073709551616 (Ev.get q9q_) 134 q8d_ J 58 [w1] (qdl_ b sum t6 t7)=qee_ (fun sum=>J 7 [] (qnu_ sum)) (fun b sum t6 t7=>w1 (qdl_ b sum t6 t7)) b sum t6 t7:=by kernel_rfl
theorem q17t_ (J:Orc (As [.int .u32])) (x:As [.sl (.int .u8)]):rfn Tryz.prog qa0_ 6 18446744073709551616 (Ev.get q9q_) 134 q8d_ J x=qwi_ (fun b sum t6 t7=>J 58 [] (qdl_ b sum t6 t7)) x.1:=by kernel_rfl
theorem q166_  (sum):jfn Tryz.prog qa0_ 6 18446744073709551616 (Ev.get q9q_) 134 q8d_ 7 [] (qnu_ sum)=qrq_ sum:=by
 rw [q6_ (by decide)]
 rw [q18a_]
 rfl
theorem q17h_  (b sum t6 t7):jfn Tryz.prog qa0_ 6 18446744073709551616 (Ev.get q9q_) 134 q8d_ 58 [] (qdl_ b sum t6 t7)=qi8_ b sum t6 t7:=by
 rw [q6_ (by decide)]
 rw [qn_ (by kernel_rfl)]
 refine qh_ (σ:=(List Int)×(Int)×(Int)×(Int)) (mk:=fun s=>qdl_ s.1 s.2.1 s.2.2.1 s.2.2.2) (fun w1 s=>?_) 18446744073709551616 (b,sum,t6,t7)
 have e2:(fun sum=>(jfn Tryz.prog qa0_ 6 18446744073709551616 (Ev.get q9q_) 134 q8d_) 7 [] (qnu_ sum))=qrq_:=funext fun sum=>q166_ sum
 refine (q17w_ _ w1 s.1 s.2.1 s.2.2.1 s.2.2.2).trans ?_
 rw [e2]
theorem q18w_ (x:As [.sl (.int .u8)]):evT Tryz.prog qa0_ 6 18446744073709551616 (Ev.get q9q_) 134 q8d_ x=qsw_ x:=by
 have e1:(fun b sum t6 t7=>(jfn Tryz.prog qa0_ 6 18446744073709551616 (Ev.get q9q_) 134 q8d_) 58 [] (qdl_ b sum t6 t7))=qi8_:=by funext b sum t6 t7; exact q17h_ b sum t6 t7
 rw [qi_,q17t_,e1]
 rfl
theorem q16d_:CtOk Tryz.prog (fun _=>True) 134 ⟨q8d_,qsw_⟩:=qc_ (q0_ q1aa_ q3_) q18w_
@[reducible] def q7z_:Sh:=⟨[.d (.sl (.int .u16))],[],[.sl (.int .u16)],[.d (.sl (.int .u8))],[],0,[.sl (.int .u8)]⟩
def qaz_:Env:=(cts [])
def qbd_:List (Nat×Hint):=[(58,⟨[],[0,3,10,11]⟩)]
def q7m_ (l:List Int) (t10 t11:Int) (b:List Int):St:={ fr:=[(0,.d (.sl (.int .u16)) l),(3,.row 0),(10,.d (.int .i64) t10),(11,.d (.int .i64) t11)],nt:=36,up:=[],own:=[(0,.row (.int .u8) 5 b)],nx:=1,log:=[],ln:=0 }
def q7k_ (self1:List Int->Int->Int->List Int->Option (As [.sl (.int .u8)])) (l:List Int) (t10 t11:Int) (b:List Int):Option (As [.sl (.int .u8)]) :=
 if lt t11 t10=true then Option.bind (at? l t11) fun y=>Option.bind (at? l t11) fun y_1=>Option.bind (at? b (mul .i64 2 t11)) fun x=>Option.bind (at? b (mul .i64 2 t11)) fun x=>Option.bind (at? (List.set b (Int.toNat (mul .i64 2 t11)) (cvt .u8 (Sx.shr .u16 y 8))) (add .i64 (mul .i64 2 t11) 1)) fun x=>Option.bind (at? (List.set b (Int.toNat (mul .i64 2 t11)) (cvt .u8 (Sx.shr .u16 y 8))) (add .i64 (mul .i64 2 t11) 1)) fun x=>self1 l t10 (add .i64 t11 1) (List.set (List.set b (Int.toNat (mul .i64 2 t11)) (cvt .u8 (Sx.shr .u16 y 8))) (Int.toNat (add .i64 (mul .i64 2 t11) 1)) (cvt .u8 y_1)) else some (b,())
def qdf_ (j1:List Int->Int->Int->List Int->Option (As [.sl (.int .u8)])) (l:List Int):Option (As [.sl (.int .u8)]) :=
 need (ge (mul .i64 2 (Int.ofNat (List.length l))) 0) (need (Ev.capOk (mul .i64 2 (Int.ofNat (List.length l))) (mul .i64 2 (Int.ofNat (List.length l)))) (need (small (Int.toNat (mul .i64 2 (Int.ofNat (List.length l))))) (j1 l (Int.ofNat (List.length l)) 0 (List.replicate (Int.toNat (mul .i64 2 (Int.ofNat (List.length l)))) 0))))
def q9c_ (l:List Int) (t10 t11:Int) (b:List Int):Option (As [.sl (.int .u8)]) :=
 loopF (fun (self:(List Int)×(Int)×(Int)×(List Int)->Option (As [.sl (.int .u8)])) (s:(List Int)×(Int)×(Int)×(List Int))=>q7k_ (fun l t10 t11 b=>self (l,t10,t11,b)) s.1 s.2.1 s.2.2.1 s.2.2.2) 18446744073709551616 (l,t10,t11,b)
def qik_ (x:As [.sl (.int .u16)]):Option (As [.sl (.int .u8)]):=qdf_ q9c_ x.1
theorem qxt_  (J w1 l t10 t11 b):pfn Tryz.prog qaz_ 6 18446744073709551616 (Ev.get qbd_) 135 q7z_ J 58 [w1] (q7m_ l t10 t11 b)=q7k_ (fun l t10 t11 b=>w1 (q7m_ l t10 t11 b)) l t10 t11 b:=by kernel_rfl
theorem qxu_ (J:Orc (As [.sl (.int .u8)])) (x:As [.sl (.int .u16)]):rfn Tryz.prog qaz_ 6 18446744073709551616 (Ev.get qbd_) 135 q7z_ J x=qdf_ (fun l t10 t11 b=>J 58 [] (q7m_ l t10 t11 b)) x.1:=by kernel_rfl
theorem qxq_  (l t10 t11 b):jfn Tryz.prog qaz_ 6 18446744073709551616 (Ev.get qbd_) 135 q7z_ 58 [] (q7m_ l t10 t11 b)=q9c_ l t10 t11 b:=by
 rw [q6_ (by decide)]
 rw [qn_ (by kernel_rfl)]
 refine qh_ (σ:=(List Int)×(Int)×(Int)×(List Int)) (mk:=fun s=>q7m_ s.1 s.2.1 s.2.2.1 s.2.2.2) (fun w1 s=>?_) 18446744073709551616 (l,t10,t11,b)
 refine (qxt_ _ w1 s.1 s.2.1 s.2.2.1 s.2.2.2).trans ?_
 rfl
theorem qym_ (x:As [.sl (.int .u16)]):evT Tryz.prog qaz_ 6 18446744073709551616 (Ev.get qbd_) 135 q7z_ x=qik_ x:=by
 have e1:(fun l t10 t11 b=>(jfn Tryz.prog qaz_ 6 18446744073709551616 (Ev.get qbd_) 135 q7z_) 58 [] (q7m_ l t10 t11 b))=q9c_:=by funext l t10 t11 b; exact qxq_ l t10 t11 b
 rw [qi_,qxu_,e1]
 rfl
theorem qxw_:CtOk Tryz.prog (fun _=>True) 135 ⟨q7z_,qik_⟩:=qc_ q3_ qym_
@[reducible] def qy8_:Sh:=⟨[.d (.sl (.int .u16))],[],[.sl (.int .u16)],[.d (.int .u32)],[],0,[.int .u32]⟩
def qrx_ (l:List Int):Option (As [.int .u32]) :=
 Option.bind (qik_ (l,())) fun y=>Option.bind (qsw_ (y.1,())) fun y=>some (y.1,())
def qsr_ (x:As [.sl (.int .u16)]):Option (As [.int .u32]):=qrx_ x.1
theorem q17v_:CtOk Tryz.prog (fun _=>True) 74 ⟨qy8_,qsr_⟩:=ctn (q0_ q16d_ (q0_ qxw_ q3_)) 6 fun J x=>by kernel_rfl
@[reducible] def q6w_:Sh:=⟨[.d (.sl YTT8)],[],[.sl YTT8],[.d (.int .u32)],[],0,[.int .u32]⟩
def q9x_:Env:=(cts [(73,(⟨q3i_,q8s_⟩:Ct)),(74,(⟨qy8_,qsr_⟩:Ct))])
def q9r_:List (Nat×Hint):=[(7,⟨[],[3]⟩),(58,⟨[.row 3 23],[3,6,7,8]⟩)]
def qe1_ (t6:List (Int×List Int)) (t7 t8:Int) (all:List Int):St:={ fr:=[(3,.row 0),(6,.d (.sl YTT8) t6),(7,.d (.int .i64) t7),(8,.d (.int .i64) t8)],nt:=19,up:=[],own:=[(0,.row (.int .u16) 23 all)],nx:=1,log:=[],ln:=0 }
def qnw_ (all:List Int):St:={ fr:=[(3,.row 0)],nt:=19,up:=[],own:=[(0,.row (.int .u16) 23 all)],nx:=1,log:=[],ln:=0 }
def qdp_ (j2:List Int->Option (As [.int .u32])) (self1:List (Int×List Int)->Int->Int->List Int->Option (As [.int .u32])) (t6:List (Int×List Int)) (t7 t8:Int) (all:List Int):Option (As [.int .u32]) :=
 if lt t8 t7=true then Option.bind (at? t6 t8) fun y=>Option.bind (q8s_ (y,())) fun y=>need (small (List.length all + List.length y.1)) (self1 t6 t7 (add .i64 t8 1) (all++y.1)) else j2 all
def qn7_ (all:List Int):Option (As [.int .u32]) :=
 Option.bind (qsr_ (all,())) fun y=>some (y.1,())
def qwy_ (j1:List (Int×List Int)->Int->Int->List Int->Option (As [.int .u32])) (l:List (Int×List Int)):Option (As [.int .u32]) :=
 j1 l (Int.ofNat (List.length l)) 0 []
def qm8_ (all:List Int):Option (As [.int .u32]):=qn7_ all
def qi6_ (t6:List (Int×List Int)) (t7 t8:Int) (all:List Int):Option (As [.int .u32]) :=
 loopF (fun (self:(List (Int×List Int))×(Int)×(Int)×(List Int)->Option (As [.int .u32])) (s:(List (Int×List Int))×(Int)×(Int)×(List Int))=>qdp_ (qm8_) (fun t6 t7 t8 all=>self (t6,t7,t8,all)) s.1 s.2.1 s.2.2.1 s.2.2.2) 18446744073709551616 (t6,t7,t8,all)
def qpu_ (x:As [.sl YTT8]):Option (As [.int .u32]):=qwy_ qi6_ x.1
theorem q16n_  (J all):pfn Tryz.prog q9x_ 6 18446744073709551616 (Ev.get q9r_) 19 q6w_ J 7 [] (qnw_ all)=qn7_ all:=by kernel_rfl
theorem q16c_  (J w1 t6 t7 t8 all):pfn Tryz.prog q9x_ 6 18446744073709551616 (Ev.get q9r_) 19 q6w_ J 58 [w1] (qe1_ t6 t7 t8 all)=qdp_ (fun all=>J 7 [] (qnw_ all)) (fun t6 t7 t8 all=>w1 (qe1_ t6 t7 t8 all)) t6 t7 t8 all:=by kernel_rfl
theorem q17y_ (J:Orc (As [.int .u32])) (x:As [.sl YTT8]):rfn Tryz.prog q9x_ 6 18446744073709551616 (Ev.get q9r_) 19 q6w_ J x=qwy_ (fun t6 t7 t8 all=>J 58 [] (qe1_ t6 t7 t8 all)) x.1:=by kernel_rfl
theorem q168_  (all):jfn Tryz.prog q9x_ 6 18446744073709551616 (Ev.get q9r_) 19 q6w_ 7 [] (qnw_ all)=qm8_ all:=by
 rw [q6_ (by decide)]
 rw [q16n_]
 rfl
theorem q15w_  (t6 t7 t8 all):jfn Tryz.prog q9x_ 6 18446744073709551616 (Ev.get q9r_) 19 q6w_ 58 [] (qe1_ t6 t7 t8 all)=qi6_ t6 t7 t8 all:=by
 rw [q6_ (by decide)]
 rw [qn_ (by kernel_rfl)]
 refine qh_ (σ:=(List (Int×List Int))×(Int)×(Int)×(List Int)) (mk:=fun s=>qe1_ s.1 s.2.1 s.2.2.1 s.2.2.2) (fun w1 s=>?_) 18446744073709551616 (t6,t7,t8,all)
 have e2:(fun all=>(jfn Tryz.prog q9x_ 6 18446744073709551616 (Ev.get q9r_) 19 q6w_) 7 [] (qnw_ all))=qm8_:=funext fun all=>q168_ all
 refine (q16c_ _ w1 s.1 s.2.1 s.2.2.1 s.2.2.2).trans ?_
 rw [e2]
theorem q19b_ (x:As [.sl YTT8]):evT Tryz.prog q9x_ 6 18446744073709551616 (Ev.get q9r_) 19 q6w_ x=qpu_ x:=by
 have e1:(fun t6 t7 t8 all=>(jfn Tryz.prog q9x_ 6 18446744073709551616 (Ev.get q9r_) 19 q6w_) 58 [] (qe1_ t6 t7 t8 all))=qi6_:=by funext t6 t7 t8 all; exact q15w_ t6 t7 t8 all
 rw [qi_,q17y_,e1]
 rfl
theorem q162_:CtOk Tryz.prog (fun _=>True) 19 ⟨q6w_,qpu_⟩:=qc_ (q0_ qm4_ (q0_ q17v_ q3_)) q19b_
@[reducible] def q84_:Sh:=⟨[.d (.pr (.int .u32) (.pr (.ar 8 .bool) (.ar 8 YTT8)))],[],[.pr (.int .u32) (.pr (.ar 8 .bool) (.ar 8 YTT8))],[.d (.sl YTT8)],[],0,[.sl YTT8]⟩
def qeh_:Env:=(cts [(2000033,Ev.bxCt),(79,(⟨qpg_,qez_⟩:Ct))])
def qdv_:List (Nat×Hint):=[(58,⟨[.row 3 30],[1,3,7,8]⟩)]
def q94_ (s:Int×List Bool×List (Int×List Int)) (t7:List Bool) (t8:Int) (l:List (Int×List Int)):St:={ fr:=[(1,.pe (.pr (.int .u32) (.pr (.ar 8 .bool) (.ar 8 YTT8))) s),(3,.row 0),(7,.d (.ar 8 .bool) t7),(8,.d (.int .i64) t8)],nt:=23,up:=[],own:=[(0,.row YTT8 30 l)],nx:=1,log:=[],ln:=0 }
def q92_ (self1:Int×List Bool×List (Int×List Int)->List Bool->Int->List (Int×List Int)->Option (As [.sl YTT8])) (s:Int×List Bool×List (Int×List Int)) (t7:List Bool) (t8:Int) (l:List (Int×List Int)):Option (As [.sl YTT8]) :=
 if lt t8 8=true then need (lt t8 8) (Option.bind (at? t7 t8) fun y=>if y=true then Option.bind (at? s.2.2 t8) fun y=>Option.bind (qez_ (y,())) fun y=>need (small (List.length l + Nat.succ 0)) (self1 s t7 (add .i64 t8 1) (l++[y.1])) else self1 s t7 (add .i64 t8 1) l) else some (l,())
def qsq_ (j1:Int×List Bool×List (Int×List Int)->List Bool->Int->List (Int×List Int)->Option (As [.sl YTT8])) (s:Int×List Bool×List (Int×List Int)):Option (As [.sl YTT8]) :=
 j1 s s.2.1 0 []
def qc5_ (s:Int×List Bool×List (Int×List Int)) (t7:List Bool) (t8:Int) (l:List (Int×List Int)):Option (As [.sl YTT8]) :=
 loopF (fun (self:YTT9×(List Bool)×(Int)×(List (Int×List Int))->Option (As [.sl YTT8])) (s:YTT9×(List Bool)×(Int)×(List (Int×List Int)))=>q92_ (fun s t7 t8 l=>self (s,t7,t8,l)) s.1 s.2.1 s.2.2.1 s.2.2.2) 18446744073709551616 (s,t7,t8,l)
def q8t_ (x:As [.pr (.int .u32) (.pr (.ar 8 .bool) (.ar 8 YTT8))]):Option (As [.sl YTT8]):=qsq_ qc5_ x.1
theorem q10d_  (J w1 s t7 t8 l):pfn Tryz.prog qeh_ 6 18446744073709551616 (Ev.get qdv_) 139 q84_ J 58 [w1] (q94_ s t7 t8 l)=q92_ (fun s t7 t8 l=>w1 (q94_ s t7 t8 l)) s t7 t8 l:=by kernel_rfl
theorem q10i_ (J:Orc (As [.sl YTT8])) (x:As [.pr (.int .u32) (.pr (.ar 8 .bool) (.ar 8 YTT8))]):rfn Tryz.prog qeh_ 6 18446744073709551616 (Ev.get qdv_) 139 q84_ J x=qsq_ (fun s t7 t8 l=>J 58 [] (q94_ s t7 t8 l)) x.1:=by kernel_rfl
theorem q108_  (s t7 t8 l):jfn Tryz.prog qeh_ 6 18446744073709551616 (Ev.get qdv_) 139 q84_ 58 [] (q94_ s t7 t8 l)=qc5_ s t7 t8 l:=by
 rw [q6_ (by decide)]
 rw [qn_ (by kernel_rfl)]
 refine qh_ (σ:=YTT9×(List Bool)×(Int)×(List (Int×List Int))) (mk:=fun s=>q94_ s.1 s.2.1 s.2.2.1 s.2.2.2) (fun w1 s=>?_) 18446744073709551616 (s,t7,t8,l)
 refine (q10d_ _ w1 s.1 s.2.1 s.2.2.1 s.2.2.2).trans ?_
 rfl
theorem q12t_ (x:As [.pr (.int .u32) (.pr (.ar 8 .bool) (.ar 8 YTT8))]):evT Tryz.prog qeh_ 6 18446744073709551616 (Ev.get qdv_) 139 q84_ x=q8t_ x:=by
 have e1:(fun s t7 t8 l=>(jfn Tryz.prog qeh_ 6 18446744073709551616 (Ev.get qdv_) 139 q84_) 58 [] (q94_ s t7 t8 l))=qc5_:=by funext s t7 t8 l; exact q108_ s t7 t8 l
 rw [qi_,q10i_,e1]
 rfl
theorem qst_:CtOk Tryz.prog (fun _=>True) 139 ⟨q84_,q8t_⟩:=qc_ (q0_ Ev.bx_ok (q0_ qs0_ q3_)) q12t_
@[reducible] def q2y_:Sh:=⟨[.d (.pr (.int .u32) (.pr (.ar 8 .bool) (.ar 8 YTT8))),.d (.int .i64),.d (.int .u32)],[],[.pr (.int .u32) (.pr (.ar 8 .bool) (.ar 8 YTT8)),.int .i64,.int .u32],[.d (.bool)],[],0,[.bool]⟩
def q3z_:Env:=(cts [(2000033,Ev.bxCt),(19,(⟨q6w_,qpu_⟩:Ct)),(139,(⟨q84_,q8t_⟩:Ct))])
def q41_:List (Nat×Hint):=[(7,⟨[],[2,3]⟩),(58,⟨[],[1,2,3,16,17]⟩),(6,⟨[],[1,2,3,14]⟩)]
def qiu_ (count check:Int) (s:Int×List Bool×List (Int×List Int)) (t14:Bool):St:={ fr:=[(1,.d (.int .i64) count),(2,.d (.int .u32) check),(3,.pe (.pr (.int .u32) (.pr (.ar 8 .bool) (.ar 8 YTT8))) s),(14,.d .bool t14)],nt:=32,up:=[],own:=[],nx:=0,log:=[],ln:=0 }
def qai_ (count check:Int) (s:Int×List Bool×List (Int×List Int)) (t16:List Bool) (t17:Int):St:={ fr:=[(1,.d (.int .i64) count),(2,.d (.int .u32) check),(3,.pe (.pr (.int .u32) (.pr (.ar 8 .bool) (.ar 8 YTT8))) s),(16,.d (.ar 8 .bool) t16),(17,.d (.int .i64) t17)],nt:=32,up:=[],own:=[],nx:=0,log:=[],ln:=0 }
def qj8_ (check:Int) (s:Int×List Bool×List (Int×List Int)):St:={ fr:=[(2,.d (.int .u32) check),(3,.pe (.pr (.int .u32) (.pr (.ar 8 .bool) (.ar 8 YTT8))) s)],nt:=32,up:=[],own:=[],nx:=0,log:=[],ln:=0 }
def qub_ (j2:Int->Int->Int×List Bool×List (Int×List Int)->List Bool->Int->Option (As [.bool])) (count check:Int) (s:Int×List Bool×List (Int×List Int)) (t14:Bool):Option (As [.bool]) :=
 if t14=true then some (false,()) else j2 count check s s.2.1 0
def q82_ (j3:Int->Int×List Bool×List (Int×List Int)->Option (As [.bool])) (self2:Int->Int->Int×List Bool×List (Int×List Int)->List Bool->Int->Option (As [.bool])) (count check:Int) (s:Int×List Bool×List (Int×List Int)) (t16:List Bool) (t17:Int):Option (As [.bool]) :=
 if lt t17 8=true then need (lt t17 8) (Option.bind (at? t16 t17) fun y=>if Sx.neb y (lt t17 count)=true then some (false,()) else self2 count check s t16 (add .i64 t17 1)) else j3 check s
def qit_ (check:Int) (s:Int×List Bool×List (Int×List Int)):Option (As [.bool]) :=
 Option.bind (q8t_ (s,())) fun y=>Option.bind (qpu_ (y.1,())) fun y=>some (eqi y.1 check,())
def qj7_ (j1:Int->Int->Int×List Bool×List (Int×List Int)->Bool->Option (As [.bool])) (s:Int×List Bool×List (Int×List Int)) (count check:Int):Option (As [.bool]) :=
 if lt count 0=true then j1 count check s true else j1 count check s (gt count 8)
def q50_ (check:Int) (s:Int×List Bool×List (Int×List Int)):Option (As [.bool]):=qit_ check s
def qe3_ (count check:Int) (s:Int×List Bool×List (Int×List Int)) (t16:List Bool) (t17:Int):Option (As [.bool]) :=
 loopF (fun (self:(Int)×(Int)×YTT9×(List Bool)×(Int)->Option (As [.bool])) (s:(Int)×(Int)×YTT9×(List Bool)×(Int))=>q82_ (q50_) (fun count check s t16 t17=>self (count,check,s,t16,t17)) s.1 s.2.1 s.2.2.1 s.2.2.2.1 s.2.2.2.2) 18446744073709551616 (count,check,s,t16,t17)
def qep_ (count check:Int) (s:Int×List Bool×List (Int×List Int)) (t14:Bool):Option (As [.bool]):=qub_ (qe3_) count check s t14
def qjp_ (x:As [.pr (.int .u32) (.pr (.ar 8 .bool) (.ar 8 YTT8)),.int .i64,.int .u32]):Option (As [.bool]):=qj7_ qep_ x.1 x.2.1 x.2.2.1
theorem q11j_  (J check s):pfn Tryz.prog q3z_ 6 18446744073709551616 (Ev.get q41_) 229 q2y_ J 7 [] (qj8_ check s)=qit_ check s:=by kernel_rfl
theorem q126_  (J w2 count check s t16 t17):pfn Tryz.prog q3z_ 6 18446744073709551616 (Ev.get q41_) 229 q2y_ J 58 [w2] (qai_ count check s t16 t17)=q82_ (fun check s=>J 7 [] (qj8_ check s)) (fun count check s t16 t17=>w2 (qai_ count check s t16 t17)) count check s t16 t17:=by kernel_rfl
theorem q11z_  (J count check s t14):pfn Tryz.prog q3z_ 6 18446744073709551616 (Ev.get q41_) 229 q2y_ J 6 [] (qiu_ count check s t14)=qub_ (fun count check s t16 t17=>J 58 [] (qai_ count check s t16 t17)) count check s t14:=by kernel_rfl
theorem q11o_ (J:Orc (As [.bool])) (x:As [.pr (.int .u32) (.pr (.ar 8 .bool) (.ar 8 YTT8)),.int .i64,.int .u32]):rfn Tryz.prog q3z_ 6 18446744073709551616 (Ev.get q41_) 229 q2y_ J x=qj7_ (fun count check s t14=>J 6 [] (qiu_ count check s t14)) x.1 x.2.1 x.2.2.1:=by kernel_rfl
theorem q12b_  (check s):jfn Tryz.prog q3z_ 6 18446744073709551616 (Ev.get q41_) 229 q2y_ 7 [] (qj8_ check s)=q50_ check s:=by
 rw [q6_ (by decide)]
 rw [q11j_]
 rfl
theorem q12x_  (count check s t16 t17):jfn Tryz.prog q3z_ 6 18446744073709551616 (Ev.get q41_) 229 q2y_ 58 [] (qai_ count check s t16 t17)=qe3_ count check s t16 t17:=by
 rw [q6_ (by decide)]
 rw [qn_ (by kernel_rfl)]
 refine qh_ (σ:=(Int)×(Int)×YTT9×(List Bool)×(Int)) (mk:=fun s=>qai_ s.1 s.2.1 s.2.2.1 s.2.2.2.1 s.2.2.2.2) (fun w2 s=>?_) 18446744073709551616 (count,check,s,t16,t17)
 have e3:(fun check s=>(jfn Tryz.prog q3z_ 6 18446744073709551616 (Ev.get q41_) 229 q2y_) 7 [] (qj8_ check s))=q50_:=by funext check s; exact q12b_ check s
 refine (q126_ _ w2 s.1 s.2.1 s.2.2.1 s.2.2.2.1 s.2.2.2.2).trans ?_
 rw [e3]
theorem q12r_  (count check s t14):jfn Tryz.prog q3z_ 6 18446744073709551616 (Ev.get q41_) 229 q2y_ 6 [] (qiu_ count check s t14)=qep_ count check s t14:=by
 rw [q6_ (by decide)]
 have e2:(fun count check s t16 t17=>(jfn Tryz.prog q3z_ 6 18446744073709551616 (Ev.get q41_) 229 q2y_) 58 [] (qai_ count check s t16 t17))=qe3_:=by funext count check s t16 t17; exact q12x_ count check s t16 t17
 rw [q11z_,e2]
 rfl
theorem q143_ (x:As [.pr (.int .u32) (.pr (.ar 8 .bool) (.ar 8 YTT8)),.int .i64,.int .u32]):evT Tryz.prog q3z_ 6 18446744073709551616 (Ev.get q41_) 229 q2y_ x=qjp_ x:=by
 have e1:(fun count check s t14=>(jfn Tryz.prog q3z_ 6 18446744073709551616 (Ev.get q41_) 229 q2y_) 6 [] (qiu_ count check s t14))=qep_:=by funext count check s t14; exact q12r_ count check s t14
 rw [qi_,q11o_,e1]
 rfl
theorem q12u_:CtOk Tryz.prog (fun _=>True) 229 ⟨q2y_,qjp_⟩:=qc_ (q0_ Ev.bx_ok (q0_ q162_ (q0_ qst_ q3_))) q143_
@[reducible] def qxv_:Sh:=⟨[.d (.pr (.sl (.int .u16)) YTT0),.d (.pr (.int .u16) YTT6)],[],[.pr (.sl (.int .u16)) YTT0,.pr (.int .u16) YTT6],[.d (.bool)],[],0,[.bool]⟩
def qy1_:Env:=(cts [(2000035,Ev.bxCt),(215,(⟨qrb_,qfe_⟩:Ct)),(229,(⟨q2y_,qjp_⟩:Ct))])
def qhs_ (a:List Int×(Int×Int)×Int×Int×Int×YTT9×Int) (c:Int×Int×Int×Int×Int):Option (As [.bool]) :=
 Option.bind (qfe_ (a,2,c.2.2.1,())) fun y=>if y.1=true then some (false,()) else Option.bind (qfe_ (a,1,c.2.2.1,())) fun y=>if (!y.1)=true then some (true,()) else Option.bind (qjp_ (a.2.2.2.2.2.1,cvt .i64 c.2.2.2.1,c.2.2.2.2,())) fun y=>some (!y.1,())
def qhb_ (x:As [.pr (.sl (.int .u16)) YTT0,.pr (.int .u16) YTT6]):Option (As [.bool]):=qhs_ x.1 x.2.1
theorem qxb_:CtOk Tryz.prog (fun _=>True) 221 ⟨qxv_,qhb_⟩:=ctn (env:=qy1_) (q0_ Ev.bx_ok (q0_ qtd_ (q0_ q12u_ q3_))) 6 fun J x=>by kernel_rfl
@[reducible] def q17m_:Sh:=⟨[.d (.pr (.int .u16) (.int .i64)),.d (.int .u16)],[],[.pr (.int .u16) (.int .i64),.int .u16],[.d (.pr (.int .u16) (.int .i64)),.d (.int .i64)],[],0,[.pr (.int .u16) (.int .i64),.int .i64]⟩
def qqy_ (l:Int×Int) (owner:Int):Option (As [.pr (.int .u16) (.int .i64),.int .i64]) :=
 Option.bind (q7p_ (l,())) fun y=>if eqi owner 0=true then some (y.1,2,()) else if nei y.1.1 owner=true then some (y.1,22,()) else Option.bind (q9l_ (owner,())) fun y=>some (y.1,0,())
def quf_ (x:As [.pr (.int .u16) (.int .i64),.int .u16]):Option (As [.pr (.int .u16) (.int .i64),.int .i64]):=qqy_ x.1 x.2.1
theorem q15l_:CtOk Tryz.prog (fun _=>True) 230 ⟨q17m_,quf_⟩:=ctn (q0_ qfy_ (q0_ qko_ q3_)) 6 fun J x=>by kernel_rfl
@[reducible] def q112_:Sh:=⟨[.d (.pr (.sl (.int .u16)) YTT0),.d (.pr (.int .u16) YTT6)],[],[.pr (.sl (.int .u16)) YTT0,.pr (.int .u16) YTT6],[.d (.pr (.sl (.int .u16)) YTT0)],[],0,[.pr (.sl (.int .u16)) YTT0]⟩
def qlr_ (a:List Int×(Int×Int)×Int×Int×Int×YTT9×Int) (c:Int×Int×Int×Int×Int):Option (As [.pr (.sl (.int .u16)) YTT0]) :=
 Option.bind (quf_ (a.2.1,c.1,())) fun y=>some ((a.1,y.1,2,a.2.2.2),())
def qlj_ (x:As [.pr (.sl (.int .u16)) YTT0,.pr (.int .u16) YTT6]):Option (As [.pr (.sl (.int .u16)) YTT0]):=qlr_ x.1 x.2.1
theorem qzs_:CtOk Tryz.prog (fun _=>True) 222 ⟨q112_,qlj_⟩:=ctn (q0_ q15l_ q3_) 6 fun J x=>by kernel_rfl
@[reducible] def qyn_:Sh:=⟨[.d (.pr (.sl (.int .u16)) YTT0),.d (.pr (.int .u16) YTT6)],[],[.pr (.sl (.int .u16)) YTT0,.pr (.int .u16) YTT6],[.d (.bool)],[],0,[.bool]⟩
def qyd_:Env:=(cts [(2000035,Ev.bxCt),(215,(⟨qrb_,qfe_⟩:Ct))])
def qjl_ (a:List Int×(Int×Int)×Int×Int×Int×YTT9×Int) (c:Int×Int×Int×Int×Int):Option (As [.bool]) :=
 if nei a.2.2.2.2.1 c.2.2.1=true then Option.bind (qfe_ (a,2,c.2.2.1,())) fun y=>some (!y.1,()) else some (false,())
def qij_ (x:As [.pr (.sl (.int .u16)) YTT0,.pr (.int .u16) YTT6]):Option (As [.bool]):=qjl_ x.1 x.2.1
theorem qxr_:CtOk Tryz.prog (fun _=>True) 223 ⟨qyn_,qij_⟩:=ctn (env:=qyd_) (q0_ Ev.bx_ok (q0_ qtd_ q3_)) 6 fun J x=>by kernel_rfl
@[reducible] def qv4_:Sh:=⟨[.d YTT8],[],[.pr (.int .i64) (.sl (.int .u16))],[.d (.bool)],[],0,[.bool]⟩
def qoh_ (x:Int×List Int):Option (As [.bool]) :=
 Option.bind (qa8_ (x,())) fun y=>some (!y.1,())
def qpk_ (x:As [.pr (.int .i64) (.sl (.int .u16))]):Option (As [.bool]):=qoh_ x.1
theorem qp3_:CtOk Tryz.prog (fun _=>True) 236 ⟨qv4_,qpk_⟩:=ctn (q0_ qnc_ q3_) 6 fun J x=>by kernel_rfl
@[reducible] def q2c_:Sh:=⟨[.d (.sl YTT8),.fn (.func 236) [] []],[],[.sl YTT8],[.d (.int .i64)],[],0,[.int .i64]⟩
def q3e_:Env:=(cts [(236,(⟨qv4_,qpk_⟩:Ct))])
def q3d_:List (Nat×Hint):=[(26,⟨[],[0,1,7,8]⟩)]
def q22_ (s:List (Int×List Int)) (t7 t8:Int):St:={ fr:=[(0,.d (.sl YTT8) s),(1,.fn (.func 236) [] []),(7,.d (.int .i64) t7),(8,.d (.int .i64) t8)],nt:=19,up:=[],own:=[],nx:=0,log:=[],ln:=0 }
def q23_ (self1:List (Int×List Int)->Int->Int->Option (As [.int .i64])) (s:List (Int×List Int)) (t7 t8:Int):Option (As [.int .i64]) :=
 if lt t8 t7=true then Option.bind (at? s t8) fun y=>Option.bind (qpk_ (y,())) fun y=>if y.1=true then some (t8,()) else self1 s t7 (add .i64 t8 1) else some (-1,())
def qch_ (j1:List (Int×List Int)->Int->Int->Option (As [.int .i64])) (s:List (Int×List Int)):Option (As [.int .i64]) :=
 j1 s (Int.ofNat (List.length s)) 0
def q31_ (s:List (Int×List Int)) (t7 t8:Int):Option (As [.int .i64]) :=
 loopF (fun (self:(List (Int×List Int))×(Int)×(Int)->Option (As [.int .i64])) (s:(List (Int×List Int))×(Int)×(Int))=>q23_ (fun s t7 t8=>self (s,t7,t8)) s.1 s.2.1 s.2.2) 18446744073709551616 (s,t7,t8)
def q57_ (x:As [.sl YTT8]):Option (As [.int .i64]):=qch_ q31_ x.1
theorem qnx_  (J w1 s t7 t8):pfn Tryz.prog q3e_ 6 18446744073709551616 (Ev.get q3d_) 237 q2c_ J 26 [w1] (q22_ s t7 t8)=q23_ (fun s t7 t8=>w1 (q22_ s t7 t8)) s t7 t8:=by kernel_rfl
theorem qnj_ (J:Orc (As [.int .i64])) (x:As [.sl YTT8]):rfn Tryz.prog q3e_ 6 18446744073709551616 (Ev.get q3d_) 237 q2c_ J x=qch_ (fun s t7 t8=>J 26 [] (q22_ s t7 t8)) x.1:=by kernel_rfl
theorem qmz_  (s t7 t8):jfn Tryz.prog q3e_ 6 18446744073709551616 (Ev.get q3d_) 237 q2c_ 26 [] (q22_ s t7 t8)=q31_ s t7 t8:=by
 rw [q6_ (by decide)]
 rw [qn_ (by kernel_rfl)]
 refine qh_ (σ:=(List (Int×List Int))×(Int)×(Int)) (mk:=fun s=>q22_ s.1 s.2.1 s.2.2) (fun w1 s=>?_) 18446744073709551616 (s,t7,t8)
 refine (qnx_ _ w1 s.1 s.2.1 s.2.2).trans ?_
 rfl
theorem qof_ (x:As [.sl YTT8]):evT Tryz.prog q3e_ 6 18446744073709551616 (Ev.get q3d_) 237 q2c_ x=q57_ x:=by
 have e1:(fun s t7 t8=>(jfn Tryz.prog q3e_ 6 18446744073709551616 (Ev.get q3d_) 237 q2c_) 26 [] (q22_ s t7 t8))=q31_:=by funext s t7 t8; exact qmz_ s t7 t8
 rw [qi_,qnj_,e1]
 rfl
theorem qo8_:CtOk Tryz.prog (fun _=>True) 237 ⟨q2c_,q57_⟩:=qc_ (q0_ qp3_ q3_) qof_
@[reducible] def qlm_:Sh:=⟨[.d (.sl YTT8),.fn (.func 236) [] []],[],[.sl YTT8],[.d (.bool)],[],0,[.bool]⟩
def q5d_ (s:List (Int×List Int)):Option (As [.bool]) :=
 Option.bind (q57_ (s,())) fun y=>some (ge y.1 0,())
def q7i_ (x:As [.sl YTT8]):Option (As [.bool]):=q5d_ x.1
theorem qjx_:CtOk Tryz.prog (fun _=>True) 235 ⟨qlm_,q7i_⟩:=ctn (q0_ qp3_ (q0_ qo8_ q3_)) 6 fun J x=>by kernel_rfl
@[reducible] def q10v_:Sh:=⟨[.d (.sl YTT8)],[],[.sl YTT8],[.d (.bool)],[],0,[.bool]⟩
def qt6_ (l:List (Int×List Int)):Option (As [.bool]) :=
 Option.bind (q7i_ (l,())) fun y=>some (!y.1,())
def qui_ (x:As [.sl YTT8]):Option (As [.bool]):=qt6_ x.1
theorem q19a_:CtOk Tryz.prog (fun _=>True) 233 ⟨q10v_,qui_⟩:=ctn (q0_ qjx_ (q0_ qp3_ q3_)) 6 fun J x=>by kernel_rfl
@[reducible] def q8b_:Sh:=⟨[.d (.sl (.int .u16)),.d (.sl YTT8)],[],[.sl (.int .u16),.sl YTT8],[.d (.sl (.int .u16)),.d (.int .i64)],[],0,[.sl (.int .u16),.int .i64]⟩
def q9s_:Env:=(cts [(131,(⟨q75_,q37_⟩:Ct)),(233,(⟨q10v_,qui_⟩:Ct))])
def qa6_:List (Nat×Hint):=[(31,⟨[],[0]⟩),(250,⟨[],[0,16,17,18]⟩)]
def qdn_ (t16:List (Int×List Int)) (t17 t18:Int) (bank:List Int):St:={ fr:=[(0,.row 0),(16,.d (.sl YTT8) t16),(17,.d (.int .i64) t17),(18,.d (.int .i64) t18)],nt:=31,up:=[],own:=[(0,.row (.int .u16) 23 bank)],nx:=1,log:=[],ln:=0 }
def qnt_ (bank:List Int):St:={ fr:=[(0,.row 0)],nt:=31,up:=[],own:=[(0,.row (.int .u16) 23 bank)],nx:=1,log:=[],ln:=0 }
def qdq_ (j2:List Int->Option (As [.sl (.int .u16),.int .i64])) (self1:List (Int×List Int)->Int->Int->List Int->Option (As [.sl (.int .u16),.int .i64])) (t16:List (Int×List Int)) (t17 t18:Int) (bank:List Int):Option (As [.sl (.int .u16),.int .i64]) :=
 if lt t18 t17=true then Option.bind (at? t16 t18) fun y=>need (ge y.1 0) (need (le y.1 (Int.ofNat (List.length bank))) (need (le (Int.ofNat (List.length bank)) (Int.ofNat (List.length bank))) (need (le (y.1 + (Int.ofNat (List.length bank) - y.1)) (Int.ofNat (List.length bank))) (self1 t16 t17 (add .i64 t18 1) (List.take (Int.toNat y.1) bank++List.take (Int.toNat (Int.ofNat (List.length bank) - y.1)) y.2++List.drop (Int.toNat y.1 + List.length (List.take (Int.toNat (Int.ofNat (List.length bank) - y.1)) y.2)) bank))))) else j2 bank
def qw7_ (bank:List Int):Option (As [.sl (.int .u16),.int .i64]) :=
 some (bank,0,())
def qmk_ (j1:List (Int×List Int)->Int->Int->List Int->Option (As [.sl (.int .u16),.int .i64])) (bank:List Int) (l:List (Int×List Int)):Option (As [.sl (.int .u16),.int .i64]) :=
 if nei (Int.ofNat (List.length bank)) 64=true then some ([],21,()) else Option.bind (qui_ (l,())) fun y=>if (!y.1)=true then some ([],20,()) else Option.bind (q37_ (bank,())) fun y=>j1 l (Int.ofNat (List.length l)) 0 y.1
def qsh_ (bank:List Int):Option (As [.sl (.int .u16),.int .i64]):=qw7_ bank
def qe8_ (t16:List (Int×List Int)) (t17 t18:Int) (bank:List Int):Option (As [.sl (.int .u16),.int .i64]) :=
 loopF (fun (self:(List (Int×List Int))×(Int)×(Int)×(List Int)->Option (As [.sl (.int .u16),.int .i64])) (s:(List (Int×List Int))×(Int)×(Int)×(List Int))=>qdq_ (qsh_) (fun t16 t17 t18 bank=>self (t16,t17,t18,bank)) s.1 s.2.1 s.2.2.1 s.2.2.2) 18446744073709551616 (t16,t17,t18,bank)
def qsu_ (x:As [.sl (.int .u16),.sl YTT8]):Option (As [.sl (.int .u16),.int .i64]):=qmk_ qe8_ x.1 x.2.1
theorem q17n_  (J bank):pfn Tryz.prog q9s_ 6 18446744073709551616 (Ev.get qa6_) 231 q8b_ J 31 [] (qnt_ bank)=qw7_ bank:=by kernel_rfl
theorem q15n_  (J w1 t16 t17 t18 bank):pfn Tryz.prog q9s_ 6 18446744073709551616 (Ev.get qa6_) 231 q8b_ J 250 [w1] (qdn_ t16 t17 t18 bank)=qdq_ (fun bank=>J 31 [] (qnt_ bank)) (fun t16 t17 t18 bank=>w1 (qdn_ t16 t17 t18 bank)) t16 t17 t18 bank:=by kernel_rfl
theorem q178_ (J:Orc (As [.sl (.int .u16),.int .i64])) (x:As [.sl (.int .u16),.sl YTT8]):rfn Tryz.prog q9s_ 6 18446744073709551616 (Ev.get qa6_) 231 q8b_ J x=qmk_ (fun t16 t17 t18 bank=>J 250 [] (qdn_ t16 t17 t18 bank)) x.1 x.2.1:=by kernel_rfl
theorem q16k_  (bank):jfn Tryz.prog q9s_ 6 18446744073709551616 (Ev.get qa6_) 231 q8b_ 31 [] (qnt_ bank)=qsh_ bank:=by
 rw [q6_ (by decide)]
 rw [q17n_]
 rfl
theorem q17q_  (t16 t17 t18 bank):jfn Tryz.prog q9s_ 6 18446744073709551616 (Ev.get qa6_) 231 q8b_ 250 [] (qdn_ t16 t17 t18 bank)=qe8_ t16 t17 t18 bank:=by
 rw [q6_ (by decide)]
 rw [qn_ (by kernel_rfl)]
 refine qh_ (σ:=(List (Int×List Int))×(Int)×(Int)×(List Int)) (mk:=fun s=>qdn_ s.1 s.2.1 s.2.2.1 s.2.2.2) (fun w1 s=>?_) 18446744073709551616 (t16,t17,t18,bank)
 have e2:(fun bank=>(jfn Tryz.prog q9s_ 6 18446744073709551616 (Ev.get qa6_) 231 q8b_) 31 [] (qnt_ bank))=qsh_:=funext fun bank=>q16k_ bank
 refine (q15n_ _ w1 s.1 s.2.1 s.2.2.1 s.2.2.2).trans ?_
 rw [e2]
theorem q191_ (x:As [.sl (.int .u16),.sl YTT8]):evT Tryz.prog q9s_ 6 18446744073709551616 (Ev.get qa6_) 231 q8b_ x=qsu_ x:=by
 have e1:(fun t16 t17 t18 bank=>(jfn Tryz.prog q9s_ 6 18446744073709551616 (Ev.get qa6_) 231 q8b_) 250 [] (qdn_ t16 t17 t18 bank))=qe8_:=by funext t16 t17 t18 bank; exact q17q_ t16 t17 t18 bank
 rw [qi_,q178_,e1]
 rfl
theorem q180_:CtOk Tryz.prog (fun _=>True) 231 ⟨q8b_,qsu_⟩:=qc_ (q0_ qh5_ (q0_ q19a_ q3_)) q191_
@[reducible] def q117_:Sh:=⟨[.d (.pr (.sl (.int .u16)) YTT0),.d (.pr (.int .u16) YTT6)],[],[.pr (.sl (.int .u16)) YTT0,.pr (.int .u16) YTT6],[.d (.pr (.sl (.int .u16)) YTT0)],[],0,[.pr (.sl (.int .u16)) YTT0]⟩
def qm9_ (a:List Int×(Int×Int)×Int×Int×Int×YTT9×Int) (c:Int×Int×Int×Int×Int):Option (As [.pr (.sl (.int .u16)) YTT0]) :=
 if eqi a.2.2.2.2.1 c.2.2.1=true then some (a,()) else Option.bind (q8t_ (a.2.2.2.2.2.1,())) fun y=>Option.bind (qsu_ (a.1,y.1,())) fun y=>if nei y.2.1 0=true then some (a,()) else Option.bind (qa2_ ((y.1,a.2.1,a.2.2.1,a.2.2.2.1,c.2.2.1,a.2.2.2.2.2),())) fun y=>some (y.1,())
def qmn_ (x:As [.pr (.sl (.int .u16)) YTT0,.pr (.int .u16) YTT6]):Option (As [.pr (.sl (.int .u16)) YTT0]):=qm9_ x.1 x.2.1
theorem q10s_:CtOk Tryz.prog (fun _=>True) 224 ⟨q117_,qmn_⟩:=ctn (q0_ qst_ (q0_ qdx_ (q0_ q180_ q3_))) 6 fun J x=>by kernel_rfl
@[reducible] def q10k_:Sh:=⟨[.d (.pr (.sl (.int .u16)) YTT0),.d (.pr (.int .u16) YTT6)],[],[.pr (.sl (.int .u16)) YTT0,.pr (.int .u16) YTT6],[.d (.bool)],[],0,[.bool]⟩
def q10c_:Env:=(cts [(2000035,Ev.bxCt)])
def qye_ (a:List Int×(Int×Int)×Int×Int×Int×YTT9×Int) (c:Int×Int×Int×Int×Int):Option (As [.bool]) :=
 some (le c.2.2.1 a.2.2.2.2.1,())
def qkd_ (x:As [.pr (.sl (.int .u16)) YTT0,.pr (.int .u16) YTT6]):Option (As [.bool]):=qye_ x.1 x.2.1
theorem qzg_:CtOk Tryz.prog (fun _=>True) 225 ⟨q10k_,qkd_⟩:=ctn (env:=q10c_) (q0_ Ev.bx_ok q3_) 6 fun J x=>by kernel_rfl
@[reducible] def qbx_:Sh:=⟨[.d (.pr (.sl (.int .u16)) YTT0),.d (.pr (.int .u16) YTT6)],[],[.pr (.sl (.int .u16)) YTT0,.pr (.int .u16) YTT6],[.d (.pr (.sl (.int .u16)) YTT0)],[],0,[.pr (.sl (.int .u16)) YTT0]⟩
def qgs_:Env:=(cts [(2000035,Ev.bxCt),(180,(⟨qv6_,qa2_⟩:Ct))])
def qgi_:List (Nat×Hint):=[(6,⟨[],[2,4,17]⟩)]
def qjd_ (a:List Int×(Int×Int)×Int×Int×Int×YTT9×Int) (t4:Int) (t17:Bool) (t4_2:List YTT2):St:={ fr:=[(2,.pe (.pr (.sl (.int .u16)) YTT0) a),(4,.prw 0 t4 32 0),(17,.d .bool t17)],nt:=21,up:=[],own:=[(0,.row (.pr (.sl (.int .u16)) YTT0) 35 t4_2)],nx:=1,log:=[],ln:=0 }
def qig_ (a:List Int×(Int×Int)×Int×Int×Int×YTT9×Int) (t4:Int) (t17:Bool) (t4_2:List YTT2):Option (As [.pr (.sl (.int .u16)) YTT0]) :=
 if t17=true then Option.bind (at? t4_2 t4) fun x=>Option.bind (at? (List.set t4_2 (Int.toNat t4) a) t4) fun y=>Option.bind (at? (List.set t4_2 (Int.toNat t4) a) t4) fun y=>some (y,()) else Option.bind (qa2_ (a,())) fun y=>Option.bind (at? t4_2 t4) fun x=>Option.bind (at? (List.set t4_2 (Int.toNat t4) y.1) t4) fun y_1=>Option.bind (at? (List.set t4_2 (Int.toNat t4) y.1) t4) fun y=>some (y,())
def qj9_ (j1:List Int×(Int×Int)×Int×Int×Int×YTT9×Int->Int->Bool->List YTT2->Option (As [.pr (.sl (.int .u16)) YTT0])) (a:List Int×(Int×Int)×Int×Int×Int×YTT9×Int) (c:Int×Int×Int×Int×Int):Option (As [.pr (.sl (.int .u16)) YTT0]) :=
 if nei a.2.1.1 c.1=true then j1 a 0 true [zAg0] else j1 a 0 (nei a.2.2.2.1 c.2.2.1) [zAg0]
def qdy_ (a:List Int×(Int×Int)×Int×Int×Int×YTT9×Int) (t4:Int) (t17:Bool) (t4_2:List YTT2):Option (As [.pr (.sl (.int .u16)) YTT0]):=qig_ a t4 t17 t4_2
def qk2_ (x:As [.pr (.sl (.int .u16)) YTT0,.pr (.int .u16) YTT6]):Option (As [.pr (.sl (.int .u16)) YTT0]):=qj9_ qdy_ x.1 x.2.1
theorem q124_  (J a t4 t17 t4_2):pfn Tryz.prog qgs_ 6 18446744073709551616 (Ev.get qgi_) 226 qbx_ J 6 [] (qjd_ a t4 t17 t4_2)=qig_ a t4 t17 t4_2:=by kernel_rfl
theorem q125_ (J:Orc (As [.pr (.sl (.int .u16)) YTT0])) (x:As [.pr (.sl (.int .u16)) YTT0,.pr (.int .u16) YTT6]):rfn Tryz.prog qgs_ 6 18446744073709551616 (Ev.get qgi_) 226 qbx_ J x=qj9_ (fun a t4 t17 t4_2=>J 6 [] (qjd_ a t4 t17 t4_2)) x.1 x.2.1:=by kernel_rfl
theorem q11y_  (a t4 t17 t4_2):jfn Tryz.prog qgs_ 6 18446744073709551616 (Ev.get qgi_) 226 qbx_ 6 [] (qjd_ a t4 t17 t4_2)=qdy_ a t4 t17 t4_2:=by
 rw [q6_ (by decide)]
 rw [q124_]
 rfl
theorem q14n_ (x:As [.pr (.sl (.int .u16)) YTT0,.pr (.int .u16) YTT6]):evT Tryz.prog qgs_ 6 18446744073709551616 (Ev.get qgi_) 226 qbx_ x=qk2_ x:=by
 have e1:(fun a t4 t17 t4_2=>(jfn Tryz.prog qgs_ 6 18446744073709551616 (Ev.get qgi_) 226 qbx_) 6 [] (qjd_ a t4 t17 t4_2))=qdy_:=by funext a t4 t17 t4_2; exact q11y_ a t4 t17 t4_2
 rw [qi_,q125_,e1]
 rfl
theorem q12h_:CtOk Tryz.prog (fun _=>True) 226 ⟨qbx_,qk2_⟩:=qc_ (q0_ Ev.bx_ok (q0_ qdx_ q3_)) q14n_
@[reducible] def quk_:Sh:=⟨[.d (.pr (.sl (.int .u16)) YTT0),.d (.pr (.int .u16) YTT6)],[],[.pr (.sl (.int .u16)) YTT0,.pr (.int .u16) YTT6],[.d (.pr (.sl (.int .u16)) YTT0),.d (.int .i64)],[],0,[.pr (.sl (.int .u16)) YTT0,.int .i64]⟩
def qt3_ (a:List Int×(Int×Int)×Int×Int×Int×YTT9×Int) (c:Int×Int×Int×Int×Int):Option (As [.pr (.sl (.int .u16)) YTT0,.int .i64]) :=
 Option.bind (qf0_ (a,())) fun y=>amb (eqAs quk_.rs) [if eqi 1 c.2.1=true then if eqi c.1 0=true then some (y.1,2,()) else if eqi c.2.2.1 0=true then some (y.1,2,()) else Option.bind (q42_ (y.1,c.1,())) fun y_1=>if y_1.1=true then some (y.1,22,()) else Option.bind (qli_ (y.1,c,())) fun y_2=>if y_2.1=true then some (y.1,23,()) else Option.bind (qpj_ (y.1,c,())) fun y=>some (y.1,0,()) else if eqi 2 c.2.1=true then if eqi c.1 0=true then some (y.1,2,()) else if eqi c.2.2.1 0=true then some (y.1,2,()) else Option.bind (q42_ (y.1,c.1,())) fun y_1=>if y_1.1=true then some (y.1,22,()) else Option.bind (qhb_ (y.1,c,())) fun y_2=>if y_2.1=true then some (y.1,23,()) else Option.bind (qlj_ (y.1,c,())) fun y=>some (y.1,0,()) else if eqi 3 c.2.1=true then if eqi c.1 0=true then some (y.1,2,()) else if eqi c.2.2.1 0=true then some (y.1,2,()) else Option.bind (q42_ (y.1,c.1,())) fun y_1=>if y_1.1=true then some (y.1,22,()) else Option.bind (qij_ (y.1,c,())) fun y_2=>if y_2.1=true then some (y.1,23,()) else Option.bind (qmn_ (y.1,c,())) fun y=>some (y.1,0,()) else if eqi 4 c.2.1=true then if eqi c.1 0=true then some (y.1,2,()) else if eqi c.2.2.1 0=true then some (y.1,2,()) else Option.bind (q42_ (y.1,c.1,())) fun y_1=>if y_1.1=true then some (y.1,22,()) else Option.bind (qkd_ (y.1,c,())) fun y_2=>if y_2.1=true then some (y.1,23,()) else Option.bind (qk2_ (y.1,c,())) fun y=>some (y.1,0,()) else if eqi c.1 0=true then some (y.1,2,()) else if eqi c.2.2.1 0=true then some (y.1,2,()) else some (y.1,2,()),if eqi 1 c.2.1=true then if eqi c.1 0=true then some (y.1,2,()) else if eqi c.2.2.1 0=true then some (y.1,2,()) else Option.bind (q42_ (y.1,c.1,())) fun y_1=>if y_1.1=true then some (y.1,22,()) else Option.bind (qli_ (y.1,c,())) fun y_2=>if y_2.1=true then some (y.1,23,()) else Option.bind (qpj_ (y.1,c,())) fun y=>some (y.1,0,()) else if eqi 2 c.2.1=true then if eqi c.1 0=true then some (y.1,2,()) else if eqi c.2.2.1 0=true then some (y.1,2,()) else Option.bind (q42_ (y.1,c.1,())) fun y_1=>if y_1.1=true then some (y.1,22,()) else Option.bind (qhb_ (y.1,c,())) fun y_2=>if y_2.1=true then some (y.1,23,()) else Option.bind (qlj_ (y.1,c,())) fun y=>some (y.1,0,()) else if eqi 3 c.2.1=true then if eqi c.1 0=true then some (y.1,2,()) else if eqi c.2.2.1 0=true then some (y.1,2,()) else Option.bind (q42_ (y.1,c.1,())) fun y_1=>if y_1.1=true then some (y.1,22,()) else Option.bind (qij_ (y.1,c,())) fun y_2=>if y_2.1=true then some (y.1,23,()) else Option.bind (qmn_ (y.1,c,())) fun y=>some (y.1,0,()) else if eqi 4 c.2.1=true then if eqi c.1 0=true then some (y.1,2,()) else if eqi c.2.2.1 0=true then some (y.1,2,()) else Option.bind (q42_ (y.1,c.1,())) fun y_1=>if y_1.1=true then some (y.1,22,()) else Option.bind (qkd_ (y.1,c,())) fun y_2=>if y_2.1=true then some (y.1,23,()) else Option.bind (qk2_ (y.1,c,())) fun y=>some (y.1,0,()) else if eqi c.1 0=true then some (y.1,2,()) else if eqi c.2.2.1 0=true then some (y.1,2,()) else some (y.1,2,())]
def qfg_ (x:As [.pr (.sl (.int .u16)) YTT0,.pr (.int .u16) YTT6]):Option (As [.pr (.sl (.int .u16)) YTT0,.int .i64]):=qt3_ x.1 x.2.1
theorem q19x_:CtOk Tryz.prog (fun _=>True) 204 ⟨quk_,qfg_⟩:=ctn (q0_ qn0_ (q0_ qsz_ (q0_ qz4_ (q0_ q11l_ (q0_ qxb_ (q0_ qzs_ (q0_ qxr_ (q0_ q10s_ (q0_ qzg_ (q0_ q12h_ q3_)))))))))) 6 fun J x=>by kernel_rfl
end Go.Proofs.Lx
end
