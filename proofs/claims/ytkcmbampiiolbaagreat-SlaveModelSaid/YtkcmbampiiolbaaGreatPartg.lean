/- Proved in the last of these 13 parts (this is part 7): SlaveModel returns true, whatever the link, the bank, the ticks and what comes. Conditions: those of the given statement, and no others. -/
import Derived.Test.YtkcmbampiiolbaaGreatParte
import Derived.Test.YtkcmbampiiolbaaGreatPartf
import Derived.Test.YtkcmbampiiolbaaGreatProg
set_option linter.unusedVariables false
set_option linter.unusedSimpArgs false
set_option linter.unusedSectionVars false
section
open Go Go.Proofs Ev Sx
set_option maxRecDepth 100000
namespace Go.Proofs.Lx
abbrev YaA3q0:Type:=Int×Int×Int×Int×List Int×List Bool
@[reducible] def qr_:Sh:=⟨[.d (.pr YTT1 (.sl (.int .u16))),.d (.bool)],[],[.pr YTT1 (.sl (.int .u16)),.bool],[.d (.bool)],[],0,[.bool]⟩
def qw_:Env:=(cts [])
def qz_:List (Nat×Hint):=[(122,⟨[],[1,2,5,13,14,15,24,25,26,27,28,29,32,33,34,37,38,39,40,41,42,43,44,45,49,50]⟩),(31334,⟨[.agd 50 .bool],[1,2,7,13,14,15,51]⟩),(15666,⟨[.agd 25 (.int .i64),.agd 27 (.sl (.int .u16)),.agd 28 (.int .i64),.agd 29 .bool,.agd 33 (.int .i64),.agd 34 .bool,.agd 38 (.int .i64),.agd 40 (.sl (.int .u16)),.agd 41 (.int .i64),.agd 43 (.int .i64),.agd 44 (.int .i64),.agd 45 .bool],[1,2,7,13,14,15,46]⟩)]
def qq_ (fixed:Bool) (endV:Int) (t13:List YTT5) (t14 t15:Int) (t:List YTT5×List Int):St:={ fr:=[(1,.d .bool fixed),(2,.pb 0 0),(5,.d (.int .i64) endV),(13,.d YTT1 t13),(14,.d (.int .i64) t14),(15,.d (.int .i64) t15)],nt:=58,up:=[],own:=[(0,.box 172 [.d YTT1 t.1,.d (.sl (.int .u16)) t.2])],nx:=1,log:=[],ln:=0 }
def q58_ (fixed:Bool) (t13:List YTT5) (t14 t15:Int) (t46:Bool) (t:List YTT5×List Int) (x:Int×Int×Bool×Bool×Bool):St:={ fr:=[(1,.d .bool fixed),(2,.pb 0 0),(7,.pb 1 0),(13,.d YTT1 t13),(14,.d (.int .i64) t14),(15,.d (.int .i64) t15),(46,.d .bool t46)],nt:=58,up:=[],own:=[(0,.box 172 [.d YTT1 t.1,.d (.sl (.int .u16)) t.2]),(1,.box 168 [.d (.int .i64) x.1,.d (.int .i64) x.2.1,.d .bool x.2.2.1,.d .bool x.2.2.2.1,.d .bool x.2.2.2.2])],nx:=2,log:=[],ln:=0 }
def q5a_ (fixed:Bool) (t13:List YTT5) (t14 t15:Int) (t51:Bool) (t:List YTT5×List Int) (x:Int×Int×Bool×Bool×Bool):St:={ fr:=[(1,.d .bool fixed),(2,.pb 0 0),(7,.pb 1 0),(13,.d YTT1 t13),(14,.d (.int .i64) t14),(15,.d (.int .i64) t15),(51,.d .bool t51)],nt:=58,up:=[],own:=[(0,.box 172 [.d YTT1 t.1,.d (.sl (.int .u16)) t.2]),(1,.box 168 [.d (.int .i64) x.1,.d (.int .i64) x.2.1,.d .bool x.2.2.1,.d .bool x.2.2.2.1,.d .bool x.2.2.2.2])],nx:=2,log:=[],ln:=0 }
def q2u_ (j2:Bool->List YTT5->Int->Int->Bool->List YTT5×List Int->Int×Int×Bool×Bool×Bool->Option (As [.bool])) (self1:Bool->Int->List YTT5->Int->Int->List YTT5×List Int->Option (As [.bool])) (fixed:Bool) (endV:Int) (t13:List YTT5) (t14 t15:Int) (t:List YTT5×List Int):Option (As [.bool]) :=
 if lt t15 t14=true then Option.bind (at? t13 t15) fun y=>if lt y.1 endV=true then j2 fixed t13 t14 t15 true t y else if gt y.1 (Int.ofNat (List.length t.2))=true then j2 fixed t13 t14 t15 true t y else if lt y.2.1 1=true then j2 fixed t13 t14 t15 true t y else j2 fixed t13 t14 t15 (gt y.2.1 (Sx.sub .i64 (Int.ofNat (List.length t.2)) y.1)) t y else some (true,())
def q8b_ (j3:Bool->List YTT5->Int->Int->Bool->List YTT5×List Int->Int×Int×Bool×Bool×Bool->Option (As [.bool])) (self1:Bool->Int->List YTT5->Int->Int->List YTT5×List Int->Option (As [.bool])) (fixed:Bool) (t13:List YTT5) (t14 t15:Int) (t46:Bool) (t:List YTT5×List Int) (x:Int×Int×Bool×Bool×Bool):Option (As [.bool]) :=
 if t46=true then some (false,()) else if fixed=true then j3 fixed t13 t14 t15 x.2.2.2.1 t x else j3 fixed t13 t14 t15 false t x
def q8l_ (self1:Bool->Int->List YTT5->Int->Int->List YTT5×List Int->Option (As [.bool])) (fixed:Bool) (t13:List YTT5) (t14 t15:Int) (t51:Bool) (t:List YTT5×List Int) (x:Int×Int×Bool×Bool×Bool):Option (As [.bool]) :=
 if t51=true then some (false,()) else self1 fixed (add .i64 x.1 x.2.1) t13 t14 (add .i64 t15 1) t
def q57_ (j1:Bool->Int->List YTT5->Int->Int->List YTT5×List Int->Option (As [.bool])) (t:List YTT5×List Int) (fixed:Bool):Option (As [.bool]) :=
 if gt (Int.ofNat (List.length t.2)) 65536=true then some (false,()) else j1 fixed 0 t.1 (Int.ofNat (List.length t.1)) 0 t
def q3s_ (u1:Bool->Int->List YTT5->Int->Int->List YTT5×List Int->Option (As [.bool])) (fixed:Bool) (t13:List YTT5) (t14 t15:Int) (t51:Bool) (t:List YTT5×List Int) (x:Int×Int×Bool×Bool×Bool):Option (As [.bool]):=q8l_ u1 fixed t13 t14 t15 t51 t x
def q3u_ (u1:Bool->Int->List YTT5->Int->Int->List YTT5×List Int->Option (As [.bool])) (fixed:Bool) (t13:List YTT5) (t14 t15:Int) (t46:Bool) (t:List YTT5×List Int) (x:Int×Int×Bool×Bool×Bool):Option (As [.bool]):=q8b_ (q3s_ u1) u1 fixed t13 t14 t15 t46 t x
def q2v_ (fixed:Bool) (endV:Int) (t13:List YTT5) (t14 t15:Int) (t:List YTT5×List Int):Option (As [.bool]) :=
 loopF (fun (self:(Bool)×(Int)×(List YTT5)×(Int)×(Int)×(List YTT5×List Int)->Option (As [.bool])) (s:(Bool)×(Int)×(List YTT5)×(Int)×(Int)×(List YTT5×List Int))=>q2u_ (q3u_ (fun fixed endV t13 t14 t15 t=>self (fixed,endV,t13,t14,t15,t))) (fun fixed endV t13 t14 t15 t=>self (fixed,endV,t13,t14,t15,t)) s.1 s.2.1 s.2.2.1 s.2.2.2.1 s.2.2.2.2.1 s.2.2.2.2.2) 18446744073709551616 (fixed,endV,t13,t14,t15,t)
def q4t_ (x:As [.pr YTT1 (.sl (.int .u16)),.bool]):Option (As [.bool]):=q57_ q2v_ x.1 x.2.1
theorem qqe_  (J w1 fixed t13 t14 t15 t51 t x):pfn Tryz.prog qw_ 6 18446744073709551616 (Ev.get qz_) 119 qr_ J 31334 [w1] (q5a_ fixed t13 t14 t15 t51 t x)=q8l_ (fun fixed endV t13 t14 t15 t=>w1 (qq_ fixed endV t13 t14 t15 t)) fixed t13 t14 t15 t51 t x:=by kernel_rfl
theorem qqk_  (J w1 fixed t13 t14 t15 t46 t x):pfn Tryz.prog qw_ 6 18446744073709551616 (Ev.get qz_) 119 qr_ J 15666 [w1] (q58_ fixed t13 t14 t15 t46 t x)=q8b_ (fun fixed t13 t14 t15 t51 t x=>J 31334 [w1] (q5a_ fixed t13 t14 t15 t51 t x)) (fun fixed endV t13 t14 t15 t=>w1 (qq_ fixed endV t13 t14 t15 t)) fixed t13 t14 t15 t46 t x:=by kernel_rfl
theorem qpz_  (J w1 fixed endV t13 t14 t15 t):pfn Tryz.prog qw_ 6 18446744073709551616 (Ev.get qz_) 119 qr_ J 122 [w1] (qq_ fixed endV t13 t14 t15 t)=q2u_ (fun fixed t13 t14 t15 t46 t x=>J 15666 [w1] (q58_ fixed t13 t14 t15 t46 t x)) (fun fixed endV t13 t14 t15 t=>w1 (qq_ fixed endV t13 t14 t15 t)) fixed endV t13 t14 t15 t:=by kernel_rfl
theorem qq3_ (J:Orc (As [.bool])) (x:As [.pr YTT1 (.sl (.int .u16)),.bool]):rfn Tryz.prog qw_ 6 18446744073709551616 (Ev.get qz_) 119 qr_ J x=q57_ (fun fixed endV t13 t14 t15 t=>J 122 [] (qq_ fixed endV t13 t14 t15 t)) x.1 x.2.1:=by kernel_rfl
theorem qqg_  (w1 fixed t13 t14 t15 t51 t x):jfn Tryz.prog qw_ 6 18446744073709551616 (Ev.get qz_) 119 qr_ 31334 [w1] (q5a_ fixed t13 t14 t15 t51 t x)=q3s_ (fun fixed endV t13 t14 t15 t=>w1 (qq_ fixed endV t13 t14 t15 t)) fixed t13 t14 t15 t51 t x:=by
 rw [q6_ (by decide)]
 rw [qqe_]
 rfl
theorem qqn_  (w1 fixed t13 t14 t15 t46 t x):jfn Tryz.prog qw_ 6 18446744073709551616 (Ev.get qz_) 119 qr_ 15666 [w1] (q58_ fixed t13 t14 t15 t46 t x)=q3u_ (fun fixed endV t13 t14 t15 t=>w1 (qq_ fixed endV t13 t14 t15 t)) fixed t13 t14 t15 t46 t x:=by
 rw [q6_ (by decide)]
 have e3:(fun fixed t13 t14 t15 t51 t x=>(jfn Tryz.prog qw_ 6 18446744073709551616 (Ev.get qz_) 119 qr_) 31334 [w1] (q5a_ fixed t13 t14 t15 t51 t x))=q3s_ (fun fixed endV t13 t14 t15 t=>w1 (qq_ fixed endV t13 t14 t15 t)):=by funext fixed t13 t14 t15 t51 t x; exact qqg_ w1 fixed t13 t14 t15 t51 t x
 rw [qqk_,e3]
 rfl
theorem qq8_  (fixed endV t13 t14 t15 t):jfn Tryz.prog qw_ 6 18446744073709551616 (Ev.get qz_) 119 qr_ 122 [] (qq_ fixed endV t13 t14 t15 t)=q2v_ fixed endV t13 t14 t15 t:=by
 rw [q6_ (by decide)]
 rw [qo_ (by kernel_rfl)]
 refine qj_ (σ:=(Bool)×(Int)×(List YTT5)×(Int)×(Int)×(List YTT5×List Int)) (mk:=fun s=>qq_ s.1 s.2.1 s.2.2.1 s.2.2.2.1 s.2.2.2.2.1 s.2.2.2.2.2) (fun w1 s=>?_) 18446744073709551616 (fixed,endV,t13,t14,t15,t)
 have e2:(fun fixed t13 t14 t15 t46 t x=>(jfn Tryz.prog qw_ 6 18446744073709551616 (Ev.get qz_) 119 qr_) 15666 [w1] (q58_ fixed t13 t14 t15 t46 t x))=q3u_ (fun fixed endV t13 t14 t15 t=>w1 (qq_ fixed endV t13 t14 t15 t)):=by funext fixed t13 t14 t15 t46 t x; exact qqn_ w1 fixed t13 t14 t15 t46 t x
 refine (qpz_ _ w1 s.1 s.2.1 s.2.2.1 s.2.2.2.1 s.2.2.2.2.1 s.2.2.2.2.2).trans ?_
 rw [e2]
theorem qr2_ (x:As [.pr YTT1 (.sl (.int .u16)),.bool]):evT Tryz.prog qw_ 6 18446744073709551616 (Ev.get qz_) 119 qr_ x=q4t_ x:=by
 have e1:(fun fixed endV t13 t14 t15 t=>(jfn Tryz.prog qw_ 6 18446744073709551616 (Ev.get qz_) 119 qr_) 122 [] (qq_ fixed endV t13 t14 t15 t))=q2v_:=by funext fixed endV t13 t14 t15 t; exact qq8_ fixed endV t13 t14 t15 t
 rw [qi_,qq3_,e1]
 rfl
theorem qq7_:CtOk Tryz.prog (fun _=>True) 119 ⟨qr_,q4t_⟩:=qd_ q3_ qr2_
@[reducible] def qr8_:Sh:=⟨[.d (.pr YTT1 (.pr YTT1 (.pr YTT1 YTT1))),.d (.pr (.sl .bool) YTT10)],[],[.pr YTT1 (.pr YTT1 (.pr YTT1 YTT1)),.pr (.sl .bool) YTT10],[.d (.bool)],[],0,[.bool]⟩
def qor_ (s:List YTT5×List YTT5×List YTT5×List YTT5) (m:List Bool×List Bool×List Int×List Int):Option (As [.bool]) :=
 Option.bind (qii_ (s,m,())) fun y=>Option.bind (q5q_ (y.1.1,false,())) fun y_1=>if y_1.1=true then Option.bind (q5q_ (y.1.2.1,true,())) fun y_2=>if y_2.1=true then Option.bind (q4t_ (y.1.2.2.1,false,())) fun y_3=>if y_3.1=true then Option.bind (q4t_ (y.1.2.2.2,true,())) fun y=>some (y.1,()) else some (false,()) else some (false,()) else some (false,())
def qgc_ (x:As [.pr YTT1 (.pr YTT1 (.pr YTT1 YTT1)),.pr (.sl .bool) YTT10]):Option (As [.bool]):=qor_ x.1 x.2.1
theorem qub_:CtOk Tryz.prog (fun _=>True) 50 ⟨qr8_,qgc_⟩:=ctn (q0_ qvi_ (q0_ qrw_ (q0_ qq7_ q3_))) 6 fun J x=>by kernel_rfl
@[reducible] def qeo_:Sh:=⟨[.d (.sl .bool)],[],[.sl .bool],[.d (.sl .bool)],[],0,[.sl .bool]⟩
def qdl_ (s:List Bool):Option (As [.sl .bool]) :=
 if eqi (Int.ofNat (List.length s)) 0=true then amb (eqAs qeo_.rs) [some ([],()),need (small (0 + List.length s)) (some (s,()))] else need (small (0 + List.length s)) (some (s,()))
def q6d_ (x:As [.sl .bool]):Option (As [.sl .bool]):=qdl_ x.1
theorem qlg_:CtOk Tryz.prog (fun _=>True) 130 ⟨qeo_,q6d_⟩:=ctn q3_ 6 fun J x=>by kernel_rfl
@[reducible] def q88_:Sh:=⟨[.d (.sl (.bool))],[],[.sl (.bool)],[.row 0],[(0,.row (.bool) 4)],1,[.sl (.bool)]⟩
def qbb_ (s:List Bool):Option (As [.sl .bool]) :=
 if eqi (Int.ofNat (List.length s)) 0=true then amb (eqAs q88_.rs) [some ([],()),need (small (0 + List.length s)) (some (s,()))] else need (small (0 + List.length s)) (some (s,()))
def q40_ (x:As [.sl .bool]):Option (As [.sl .bool]):=qbb_ x.1
theorem qj1_:CtOk Tryz.prog (fun _=>True) 130 ⟨q88_,q40_⟩:=ctn q3_ 6 fun J x=>by kernel_rfl
@[reducible] def q19y_:Sh:=⟨[.d (.pr (.sl .bool) YTT10)],[],[.pr (.sl .bool) YTT10],[.d (.pr (.sl .bool) YTT10)],[],0,[.pr (.sl .bool) YTT10]⟩
def qsp_ (m:List Bool×List Bool×List Int×List Int):Option (As [.pr (.sl .bool) YTT10]) :=
 Option.bind (q6d_ (m.1,())) fun y=>Option.bind (q6d_ (m.2.1,())) fun y_1=>Option.bind (qg_ (m.2.2.1,())) fun y_2=>Option.bind (qg_ (m.2.2.2,())) fun y_3=>some ((y.1,y_1.1,y_2.1,y_3.1),())
def qx1_ (x:As [.pr (.sl .bool) YTT10]):Option (As [.pr (.sl .bool) YTT10]):=qsp_ x.1
theorem q16j_:CtOk Tryz.prog (fun _=>True) 121 ⟨q19y_,qx1_⟩:=ctn (q0_ qlg_ (q0_ q3y_ q3_)) 6 fun J x=>by kernel_rfl
@[reducible] def qt1_:Sh:=⟨[.d (.pr YTT1 (.sl .bool)),.d (.int .i64),.d (.int .i64),.d (.int .i64)],[],[.pr YTT1 (.sl .bool),.int .i64,.int .i64,.int .i64],[.d (.sl .bool)],[],0,[.sl .bool]⟩
def qao_ (t:List YTT5×List Bool) (at' many step:Int):Option (As [.sl .bool]) :=
 need (nei step 0) (need (ge (mul .i64 (quo .i64 (Sx.sub .i64 (add .i64 many step) 1) step) step) 0) (need (Ev.capOk (mul .i64 (quo .i64 (Sx.sub .i64 (add .i64 many step) 1) step) step) (mul .i64 (quo .i64 (Sx.sub .i64 (add .i64 many step) 1) step) step)) (need (small (Int.toNat (mul .i64 (quo .i64 (Sx.sub .i64 (add .i64 many step) 1) step) step))) (Option.bind (cut t.2 at' (add .i64 at' many)) fun y=>need (le (Int.ofNat (0 + List.length (List.replicate (Int.toNat (mul .i64 (quo .i64 (Sx.sub .i64 (add .i64 many step) 1) step) step)) false))) (Int.ofNat (List.length (List.replicate (Int.toNat (mul .i64 (quo .i64 (Sx.sub .i64 (add .i64 many step) 1) step) step)) false)))) (some (List.take (Int.toNat (Int.ofNat (List.length (List.replicate (Int.toNat (mul .i64 (quo .i64 (Sx.sub .i64 (add .i64 many step) 1) step) step)) false)))) y++List.drop (0 + List.length (List.take (Int.toNat (Int.ofNat (List.length (List.replicate (Int.toNat (mul .i64 (quo .i64 (Sx.sub .i64 (add .i64 many step) 1) step) step)) false)))) y)) (List.replicate (Int.toNat (mul .i64 (quo .i64 (Sx.sub .i64 (add .i64 many step) 1) step) step)) false),()))))))
def q8q_ (x:As [.pr YTT1 (.sl .bool),.int .i64,.int .i64,.int .i64]):Option (As [.sl .bool]):=qao_ x.1 x.2.1 x.2.2.1 x.2.2.2.1
theorem qso_:CtOk Tryz.prog (fun _=>True) 199 ⟨qt1_,q8q_⟩:=ctn q3_ 6 fun J x=>by kernel_rfl
@[reducible] def qro_:Sh:=⟨[.d (.pr YTT1 (.sl (.int .u16))),.d (.int .i64),.d (.int .i64),.d (.int .i64)],[],[.pr YTT1 (.sl (.int .u16)),.int .i64,.int .i64,.int .i64],[.d (.sl (.int .u16))],[],0,[.sl (.int .u16)]⟩
def q90_ (t:List YTT5×List Int) (at' many step:Int):Option (As [.sl (.int .u16)]) :=
 need (nei step 0) (need (ge (mul .i64 (quo .i64 (Sx.sub .i64 (add .i64 many step) 1) step) step) 0) (need (Ev.capOk (mul .i64 (quo .i64 (Sx.sub .i64 (add .i64 many step) 1) step) step) (mul .i64 (quo .i64 (Sx.sub .i64 (add .i64 many step) 1) step) step)) (need (small (Int.toNat (mul .i64 (quo .i64 (Sx.sub .i64 (add .i64 many step) 1) step) step))) (Option.bind (cut t.2 at' (add .i64 at' many)) fun y=>need (le (Int.ofNat (0 + List.length (List.replicate (α:=Int) (Int.toNat (mul .i64 (quo .i64 (Sx.sub .i64 (add .i64 many step) 1) step) step)) 0))) (Int.ofNat (List.length (List.replicate (α:=Int) (Int.toNat (mul .i64 (quo .i64 (Sx.sub .i64 (add .i64 many step) 1) step) step)) 0)))) (some (List.take (Int.toNat (Int.ofNat (List.length (List.replicate (α:=Int) (Int.toNat (mul .i64 (quo .i64 (Sx.sub .i64 (add .i64 many step) 1) step) step)) 0)))) y++List.drop (0 + List.length (List.take (Int.toNat (Int.ofNat (List.length (List.replicate (α:=Int) (Int.toNat (mul .i64 (quo .i64 (Sx.sub .i64 (add .i64 many step) 1) step) step)) 0)))) y)) (List.replicate (Int.toNat (mul .i64 (quo .i64 (Sx.sub .i64 (add .i64 many step) 1) step) step)) 0),()))))))
def q7m_ (x:As [.pr YTT1 (.sl (.int .u16)),.int .i64,.int .i64,.int .i64]):Option (As [.sl (.int .u16)]):=q90_ x.1 x.2.1 x.2.2.1 x.2.2.2.1
theorem qqz_:CtOk Tryz.prog (fun _=>True) 200 ⟨qro_,q7m_⟩:=ctn q3_ 6 fun J x=>by kernel_rfl
@[reducible] def qlj_:Sh:=⟨[.d (.pr (.pr YTT1 (.sl .bool)) (.pr (.pr YTT1 (.sl .bool)) (.pr (.pr YTT1 (.sl (.int .u16))) (.pr YTT1 (.sl (.int .u16)))))),.d (.int .i64),.d (.pr (.int .u8) YTT4)],[],[.pr (.pr YTT1 (.sl .bool)) (.pr (.pr YTT1 (.sl .bool)) (.pr (.pr YTT1 (.sl (.int .u16))) (.pr YTT1 (.sl (.int .u16))))),.int .i64,.pr (.int .u8) YTT4],[.d (.pr (.int .u8) YTT3)],[],0,[.pr (.int .u8) YTT3]⟩
def qc9_ (v:(List YTT5×List Bool)×(List YTT5×List Bool)×(List YTT5×List Int)×List YTT5×List Int) (p:Int) (a:YaA3q0):Option (As [.pr (.int .u8) YTT3]) :=
 if eqi p 1=true then Option.bind (q8q_ (v.1,cvt .i64 a.2.1,cvt .i64 a.2.2.1,8,())) fun y=>some ((a.1,0,y.1,[],0,0),()) else if eqi p 2=true then Option.bind (q8q_ (v.2.1,cvt .i64 a.2.1,cvt .i64 a.2.2.1,8,())) fun y=>some ((a.1,0,y.1,[],0,0),()) else if eqi p 3=true then Option.bind (q7m_ (v.2.2.1,cvt .i64 a.2.1,cvt .i64 a.2.2.1,1,())) fun y=>some ((a.1,0,[],y.1,0,0),()) else if eqi p 4=true then Option.bind (q7m_ (v.2.2.2,cvt .i64 a.2.1,cvt .i64 a.2.2.1,1,())) fun y=>some ((a.1,0,[],y.1,0,0),()) else some ((a.1,0,[],[],0,0),())
def q7r_ (x:As [.pr (.pr YTT1 (.sl .bool)) (.pr (.pr YTT1 (.sl .bool)) (.pr (.pr YTT1 (.sl (.int .u16))) (.pr YTT1 (.sl (.int .u16))))),.int .i64,.pr (.int .u8) YTT4]):Option (As [.pr (.int .u8) YTT3]):=qc9_ x.1 x.2.1 x.2.2.1
theorem qtv_:CtOk Tryz.prog (fun _=>True) 173 ⟨qlj_,q7r_⟩:=ctn (q0_ qso_ (q0_ qqz_ q3_)) 6 fun J x=>by kernel_rfl
@[reducible] def qf5_:Sh:=⟨[.d (.pr YTT1 (.pr YTT1 (.pr YTT1 YTT1))),.d (.pr (.sl .bool) YTT10),.d (.pr (.int .u8) YTT4)],[],[.pr YTT1 (.pr YTT1 (.pr YTT1 YTT1)),.pr (.sl .bool) YTT10,.pr (.int .u8) YTT4],[.d (.pr (.sl .bool) YTT10),.d (.pr (.int .u8) YTT3)],[],0,[.pr (.sl .bool) YTT10,.pr (.int .u8) YTT3]⟩
def qnm_:Env:=(cts [(50,(⟨qr8_,qgc_⟩:Ct)),(54,(⟨q3j_,q4w_⟩:Ct)),(68,(⟨q3n_,q5y_⟩:Ct)),(120,(⟨qqv_,qk_⟩:Ct)),(124,(⟨qs4_,qi4_⟩:Ct)),(126,(⟨qp8_,qaa_⟩:Ct)),(130,(⟨q88_,q40_⟩:Ct)),(131,(⟨q7b_,q38_⟩:Ct)),(173,(⟨qlj_,q7r_⟩:Ct))])
def qmu_:List (Nat×Hint):=[(255,⟨[],[5,6,7,8,10,11]⟩)]
def qpm_ (a:YaA3q0) (t7 t7_2 t7_3 t7_4:Int) (o o_2:List Bool) (o_3 o_4:List Int) (v v_2 v_3 v_4:List YTT5) (u:Int×Int):St:={ fr:=[(5,.pb 0 0),(6,.pb 1 0),(7,.pb 2 0),(8,.pb 3 0),(10,.pb 8 0),(11,.pb 9 0)],nt:=79,up:=[],own:=[(0,.box 44 [.d (.int .u8) a.1,.d (.int .u16) a.2.1,.d (.int .u16) a.2.2.1,.d (.int .u16) a.2.2.2.1,.d (.sl (.int .u16)) a.2.2.2.2.1,.d (.sl .bool) a.2.2.2.2.2]),(1,.box 96 [.k (Go.Value.slice Option.none 0 0),.k (Go.Value.slice Option.none 0 0),.k (Go.Value.slice Option.none 0 0),.k (Go.Value.slice Option.none 0 0)]),(2,.box 46 [.d (.int .u8) t7,.d (.int .u8) t7_2,.k (Go.Value.slice Option.none 0 0),.k (Go.Value.slice Option.none 0 0),.d (.int .u16) t7_3,.d (.int .u16) t7_4]),(3,.box 96 [.row 4,.row 5,.row 6,.row 7]),(4,.row .bool 4 o),(5,.row .bool 4 o_2),(6,.row (.int .u16) 23 o_3),(7,.row (.int .u16) 23 o_4),(8,.box 174 [.d YTT1 v,.row 4,.d YTT1 v_2,.row 5,.d YTT1 v_3,.row 6,.d YTT1 v_4,.row 7]),(9,.box 183 [.d (.int .i64) u.1,.d (.int .i64) u.2])],nx:=10,log:=[],ln:=0 }
def qye_ (a:YaA3q0) (t7 t7_2 t7_3 t7_4:Int) (o o_2:List Bool) (o_3 o_4:List Int) (v v_2 v_3 v_4:List YTT5) (u:Int×Int):Option (As [.pr (.sl .bool) YTT10,.pr (.int .u8) YTT3]) :=
 Option.bind (q5y_ (a,())) fun y=>if y.2.1=true then some ((o,o_2,o_3,o_4),y.1,()) else Option.bind (q7r_ (((v,o),(v_2,o_2),(v_3,o_3),v_4,o_4),u.1,a,())) fun y=>some ((o,o_2,o_3,o_4),y.1,())
def qpg_ (j1:YaA3q0->Int->Int->Int->Int->List Bool->List Bool->List Int->List Int->List YTT5->List YTT5->List YTT5->List YTT5->Int×Int->Option (As [.pr (.sl .bool) YTT10,.pr (.int .u8) YTT3])) (s:List YTT5×List YTT5×List YTT5×List YTT5) (m:List Bool×List Bool×List Int×List Int) (a:YaA3q0):Option (As [.pr (.sl .bool) YTT10,.pr (.int .u8) YTT3]) :=
 Option.bind (q40_ (m.1,())) fun y=>Option.bind (q40_ (m.2.1,())) fun y_1=>Option.bind (q38_ (m.2.2.1,())) fun y_2=>Option.bind (q38_ (m.2.2.2,())) fun y_3=>Option.bind (q4w_ (s,a,())) fun y_4=>if nei y_4.1 0=true then Option.bind (qk_ (a.1,y_4.1,())) fun y_5=>some ((y.1,y_1.1,y_2.1,y_3.1),y_5.1,()) else Option.bind (qgc_ (s,m,())) fun y_5=>if (!y_5.1)=true then Option.bind (qk_ (a.1,4,())) fun y_6=>some ((y.1,y_1.1,y_2.1,y_3.1),y_6.1,()) else Option.bind (qi4_ (a.1,())) fun y_6=>Option.bind (qaa_ (a,())) fun y_7=>if eqi y_6.1.2 1=true then need (ge y_7.1 0) (need (le y_7.1 (Int.ofNat (List.length y.1))) (need (le (Int.ofNat (List.length y.1)) (Int.ofNat (List.length y.1))) (need (le (y_7.1 + (Int.ofNat (List.length y.1) - y_7.1)) (Int.ofNat (List.length y.1))) (j1 a 0 0 0 0 (List.take (Int.toNat y_7.1) y.1++List.take (Int.toNat (Int.ofNat (List.length y.1) - y_7.1)) a.2.2.2.2.2++List.drop (Int.toNat y_7.1 + List.length (List.take (Int.toNat (Int.ofNat (List.length y.1) - y_7.1)) a.2.2.2.2.2)) y.1) y_1.1 y_2.1 y_3.1 s.1 s.2.1 s.2.2.1 s.2.2.2 y_6.1)))) else if eqi y_6.1.2 3=true then need (ge y_7.1 0) (need (le y_7.1 (Int.ofNat (List.length y_2.1))) (need (le (Int.ofNat (List.length y_2.1)) (Int.ofNat (List.length y_2.1))) (need (le (y_7.1 + (Int.ofNat (List.length y_2.1) - y_7.1)) (Int.ofNat (List.length y_2.1))) (j1 a 0 0 0 0 y.1 y_1.1 (List.take (Int.toNat y_7.1) y_2.1++List.take (Int.toNat (Int.ofNat (List.length y_2.1) - y_7.1)) a.2.2.2.2.1++List.drop (Int.toNat y_7.1 + List.length (List.take (Int.toNat (Int.ofNat (List.length y_2.1) - y_7.1)) a.2.2.2.2.1)) y_2.1) y_3.1 s.1 s.2.1 s.2.2.1 s.2.2.2 y_6.1)))) else j1 a 0 0 0 0 y.1 y_1.1 y_2.1 y_3.1 s.1 s.2.1 s.2.2.1 s.2.2.2 y_6.1
def qgb_ (a:YaA3q0) (t7 t7_2 t7_3 t7_4:Int) (o o_2:List Bool) (o_3 o_4:List Int) (v v_2 v_3 v_4:List YTT5) (u:Int×Int):Option (As [.pr (.sl .bool) YTT10,.pr (.int .u8) YTT3]):=qye_ a t7 t7_2 t7_3 t7_4 o o_2 o_3 o_4 v v_2 v_3 v_4 u
def q2a_ (x:As [.pr YTT1 (.pr YTT1 (.pr YTT1 YTT1)),.pr (.sl .bool) YTT10,.pr (.int .u8) YTT4]):Option (As [.pr (.sl .bool) YTT10,.pr (.int .u8) YTT3]):=qpg_ qgb_ x.1 x.2.1 x.2.2.1
theorem q1a9_  (J a t7 t7_2 t7_3 t7_4 o o_2 o_3 o_4 v v_2 v_3 v_4 u):pfn Tryz.prog qnm_ 6 18446744073709551616 (Ev.get qmu_) 122 qf5_ J 255 [] (qpm_ a t7 t7_2 t7_3 t7_4 o o_2 o_3 o_4 v v_2 v_3 v_4 u)=qye_ a t7 t7_2 t7_3 t7_4 o o_2 o_3 o_4 v v_2 v_3 v_4 u:=by kernel_rfl
theorem q19h_ (J:Orc (As [.pr (.sl .bool) YTT10,.pr (.int .u8) YTT3])) (x:As [.pr YTT1 (.pr YTT1 (.pr YTT1 YTT1)),.pr (.sl .bool) YTT10,.pr (.int .u8) YTT4]):rfn Tryz.prog qnm_ 6 18446744073709551616 (Ev.get qmu_) 122 qf5_ J x=qpg_ (fun a t7 t7_2 t7_3 t7_4 o o_2 o_3 o_4 v v_2 v_3 v_4 u=>J 255 [] (qpm_ a t7 t7_2 t7_3 t7_4 o o_2 o_3 o_4 v v_2 v_3 v_4 u)) x.1 x.2.1 x.2.2.1:=by kernel_rfl
theorem q19n_  (a t7 t7_2 t7_3 t7_4 o o_2 o_3 o_4 v v_2 v_3 v_4 u):jfn Tryz.prog qnm_ 6 18446744073709551616 (Ev.get qmu_) 122 qf5_ 255 [] (qpm_ a t7 t7_2 t7_3 t7_4 o o_2 o_3 o_4 v v_2 v_3 v_4 u)=qgb_ a t7 t7_2 t7_3 t7_4 o o_2 o_3 o_4 v v_2 v_3 v_4 u:=by
 rw [q6_ (by decide)]
 rw [q1a9_]
 rfl
theorem q1ag_ (x:As [.pr YTT1 (.pr YTT1 (.pr YTT1 YTT1)),.pr (.sl .bool) YTT10,.pr (.int .u8) YTT4]):evT Tryz.prog qnm_ 6 18446744073709551616 (Ev.get qmu_) 122 qf5_ x=q2a_ x:=by
 have e1:(fun a t7 t7_2 t7_3 t7_4 o o_2 o_3 o_4 v v_2 v_3 v_4 u=>(jfn Tryz.prog qnm_ 6 18446744073709551616 (Ev.get qmu_) 122 qf5_) 255 [] (qpm_ a t7 t7_2 t7_3 t7_4 o o_2 o_3 o_4 v v_2 v_3 v_4 u))=qgb_:=by funext a t7 t7_2 t7_3 t7_4 o o_2 o_3 o_4 v v_2 v_3 v_4 u; exact q19n_ a t7 t7_2 t7_3 t7_4 o o_2 o_3 o_4 v v_2 v_3 v_4 u
 rw [qi_,q19h_,e1]
 rfl
theorem qy8_:CtOk Tryz.prog (fun _=>True) 122 ⟨qf5_,q2a_⟩:=qd_ (q0_ qub_ (q0_ qp4_ (q0_ qra_ (q0_ qd1_ (q0_ qvm_ (q0_ qt9_ (q0_ qj1_ (q0_ qgr_ (q0_ qtv_ q3_))))))))) q1ag_
@[reducible] def qh_:Sh:=⟨[.d (.pr (.int .u8) (.pr (.int .u8) (.pr (.pr (.sl (.int .u16)) YTT0) (.sl .bool)))),.d (.pr (.int .u8) YTT4)],[],[.pr (.int .u8) (.pr (.int .u8) (.pr (.pr (.sl (.int .u16)) YTT0) (.sl .bool))),.pr (.int .u8) YTT4],[.d (.pr (.int .u8) YTT3)],[],0,[.pr (.int .u8) YTT3]⟩
def q6j_:Env:=(cts [(2000038,Ev.bxCt),(47,(⟨q2_,q3t_⟩:Ct)),(49,(⟨q3k_,q3q_⟩:Ct)),(68,(⟨q3n_,q5y_⟩:Ct)),(122,(⟨qf5_,q2a_⟩:Ct))])
def q6h_:List (Nat×Hint):=[(15,⟨[],[2,3,4,7]⟩),(31,⟨[],[3,4,9]⟩)]
def qgm_ (s:Int×Int×YTT2×List Bool) (a:YaA3q0) (t4 t4_2 t4_3 t4_4 read read_2 read_3 read_4:Int):St:={ fr:=[(2,.pe (.pr (.int .u8) (.pr (.int .u8) (.pr (.pr (.sl (.int .u16)) YTT0) (.sl .bool)))) s),(3,.pb 0 0),(4,.pb 1 0),(7,.pb 2 0)],nt:=40,up:=[],own:=[(0,.box 44 [.d (.int .u8) a.1,.d (.int .u16) a.2.1,.d (.int .u16) a.2.2.1,.d (.int .u16) a.2.2.2.1,.d (.sl (.int .u16)) a.2.2.2.2.1,.d (.sl .bool) a.2.2.2.2.2]),(1,.box 46 [.d (.int .u8) t4,.d (.int .u8) t4_2,.k (Go.Value.slice Option.none 0 0),.k (Go.Value.slice Option.none 0 0),.d (.int .u16) t4_3,.d (.int .u16) t4_4]),(2,.box 44 [.d (.int .u8) read,.d (.int .u16) read_2,.d (.int .u16) read_3,.d (.int .u16) read_4,.k (Go.Value.slice Option.none 0 0),.k (Go.Value.slice Option.none 0 0)])],nx:=3,log:=[],ln:=0 }
def qgt_ (a:YaA3q0) (t4 t4_2 t4_3 t4_4:Int) (r:Int×Int×List Bool×List Int×Int×Int):St:={ fr:=[(3,.pb 0 0),(4,.pb 1 0),(9,.pb 2 0)],nt:=40,up:=[],own:=[(0,.box 44 [.d (.int .u8) a.1,.d (.int .u16) a.2.1,.d (.int .u16) a.2.2.1,.d (.int .u16) a.2.2.2.1,.d (.sl (.int .u16)) a.2.2.2.2.1,.d (.sl .bool) a.2.2.2.2.2]),(1,.box 46 [.d (.int .u8) t4,.d (.int .u8) t4_2,.k (Go.Value.slice Option.none 0 0),.k (Go.Value.slice Option.none 0 0),.d (.int .u16) t4_3,.d (.int .u16) t4_4]),(2,.box 46 [.d (.int .u8) r.1,.d (.int .u8) r.2.1,.d (.sl .bool) r.2.2.1,.d (.sl (.int .u16)) r.2.2.2.1,.d (.int .u16) r.2.2.2.2.1,.d (.int .u16) r.2.2.2.2.2])],nx:=3,log:=[],ln:=0 }
def qgo_ (j2:YaA3q0->Int->Int->Int->Int->Int×Int×List Bool×List Int×Int×Int->Option (As [.pr (.int .u8) YTT3])) (s:Int×Int×YTT2×List Bool) (a:YaA3q0) (t4 t4_2 t4_3 t4_4 read read_2 read_3 read_4:Int):Option (As [.pr (.int .u8) YTT3]) :=
 amb (eqAs qh_.rs) [Option.bind (q3q_ ()) fun y=>amb (eqAs qh_.rs) [Option.bind (q3t_ (s,())) fun y_1=>amb (eqAs qh_.rs) [Option.bind (q2a_ (y.1,y_1.1,(read,read_2,read_3,read_4,[],[]),())) fun y=>amb (eqAs qh_.rs) [j2 a t4 t4_2 t4_3 t4_4 y.2.1,j2 a t4 t4_2 t4_3 t4_4 y.2.1],amb (eqAs qh_.rs) [amb (eqAs qh_.rs) [Option.bind (q2a_ (y.1,y_1.1,(read,read_2,read_3,read_4,[],[]),())) fun y=>j2 a t4 t4_2 t4_3 t4_4 y.2.1,Option.bind (q2a_ (y.1,y_1.1,(read,read_2,read_3,read_4,[],[]),())) fun y=>j2 a t4 t4_2 t4_3 t4_4 y.2.1],amb (eqAs qh_.rs) [Option.bind (q2a_ (y.1,y_1.1,(read,read_2,read_3,read_4,[],[]),())) fun y=>j2 a t4 t4_2 t4_3 t4_4 y.2.1,Option.bind (q2a_ (y.1,y_1.1,(read,read_2,read_3,read_4,[],[]),())) fun y=>j2 a t4 t4_2 t4_3 t4_4 y.2.1]]],amb (eqAs qh_.rs) [amb (eqAs qh_.rs) [Option.bind (q3t_ (s,())) fun y_1=>amb (eqAs qh_.rs) [Option.bind (q2a_ (y.1,y_1.1,(read,read_2,read_3,read_4,[],[]),())) fun y=>j2 a t4 t4_2 t4_3 t4_4 y.2.1,Option.bind (q2a_ (y.1,y_1.1,(read,read_2,read_3,read_4,[],[]),())) fun y=>j2 a t4 t4_2 t4_3 t4_4 y.2.1],Option.bind (q3t_ (s,())) fun y_1=>Option.bind (q2a_ (y.1,y_1.1,(read,read_2,read_3,read_4,[],[]),())) fun y=>j2 a t4 t4_2 t4_3 t4_4 y.2.1],amb (eqAs qh_.rs) [Option.bind (q3t_ (s,())) fun y_1=>amb (eqAs qh_.rs) [Option.bind (q2a_ (y.1,y_1.1,(read,read_2,read_3,read_4,[],[]),())) fun y=>j2 a t4 t4_2 t4_3 t4_4 y.2.1,Option.bind (q2a_ (y.1,y_1.1,(read,read_2,read_3,read_4,[],[]),())) fun y=>j2 a t4 t4_2 t4_3 t4_4 y.2.1],Option.bind (q3t_ (s,())) fun y_1=>Option.bind (q2a_ (y.1,y_1.1,(read,read_2,read_3,read_4,[],[]),())) fun y=>j2 a t4 t4_2 t4_3 t4_4 y.2.1]]],amb (eqAs qh_.rs) [amb (eqAs qh_.rs) [Option.bind (q3q_ ()) fun y=>amb (eqAs qh_.rs) [Option.bind (q3t_ (s,())) fun y_1=>amb (eqAs qh_.rs) [Option.bind (q2a_ (y.1,y_1.1,(read,read_2,read_3,read_4,[],[]),())) fun y=>j2 a t4 t4_2 t4_3 t4_4 y.2.1,Option.bind (q2a_ (y.1,y_1.1,(read,read_2,read_3,read_4,[],[]),())) fun y=>j2 a t4 t4_2 t4_3 t4_4 y.2.1],Option.bind (q3t_ (s,())) fun y_1=>Option.bind (q2a_ (y.1,y_1.1,(read,read_2,read_3,read_4,[],[]),())) fun y=>j2 a t4 t4_2 t4_3 t4_4 y.2.1],Option.bind (q3q_ ()) fun y=>Option.bind (q3t_ (s,())) fun y_1=>Option.bind (q2a_ (y.1,y_1.1,(read,read_2,read_3,read_4,[],[]),())) fun y=>j2 a t4 t4_2 t4_3 t4_4 y.2.1],amb (eqAs qh_.rs) [Option.bind (q3q_ ()) fun y=>amb (eqAs qh_.rs) [Option.bind (q3t_ (s,())) fun y_1=>amb (eqAs qh_.rs) [Option.bind (q2a_ (y.1,y_1.1,(read,read_2,read_3,read_4,[],[]),())) fun y=>j2 a t4 t4_2 t4_3 t4_4 y.2.1,Option.bind (q2a_ (y.1,y_1.1,(read,read_2,read_3,read_4,[],[]),())) fun y=>j2 a t4 t4_2 t4_3 t4_4 y.2.1],Option.bind (q3t_ (s,())) fun y_1=>Option.bind (q2a_ (y.1,y_1.1,(read,read_2,read_3,read_4,[],[]),())) fun y=>j2 a t4 t4_2 t4_3 t4_4 y.2.1],Option.bind (q3q_ ()) fun y=>Option.bind (q3t_ (s,())) fun y_1=>Option.bind (q2a_ (y.1,y_1.1,(read,read_2,read_3,read_4,[],[]),())) fun y=>j2 a t4 t4_2 t4_3 t4_4 y.2.1]]]
def qti_ (a:YaA3q0) (t4 t4_2 t4_3 t4_4:Int) (r:Int×Int×List Bool×List Int×Int×Int):Option (As [.pr (.int .u8) YTT3]) :=
 some ((a.1,r.2),())
def qgu_ (j1:Int×Int×YTT2×List Bool->YaA3q0->Int->Int->Int->Int->Int->Int->Int->Int->Option (As [.pr (.int .u8) YTT3])) (s:Int×Int×YTT2×List Bool) (a:YaA3q0):Option (As [.pr (.int .u8) YTT3]) :=
 Option.bind (q5y_ (a,())) fun y=>if y.2.1=true then some (y.1,()) else if eqi a.1 23=true then j1 s a 0 0 0 0 3 a.2.1 a.2.2.1 0 else j1 s a 0 0 0 0 a.1 a.2.1 a.2.2.1 0
def qgw_ (a:YaA3q0) (t4 t4_2 t4_3 t4_4:Int) (r:Int×Int×List Bool×List Int×Int×Int):Option (As [.pr (.int .u8) YTT3]):=qti_ a t4 t4_2 t4_3 t4_4 r
def qc3_ (s:Int×Int×YTT2×List Bool) (a:YaA3q0) (t4 t4_2 t4_3 t4_4 read read_2 read_3 read_4:Int):Option (As [.pr (.int .u8) YTT3]):=qgo_ (qgw_) s a t4 t4_2 t4_3 t4_4 read read_2 read_3 read_4
def qx_ (x:As [.pr (.int .u8) (.pr (.int .u8) (.pr (.pr (.sl (.int .u16)) YTT0) (.sl .bool))),.pr (.int .u8) YTT4]):Option (As [.pr (.int .u8) YTT3]):=qgu_ qc3_ x.1 x.2.1
theorem q10u_  (J a t4 t4_2 t4_3 t4_4 r):pfn Tryz.prog q6j_ 6 18446744073709551616 (Ev.get q6h_) 129 qh_ J 31 [] (qgt_ a t4 t4_2 t4_3 t4_4 r)=qti_ a t4 t4_2 t4_3 t4_4 r:=by kernel_rfl
theorem q10i_  (J s a t4 t4_2 t4_3 t4_4 read read_2 read_3 read_4):pfn Tryz.prog q6j_ 6 18446744073709551616 (Ev.get q6h_) 129 qh_ J 15 [] (qgm_ s a t4 t4_2 t4_3 t4_4 read read_2 read_3 read_4)=qgo_ (fun a t4 t4_2 t4_3 t4_4 r=>J 31 [] (qgt_ a t4 t4_2 t4_3 t4_4 r)) s a t4 t4_2 t4_3 t4_4 read read_2 read_3 read_4:=by kernel_rfl
theorem q107_ (J:Orc (As [.pr (.int .u8) YTT3])) (x:As [.pr (.int .u8) (.pr (.int .u8) (.pr (.pr (.sl (.int .u16)) YTT0) (.sl .bool))),.pr (.int .u8) YTT4]):rfn Tryz.prog q6j_ 6 18446744073709551616 (Ev.get q6h_) 129 qh_ J x=qgu_ (fun s a t4 t4_2 t4_3 t4_4 read read_2 read_3 read_4=>J 15 [] (qgm_ s a t4 t4_2 t4_3 t4_4 read read_2 read_3 read_4)) x.1 x.2.1:=by kernel_rfl
theorem q10o_  (a t4 t4_2 t4_3 t4_4 r):jfn Tryz.prog q6j_ 6 18446744073709551616 (Ev.get q6h_) 129 qh_ 31 [] (qgt_ a t4 t4_2 t4_3 t4_4 r)=qgw_ a t4 t4_2 t4_3 t4_4 r:=by
 rw [q6_ (by decide)]
 rw [q10u_]
 rfl
theorem q102_  (s a t4 t4_2 t4_3 t4_4 read read_2 read_3 read_4):jfn Tryz.prog q6j_ 6 18446744073709551616 (Ev.get q6h_) 129 qh_ 15 [] (qgm_ s a t4 t4_2 t4_3 t4_4 read read_2 read_3 read_4)=qc3_ s a t4 t4_2 t4_3 t4_4 read read_2 read_3 read_4:=by
 rw [q6_ (by decide)]
 have e2:(fun a t4 t4_2 t4_3 t4_4 r=>(jfn Tryz.prog q6j_ 6 18446744073709551616 (Ev.get q6h_) 129 qh_) 31 [] (qgt_ a t4 t4_2 t4_3 t4_4 r))=qgw_:=by funext a t4 t4_2 t4_3 t4_4 r; exact q10o_ a t4 t4_2 t4_3 t4_4 r
 rw [q10i_,e2]
 rfl
theorem q12n_ (x:As [.pr (.int .u8) (.pr (.int .u8) (.pr (.pr (.sl (.int .u16)) YTT0) (.sl .bool))),.pr (.int .u8) YTT4]):evT Tryz.prog q6j_ 6 18446744073709551616 (Ev.get q6h_) 129 qh_ x=qx_ x:=by
 have e1:(fun s a t4 t4_2 t4_3 t4_4 read read_2 read_3 read_4=>(jfn Tryz.prog q6j_ 6 18446744073709551616 (Ev.get q6h_) 129 qh_) 15 [] (qgm_ s a t4 t4_2 t4_3 t4_4 read read_2 read_3 read_4))=qc3_:=by funext s a t4 t4_2 t4_3 t4_4 read read_2 read_3 read_4; exact q102_ s a t4 t4_2 t4_3 t4_4 read read_2 read_3 read_4
 rw [qi_,q107_,e1]
 rfl
theorem q103_:CtOk Tryz.prog (fun _=>True) 129 ⟨qh_,qx_⟩:=qd_ (q0_ Ev.bx_ok (q0_ qxe_ (q0_ qou_ (q0_ qra_ (q0_ qy8_ q3_))))) q12n_
@[reducible] def qac_:Sh:=⟨[.d (.sl (.int .u16))],[],[.sl (.int .u16)],[.d (.pr (.int .u16) YTT6),.d (.int .i64)],[],0,[.pr (.int .u16) YTT6,.int .i64]⟩
def qho_:Env:=(cts [(81,(⟨qs7_,qez_⟩:Ct))])
def qh2_:List (Nat×Hint):=[(6,⟨[],[0,2,18]⟩)]
def qki_ (w:List Int) (t18:Bool) (t2:Int×Int×Int×Int×Int):St:={ fr:=[(0,.d (.sl (.int .u16)) w),(2,.pb 0 0),(18,.d .bool t18)],nt:=45,up:=[],own:=[(0,.box 61 [.d (.int .u16) t2.1,.d (.int .u8) t2.2.1,.d (.int .u32) t2.2.2.1,.d (.int .u16) t2.2.2.2.1,.d (.int .u32) t2.2.2.2.2])],nx:=1,log:=[],ln:=0 }
def qku_ (w:List Int) (t18:Bool) (t2:Int×Int×Int×Int×Int):Option (As [.pr (.int .u16) YTT6,.int .i64]) :=
 if t18=true then some ((0,0,0,0,0),2,()) else Option.bind (at? w 0) fun y=>Option.bind (at? w 1) fun y_1=>Option.bind (at? w 2) fun y_2=>Option.bind (at? w 3) fun y_3=>Option.bind (at? w 4) fun y_4=>Option.bind (at? w 5) fun y_5=>Option.bind (at? w 6) fun y_6=>Option.bind (qez_ (y_2,y_3,())) fun y_7=>Option.bind (qez_ (y_5,y_6,())) fun y_8=>some ((y,cvt .u8 y_1,y_7.1,y_4,y_8.1),0,())
def qjy_ (j1:List Int->Bool->Int×Int×Int×Int×Int->Option (As [.pr (.int .u16) YTT6,.int .i64])) (w:List Int):Option (As [.pr (.int .u16) YTT6,.int .i64]) :=
 if nei (Int.ofNat (List.length w)) 8=true then j1 w true (0,0,0,0,0) else Option.bind (at? w 7) fun y=>if nei y 0=true then j1 w true (0,0,0,0,0) else Option.bind (at? w 1) fun y=>j1 w (ge y 256) (0,0,0,0,0)
def qfg_ (w:List Int) (t18:Bool) (t2:Int×Int×Int×Int×Int):Option (As [.pr (.int .u16) YTT6,.int .i64]):=qku_ w t18 t2
def qel_ (x:As [.sl (.int .u16)]):Option (As [.pr (.int .u16) YTT6,.int .i64]):=qjy_ qfg_ x.1
theorem q14j_  (J w t18 t2):pfn Tryz.prog qho_ 6 18446744073709551616 (Ev.get qh2_) 203 qac_ J 6 [] (qki_ w t18 t2)=qku_ w t18 t2:=by kernel_rfl
theorem q13w_ (J:Orc (As [.pr (.int .u16) YTT6,.int .i64])) (x:As [.sl (.int .u16)]):rfn Tryz.prog qho_ 6 18446744073709551616 (Ev.get qh2_) 203 qac_ J x=qjy_ (fun w t18 t2=>J 6 [] (qki_ w t18 t2)) x.1:=by kernel_rfl
theorem q143_  (w t18 t2):jfn Tryz.prog qho_ 6 18446744073709551616 (Ev.get qh2_) 203 qac_ 6 [] (qki_ w t18 t2)=qfg_ w t18 t2:=by
 rw [q6_ (by decide)]
 rw [q14j_]
 rfl
theorem q17r_ (x:As [.sl (.int .u16)]):evT Tryz.prog qho_ 6 18446744073709551616 (Ev.get qh2_) 203 qac_ x=qel_ x:=by
 have e1:(fun w t18 t2=>(jfn Tryz.prog qho_ 6 18446744073709551616 (Ev.get qh2_) 203 qac_) 6 [] (qki_ w t18 t2))=qfg_:=by funext w t18 t2; exact q143_ w t18 t2
 rw [qi_,q13w_,e1]
 rfl
theorem q13b_:CtOk Tryz.prog (fun _=>True) 203 ⟨qac_,qel_⟩:=qd_ (q0_ qvk_ q3_) q17r_
@[reducible] def q6o_:Sh:=⟨[.d (.pr (.sl (.int .u16)) YTT0)],[],[.pr (.sl (.int .u16)) YTT0],[.d (.pr (.sl (.int .u16)) YTT0)],[],0,[.pr (.sl (.int .u16)) YTT0]⟩
def q9m_:Env:=(cts [(131,(⟨q5u_,qg_⟩:Ct))])
def q9f_:List (Nat×Hint):=[(58,⟨[],[1,2,12,13]⟩),(7475,⟨[.frb 5],[1,2,3,5,12,13]⟩)]
def q78_ (a t2:Int) (t12:List Bool) (t13:Int) (a_2 t2_2:List YTT2):St:={ fr:=[(1,.prw 0 a 32 0),(2,.prw 1 t2 32 0),(12,.d (.ar 8 .bool) t12),(13,.d (.int .i64) t13)],nt:=41,up:=[],own:=[(0,.row (.pr (.sl (.int .u16)) YTT0) 35 a_2),(1,.row (.pr (.sl (.int .u16)) YTT0) 35 t2_2)],nx:=2,log:=[],ln:=0 }
def qlv_ (a t2 i:Int) (t12:List Bool) (t13:Int) (a_2 t2_2:List YTT2) (x:Int×List Int):St:={ fr:=[(1,.prw 0 a 32 0),(2,.prw 1 t2 32 0),(3,.d (.int .i64) i),(5,.pb 2 0),(12,.d (.ar 8 .bool) t12),(13,.d (.int .i64) t13)],nt:=41,up:=[],own:=[(0,.row (.pr (.sl (.int .u16)) YTT0) 35 a_2),(1,.row (.pr (.sl (.int .u16)) YTT0) 35 t2_2),(2,.box 30 [.d (.int .i64) x.1,.d (.sl (.int .u16)) x.2])],nx:=3,log:=[],ln:=0 }
def qda_ (j2:Int->Int->Int->List Bool->Int->List YTT2->List YTT2->Int×List Int->Option (As [.pr (.sl (.int .u16)) YTT0])) (self1:Int->Int->List Bool->Int->List YTT2->List YTT2->Option (As [.pr (.sl (.int .u16)) YTT0])) (a t2:Int) (t12:List Bool) (t13:Int) (a_2 t2_2:List YTT2):Option (As [.pr (.sl (.int .u16)) YTT0]) :=
 if lt t13 8=true then need (lt t13 8) (Option.bind (at? t12 t13) fun y=>if y=true then need (ge t13 0) (need (lt t13 8) (Option.bind (at? a_2 a) fun y=>Option.bind (at? y.2.2.2.2.2.1.2.2 t13) fun z=>need (ge t13 0) (need (lt t13 8) (Option.bind (at? a_2 a) fun y=>Option.bind (at? y.2.2.2.2.2.1.2.2 t13) fun z_1=>Option.bind (qg_ (z_1.2,())) fun y=>j2 a t2 t13 t12 t13 a_2 t2_2 (z.1,y.1))))) else j2 a t2 t13 t12 t13 a_2 t2_2 (0,[])) else Option.bind (at? a_2 a) fun y=>Option.bind (at? t2_2 t2) fun x=>Option.bind (at? (List.set t2_2 (Int.toNat t2) y) t2) fun y_1=>Option.bind (at? (List.set t2_2 (Int.toNat t2) y) t2) fun y=>some (y,())
def qmp_ (self1:Int->Int->List Bool->Int->List YTT2->List YTT2->Option (As [.pr (.sl (.int .u16)) YTT0])) (a t2 i:Int) (t12:List Bool) (t13:Int) (a_2 t2_2:List YTT2) (x:Int×List Int):Option (As [.pr (.sl (.int .u16)) YTT0]) :=
 need (ge i 0) (need (lt i 8) (Option.bind (at? a_2 a) fun x_1=>Option.bind (at? x_1.2.2.2.2.2.1.2.2 i) fun z=>self1 a t2 t12 (add .i64 t13 1) (List.set a_2 (Int.toNat a) (x_1.1,x_1.2.1,x_1.2.2.1,x_1.2.2.2.1,x_1.2.2.2.2.1,(x_1.2.2.2.2.2.1.1,x_1.2.2.2.2.2.1.2.1,List.set x_1.2.2.2.2.2.1.2.2 (Int.toNat i) x),x_1.2.2.2.2.2.2)) t2_2))
def qmt_ (j1:Int->Int->List Bool->Int->List YTT2->List YTT2->Option (As [.pr (.sl (.int .u16)) YTT0])) (a:List Int×(Int×Int)×Int×Int×Int×YTT9×Int):Option (As [.pr (.sl (.int .u16)) YTT0]) :=
 Option.bind (qg_ (a.1,())) fun y=>j1 0 0 a.2.2.2.2.2.1.2.1 0 [(y.1,a.2)] [zAg0]
def qd9_ (u1:Int->Int->List Bool->Int->List YTT2->List YTT2->Option (As [.pr (.sl (.int .u16)) YTT0])) (a t2 i:Int) (t12:List Bool) (t13:Int) (a_2 t2_2:List YTT2) (x:Int×List Int):Option (As [.pr (.sl (.int .u16)) YTT0]):=qmp_ u1 a t2 i t12 t13 a_2 t2_2 x
def qd2_ (a t2:Int) (t12:List Bool) (t13:Int) (a_2 t2_2:List YTT2):Option (As [.pr (.sl (.int .u16)) YTT0]) :=
 loopF (fun (self:(Int)×(Int)×(List Bool)×(Int)×(List YTT2)×(List YTT2)->Option (As [.pr (.sl (.int .u16)) YTT0])) (s:(Int)×(Int)×(List Bool)×(Int)×(List YTT2)×(List YTT2))=>qda_ (qd9_ (fun a t2 t12 t13 a_2 t2_2=>self (a,t2,t12,t13,a_2,t2_2))) (fun a t2 t12 t13 a_2 t2_2=>self (a,t2,t12,t13,a_2,t2_2)) s.1 s.2.1 s.2.2.1 s.2.2.2.1 s.2.2.2.2.1 s.2.2.2.2.2) 18446744073709551616 (a,t2,t12,t13,a_2,t2_2)
def qe9_ (x:As [.pr (.sl (.int .u16)) YTT0]):Option (As [.pr (.sl (.int .u16)) YTT0]):=qmt_ qd2_ x.1
theorem q181_  (J w1 a t2 i t12 t13 a_2 t2_2 x):pfn Tryz.prog q9m_ 6 18446744073709551616 (Ev.get q9f_) 178 q6o_ J 7475 [w1] (qlv_ a t2 i t12 t13 a_2 t2_2 x)=qmp_ (fun a t2 t12 t13 a_2 t2_2=>w1 (q78_ a t2 t12 t13 a_2 t2_2)) a t2 i t12 t13 a_2 t2_2 x:=by kernel_rfl
theorem q16r_  (J w1 a t2 t12 t13 a_2 t2_2):pfn Tryz.prog q9m_ 6 18446744073709551616 (Ev.get q9f_) 178 q6o_ J 58 [w1] (q78_ a t2 t12 t13 a_2 t2_2)=qda_ (fun a t2 i t12 t13 a_2 t2_2 x=>J 7475 [w1] (qlv_ a t2 i t12 t13 a_2 t2_2 x)) (fun a t2 t12 t13 a_2 t2_2=>w1 (q78_ a t2 t12 t13 a_2 t2_2)) a t2 t12 t13 a_2 t2_2:=by kernel_rfl
theorem q187_ (J:Orc (As [.pr (.sl (.int .u16)) YTT0])) (x:As [.pr (.sl (.int .u16)) YTT0]):rfn Tryz.prog q9m_ 6 18446744073709551616 (Ev.get q9f_) 178 q6o_ J x=qmt_ (fun a t2 t12 t13 a_2 t2_2=>J 58 [] (q78_ a t2 t12 t13 a_2 t2_2)) x.1:=by kernel_rfl
theorem q172_  (w1 a t2 i t12 t13 a_2 t2_2 x):jfn Tryz.prog q9m_ 6 18446744073709551616 (Ev.get q9f_) 178 q6o_ 7475 [w1] (qlv_ a t2 i t12 t13 a_2 t2_2 x)=qd9_ (fun a t2 t12 t13 a_2 t2_2=>w1 (q78_ a t2 t12 t13 a_2 t2_2)) a t2 i t12 t13 a_2 t2_2 x:=by
 rw [q6_ (by decide)]
 rw [q181_]
 rfl
theorem q166_  (a t2 t12 t13 a_2 t2_2):jfn Tryz.prog q9m_ 6 18446744073709551616 (Ev.get q9f_) 178 q6o_ 58 [] (q78_ a t2 t12 t13 a_2 t2_2)=qd2_ a t2 t12 t13 a_2 t2_2:=by
 rw [q6_ (by decide)]
 rw [qo_ (by kernel_rfl)]
 refine qj_ (σ:=(Int)×(Int)×(List Bool)×(Int)×(List YTT2)×(List YTT2)) (mk:=fun s=>q78_ s.1 s.2.1 s.2.2.1 s.2.2.2.1 s.2.2.2.2.1 s.2.2.2.2.2) (fun w1 s=>?_) 18446744073709551616 (a,t2,t12,t13,a_2,t2_2)
 have e2:(fun a t2 i t12 t13 a_2 t2_2 x=>(jfn Tryz.prog q9m_ 6 18446744073709551616 (Ev.get q9f_) 178 q6o_) 7475 [w1] (qlv_ a t2 i t12 t13 a_2 t2_2 x))=qd9_ (fun a t2 t12 t13 a_2 t2_2=>w1 (q78_ a t2 t12 t13 a_2 t2_2)):=by funext a t2 i t12 t13 a_2 t2_2 x; exact q172_ w1 a t2 i t12 t13 a_2 t2_2 x
 refine (q16r_ _ w1 s.1 s.2.1 s.2.2.1 s.2.2.2.1 s.2.2.2.2.1 s.2.2.2.2.2).trans ?_
 rw [e2]
theorem q191_ (x:As [.pr (.sl (.int .u16)) YTT0]):evT Tryz.prog q9m_ 6 18446744073709551616 (Ev.get q9f_) 178 q6o_ x=qe9_ x:=by
 have e1:(fun a t2 t12 t13 a_2 t2_2=>(jfn Tryz.prog q9m_ 6 18446744073709551616 (Ev.get q9f_) 178 q6o_) 58 [] (q78_ a t2 t12 t13 a_2 t2_2))=qd2_:=by funext a t2 t12 t13 a_2 t2_2; exact q166_ a t2 t12 t13 a_2 t2_2
 rw [qi_,q187_,e1]
 rfl
theorem qmx_:CtOk Tryz.prog (fun _=>True) 178 ⟨q6o_,qe9_⟩:=qd_ (q0_ q3y_ q3_) q191_
@[reducible] def qup_:Sh:=⟨[.d (.pr (.sl (.int .u16)) YTT0),.d (.int .u16)],[],[.pr (.sl (.int .u16)) YTT0,.int .u16],[.d (.bool)],[],0,[.bool]⟩
def q123_:Env:=(cts [(2000035,Ev.bxCt),(113,(⟨qa3_,q4g_⟩:Ct))])
def qnu_ (a:List Int×(Int×Int)×Int×Int×Int×YTT9×Int) (owner:Int):Option (As [.bool]) :=
 Option.bind (q4g_ (a.2.1,())) fun y=>if (!y.1)=true then some (nei a.2.1.1 owner,()) else some (false,())
def q46_ (x:As [.pr (.sl (.int .u16)) YTT0,.int .u16]):Option (As [.bool]):=qnu_ x.1 x.2.1
theorem qtc_:CtOk Tryz.prog (fun _=>True) 214 ⟨qup_,q46_⟩:=ctn (env:=q123_) (q0_ Ev.bx_ok (q0_ qbi_ q3_)) 6 fun J x=>by kernel_rfl
@[reducible] def q108_:Sh:=⟨[.d (.pr (.sl (.int .u16)) YTT0),.d (.pr (.int .u16) YTT6)],[],[.pr (.sl (.int .u16)) YTT0,.pr (.int .u16) YTT6],[.d (.bool)],[],0,[.bool]⟩
def qzw_:Env:=(cts [(2000035,Ev.bxCt)])
def qla_ (a:List Int×(Int×Int)×Int×Int×Int×YTT9×Int) (c:Int×Int×Int×Int×Int):Option (As [.bool]) :=
 if le c.2.2.1 a.2.2.2.2.1=true then some (true,()) else if nei a.2.2.1 0=true then some (lt c.2.2.1 a.2.2.2.1,()) else some (false,())
def ql0_ (x:As [.pr (.sl (.int .u16)) YTT0,.pr (.int .u16) YTT6]):Option (As [.bool]):=qla_ x.1 x.2.1
theorem qzs_:CtOk Tryz.prog (fun _=>True) 219 ⟨q108_,ql0_⟩:=ctn (env:=qzw_) (q0_ Ev.bx_ok q3_) 6 fun J x=>by kernel_rfl
@[reducible] def qvu_:Sh:=⟨[.d (.pr (.sl (.int .u16)) YTT0)],[],[.pr (.sl (.int .u16)) YTT0],[.d (.pr (.sl (.int .u16)) YTT0)],[],0,[.pr (.sl (.int .u16)) YTT0]⟩
def q118_ (a:List Int×(Int×Int)×Int×Int×Int×YTT9×Int):Option (As [.pr (.sl (.int .u16)) YTT0]) :=
 some ((a.1,(0,0),0,0,a.2.2.2.2.1,zSt,a.2.2.2.2.2.2),())
def q9k_ (x:As [.pr (.sl (.int .u16)) YTT0]):Option (As [.pr (.sl (.int .u16)) YTT0]):=q118_ x.1
theorem qe3_:CtOk Tryz.prog (fun _=>True) 180 ⟨qvu_,q9k_⟩:=ctn q3_ 6 fun J x=>by kernel_rfl
@[reducible] def q6y_:Sh:=⟨[.d (.pr (.int .u16) (.int .i64)),.d (.int .u16),.d (.int .i64)],[],[.pr (.int .u16) (.int .i64),.int .u16,.int .i64],[.d (.pr (.int .u16) (.int .i64)),.d (.int .i64)],[],0,[.pr (.int .u16) (.int .i64),.int .i64]⟩
def q8i_:Env:=(cts [(113,(⟨qa3_,q4g_⟩:Ct)),(167,(⟨qnl_,q7k_⟩:Ct)),(207,(⟨qs0_,q97_⟩:Ct))])
def q8g_:List (Nat×Hint):=[(30,⟨[],[1,2,3,6,25]⟩),(14,⟨[],[1,2,3,6,15,21,22,23,24]⟩)]
def ql5_ (owner ticks:Int) (t15:Bool) (l t6:Int×Int):St:={ fr:=[(1,.d (.int .u16) owner),(2,.d (.int .i64) ticks),(3,.pb 0 0),(6,.pb 1 0),(15,.d .bool t15)],nt:=35,up:=[],own:=[(0,.box 27 [.d (.int .u16) l.1,.d (.int .i64) l.2]),(1,.box 27 [.d (.int .u16) t6.1,.d (.int .i64) t6.2])],nx:=2,log:=[],ln:=0 }
def qjv_ (owner ticks:Int) (t25:Bool) (l t6:Int×Int):St:={ fr:=[(1,.d (.int .u16) owner),(2,.d (.int .i64) ticks),(3,.pb 0 0),(6,.pb 1 0),(25,.d .bool t25)],nt:=35,up:=[],own:=[(0,.box 27 [.d (.int .u16) l.1,.d (.int .i64) l.2]),(1,.box 27 [.d (.int .u16) t6.1,.d (.int .i64) t6.2])],nx:=2,log:=[],ln:=0 }
def qk0_ (j2:Int->Int->Bool->Int×Int->Int×Int->Option (As [.pr (.int .u16) (.int .i64),.int .i64])) (owner ticks:Int) (t15:Bool) (l t6:Int×Int):Option (As [.pr (.int .u16) (.int .i64),.int .i64]) :=
 if t15=true then some (l,2,()) else Option.bind (q4g_ (l,())) fun y=>if (!y.1)=true then j2 owner ticks (nei l.1 owner) l t6 else j2 owner ticks false l t6
def qkc_ (owner ticks:Int) (t25:Bool) (l t6:Int×Int):Option (As [.pr (.int .u16) (.int .i64),.int .i64]) :=
 if t25=true then some (l,22,()) else Option.bind (q97_ (owner,())) fun y=>if (eqi l.1 y.1.1 && (eqi l.2 y.1.2 && true))=true then some (l,0,()) else some ((owner,ticks),0,())
def qkq_ (j1:Int->Int->Bool->Int×Int->Int×Int->Option (As [.pr (.int .u16) (.int .i64),.int .i64])) (l:Int×Int) (owner ticks:Int):Option (As [.pr (.int .u16) (.int .i64),.int .i64]) :=
 Option.bind (q7k_ (l,())) fun y=>if eqi owner 0=true then j1 owner ticks true y.1 (0,0) else j1 owner ticks (lt ticks 1) y.1 (0,0)
def qg3_ (owner ticks:Int) (t25:Bool) (l t6:Int×Int):Option (As [.pr (.int .u16) (.int .i64),.int .i64]):=qkc_ owner ticks t25 l t6
def qko_ (owner ticks:Int) (t15:Bool) (l t6:Int×Int):Option (As [.pr (.int .u16) (.int .i64),.int .i64]):=qk0_ (qg3_) owner ticks t15 l t6
def qrm_ (x:As [.pr (.int .u16) (.int .i64),.int .u16,.int .i64]):Option (As [.pr (.int .u16) (.int .i64),.int .i64]):=qkq_ qko_ x.1 x.2.1 x.2.2.1
theorem q13r_  (J owner ticks t25 l t6):pfn Tryz.prog q8i_ 6 18446744073709551616 (Ev.get q8g_) 227 q6y_ J 30 [] (qjv_ owner ticks t25 l t6)=qkc_ owner ticks t25 l t6:=by kernel_rfl
theorem q159_  (J owner ticks t15 l t6):pfn Tryz.prog q8i_ 6 18446744073709551616 (Ev.get q8g_) 227 q6y_ J 14 [] (ql5_ owner ticks t15 l t6)=qk0_ (fun owner ticks t25 l t6=>J 30 [] (qjv_ owner ticks t25 l t6)) owner ticks t15 l t6:=by kernel_rfl
theorem q13k_ (J:Orc (As [.pr (.int .u16) (.int .i64),.int .i64])) (x:As [.pr (.int .u16) (.int .i64),.int .u16,.int .i64]):rfn Tryz.prog q8i_ 6 18446744073709551616 (Ev.get q8g_) 227 q6y_ J x=qkq_ (fun owner ticks t15 l t6=>J 14 [] (ql5_ owner ticks t15 l t6)) x.1 x.2.1 x.2.2.1:=by kernel_rfl
theorem q14f_  (owner ticks t25 l t6):jfn Tryz.prog q8i_ 6 18446744073709551616 (Ev.get q8g_) 227 q6y_ 30 [] (qjv_ owner ticks t25 l t6)=qg3_ owner ticks t25 l t6:=by
 rw [q6_ (by decide)]
 rw [q13r_]
 rfl
theorem q14a_  (owner ticks t15 l t6):jfn Tryz.prog q8i_ 6 18446744073709551616 (Ev.get q8g_) 227 q6y_ 14 [] (ql5_ owner ticks t15 l t6)=qko_ owner ticks t15 l t6:=by
 rw [q6_ (by decide)]
 have e2:(fun owner ticks t25 l t6=>(jfn Tryz.prog q8i_ 6 18446744073709551616 (Ev.get q8g_) 227 q6y_) 30 [] (qjv_ owner ticks t25 l t6))=qg3_:=by funext owner ticks t25 l t6; exact q14f_ owner ticks t25 l t6
 rw [q159_,e2]
 rfl
theorem q17o_ (x:As [.pr (.int .u16) (.int .i64),.int .u16,.int .i64]):evT Tryz.prog q8i_ 6 18446744073709551616 (Ev.get q8g_) 227 q6y_ x=qrm_ x:=by
 have e1:(fun owner ticks t15 l t6=>(jfn Tryz.prog q8i_ 6 18446744073709551616 (Ev.get q8g_) 227 q6y_) 14 [] (ql5_ owner ticks t15 l t6))=qko_:=by funext owner ticks t15 l t6; exact q14a_ owner ticks t15 l t6
 rw [qi_,q13k_,e1]
 rfl
theorem q13p_:CtOk Tryz.prog (fun _=>True) 227 ⟨q6y_,qrm_⟩:=qd_ (q0_ qbi_ (q0_ qeu_ (q0_ qkg_ q3_))) q17o_
@[reducible] def qvh_:Sh:=⟨[.d (.pr (.sl (.int .u16)) YTT0),.d (.int .u16)],[],[.pr (.sl (.int .u16)) YTT0,.int .u16],[.d (.pr (.sl (.int .u16)) YTT0)],[],0,[.pr (.sl (.int .u16)) YTT0]⟩
def qok_ (a:List Int×(Int×Int)×Int×Int×Int×YTT9×Int) (owner:Int):Option (As [.pr (.sl (.int .u16)) YTT0]) :=
 Option.bind (qrm_ (a.2.1,owner,a.2.2.2.2.2.2,())) fun y=>some ((a.1,y.1,a.2.2),())
def qc8_ (x:As [.pr (.sl (.int .u16)) YTT0,.int .u16]):Option (As [.pr (.sl (.int .u16)) YTT0]):=qok_ x.1 x.2.1
theorem quv_:CtOk Tryz.prog (fun _=>True) 217 ⟨qvh_,qc8_⟩:=ctn (q0_ q13p_ q3_) 6 fun J x=>by kernel_rfl
@[reducible] def q14g_:Sh:=⟨[.d (.pr (.sl (.int .u16)) YTT0),.d (.pr (.int .u16) YTT6)],[],[.pr (.sl (.int .u16)) YTT0,.pr (.int .u16) YTT6],[.d (.pr (.sl (.int .u16)) YTT0)],[],0,[.pr (.sl (.int .u16)) YTT0]⟩
def qoj_ (a:List Int×(Int×Int)×Int×Int×Int×YTT9×Int) (c:Int×Int×Int×Int×Int):Option (As [.pr (.sl (.int .u16)) YTT0]) :=
 if eqi c.2.2.1 a.2.2.2.1=true then Option.bind (qc8_ (a,c.1,())) fun y=>some (y.1,()) else Option.bind (q9k_ (a,())) fun y=>Option.bind (qc8_ (y.1,c.1,())) fun y=>some ((y.1.1,y.1.2.1,1,c.2.2.1,y.1.2.2.2.2.1,(c.2.2.1,y.1.2.2.2.2.2.1.2),y.1.2.2.2.2.2.2),())
def qpc_ (x:As [.pr (.sl (.int .u16)) YTT0,.pr (.int .u16) YTT6]):Option (As [.pr (.sl (.int .u16)) YTT0]):=qoj_ x.1 x.2.1
theorem q132_:CtOk Tryz.prog (fun _=>True) 220 ⟨q14g_,qpc_⟩:=ctn (q0_ qe3_ (q0_ quv_ q3_)) 6 fun J x=>by kernel_rfl
@[reducible] def qrl_:Sh:=⟨[.d (.pr (.sl (.int .u16)) YTT0),.d (.int .u8),.d (.int .u32)],[],[.pr (.sl (.int .u16)) YTT0,.int .u8,.int .u32],[.d (.bool)],[],0,[.bool]⟩
def q1ao_:Env:=(cts [(2000035,Ev.bxCt)])
def qtz_ (a:List Int×(Int×Int)×Int×Int×Int×YTT9×Int) (phase tx:Int):Option (As [.bool]) :=
 if eqi a.2.2.1 phase=true then some (eqi a.2.2.2.1 tx,()) else some (false,())
def qf6_ (x:As [.pr (.sl (.int .u16)) YTT0,.int .u8,.int .u32]):Option (As [.bool]):=qtz_ x.1 x.2.1 x.2.2.1
theorem qtq_:CtOk Tryz.prog (fun _=>True) 215 ⟨qrl_,qf6_⟩:=ctn (env:=q1ao_) (q0_ Ev.bx_ok q3_) 6 fun J x=>by kernel_rfl
@[reducible] def qyc_:Sh:=⟨[.d (.int .u32)],[],[.int .u32],[.d (.int .u32)],[],0,[.int .u32]⟩
def qst_ (sum:Int):Option (As [.int .u32]) :=
 if eqi (Sx.band .u32 sum 1) 1=true then some (Sx.bxor .u32 (Sx.shr .u32 sum 1) 3988292384,()) else some (Sx.shr .u32 sum 1,())
def qq1_ (x:As [.int .u32]):Option (As [.int .u32]):=qst_ x.1
theorem q18e_:CtOk Tryz.prog (fun _=>True) 206 ⟨qyc_,qq1_⟩:=ctn q3_ 6 fun J x=>by kernel_rfl
@[reducible] def qhh_:Sh:=⟨[.d (.int .u32),.d (.int .u8)],[],[.int .u32,.int .u8],[.d (.int .u32)],[],0,[.int .u32]⟩
def qqh_:Env:=(cts [(206,(⟨qyc_,qq1_⟩:Ct))])
def qqd_:List (Nat×Hint):=[(58,⟨[],[0,9]⟩)]
def qhx_ (sum t9:Int):St:={ fr:=[(0,.d (.int .u32) sum),(9,.d (.int .i64) t9)],nt:=15,up:=[],own:=[],nx:=0,log:=[],ln:=0 }
def qmg_ (self1:Int->Int->Option (As [.int .u32])) (sum t9:Int):Option (As [.int .u32]) :=
 if lt t9 8=true then Option.bind (qq1_ (sum,())) fun y=>self1 y.1 (add .i64 t9 1) else some (sum,())
def q10m_ (j1:Int->Int->Option (As [.int .u32])) (sum b:Int):Option (As [.int .u32]) :=
 j1 (Sx.bxor .u32 sum (cvt .u32 b)) 0
def qmn_ (sum t9:Int):Option (As [.int .u32]) :=
 loopF (fun (self:(Int)×(Int)->Option (As [.int .u32])) (s:(Int)×(Int))=>qmg_ (fun sum t9=>self (sum,t9)) s.1 s.2) 18446744073709551616 (sum,t9)
def qu8_ (x:As [.int .u32,.int .u8]):Option (As [.int .u32]):=q10m_ qmn_ x.1 x.2.1
theorem q1ad_  (J w1 sum t9):pfn Tryz.prog qqh_ 6 18446744073709551616 (Ev.get qqd_) 177 qhh_ J 58 [w1] (qhx_ sum t9)=qmg_ (fun sum t9=>w1 (qhx_ sum t9)) sum t9:=by kernel_rfl
theorem q1af_ (J:Orc (As [.int .u32])) (x:As [.int .u32,.int .u8]):rfn Tryz.prog qqh_ 6 18446744073709551616 (Ev.get qqd_) 177 qhh_ J x=q10m_ (fun sum t9=>J 58 [] (qhx_ sum t9)) x.1 x.2.1:=by kernel_rfl
theorem q1an_  (sum t9):jfn Tryz.prog qqh_ 6 18446744073709551616 (Ev.get qqd_) 177 qhh_ 58 [] (qhx_ sum t9)=qmn_ sum t9:=by
 rw [q6_ (by decide)]
 rw [qo_ (by kernel_rfl)]
 refine qj_ (σ:=(Int)×(Int)) (mk:=fun s=>qhx_ s.1 s.2) (fun w1 s=>?_) 18446744073709551616 (sum,t9)
 refine (q1ad_ _ w1 s.1 s.2).trans ?_
 rfl
theorem q1au_ (x:As [.int .u32,.int .u8]):evT Tryz.prog qqh_ 6 18446744073709551616 (Ev.get qqd_) 177 qhh_ x=qu8_ x:=by
 have e1:(fun sum t9=>(jfn Tryz.prog qqh_ 6 18446744073709551616 (Ev.get qqd_) 177 qhh_) 58 [] (qhx_ sum t9))=qmn_:=by funext sum t9; exact q1an_ sum t9
 rw [qi_,q1af_,e1]
 rfl
theorem q1ap_:CtOk Tryz.prog (fun _=>True) 177 ⟨qhh_,qu8_⟩:=qd_ (q0_ q18e_ q3_) q1au_
@[reducible] def q87_:Sh:=⟨[.d (.sl (.int .u8))],[],[.sl (.int .u8)],[.d (.int .u32)],[],0,[.int .u32]⟩
def q99_:Env:=(cts [(177,(⟨qhh_,qu8_⟩:Ct))])
def q9n_:List (Nat×Hint):=[(7,⟨[],[3]⟩),(58,⟨[],[0,3,6,7]⟩)]
def qdf_ (b:List Int) (sum t6 t7:Int):St:={ fr:=[(0,.d (.sl (.int .u8)) b),(3,.d (.int .u32) sum),(6,.d (.int .i64) t6),(7,.d (.int .i64) t7)],nt:=19,up:=[],own:=[],nx:=0,log:=[],ln:=0 }
def qnz_ (sum:Int):St:={ fr:=[(3,.d (.int .u32) sum)],nt:=19,up:=[],own:=[],nx:=0,log:=[],ln:=0 }
def qd3_ (j2:Int->Option (As [.int .u32])) (self1:List Int->Int->Int->Int->Option (As [.int .u32])) (b:List Int) (sum t6 t7:Int):Option (As [.int .u32]) :=
 if lt t7 t6=true then Option.bind (at? b t7) fun y=>Option.bind (qu8_ (sum,y,())) fun y=>self1 b y.1 t6 (add .i64 t7 1) else j2 sum
def qse_ (sum:Int):Option (As [.int .u32]) :=
 some (Int.ofNat (BitVec.toNat { toFin:=⟨4294967295 ^^^ BitVec.toNat { toFin:=⟨Int.toNat (sum % 4294967296),BitVec.ofInt._proof_1 (Go.IntKind.bits .u32) sum⟩ },BitVec.xor._proof_1 (BitVec.ofInt (Go.IntKind.bits .u32) (if Go.IntKind.signed .u32=true then -1 else Go.IntKind.max .u32)) (BitVec.ofInt (Go.IntKind.bits .u32) sum)⟩ } % 4294967296),())
def qxp_ (j1:List Int->Int->Int->Int->Option (As [.int .u32])) (b:List Int):Option (As [.int .u32]) :=
 j1 b 4294967295 (Int.ofNat (List.length b)) 0
def qry_ (sum:Int):Option (As [.int .u32]):=qse_ sum
def qh8_ (b:List Int) (sum t6 t7:Int):Option (As [.int .u32]) :=
 loopF (fun (self:(List Int)×(Int)×(Int)×(Int)->Option (As [.int .u32])) (s:(List Int)×(Int)×(Int)×(Int))=>qd3_ (qry_) (fun b sum t6 t7=>self (b,sum,t6,t7)) s.1 s.2.1 s.2.2.1 s.2.2.2) 18446744073709551616 (b,sum,t6,t7)
def qth_ (x:As [.sl (.int .u8)]):Option (As [.int .u32]):=qxp_ qh8_ x.1
theorem q17x_  (J sum):pfn Tryz.prog q99_ 6 18446744073709551616 (Ev.get q9n_) 134 q87_ J 7 [] (qnz_ sum)=qse_ sum:=by kernel_rfl
theorem q160_  (J w1 b sum t6 t7):pfn Tryz.prog q99_ 6 18446744073709551616 (Ev.get q9n_) 134 q87_ J 58 [w1] (qdf_ b sum t6 t7)=qd3_ (fun sum=>J 7 [] (qnz_ sum)) (fun b sum t6 t7=>w1 (qdf_ b sum t6 t7)) b sum t6 t7:=by kernel_rfl
theorem q18d_ (J:Orc (As [.int .u32])) (x:As [.sl (.int .u8)]):rfn Tryz.prog q99_ 6 18446744073709551616 (Ev.get q9n_) 134 q87_ J x=qxp_ (fun b sum t6 t7=>J 58 [] (qdf_ b sum t6 t7)) x.1:=by kernel_rfl
theorem q18b_  (sum):jfn Tryz.prog q99_ 6 18446744073709551616 (Ev.get q9n_) 134 q87_ 7 [] (qnz_ sum)=qry_ sum:=by
 rw [q6_ (by decide)]
 rw [q17x_]
 rfl
theorem q16x_  (b sum t6 t7):jfn Tryz.prog q99_ 6 18446744073709551616 (Ev.get q9n_) 134 q87_ 58 [] (qdf_ b sum t6 t7)=qh8_ b sum t6 t7:=by
 rw [q6_ (by decide)]
 rw [qo_ (by kernel_rfl)]
 refine qj_ (σ:=(List Int)×(Int)×(Int)×(Int)) (mk:=fun s=>qdf_ s.1 s.2.1 s.2.2.1 s.2.2.2) (fun w1 s=>?_) 18446744073709551616 (b,sum,t6,t7)
 have e2:(fun sum=>(jfn Tryz.prog q99_ 6 18446744073709551616 (Ev.get q9n_) 134 q87_) 7 [] (qnz_ sum))=qry_:=funext fun sum=>q18b_ sum
 refine (q160_ _ w1 s.1 s.2.1 s.2.2.1 s.2.2.2).trans ?_
 rw [e2]
theorem q194_ (x:As [.sl (.int .u8)]):evT Tryz.prog q99_ 6 18446744073709551616 (Ev.get q9n_) 134 q87_ x=qth_ x:=by
 have e1:(fun b sum t6 t7=>(jfn Tryz.prog q99_ 6 18446744073709551616 (Ev.get q9n_) 134 q87_) 58 [] (qdf_ b sum t6 t7))=qh8_:=by funext b sum t6 t7; exact q16x_ b sum t6 t7
 rw [qi_,q18d_,e1]
 rfl
theorem q17t_:CtOk Tryz.prog (fun _=>True) 134 ⟨q87_,qth_⟩:=qd_ (q0_ q1ap_ q3_) q194_
@[reducible] def q83_:Sh:=⟨[.d (.sl (.int .u16))],[],[.sl (.int .u16)],[.d (.sl (.int .u8))],[],0,[.sl (.int .u8)]⟩
def qa2_:Env:=(cts [])
def qap_:List (Nat×Hint):=[(58,⟨[],[0,3,10,11]⟩)]
def q7d_ (l:List Int) (t10 t11:Int) (b:List Int):St:={ fr:=[(0,.d (.sl (.int .u16)) l),(3,.row 0),(10,.d (.int .i64) t10),(11,.d (.int .i64) t11)],nt:=36,up:=[],own:=[(0,.row (.int .u8) 5 b)],nx:=1,log:=[],ln:=0 }
def q7c_ (self1:List Int->Int->Int->List Int->Option (As [.sl (.int .u8)])) (l:List Int) (t10 t11:Int) (b:List Int):Option (As [.sl (.int .u8)]) :=
 if lt t11 t10=true then Option.bind (at? l t11) fun y=>Option.bind (at? l t11) fun y_1=>Option.bind (at? b (mul .i64 2 t11)) fun x=>Option.bind (at? b (mul .i64 2 t11)) fun x=>Option.bind (at? (List.set b (Int.toNat (mul .i64 2 t11)) (cvt .u8 (Sx.shr .u16 y 8))) (add .i64 (mul .i64 2 t11) 1)) fun x=>Option.bind (at? (List.set b (Int.toNat (mul .i64 2 t11)) (cvt .u8 (Sx.shr .u16 y 8))) (add .i64 (mul .i64 2 t11) 1)) fun x=>self1 l t10 (add .i64 t11 1) (List.set (List.set b (Int.toNat (mul .i64 2 t11)) (cvt .u8 (Sx.shr .u16 y 8))) (Int.toNat (add .i64 (mul .i64 2 t11) 1)) (cvt .u8 y_1)) else some (b,())
def qcv_ (j1:List Int->Int->Int->List Int->Option (As [.sl (.int .u8)])) (l:List Int):Option (As [.sl (.int .u8)]) :=
 need (ge (mul .i64 2 (Int.ofNat (List.length l))) 0) (need (Ev.capOk (mul .i64 2 (Int.ofNat (List.length l))) (mul .i64 2 (Int.ofNat (List.length l)))) (need (small (Int.toNat (mul .i64 2 (Int.ofNat (List.length l))))) (j1 l (Int.ofNat (List.length l)) 0 (List.replicate (Int.toNat (mul .i64 2 (Int.ofNat (List.length l)))) 0))))
def q93_ (l:List Int) (t10 t11:Int) (b:List Int):Option (As [.sl (.int .u8)]) :=
 loopF (fun (self:(List Int)×(Int)×(Int)×(List Int)->Option (As [.sl (.int .u8)])) (s:(List Int)×(Int)×(Int)×(List Int))=>q7c_ (fun l t10 t11 b=>self (l,t10,t11,b)) s.1 s.2.1 s.2.2.1 s.2.2.2) 18446744073709551616 (l,t10,t11,b)
def qil_ (x:As [.sl (.int .u16)]):Option (As [.sl (.int .u8)]):=qcv_ q93_ x.1
theorem qy0_  (J w1 l t10 t11 b):pfn Tryz.prog qa2_ 6 18446744073709551616 (Ev.get qap_) 135 q83_ J 58 [w1] (q7d_ l t10 t11 b)=q7c_ (fun l t10 t11 b=>w1 (q7d_ l t10 t11 b)) l t10 t11 b:=by kernel_rfl
theorem qy7_ (J:Orc (As [.sl (.int .u8)])) (x:As [.sl (.int .u16)]):rfn Tryz.prog qa2_ 6 18446744073709551616 (Ev.get qap_) 135 q83_ J x=qcv_ (fun l t10 t11 b=>J 58 [] (q7d_ l t10 t11 b)) x.1:=by kernel_rfl
theorem qxw_  (l t10 t11 b):jfn Tryz.prog qa2_ 6 18446744073709551616 (Ev.get qap_) 135 q83_ 58 [] (q7d_ l t10 t11 b)=q93_ l t10 t11 b:=by
 rw [q6_ (by decide)]
 rw [qo_ (by kernel_rfl)]
 refine qj_ (σ:=(List Int)×(Int)×(Int)×(List Int)) (mk:=fun s=>q7d_ s.1 s.2.1 s.2.2.1 s.2.2.2) (fun w1 s=>?_) 18446744073709551616 (l,t10,t11,b)
 refine (qy0_ _ w1 s.1 s.2.1 s.2.2.1 s.2.2.2).trans ?_
 rfl
theorem qz7_ (x:As [.sl (.int .u16)]):evT Tryz.prog qa2_ 6 18446744073709551616 (Ev.get qap_) 135 q83_ x=qil_ x:=by
 have e1:(fun l t10 t11 b=>(jfn Tryz.prog qa2_ 6 18446744073709551616 (Ev.get qap_) 135 q83_) 58 [] (q7d_ l t10 t11 b))=q93_:=by funext l t10 t11 b; exact qxw_ l t10 t11 b
 rw [qi_,qy7_,e1]
 rfl
theorem qxx_:CtOk Tryz.prog (fun _=>True) 135 ⟨q83_,qil_⟩:=qd_ q3_ qz7_
@[reducible] def qyf_:Sh:=⟨[.d (.sl (.int .u16))],[],[.sl (.int .u16)],[.d (.int .u32)],[],0,[.int .u32]⟩
def qsd_ (l:List Int):Option (As [.int .u32]) :=
 Option.bind (qil_ (l,())) fun y=>Option.bind (qth_ (y.1,())) fun y=>some (y.1,())
def qtj_ (x:As [.sl (.int .u16)]):Option (As [.int .u32]):=qsd_ x.1
theorem q17g_:CtOk Tryz.prog (fun _=>True) 74 ⟨qyf_,qtj_⟩:=ctn (q0_ q17t_ (q0_ qxx_ q3_)) 6 fun J x=>by kernel_rfl
@[reducible] def q6q_:Sh:=⟨[.d (.sl YTT8)],[],[.sl YTT8],[.d (.int .u32)],[],0,[.int .u32]⟩
def q9d_:Env:=(cts [(73,(⟨q3l_,q8j_⟩:Ct)),(74,(⟨qyf_,qtj_⟩:Ct))])
def q9i_:List (Nat×Hint):=[(7,⟨[],[3]⟩),(58,⟨[.row 3 23],[3,6,7,8]⟩)]
def qdr_ (t6:List (Int×List Int)) (t7 t8:Int) (all:List Int):St:={ fr:=[(3,.row 0),(6,.d (.sl YTT8) t6),(7,.d (.int .i64) t7),(8,.d (.int .i64) t8)],nt:=19,up:=[],own:=[(0,.row (.int .u16) 23 all)],nx:=1,log:=[],ln:=0 }
def qm2_ (all:List Int):St:={ fr:=[(3,.row 0)],nt:=19,up:=[],own:=[(0,.row (.int .u16) 23 all)],nx:=1,log:=[],ln:=0 }
def qd0_ (j2:List Int->Option (As [.int .u32])) (self1:List (Int×List Int)->Int->Int->List Int->Option (As [.int .u32])) (t6:List (Int×List Int)) (t7 t8:Int) (all:List Int):Option (As [.int .u32]) :=
 if lt t8 t7=true then Option.bind (at? t6 t8) fun y=>Option.bind (q8j_ (y,())) fun y=>need (small (List.length all + List.length y.1)) (self1 t6 t7 (add .i64 t8 1) (all++y.1)) else j2 all
def qmf_ (all:List Int):Option (As [.int .u32]) :=
 Option.bind (qtj_ (all,())) fun y=>some (y.1,())
def qxs_ (j1:List (Int×List Int)->Int->Int->List Int->Option (As [.int .u32])) (l:List (Int×List Int)):Option (As [.int .u32]) :=
 j1 l (Int.ofNat (List.length l)) 0 []
def qlw_ (all:List Int):Option (As [.int .u32]):=qmf_ all
def qh9_ (t6:List (Int×List Int)) (t7 t8:Int) (all:List Int):Option (As [.int .u32]) :=
 loopF (fun (self:(List (Int×List Int))×(Int)×(Int)×(List Int)->Option (As [.int .u32])) (s:(List (Int×List Int))×(Int)×(Int)×(List Int))=>qd0_ (qlw_) (fun t6 t7 t8 all=>self (t6,t7,t8,all)) s.1 s.2.1 s.2.2.1 s.2.2.2) 18446744073709551616 (t6,t7,t8,all)
def qq9_ (x:As [.sl YTT8]):Option (As [.int .u32]):=qxs_ qh9_ x.1
theorem q167_  (J all):pfn Tryz.prog q9d_ 6 18446744073709551616 (Ev.get q9i_) 19 q6q_ J 7 [] (qm2_ all)=qmf_ all:=by kernel_rfl
theorem q169_  (J w1 t6 t7 t8 all):pfn Tryz.prog q9d_ 6 18446744073709551616 (Ev.get q9i_) 19 q6q_ J 58 [w1] (qdr_ t6 t7 t8 all)=qd0_ (fun all=>J 7 [] (qm2_ all)) (fun t6 t7 t8 all=>w1 (qdr_ t6 t7 t8 all)) t6 t7 t8 all:=by kernel_rfl
theorem q18a_ (J:Orc (As [.int .u32])) (x:As [.sl YTT8]):rfn Tryz.prog q9d_ 6 18446744073709551616 (Ev.get q9i_) 19 q6q_ J x=qxs_ (fun t6 t7 t8 all=>J 58 [] (qdr_ t6 t7 t8 all)) x.1:=by kernel_rfl
theorem q17l_  (all):jfn Tryz.prog q9d_ 6 18446744073709551616 (Ev.get q9i_) 19 q6q_ 7 [] (qm2_ all)=qlw_ all:=by
 rw [q6_ (by decide)]
 rw [q167_]
 rfl
theorem q171_  (t6 t7 t8 all):jfn Tryz.prog q9d_ 6 18446744073709551616 (Ev.get q9i_) 19 q6q_ 58 [] (qdr_ t6 t7 t8 all)=qh9_ t6 t7 t8 all:=by
 rw [q6_ (by decide)]
 rw [qo_ (by kernel_rfl)]
 refine qj_ (σ:=(List (Int×List Int))×(Int)×(Int)×(List Int)) (mk:=fun s=>qdr_ s.1 s.2.1 s.2.2.1 s.2.2.2) (fun w1 s=>?_) 18446744073709551616 (t6,t7,t8,all)
 have e2:(fun all=>(jfn Tryz.prog q9d_ 6 18446744073709551616 (Ev.get q9i_) 19 q6q_) 7 [] (qm2_ all))=qlw_:=funext fun all=>q17l_ all
 refine (q169_ _ w1 s.1 s.2.1 s.2.2.1 s.2.2.2).trans ?_
 rw [e2]
theorem q19m_ (x:As [.sl YTT8]):evT Tryz.prog q9d_ 6 18446744073709551616 (Ev.get q9i_) 19 q6q_ x=qq9_ x:=by
 have e1:(fun t6 t7 t8 all=>(jfn Tryz.prog q9d_ 6 18446744073709551616 (Ev.get q9i_) 19 q6q_) 58 [] (qdr_ t6 t7 t8 all))=qh9_:=by funext t6 t7 t8 all; exact q171_ t6 t7 t8 all
 rw [qi_,q18a_,e1]
 rfl
theorem q165_:CtOk Tryz.prog (fun _=>True) 19 ⟨q6q_,qq9_⟩:=qd_ (q0_ qmi_ (q0_ q17g_ q3_)) q19m_
@[reducible] def q6g_:Sh:=⟨[.d (.pr (.int .u32) (.pr (.ar 8 .bool) (.ar 8 YTT8)))],[],[.pr (.int .u32) (.pr (.ar 8 .bool) (.ar 8 YTT8))],[.d (.sl YTT8)],[],0,[.sl YTT8]⟩
def qdi_:Env:=(cts [(2000033,Ev.bxCt),(79,(⟨qpl_,qed_⟩:Ct))])
def qdk_:List (Nat×Hint):=[(58,⟨[.row 3 30],[1,3,7,8]⟩)]
def q8t_ (s:Int×List Bool×List (Int×List Int)) (t7:List Bool) (t8:Int) (l:List (Int×List Int)):St:={ fr:=[(1,.pe (.pr (.int .u32) (.pr (.ar 8 .bool) (.ar 8 YTT8))) s),(3,.row 0),(7,.d (.ar 8 .bool) t7),(8,.d (.int .i64) t8)],nt:=23,up:=[],own:=[(0,.row YTT8 30 l)],nx:=1,log:=[],ln:=0 }
def q8s_ (self1:Int×List Bool×List (Int×List Int)->List Bool->Int->List (Int×List Int)->Option (As [.sl YTT8])) (s:Int×List Bool×List (Int×List Int)) (t7:List Bool) (t8:Int) (l:List (Int×List Int)):Option (As [.sl YTT8]) :=
 if lt t8 8=true then need (lt t8 8) (Option.bind (at? t7 t8) fun y=>if y=true then Option.bind (at? s.2.2 t8) fun y=>Option.bind (qed_ (y,())) fun y=>need (small (List.length l + Nat.succ 0)) (self1 s t7 (add .i64 t8 1) (l++[y.1])) else self1 s t7 (add .i64 t8 1) l) else some (l,())
def qta_ (j1:Int×List Bool×List (Int×List Int)->List Bool->Int->List (Int×List Int)->Option (As [.sl YTT8])) (s:Int×List Bool×List (Int×List Int)):Option (As [.sl YTT8]) :=
 j1 s s.2.1 0 []
def qbx_ (s:Int×List Bool×List (Int×List Int)) (t7:List Bool) (t8:Int) (l:List (Int×List Int)):Option (As [.sl YTT8]) :=
 loopF (fun (self:YTT9×(List Bool)×(Int)×(List (Int×List Int))->Option (As [.sl YTT8])) (s:YTT9×(List Bool)×(Int)×(List (Int×List Int)))=>q8s_ (fun s t7 t8 l=>self (s,t7,t8,l)) s.1 s.2.1 s.2.2.1 s.2.2.2) 18446744073709551616 (s,t7,t8,l)
def q7a_ (x:As [.pr (.int .u32) (.pr (.ar 8 .bool) (.ar 8 YTT8))]):Option (As [.sl YTT8]):=qta_ qbx_ x.1
theorem q10g_  (J w1 s t7 t8 l):pfn Tryz.prog qdi_ 6 18446744073709551616 (Ev.get qdk_) 139 q6g_ J 58 [w1] (q8t_ s t7 t8 l)=q8s_ (fun s t7 t8 l=>w1 (q8t_ s t7 t8 l)) s t7 t8 l:=by kernel_rfl
theorem q10s_ (J:Orc (As [.sl YTT8])) (x:As [.pr (.int .u32) (.pr (.ar 8 .bool) (.ar 8 YTT8))]):rfn Tryz.prog qdi_ 6 18446744073709551616 (Ev.get qdk_) 139 q6g_ J x=qta_ (fun s t7 t8 l=>J 58 [] (q8t_ s t7 t8 l)) x.1:=by kernel_rfl
theorem q10j_  (s t7 t8 l):jfn Tryz.prog qdi_ 6 18446744073709551616 (Ev.get qdk_) 139 q6g_ 58 [] (q8t_ s t7 t8 l)=qbx_ s t7 t8 l:=by
 rw [q6_ (by decide)]
 rw [qo_ (by kernel_rfl)]
 refine qj_ (σ:=YTT9×(List Bool)×(Int)×(List (Int×List Int))) (mk:=fun s=>q8t_ s.1 s.2.1 s.2.2.1 s.2.2.2) (fun w1 s=>?_) 18446744073709551616 (s,t7,t8,l)
 refine (q10g_ _ w1 s.1 s.2.1 s.2.2.1 s.2.2.2).trans ?_
 rfl
theorem q11m_ (x:As [.pr (.int .u32) (.pr (.ar 8 .bool) (.ar 8 YTT8))]):evT Tryz.prog qdi_ 6 18446744073709551616 (Ev.get qdk_) 139 q6g_ x=q7a_ x:=by
 have e1:(fun s t7 t8 l=>(jfn Tryz.prog qdi_ 6 18446744073709551616 (Ev.get qdk_) 139 q6g_) 58 [] (q8t_ s t7 t8 l))=qbx_:=by funext s t7 t8 l; exact q10j_ s t7 t8 l
 rw [qi_,q10s_,e1]
 rfl
theorem qml_:CtOk Tryz.prog (fun _=>True) 139 ⟨q6g_,q7a_⟩:=qd_ (q0_ Ev.bx_ok (q0_ qsf_ q3_)) q11m_
@[reducible] def q33_:Sh:=⟨[.d (.pr (.int .u32) (.pr (.ar 8 .bool) (.ar 8 YTT8))),.d (.int .i64),.d (.int .u32)],[],[.pr (.int .u32) (.pr (.ar 8 .bool) (.ar 8 YTT8)),.int .i64,.int .u32],[.d (.bool)],[],0,[.bool]⟩
def q47_:Env:=(cts [(2000033,Ev.bxCt),(19,(⟨q6q_,qq9_⟩:Ct)),(139,(⟨q6g_,q7a_⟩:Ct))])
def q49_:List (Nat×Hint):=[(7,⟨[],[2,3]⟩),(58,⟨[],[1,2,3,16,17]⟩),(6,⟨[],[1,2,3,14]⟩)]
def qik_ (count check:Int) (s:Int×List Bool×List (Int×List Int)) (t14:Bool):St:={ fr:=[(1,.d (.int .i64) count),(2,.d (.int .u32) check),(3,.pe (.pr (.int .u32) (.pr (.ar 8 .bool) (.ar 8 YTT8))) s),(14,.d .bool t14)],nt:=32,up:=[],own:=[],nx:=0,log:=[],ln:=0 }
def q9u_ (count check:Int) (s:Int×List Bool×List (Int×List Int)) (t16:List Bool) (t17:Int):St:={ fr:=[(1,.d (.int .i64) count),(2,.d (.int .u32) check),(3,.pe (.pr (.int .u32) (.pr (.ar 8 .bool) (.ar 8 YTT8))) s),(16,.d (.ar 8 .bool) t16),(17,.d (.int .i64) t17)],nt:=32,up:=[],own:=[],nx:=0,log:=[],ln:=0 }
def qi8_ (check:Int) (s:Int×List Bool×List (Int×List Int)):St:={ fr:=[(2,.d (.int .u32) check),(3,.pe (.pr (.int .u32) (.pr (.ar 8 .bool) (.ar 8 YTT8))) s)],nt:=32,up:=[],own:=[],nx:=0,log:=[],ln:=0 }
def qur_ (j2:Int->Int->Int×List Bool×List (Int×List Int)->List Bool->Int->Option (As [.bool])) (count check:Int) (s:Int×List Bool×List (Int×List Int)) (t14:Bool):Option (As [.bool]) :=
 if t14=true then some (false,()) else j2 count check s s.2.1 0
def q7v_ (j3:Int->Int×List Bool×List (Int×List Int)->Option (As [.bool])) (self2:Int->Int->Int×List Bool×List (Int×List Int)->List Bool->Int->Option (As [.bool])) (count check:Int) (s:Int×List Bool×List (Int×List Int)) (t16:List Bool) (t17:Int):Option (As [.bool]) :=
 if lt t17 8=true then need (lt t17 8) (Option.bind (at? t16 t17) fun y=>if Sx.neb y (lt t17 count)=true then some (false,()) else self2 count check s t16 (add .i64 t17 1)) else j3 check s
def qip_ (check:Int) (s:Int×List Bool×List (Int×List Int)):Option (As [.bool]) :=
 Option.bind (q7a_ (s,())) fun y=>Option.bind (qq9_ (y.1,())) fun y=>some (eqi y.1 check,())
def qhp_ (j1:Int->Int->Int×List Bool×List (Int×List Int)->Bool->Option (As [.bool])) (s:Int×List Bool×List (Int×List Int)) (count check:Int):Option (As [.bool]) :=
 if lt count 0=true then j1 count check s true else j1 count check s (gt count 8)
def q4z_ (check:Int) (s:Int×List Bool×List (Int×List Int)):Option (As [.bool]):=qip_ check s
def qdt_ (count check:Int) (s:Int×List Bool×List (Int×List Int)) (t16:List Bool) (t17:Int):Option (As [.bool]) :=
 loopF (fun (self:(Int)×(Int)×YTT9×(List Bool)×(Int)->Option (As [.bool])) (s:(Int)×(Int)×YTT9×(List Bool)×(Int))=>q7v_ (q4z_) (fun count check s t16 t17=>self (count,check,s,t16,t17)) s.1 s.2.1 s.2.2.1 s.2.2.2.1 s.2.2.2.2) 18446744073709551616 (count,check,s,t16,t17)
def qd4_ (count check:Int) (s:Int×List Bool×List (Int×List Int)) (t14:Bool):Option (As [.bool]):=qur_ (qdt_) count check s t14
def qjg_ (x:As [.pr (.int .u32) (.pr (.ar 8 .bool) (.ar 8 YTT8)),.int .i64,.int .u32]):Option (As [.bool]):=qhp_ qd4_ x.1 x.2.1 x.2.2.1
theorem q11c_  (J check s):pfn Tryz.prog q47_ 6 18446744073709551616 (Ev.get q49_) 229 q33_ J 7 [] (qi8_ check s)=qip_ check s:=by kernel_rfl
theorem q12l_  (J w2 count check s t16 t17):pfn Tryz.prog q47_ 6 18446744073709551616 (Ev.get q49_) 229 q33_ J 58 [w2] (q9u_ count check s t16 t17)=q7v_ (fun check s=>J 7 [] (qi8_ check s)) (fun count check s t16 t17=>w2 (q9u_ count check s t16 t17)) count check s t16 t17:=by kernel_rfl
theorem q12x_  (J count check s t14):pfn Tryz.prog q47_ 6 18446744073709551616 (Ev.get q49_) 229 q33_ J 6 [] (qik_ count check s t14)=qur_ (fun count check s t16 t17=>J 58 [] (q9u_ count check s t16 t17)) count check s t14:=by kernel_rfl
theorem q12e_ (J:Orc (As [.bool])) (x:As [.pr (.int .u32) (.pr (.ar 8 .bool) (.ar 8 YTT8)),.int .i64,.int .u32]):rfn Tryz.prog q47_ 6 18446744073709551616 (Ev.get q49_) 229 q33_ J x=qhp_ (fun count check s t14=>J 6 [] (qik_ count check s t14)) x.1 x.2.1 x.2.2.1:=by kernel_rfl
theorem q11e_  (check s):jfn Tryz.prog q47_ 6 18446744073709551616 (Ev.get q49_) 229 q33_ 7 [] (qi8_ check s)=q4z_ check s:=by
 rw [q6_ (by decide)]
 rw [q11c_]
 rfl
theorem q11t_  (count check s t16 t17):jfn Tryz.prog q47_ 6 18446744073709551616 (Ev.get q49_) 229 q33_ 58 [] (q9u_ count check s t16 t17)=qdt_ count check s t16 t17:=by
 rw [q6_ (by decide)]
 rw [qo_ (by kernel_rfl)]
 refine qj_ (σ:=(Int)×(Int)×YTT9×(List Bool)×(Int)) (mk:=fun s=>q9u_ s.1 s.2.1 s.2.2.1 s.2.2.2.1 s.2.2.2.2) (fun w2 s=>?_) 18446744073709551616 (count,check,s,t16,t17)
 have e3:(fun check s=>(jfn Tryz.prog q47_ 6 18446744073709551616 (Ev.get q49_) 229 q33_) 7 [] (qi8_ check s))=q4z_:=by funext check s; exact q11e_ check s
 refine (q12l_ _ w2 s.1 s.2.1 s.2.2.1 s.2.2.2.1 s.2.2.2.2).trans ?_
 rw [e3]
theorem q11a_  (count check s t14):jfn Tryz.prog q47_ 6 18446744073709551616 (Ev.get q49_) 229 q33_ 6 [] (qik_ count check s t14)=qd4_ count check s t14:=by
 rw [q6_ (by decide)]
 have e2:(fun count check s t16 t17=>(jfn Tryz.prog q47_ 6 18446744073709551616 (Ev.get q49_) 229 q33_) 58 [] (q9u_ count check s t16 t17))=qdt_:=by funext count check s t16 t17; exact q11t_ count check s t16 t17
 rw [q12x_,e2]
 rfl
theorem q13i_ (x:As [.pr (.int .u32) (.pr (.ar 8 .bool) (.ar 8 YTT8)),.int .i64,.int .u32]):evT Tryz.prog q47_ 6 18446744073709551616 (Ev.get q49_) 229 q33_ x=qjg_ x:=by
 have e1:(fun count check s t14=>(jfn Tryz.prog q47_ 6 18446744073709551616 (Ev.get q49_) 229 q33_) 6 [] (qik_ count check s t14))=qd4_:=by funext count check s t14; exact q11a_ count check s t14
 rw [qi_,q12e_,e1]
 rfl
theorem q11i_:CtOk Tryz.prog (fun _=>True) 229 ⟨q33_,qjg_⟩:=qd_ (q0_ Ev.bx_ok (q0_ q165_ (q0_ qml_ q3_))) q13i_
@[reducible] def qy1_:Sh:=⟨[.d (.pr (.sl (.int .u16)) YTT0),.d (.pr (.int .u16) YTT6)],[],[.pr (.sl (.int .u16)) YTT0,.pr (.int .u16) YTT6],[.d (.bool)],[],0,[.bool]⟩
def qxy_:Env:=(cts [(2000035,Ev.bxCt),(215,(⟨qrl_,qf6_⟩:Ct)),(229,(⟨q33_,qjg_⟩:Ct))])
def qhi_ (a:List Int×(Int×Int)×Int×Int×Int×YTT9×Int) (c:Int×Int×Int×Int×Int):Option (As [.bool]) :=
 Option.bind (qf6_ (a,2,c.2.2.1,())) fun y=>if y.1=true then some (false,()) else Option.bind (qf6_ (a,1,c.2.2.1,())) fun y=>if (!y.1)=true then some (true,()) else Option.bind (qjg_ (a.2.2.2.2.2.1,cvt .i64 c.2.2.2.1,c.2.2.2.2,())) fun y=>some (!y.1,())
def qgk_ (x:As [.pr (.sl (.int .u16)) YTT0,.pr (.int .u16) YTT6]):Option (As [.bool]):=qhi_ x.1 x.2.1
theorem qxl_:CtOk Tryz.prog (fun _=>True) 221 ⟨qy1_,qgk_⟩:=ctn (env:=qxy_) (q0_ Ev.bx_ok (q0_ qtq_ (q0_ q11i_ q3_))) 6 fun J x=>by kernel_rfl
@[reducible] def q16f_:Sh:=⟨[.d (.pr (.int .u16) (.int .i64)),.d (.int .u16)],[],[.pr (.int .u16) (.int .i64),.int .u16],[.d (.pr (.int .u16) (.int .i64)),.d (.int .i64)],[],0,[.pr (.int .u16) (.int .i64),.int .i64]⟩
def qrc_ (l:Int×Int) (owner:Int):Option (As [.pr (.int .u16) (.int .i64),.int .i64]) :=
 Option.bind (q7k_ (l,())) fun y=>if eqi owner 0=true then some (y.1,2,()) else if nei y.1.1 owner=true then some (y.1,22,()) else Option.bind (q97_ (owner,())) fun y=>some (y.1,0,())
def qvc_ (x:As [.pr (.int .u16) (.int .i64),.int .u16]):Option (As [.pr (.int .u16) (.int .i64),.int .i64]):=qrc_ x.1 x.2.1
theorem q147_:CtOk Tryz.prog (fun _=>True) 230 ⟨q16f_,qvc_⟩:=ctn (q0_ qeu_ (q0_ qkg_ q3_)) 6 fun J x=>by kernel_rfl
@[reducible] def q10r_:Sh:=⟨[.d (.pr (.sl (.int .u16)) YTT0),.d (.pr (.int .u16) YTT6)],[],[.pr (.sl (.int .u16)) YTT0,.pr (.int .u16) YTT6],[.d (.pr (.sl (.int .u16)) YTT0)],[],0,[.pr (.sl (.int .u16)) YTT0]⟩
def ql8_ (a:List Int×(Int×Int)×Int×Int×Int×YTT9×Int) (c:Int×Int×Int×Int×Int):Option (As [.pr (.sl (.int .u16)) YTT0]) :=
 Option.bind (qvc_ (a.2.1,c.1,())) fun y=>some ((a.1,y.1,2,a.2.2.2),())
def qkv_ (x:As [.pr (.sl (.int .u16)) YTT0,.pr (.int .u16) YTT6]):Option (As [.pr (.sl (.int .u16)) YTT0]):=ql8_ x.1 x.2.1
theorem qzn_:CtOk Tryz.prog (fun _=>True) 222 ⟨q10r_,qkv_⟩:=ctn (q0_ q147_ q3_) 6 fun J x=>by kernel_rfl
@[reducible] def qyl_:Sh:=⟨[.d (.pr (.sl (.int .u16)) YTT0),.d (.pr (.int .u16) YTT6)],[],[.pr (.sl (.int .u16)) YTT0,.pr (.int .u16) YTT6],[.d (.bool)],[],0,[.bool]⟩
def qza_:Env:=(cts [(2000035,Ev.bxCt),(215,(⟨qrl_,qf6_⟩:Ct))])
def qj2_ (a:List Int×(Int×Int)×Int×Int×Int×YTT9×Int) (c:Int×Int×Int×Int×Int):Option (As [.bool]) :=
 if nei a.2.2.2.2.1 c.2.2.1=true then Option.bind (qf6_ (a,2,c.2.2.1,())) fun y=>some (!y.1,()) else some (false,())
def qi9_ (x:As [.pr (.sl (.int .u16)) YTT0,.pr (.int .u16) YTT6]):Option (As [.bool]):=qj2_ x.1 x.2.1
theorem qy4_:CtOk Tryz.prog (fun _=>True) 223 ⟨qyl_,qi9_⟩:=ctn (env:=qza_) (q0_ Ev.bx_ok (q0_ qtq_ q3_)) 6 fun J x=>by kernel_rfl
@[reducible] def qvt_:Sh:=⟨[.d YTT8],[],[.pr (.int .i64) (.sl (.int .u16))],[.d (.bool)],[],0,[.bool]⟩
def qoo_ (x:Int×List Int):Option (As [.bool]) :=
 Option.bind (q7g_ (x,())) fun y=>some (!y.1,())
def qpv_ (x:As [.pr (.int .i64) (.sl (.int .u16))]):Option (As [.bool]):=qoo_ x.1
theorem qom_:CtOk Tryz.prog (fun _=>True) 236 ⟨qvt_,qpv_⟩:=ctn (q0_ qhj_ q3_) 6 fun J x=>by kernel_rfl
@[reducible] def q2f_:Sh:=⟨[.d (.sl YTT8),.fn (.func 236) [] []],[],[.sl YTT8],[.d (.int .i64)],[],0,[.int .i64]⟩
def q3c_:Env:=(cts [(236,(⟨qvt_,qpv_⟩:Ct))])
def q3d_:List (Nat×Hint):=[(26,⟨[],[0,1,7,8]⟩)]
def q23_ (s:List (Int×List Int)) (t7 t8:Int):St:={ fr:=[(0,.d (.sl YTT8) s),(1,.fn (.func 236) [] []),(7,.d (.int .i64) t7),(8,.d (.int .i64) t8)],nt:=19,up:=[],own:=[],nx:=0,log:=[],ln:=0 }
def q22_ (self1:List (Int×List Int)->Int->Int->Option (As [.int .i64])) (s:List (Int×List Int)) (t7 t8:Int):Option (As [.int .i64]) :=
 if lt t8 t7=true then Option.bind (at? s t8) fun y=>Option.bind (qpv_ (y,())) fun y=>if y.1=true then some (t8,()) else self1 s t7 (add .i64 t8 1) else some (-1,())
def qc5_ (j1:List (Int×List Int)->Int->Int->Option (As [.int .i64])) (s:List (Int×List Int)):Option (As [.int .i64]) :=
 j1 s (Int.ofNat (List.length s)) 0
def q37_ (s:List (Int×List Int)) (t7 t8:Int):Option (As [.int .i64]) :=
 loopF (fun (self:(List (Int×List Int))×(Int)×(Int)->Option (As [.int .i64])) (s:(List (Int×List Int))×(Int)×(Int))=>q22_ (fun s t7 t8=>self (s,t7,t8)) s.1 s.2.1 s.2.2) 18446744073709551616 (s,t7,t8)
def q56_ (x:As [.sl YTT8]):Option (As [.int .i64]):=qc5_ q37_ x.1
theorem qo7_  (J w1 s t7 t8):pfn Tryz.prog q3c_ 6 18446744073709551616 (Ev.get q3d_) 237 q2f_ J 26 [w1] (q23_ s t7 t8)=q22_ (fun s t7 t8=>w1 (q23_ s t7 t8)) s t7 t8:=by kernel_rfl
theorem qms_ (J:Orc (As [.int .i64])) (x:As [.sl YTT8]):rfn Tryz.prog q3c_ 6 18446744073709551616 (Ev.get q3d_) 237 q2f_ J x=qc5_ (fun s t7 t8=>J 26 [] (q23_ s t7 t8)) x.1:=by kernel_rfl
theorem qlt_  (s t7 t8):jfn Tryz.prog q3c_ 6 18446744073709551616 (Ev.get q3d_) 237 q2f_ 26 [] (q23_ s t7 t8)=q37_ s t7 t8:=by
 rw [q6_ (by decide)]
 rw [qo_ (by kernel_rfl)]
 refine qj_ (σ:=(List (Int×List Int))×(Int)×(Int)) (mk:=fun s=>q23_ s.1 s.2.1 s.2.2) (fun w1 s=>?_) 18446744073709551616 (s,t7,t8)
 refine (qo7_ _ w1 s.1 s.2.1 s.2.2).trans ?_
 rfl
theorem qoa_ (x:As [.sl YTT8]):evT Tryz.prog q3c_ 6 18446744073709551616 (Ev.get q3d_) 237 q2f_ x=q56_ x:=by
 have e1:(fun s t7 t8=>(jfn Tryz.prog q3c_ 6 18446744073709551616 (Ev.get q3d_) 237 q2f_) 26 [] (q23_ s t7 t8))=q37_:=by funext s t7 t8; exact qlt_ s t7 t8
 rw [qi_,qms_,e1]
 rfl
theorem qns_:CtOk Tryz.prog (fun _=>True) 237 ⟨q2f_,q56_⟩:=qd_ (q0_ qom_ q3_) qoa_
@[reducible] def qlf_:Sh:=⟨[.d (.sl YTT8),.fn (.func 236) [] []],[],[.sl YTT8],[.d (.bool)],[],0,[.bool]⟩
def q5v_ (s:List (Int×List Int)):Option (As [.bool]) :=
 Option.bind (q56_ (s,())) fun y=>some (ge y.1 0,())
def q6z_ (x:As [.sl YTT8]):Option (As [.bool]):=q5v_ x.1
theorem qjj_:CtOk Tryz.prog (fun _=>True) 235 ⟨qlf_,q6z_⟩:=ctn (q0_ qom_ (q0_ qns_ q3_)) 6 fun J x=>by kernel_rfl
@[reducible] def q10n_:Sh:=⟨[.d (.sl YTT8)],[],[.sl YTT8],[.d (.bool)],[],0,[.bool]⟩
def qtt_ (l:List (Int×List Int)):Option (As [.bool]) :=
 Option.bind (q6z_ (l,())) fun y=>some (!y.1,())
def qve_ (x:As [.sl YTT8]):Option (As [.bool]):=qtt_ x.1
theorem q19v_:CtOk Tryz.prog (fun _=>True) 233 ⟨q10n_,qve_⟩:=ctn (q0_ qjj_ (q0_ qom_ q3_)) 6 fun J x=>by kernel_rfl
@[reducible] def q86_:Sh:=⟨[.d (.sl (.int .u16)),.d (.sl YTT8)],[],[.sl (.int .u16),.sl YTT8],[.d (.sl (.int .u16)),.d (.int .i64)],[],0,[.sl (.int .u16),.int .i64]⟩
def q9e_:Env:=(cts [(131,(⟨q7b_,q38_⟩:Ct)),(233,(⟨q10n_,qve_⟩:Ct))])
def q9j_:List (Nat×Hint):=[(31,⟨[],[0]⟩),(250,⟨[],[0,16,17,18]⟩)]
def qd6_ (t16:List (Int×List Int)) (t17 t18:Int) (bank:List Int):St:={ fr:=[(0,.row 0),(16,.d (.sl YTT8) t16),(17,.d (.int .i64) t17),(18,.d (.int .i64) t18)],nt:=31,up:=[],own:=[(0,.row (.int .u16) 23 bank)],nx:=1,log:=[],ln:=0 }
def qo5_ (bank:List Int):St:={ fr:=[(0,.row 0)],nt:=31,up:=[],own:=[(0,.row (.int .u16) 23 bank)],nx:=1,log:=[],ln:=0 }
def qdo_ (j2:List Int->Option (As [.sl (.int .u16),.int .i64])) (self1:List (Int×List Int)->Int->Int->List Int->Option (As [.sl (.int .u16),.int .i64])) (t16:List (Int×List Int)) (t17 t18:Int) (bank:List Int):Option (As [.sl (.int .u16),.int .i64]) :=
 if lt t18 t17=true then Option.bind (at? t16 t18) fun y=>need (ge y.1 0) (need (le y.1 (Int.ofNat (List.length bank))) (need (le (Int.ofNat (List.length bank)) (Int.ofNat (List.length bank))) (need (le (y.1 + (Int.ofNat (List.length bank) - y.1)) (Int.ofNat (List.length bank))) (self1 t16 t17 (add .i64 t18 1) (List.take (Int.toNat y.1) bank++List.take (Int.toNat (Int.ofNat (List.length bank) - y.1)) y.2++List.drop (Int.toNat y.1 + List.length (List.take (Int.toNat (Int.ofNat (List.length bank) - y.1)) y.2)) bank))))) else j2 bank
def qxf_ (bank:List Int):Option (As [.sl (.int .u16),.int .i64]) :=
 some (bank,0,())
def qmb_ (j1:List (Int×List Int)->Int->Int->List Int->Option (As [.sl (.int .u16),.int .i64])) (bank:List Int) (l:List (Int×List Int)):Option (As [.sl (.int .u16),.int .i64]) :=
 if nei (Int.ofNat (List.length bank)) 64=true then some ([],21,()) else Option.bind (qve_ (l,())) fun y=>if (!y.1)=true then some ([],20,()) else Option.bind (q38_ (bank,())) fun y=>j1 l (Int.ofNat (List.length l)) 0 y.1
def qsk_ (bank:List Int):Option (As [.sl (.int .u16),.int .i64]):=qxf_ bank
def qdj_ (t16:List (Int×List Int)) (t17 t18:Int) (bank:List Int):Option (As [.sl (.int .u16),.int .i64]) :=
 loopF (fun (self:(List (Int×List Int))×(Int)×(Int)×(List Int)->Option (As [.sl (.int .u16),.int .i64])) (s:(List (Int×List Int))×(Int)×(Int)×(List Int))=>qdo_ (qsk_) (fun t16 t17 t18 bank=>self (t16,t17,t18,bank)) s.1 s.2.1 s.2.2.1 s.2.2.2) 18446744073709551616 (t16,t17,t18,bank)
def qte_ (x:As [.sl (.int .u16),.sl YTT8]):Option (As [.sl (.int .u16),.int .i64]):=qmb_ qdj_ x.1 x.2.1
theorem q17u_  (J bank):pfn Tryz.prog q9e_ 6 18446744073709551616 (Ev.get q9j_) 231 q86_ J 31 [] (qo5_ bank)=qxf_ bank:=by kernel_rfl
theorem q176_  (J w1 t16 t17 t18 bank):pfn Tryz.prog q9e_ 6 18446744073709551616 (Ev.get q9j_) 231 q86_ J 250 [w1] (qd6_ t16 t17 t18 bank)=qdo_ (fun bank=>J 31 [] (qo5_ bank)) (fun t16 t17 t18 bank=>w1 (qd6_ t16 t17 t18 bank)) t16 t17 t18 bank:=by kernel_rfl
theorem q18p_ (J:Orc (As [.sl (.int .u16),.int .i64])) (x:As [.sl (.int .u16),.sl YTT8]):rfn Tryz.prog q9e_ 6 18446744073709551616 (Ev.get q9j_) 231 q86_ J x=qmb_ (fun t16 t17 t18 bank=>J 250 [] (qd6_ t16 t17 t18 bank)) x.1 x.2.1:=by kernel_rfl
theorem q186_  (bank):jfn Tryz.prog q9e_ 6 18446744073709551616 (Ev.get q9j_) 231 q86_ 31 [] (qo5_ bank)=qsk_ bank:=by
 rw [q6_ (by decide)]
 rw [q17u_]
 rfl
theorem q16z_  (t16 t17 t18 bank):jfn Tryz.prog q9e_ 6 18446744073709551616 (Ev.get q9j_) 231 q86_ 250 [] (qd6_ t16 t17 t18 bank)=qdj_ t16 t17 t18 bank:=by
 rw [q6_ (by decide)]
 rw [qo_ (by kernel_rfl)]
 refine qj_ (σ:=(List (Int×List Int))×(Int)×(Int)×(List Int)) (mk:=fun s=>qd6_ s.1 s.2.1 s.2.2.1 s.2.2.2) (fun w1 s=>?_) 18446744073709551616 (t16,t17,t18,bank)
 have e2:(fun bank=>(jfn Tryz.prog q9e_ 6 18446744073709551616 (Ev.get q9j_) 231 q86_) 31 [] (qo5_ bank))=qsk_:=funext fun bank=>q186_ bank
 refine (q176_ _ w1 s.1 s.2.1 s.2.2.1 s.2.2.2).trans ?_
 rw [e2]
theorem q1a2_ (x:As [.sl (.int .u16),.sl YTT8]):evT Tryz.prog q9e_ 6 18446744073709551616 (Ev.get q9j_) 231 q86_ x=qte_ x:=by
 have e1:(fun t16 t17 t18 bank=>(jfn Tryz.prog q9e_ 6 18446744073709551616 (Ev.get q9j_) 231 q86_) 250 [] (qd6_ t16 t17 t18 bank))=qdj_:=by funext t16 t17 t18 bank; exact q16z_ t16 t17 t18 bank
 rw [qi_,q18p_,e1]
 rfl
theorem q17j_:CtOk Tryz.prog (fun _=>True) 231 ⟨q86_,qte_⟩:=qd_ (q0_ qgr_ (q0_ q19v_ q3_)) q1a2_
@[reducible] def q135_:Sh:=⟨[.d (.pr (.sl (.int .u16)) YTT0),.d (.pr (.int .u16) YTT6)],[],[.pr (.sl (.int .u16)) YTT0,.pr (.int .u16) YTT6],[.d (.pr (.sl (.int .u16)) YTT0)],[],0,[.pr (.sl (.int .u16)) YTT0]⟩
def qn4_ (a:List Int×(Int×Int)×Int×Int×Int×YTT9×Int) (c:Int×Int×Int×Int×Int):Option (As [.pr (.sl (.int .u16)) YTT0]) :=
 if eqi a.2.2.2.2.1 c.2.2.1=true then some (a,()) else Option.bind (q7a_ (a.2.2.2.2.2.1,())) fun y=>Option.bind (qte_ (a.1,y.1,())) fun y=>if nei y.2.1 0=true then some (a,()) else Option.bind (q9k_ ((y.1,a.2.1,a.2.2.1,a.2.2.2.1,c.2.2.1,a.2.2.2.2.2),())) fun y=>some (y.1,())
def qnv_ (x:As [.pr (.sl (.int .u16)) YTT0,.pr (.int .u16) YTT6]):Option (As [.pr (.sl (.int .u16)) YTT0]):=qn4_ x.1 x.2.1
theorem q10e_:CtOk Tryz.prog (fun _=>True) 224 ⟨q135_,qnv_⟩:=ctn (q0_ qml_ (q0_ qe3_ (q0_ q17j_ q3_))) 6 fun J x=>by kernel_rfl
@[reducible] def q10c_:Sh:=⟨[.d (.pr (.sl (.int .u16)) YTT0),.d (.pr (.int .u16) YTT6)],[],[.pr (.sl (.int .u16)) YTT0,.pr (.int .u16) YTT6],[.d (.bool)],[],0,[.bool]⟩
def qzy_:Env:=(cts [(2000035,Ev.bxCt)])
def qym_ (a:List Int×(Int×Int)×Int×Int×Int×YTT9×Int) (c:Int×Int×Int×Int×Int):Option (As [.bool]) :=
 some (le c.2.2.1 a.2.2.2.2.1,())
def qjz_ (x:As [.pr (.sl (.int .u16)) YTT0,.pr (.int .u16) YTT6]):Option (As [.bool]):=qym_ x.1 x.2.1
theorem qzj_:CtOk Tryz.prog (fun _=>True) 225 ⟨q10c_,qjz_⟩:=ctn (env:=qzy_) (q0_ Ev.bx_ok q3_) 6 fun J x=>by kernel_rfl
@[reducible] def qbg_:Sh:=⟨[.d (.pr (.sl (.int .u16)) YTT0),.d (.pr (.int .u16) YTT6)],[],[.pr (.sl (.int .u16)) YTT0,.pr (.int .u16) YTT6],[.d (.pr (.sl (.int .u16)) YTT0)],[],0,[.pr (.sl (.int .u16)) YTT0]⟩
def qfe_:Env:=(cts [(2000035,Ev.bxCt),(180,(⟨qvu_,q9k_⟩:Ct))])
def qfu_:List (Nat×Hint):=[(6,⟨[],[2,4,17]⟩)]
def qic_ (a:List Int×(Int×Int)×Int×Int×Int×YTT9×Int) (t4:Int) (t17:Bool) (t4_2:List YTT2):St:={ fr:=[(2,.pe (.pr (.sl (.int .u16)) YTT0) a),(4,.prw 0 t4 32 0),(17,.d .bool t17)],nt:=21,up:=[],own:=[(0,.row (.pr (.sl (.int .u16)) YTT0) 35 t4_2)],nx:=1,log:=[],ln:=0 }
def qhq_ (a:List Int×(Int×Int)×Int×Int×Int×YTT9×Int) (t4:Int) (t17:Bool) (t4_2:List YTT2):Option (As [.pr (.sl (.int .u16)) YTT0]) :=
 if t17=true then Option.bind (at? t4_2 t4) fun x=>Option.bind (at? (List.set t4_2 (Int.toNat t4) a) t4) fun y=>Option.bind (at? (List.set t4_2 (Int.toNat t4) a) t4) fun y=>some (y,()) else Option.bind (q9k_ (a,())) fun y=>Option.bind (at? t4_2 t4) fun x=>Option.bind (at? (List.set t4_2 (Int.toNat t4) y.1) t4) fun y_1=>Option.bind (at? (List.set t4_2 (Int.toNat t4) y.1) t4) fun y=>some (y,())
def qif_ (j1:List Int×(Int×Int)×Int×Int×Int×YTT9×Int->Int->Bool->List YTT2->Option (As [.pr (.sl (.int .u16)) YTT0])) (a:List Int×(Int×Int)×Int×Int×Int×YTT9×Int) (c:Int×Int×Int×Int×Int):Option (As [.pr (.sl (.int .u16)) YTT0]) :=
 if nei a.2.1.1 c.1=true then j1 a 0 true [zAg0] else j1 a 0 (nei a.2.2.2.1 c.2.2.1) [zAg0]
def qdx_ (a:List Int×(Int×Int)×Int×Int×Int×YTT9×Int) (t4:Int) (t17:Bool) (t4_2:List YTT2):Option (As [.pr (.sl (.int .u16)) YTT0]):=qhq_ a t4 t17 t4_2
def qj4_ (x:As [.pr (.sl (.int .u16)) YTT0,.pr (.int .u16) YTT6]):Option (As [.pr (.sl (.int .u16)) YTT0]):=qif_ qdx_ x.1 x.2.1
theorem q11f_  (J a t4 t17 t4_2):pfn Tryz.prog qfe_ 6 18446744073709551616 (Ev.get qfu_) 226 qbg_ J 6 [] (qic_ a t4 t17 t4_2)=qhq_ a t4 t17 t4_2:=by kernel_rfl
theorem q125_ (J:Orc (As [.pr (.sl (.int .u16)) YTT0])) (x:As [.pr (.sl (.int .u16)) YTT0,.pr (.int .u16) YTT6]):rfn Tryz.prog qfe_ 6 18446744073709551616 (Ev.get qfu_) 226 qbg_ J x=qif_ (fun a t4 t17 t4_2=>J 6 [] (qic_ a t4 t17 t4_2)) x.1 x.2.1:=by kernel_rfl
theorem q12p_  (a t4 t17 t4_2):jfn Tryz.prog qfe_ 6 18446744073709551616 (Ev.get qfu_) 226 qbg_ 6 [] (qic_ a t4 t17 t4_2)=qdx_ a t4 t17 t4_2:=by
 rw [q6_ (by decide)]
 rw [q11f_]
 rfl
theorem q14k_ (x:As [.pr (.sl (.int .u16)) YTT0,.pr (.int .u16) YTT6]):evT Tryz.prog qfe_ 6 18446744073709551616 (Ev.get qfu_) 226 qbg_ x=qj4_ x:=by
 have e1:(fun a t4 t17 t4_2=>(jfn Tryz.prog qfe_ 6 18446744073709551616 (Ev.get qfu_) 226 qbg_) 6 [] (qic_ a t4 t17 t4_2))=qdx_:=by funext a t4 t17 t4_2; exact q12p_ a t4 t17 t4_2
 rw [qi_,q125_,e1]
 rfl
theorem q124_:CtOk Tryz.prog (fun _=>True) 226 ⟨qbg_,qj4_⟩:=qd_ (q0_ Ev.bx_ok (q0_ qe3_ q3_)) q14k_
@[reducible] def qva_:Sh:=⟨[.d (.pr (.sl (.int .u16)) YTT0),.d (.pr (.int .u16) YTT6)],[],[.pr (.sl (.int .u16)) YTT0,.pr (.int .u16) YTT6],[.d (.pr (.sl (.int .u16)) YTT0),.d (.int .i64)],[],0,[.pr (.sl (.int .u16)) YTT0,.int .i64]⟩
def qtw_ (a:List Int×(Int×Int)×Int×Int×Int×YTT9×Int) (c:Int×Int×Int×Int×Int):Option (As [.pr (.sl (.int .u16)) YTT0,.int .i64]) :=
 Option.bind (qe9_ (a,())) fun y=>amb (eqAs qva_.rs) [if eqi 1 c.2.1=true then if eqi c.1 0=true then some (y.1,2,()) else if eqi c.2.2.1 0=true then some (y.1,2,()) else Option.bind (q46_ (y.1,c.1,())) fun y_1=>if y_1.1=true then some (y.1,22,()) else Option.bind (ql0_ (y.1,c,())) fun y_2=>if y_2.1=true then some (y.1,23,()) else Option.bind (qpc_ (y.1,c,())) fun y=>some (y.1,0,()) else if eqi 2 c.2.1=true then if eqi c.1 0=true then some (y.1,2,()) else if eqi c.2.2.1 0=true then some (y.1,2,()) else Option.bind (q46_ (y.1,c.1,())) fun y_1=>if y_1.1=true then some (y.1,22,()) else Option.bind (qgk_ (y.1,c,())) fun y_2=>if y_2.1=true then some (y.1,23,()) else Option.bind (qkv_ (y.1,c,())) fun y=>some (y.1,0,()) else if eqi 3 c.2.1=true then if eqi c.1 0=true then some (y.1,2,()) else if eqi c.2.2.1 0=true then some (y.1,2,()) else Option.bind (q46_ (y.1,c.1,())) fun y_1=>if y_1.1=true then some (y.1,22,()) else Option.bind (qi9_ (y.1,c,())) fun y_2=>if y_2.1=true then some (y.1,23,()) else Option.bind (qnv_ (y.1,c,())) fun y=>some (y.1,0,()) else if eqi 4 c.2.1=true then if eqi c.1 0=true then some (y.1,2,()) else if eqi c.2.2.1 0=true then some (y.1,2,()) else Option.bind (q46_ (y.1,c.1,())) fun y_1=>if y_1.1=true then some (y.1,22,()) else Option.bind (qjz_ (y.1,c,())) fun y_2=>if y_2.1=true then some (y.1,23,()) else Option.bind (qj4_ (y.1,c,())) fun y=>some (y.1,0,()) else if eqi c.1 0=true then some (y.1,2,()) else if eqi c.2.2.1 0=true then some (y.1,2,()) else some (y.1,2,()),if eqi 1 c.2.1=true then if eqi c.1 0=true then some (y.1,2,()) else if eqi c.2.2.1 0=true then some (y.1,2,()) else Option.bind (q46_ (y.1,c.1,())) fun y_1=>if y_1.1=true then some (y.1,22,()) else Option.bind (ql0_ (y.1,c,())) fun y_2=>if y_2.1=true then some (y.1,23,()) else Option.bind (qpc_ (y.1,c,())) fun y=>some (y.1,0,()) else if eqi 2 c.2.1=true then if eqi c.1 0=true then some (y.1,2,()) else if eqi c.2.2.1 0=true then some (y.1,2,()) else Option.bind (q46_ (y.1,c.1,())) fun y_1=>if y_1.1=true then some (y.1,22,()) else Option.bind (qgk_ (y.1,c,())) fun y_2=>if y_2.1=true then some (y.1,23,()) else Option.bind (qkv_ (y.1,c,())) fun y=>some (y.1,0,()) else if eqi 3 c.2.1=true then if eqi c.1 0=true then some (y.1,2,()) else if eqi c.2.2.1 0=true then some (y.1,2,()) else Option.bind (q46_ (y.1,c.1,())) fun y_1=>if y_1.1=true then some (y.1,22,()) else Option.bind (qi9_ (y.1,c,())) fun y_2=>if y_2.1=true then some (y.1,23,()) else Option.bind (qnv_ (y.1,c,())) fun y=>some (y.1,0,()) else if eqi 4 c.2.1=true then if eqi c.1 0=true then some (y.1,2,()) else if eqi c.2.2.1 0=true then some (y.1,2,()) else Option.bind (q46_ (y.1,c.1,())) fun y_1=>if y_1.1=true then some (y.1,22,()) else Option.bind (qjz_ (y.1,c,())) fun y_2=>if y_2.1=true then some (y.1,23,()) else Option.bind (qj4_ (y.1,c,())) fun y=>some (y.1,0,()) else if eqi c.1 0=true then some (y.1,2,()) else if eqi c.2.2.1 0=true then some (y.1,2,()) else some (y.1,2,())]
def qf9_ (x:As [.pr (.sl (.int .u16)) YTT0,.pr (.int .u16) YTT6]):Option (As [.pr (.sl (.int .u16)) YTT0,.int .i64]):=qtw_ x.1 x.2.1
theorem q19f_:CtOk Tryz.prog (fun _=>True) 204 ⟨qva_,qf9_⟩:=ctn (q0_ qmx_ (q0_ qtc_ (q0_ qzs_ (q0_ q132_ (q0_ qxl_ (q0_ qzn_ (q0_ qy4_ (q0_ q10e_ (q0_ qzj_ (q0_ q124_ q3_)))))))))) 6 fun J x=>by kernel_rfl
end Go.Proofs.Lx
end
