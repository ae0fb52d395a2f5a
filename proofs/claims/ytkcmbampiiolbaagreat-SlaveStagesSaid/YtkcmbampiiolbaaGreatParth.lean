/- Proved in the last of these 13 parts (this is part 8): SlaveStages returns true, whatever the link, the bank, the owner, the transaction and the blocks. Conditions: those of the given statement, and no others. -/
import Derived.Test.YtkcmbampiiolbaaGreatParte
import Derived.Test.YtkcmbampiiolbaaGreatPartg
import Derived.Test.YtkcmbampiiolbaaGreatProg
set_option linter.unusedVariables false
set_option linter.unusedSimpArgs false
set_option linter.unusedSectionVars false
section
open Go Go.Proofs Ev Sx
set_option maxRecDepth 100000
namespace Go.Proofs.Lx
abbrev YaA3q0:Type:=Int×Int×Int×Int×List Int×List Bool
@[reducible] def q1_:Sh:=⟨[.d (.pr YTT1 (.sl (.int .u16))),.d (.bool)],[],[.pr YTT1 (.sl (.int .u16)),.bool],[.d (.bool)],[],0,[.bool]⟩
def q6_:Env:=(cts [])
def q5_:List (Nat×Hint):=[(122,⟨[],[1,2,5,13,14,15,24,25,26,27,28,29,32,33,34,37,38,39,40,41,42,43,44,45,49,50]⟩),(31334,⟨[.agd 50 .bool],[1,2,7,13,14,15,51]⟩),(15666,⟨[.agd 25 (.int .i64),.agd 27 (.sl (.int .u16)),.agd 28 (.int .i64),.agd 29 .bool,.agd 33 (.int .i64),.agd 34 .bool,.agd 38 (.int .i64),.agd 40 (.sl (.int .u16)),.agd 41 (.int .i64),.agd 43 (.int .i64),.agd 44 (.int .i64),.agd 45 .bool],[1,2,7,13,14,15,46]⟩)]
def q2_ (fixed:Bool) (endV:Int) (t13:List YTT5) (t14 t15:Int) (t:List YTT5×List Int):St:={ fr:=[(1,.d .bool fixed),(2,.pb 0 0),(5,.d (.int .i64) endV),(13,.d YTT1 t13),(14,.d (.int .i64) t14),(15,.d (.int .i64) t15)],nt:=58,up:=[],own:=[(0,.box 172 [.d YTT1 t.1,.d (.sl (.int .u16)) t.2])],nx:=1,log:=[],ln:=0 }
def q2u_ (fixed:Bool) (t13:List YTT5) (t14 t15:Int) (t46:Bool) (t:List YTT5×List Int) (x:Int×Int×Bool×Bool×Bool):St:={ fr:=[(1,.d .bool fixed),(2,.pb 0 0),(7,.pb 1 0),(13,.d YTT1 t13),(14,.d (.int .i64) t14),(15,.d (.int .i64) t15),(46,.d .bool t46)],nt:=58,up:=[],own:=[(0,.box 172 [.d YTT1 t.1,.d (.sl (.int .u16)) t.2]),(1,.box 168 [.d (.int .i64) x.1,.d (.int .i64) x.2.1,.d .bool x.2.2.1,.d .bool x.2.2.2.1,.d .bool x.2.2.2.2])],nx:=2,log:=[],ln:=0 }
def q2t_ (fixed:Bool) (t13:List YTT5) (t14 t15:Int) (t51:Bool) (t:List YTT5×List Int) (x:Int×Int×Bool×Bool×Bool):St:={ fr:=[(1,.d .bool fixed),(2,.pb 0 0),(7,.pb 1 0),(13,.d YTT1 t13),(14,.d (.int .i64) t14),(15,.d (.int .i64) t15),(51,.d .bool t51)],nt:=58,up:=[],own:=[(0,.box 172 [.d YTT1 t.1,.d (.sl (.int .u16)) t.2]),(1,.box 168 [.d (.int .i64) x.1,.d (.int .i64) x.2.1,.d .bool x.2.2.1,.d .bool x.2.2.2.1,.d .bool x.2.2.2.2])],nx:=2,log:=[],ln:=0 }
def q17_ (j2:Bool->List YTT5->Int->Int->Bool->List YTT5×List Int->Int×Int×Bool×Bool×Bool->Option (As [.bool])) (self1:Bool->Int->List YTT5->Int->Int->List YTT5×List Int->Option (As [.bool])) (fixed:Bool) (endV:Int) (t13:List YTT5) (t14 t15:Int) (t:List YTT5×List Int):Option (As [.bool]) :=
 if lt t15 t14=true then Option.bind (at? t13 t15) fun y=>if lt y.1 endV=true then j2 fixed t13 t14 t15 true t y else if gt y.1 (Int.ofNat (List.length t.2))=true then j2 fixed t13 t14 t15 true t y else if lt y.2.1 1=true then j2 fixed t13 t14 t15 true t y else j2 fixed t13 t14 t15 (gt y.2.1 (Sx.sub .i64 (Int.ofNat (List.length t.2)) y.1)) t y else some (true,())
def q4w_ (j3:Bool->List YTT5->Int->Int->Bool->List YTT5×List Int->Int×Int×Bool×Bool×Bool->Option (As [.bool])) (self1:Bool->Int->List YTT5->Int->Int->List YTT5×List Int->Option (As [.bool])) (fixed:Bool) (t13:List YTT5) (t14 t15:Int) (t46:Bool) (t:List YTT5×List Int) (x:Int×Int×Bool×Bool×Bool):Option (As [.bool]) :=
 if t46=true then some (false,()) else if fixed=true then j3 fixed t13 t14 t15 x.2.2.2.1 t x else j3 fixed t13 t14 t15 false t x
def q4u_ (self1:Bool->Int->List YTT5->Int->Int->List YTT5×List Int->Option (As [.bool])) (fixed:Bool) (t13:List YTT5) (t14 t15:Int) (t51:Bool) (t:List YTT5×List Int) (x:Int×Int×Bool×Bool×Bool):Option (As [.bool]) :=
 if t51=true then some (false,()) else self1 fixed (add .i64 x.1 x.2.1) t13 t14 (add .i64 t15 1) t
def q2r_ (j1:Bool->Int->List YTT5->Int->Int->List YTT5×List Int->Option (As [.bool])) (t:List YTT5×List Int) (fixed:Bool):Option (As [.bool]) :=
 if gt (Int.ofNat (List.length t.2)) 65536=true then some (false,()) else j1 fixed 0 t.1 (Int.ofNat (List.length t.1)) 0 t
def q1o_ (u1:Bool->Int->List YTT5->Int->Int->List YTT5×List Int->Option (As [.bool])) (fixed:Bool) (t13:List YTT5) (t14 t15:Int) (t51:Bool) (t:List YTT5×List Int) (x:Int×Int×Bool×Bool×Bool):Option (As [.bool]):=q4u_ u1 fixed t13 t14 t15 t51 t x
def q1n_ (u1:Bool->Int->List YTT5->Int->Int->List YTT5×List Int->Option (As [.bool])) (fixed:Bool) (t13:List YTT5) (t14 t15:Int) (t46:Bool) (t:List YTT5×List Int) (x:Int×Int×Bool×Bool×Bool):Option (As [.bool]):=q4w_ (q1o_ u1) u1 fixed t13 t14 t15 t46 t x
def q16_ (fixed:Bool) (endV:Int) (t13:List YTT5) (t14 t15:Int) (t:List YTT5×List Int):Option (As [.bool]) :=
 loopF (fun (self:(Bool)×(Int)×(List YTT5)×(Int)×(Int)×(List YTT5×List Int)->Option (As [.bool])) (s:(Bool)×(Int)×(List YTT5)×(Int)×(Int)×(List YTT5×List Int))=>q17_ (q1n_ (fun fixed endV t13 t14 t15 t=>self (fixed,endV,t13,t14,t15,t))) (fun fixed endV t13 t14 t15 t=>self (fixed,endV,t13,t14,t15,t)) s.1 s.2.1 s.2.2.1 s.2.2.2.1 s.2.2.2.2.1 s.2.2.2.2.2) 18446744073709551616 (fixed,endV,t13,t14,t15,t)
def model_table_uint16_right (x:As [.pr YTT1 (.sl (.int .u16)),.bool]):Option (As [.bool]):=q2r_ q16_ x.1 x.2.1
theorem qe6_ (J:Orc (As [.bool])) (w1:St->Option (As [.bool])) (fixed:Bool) (t13:List YTT5) (t14 t15:Int) (t51:Bool) (t:List YTT5×List Int) (x:Int×Int×Bool×Bool×Bool):pfn Tryz.prog q6_ 6 18446744073709551616 (Ev.get q5_) 119 q1_ J 31334 [w1] (q2t_ fixed t13 t14 t15 t51 t x)=q4u_ (fun fixed endV t13 t14 t15 t=>w1 (q2_ fixed endV t13 t14 t15 t)) fixed t13 t14 t15 t51 t x:=by kernel_rfl
theorem qeb_ (J:Orc (As [.bool])) (w1:St->Option (As [.bool])) (fixed:Bool) (t13:List YTT5) (t14 t15:Int) (t46:Bool) (t:List YTT5×List Int) (x:Int×Int×Bool×Bool×Bool):pfn Tryz.prog q6_ 6 18446744073709551616 (Ev.get q5_) 119 q1_ J 15666 [w1] (q2u_ fixed t13 t14 t15 t46 t x)=q4w_ (fun fixed t13 t14 t15 t51 t x=>J 31334 [w1] (q2t_ fixed t13 t14 t15 t51 t x)) (fun fixed endV t13 t14 t15 t=>w1 (q2_ fixed endV t13 t14 t15 t)) fixed t13 t14 t15 t46 t x:=by kernel_rfl
theorem qdy_ (J:Orc (As [.bool])) (w1:St->Option (As [.bool])) (fixed:Bool) (endV:Int) (t13:List YTT5) (t14 t15:Int) (t:List YTT5×List Int):pfn Tryz.prog q6_ 6 18446744073709551616 (Ev.get q5_) 119 q1_ J 122 [w1] (q2_ fixed endV t13 t14 t15 t)=q17_ (fun fixed t13 t14 t15 t46 t x=>J 15666 [w1] (q2u_ fixed t13 t14 t15 t46 t x)) (fun fixed endV t13 t14 t15 t=>w1 (q2_ fixed endV t13 t14 t15 t)) fixed endV t13 t14 t15 t:=by kernel_rfl
theorem qe2_ (J:Orc (As [.bool])) (x:As [.pr YTT1 (.sl (.int .u16)),.bool]):rfn Tryz.prog q6_ 6 18446744073709551616 (Ev.get q5_) 119 q1_ J x=q2r_ (fun fixed endV t13 t14 t15 t=>J 122 [] (q2_ fixed endV t13 t14 t15 t)) x.1 x.2.1:=by kernel_rfl
theorem qe9_ (w1:St->Option (As [.bool])) (fixed:Bool) (t13:List YTT5) (t14 t15:Int) (t51:Bool) (t:List YTT5×List Int) (x:Int×Int×Bool×Bool×Bool):jfn Tryz.prog q6_ 6 18446744073709551616 (Ev.get q5_) 119 q1_ 31334 [w1] (q2t_ fixed t13 t14 t15 t51 t x)=q1o_ (fun fixed endV t13 t14 t15 t=>w1 (q2_ fixed endV t13 t14 t15 t)) fixed t13 t14 t15 t51 t x:=by
 rw [pfn_eq (by decide)]
 rw [qe6_]
 rfl
theorem qed_ (w1:St->Option (As [.bool])) (fixed:Bool) (t13:List YTT5) (t14 t15:Int) (t46:Bool) (t:List YTT5×List Int) (x:Int×Int×Bool×Bool×Bool):jfn Tryz.prog q6_ 6 18446744073709551616 (Ev.get q5_) 119 q1_ 15666 [w1] (q2u_ fixed t13 t14 t15 t46 t x)=q1n_ (fun fixed endV t13 t14 t15 t=>w1 (q2_ fixed endV t13 t14 t15 t)) fixed t13 t14 t15 t46 t x:=by
 rw [pfn_eq (by decide)]
 have e3:(fun fixed t13 t14 t15 t51 t x=>(jfn Tryz.prog q6_ 6 18446744073709551616 (Ev.get q5_) 119 q1_) 31334 [w1] (q2t_ fixed t13 t14 t15 t51 t x))=q1o_ (fun fixed endV t13 t14 t15 t=>w1 (q2_ fixed endV t13 t14 t15 t)):=by funext fixed t13 t14 t15 t51 t x; exact qe9_ w1 fixed t13 t14 t15 t51 t x
 rw [qeb_,e3]
 rfl
theorem qea_ (fixed:Bool) (endV:Int) (t13:List YTT5) (t14 t15:Int) (t:List YTT5×List Int):jfn Tryz.prog q6_ 6 18446744073709551616 (Ev.get q5_) 119 q1_ 122 [] (q2_ fixed endV t13 t14 t15 t)=q16_ fixed endV t13 t14 t15 t:=by
 rw [pfn_eq (by decide)]
 rw [pfn_loop (by kernel_rfl)]
 refine loopF_sim (σ:=(Bool)×(Int)×(List YTT5)×(Int)×(Int)×(List YTT5×List Int)) (mk:=fun s=>q2_ s.1 s.2.1 s.2.2.1 s.2.2.2.1 s.2.2.2.2.1 s.2.2.2.2.2) (fun w1 s=>?_) 18446744073709551616 (fixed,endV,t13,t14,t15,t)
 have e2:(fun fixed t13 t14 t15 t46 t x=>(jfn Tryz.prog q6_ 6 18446744073709551616 (Ev.get q5_) 119 q1_) 15666 [w1] (q2u_ fixed t13 t14 t15 t46 t x))=q1n_ (fun fixed endV t13 t14 t15 t=>w1 (q2_ fixed endV t13 t14 t15 t)):=by funext fixed t13 t14 t15 t46 t x; exact qed_ w1 fixed t13 t14 t15 t46 t x
 refine (qdy_ _ w1 s.1 s.2.1 s.2.2.1 s.2.2.2.1 s.2.2.2.2.1 s.2.2.2.2.2).trans ?_
 rw [e2]
theorem qei_ (x:As [.pr YTT1 (.sl (.int .u16)),.bool]):evT Tryz.prog q6_ 6 18446744073709551616 (Ev.get q5_) 119 q1_ x=model_table_uint16_right x:=by
 have e1:(fun fixed endV t13 t14 t15 t=>(jfn Tryz.prog q6_ 6 18446744073709551616 (Ev.get q5_) 119 q1_) 122 [] (q2_ fixed endV t13 t14 t15 t))=q16_:=by funext fixed endV t13 t14 t15 t; exact qea_ fixed endV t13 t14 t15 t
 rw [rfn_eq,qe2_,e1]
 rfl
theorem qdz_:CtOk Tryz.prog (fun _=>True) 119 ⟨q1_,model_table_uint16_right⟩:=ct_of_ev env_nil qei_
@[reducible] def qbi_:Sh:=⟨[.d (.pr YTT1 (.pr YTT1 (.pr YTT1 YTT1))),.d (.pr (.sl .bool) YTT10)],[],[.pr YTT1 (.pr YTT1 (.pr YTT1 YTT1)),.pr (.sl .bool) YTT10],[.d (.bool)],[],0,[.bool]⟩
def qif_:Env:=(cts [(117,(⟨q9f_,model_open⟩:Ct)),(118,(⟨q3_,model_table_bool_right⟩:Ct)),(119,(⟨q1_,model_table_uint16_right⟩:Ct))])
def qij_:List (Nat×Hint):=[]
def q9p_ (s:List YTT5×List YTT5×List YTT5×List YTT5) (m:List Bool×List Bool×List Int×List Int):Option (As [.bool]) :=
 Option.bind (model_open (s,m,())) fun y=>Option.bind (model_table_bool_right (y.1.1,false,())) fun y_1=>if y_1.1=true then Option.bind (model_table_bool_right (y.1.2.1,true,())) fun y_2=>if y_2.1=true then Option.bind (model_table_uint16_right (y.1.2.2.1,false,())) fun y_3=>if y_3.1=true then Option.bind (model_table_uint16_right (y.1.2.2.2,true,())) fun y=>some (y.1,()) else some (false,()) else some (false,()) else some (false,())
def model_Right (x:As [.pr YTT1 (.pr YTT1 (.pr YTT1 YTT1)),.pr (.sl .bool) YTT10]):Option (As [.bool]):=q9p_ x.1 x.2.1
theorem qlz_ (J:Orc (As [.bool])) (x:As [.pr YTT1 (.pr YTT1 (.pr YTT1 YTT1)),.pr (.sl .bool) YTT10]):rfn Tryz.prog qif_ 6 18446744073709551616 (Ev.get qij_) 50 qbi_ J x=q9p_ x.1 x.2.1:=by kernel_rfl
theorem qn0_ (x:As [.pr YTT1 (.pr YTT1 (.pr YTT1 YTT1)),.pr (.sl .bool) YTT10]):evT Tryz.prog qif_ 6 18446744073709551616 (Ev.get qij_) 50 qbi_ x=model_Right x:=by
 rw [rfn_eq,qlz_]
 rfl
theorem qme_:CtOk Tryz.prog (fun _=>True) 50 ⟨qbi_,model_Right⟩:=ct_of_ev (env_cons qic_ (env_cons qeo_ (env_cons qdz_ env_nil))) qn0_
@[reducible] def qhi_:Sh:=⟨[.d (.sl .bool)],[],[.sl .bool],[.d (.sl .bool)],[],0,[.sl .bool]⟩
def qgm_ (s:List Bool):Option (As [.sl .bool]) :=
 if eqi (Int.ofNat (List.length s)) 0=true then amb (eqAs qhi_.rs) [some ([],()),need (small (0 + List.length s)) (some (s,()))] else need (small (0 + List.length s)) (some (s,()))
def slices_Clone_Gbool (x:As [.sl .bool]):Option (As [.sl .bool]):=qgm_ x.1
@[reducible] def q23_:Sh:=⟨[.d (.sl (.bool))],[],[.sl (.bool)],[.row 0],[(0,.row (.bool) 4)],1,[.sl (.bool)]⟩
def qad_:Env:=(cts [])
def qal_:List (Nat×Hint):=[]
def q49_ (s:List Bool):Option (As [.sl .bool]) :=
 if eqi (Int.ofNat (List.length s)) 0=true then amb (eqAs q23_.rs) [some ([],()),need (small (0 + List.length s)) (some (s,()))] else need (small (0 + List.length s)) (some (s,()))
def slices_Clone_Gbool_r (x:As [.sl .bool]):Option (As [.sl .bool]):=q49_ x.1
theorem qfn_ (J:Orc (As [.sl .bool])) (x:As [.sl .bool]):rfn Tryz.prog qad_ 6 18446744073709551616 (Ev.get qal_) 130 q23_ J x=q49_ x.1:=by kernel_rfl
theorem qfw_ (x:As [.sl .bool]):evT Tryz.prog qad_ 6 18446744073709551616 (Ev.get qal_) 130 q23_ x=slices_Clone_Gbool_r x:=by
 rw [rfn_eq,qfn_]
 rfl
theorem qa9_:CtOk Tryz.prog (fun _=>True) 130 ⟨q23_,slices_Clone_Gbool_r⟩:=ct_of_ev env_nil qfw_
def qo5_ (m:List Bool×List Bool×List Int×List Int):Option (As [.pr (.sl .bool) YTT10]) :=
 Option.bind (slices_Clone_Gbool (m.1,())) fun y=>Option.bind (slices_Clone_Gbool (m.2.1,())) fun y_1=>Option.bind (slices_Clone_Guint16 (m.2.2.1,())) fun y_2=>Option.bind (slices_Clone_Guint16 (m.2.2.2,())) fun y_3=>some ((y.1,y_1.1,y_2.1,y_3.1),())
def model_own (x:As [.pr (.sl .bool) YTT10]):Option (As [.pr (.sl .bool) YTT10]):=qo5_ x.1
@[reducible] def q48_:Sh:=⟨[.d (.pr YTT1 (.sl .bool)),.d (.int .i64),.d (.int .i64),.d (.int .i64)],[],[.pr YTT1 (.sl .bool),.int .i64,.int .i64,.int .i64],[.d (.sl .bool)],[],0,[.sl .bool]⟩
def qa4_:Env:=(cts [])
def q9z_:List (Nat×Hint):=[]
def q3o_ (t:List YTT5×List Bool) (at' many step:Int):Option (As [.sl .bool]) :=
 need (nei step 0) (need (ge (mul .i64 (quo .i64 (Sx.sub .i64 (add .i64 many step) 1) step) step) 0) (need (Ev.capOk (mul .i64 (quo .i64 (Sx.sub .i64 (add .i64 many step) 1) step) step) (mul .i64 (quo .i64 (Sx.sub .i64 (add .i64 many step) 1) step) step)) (need (small (Int.toNat (mul .i64 (quo .i64 (Sx.sub .i64 (add .i64 many step) 1) step) step))) (Option.bind (cut t.2 at' (add .i64 at' many)) fun y=>need (le (Int.ofNat (0 + List.length (List.replicate (Int.toNat (mul .i64 (quo .i64 (Sx.sub .i64 (add .i64 many step) 1) step) step)) false))) (Int.ofNat (List.length (List.replicate (Int.toNat (mul .i64 (quo .i64 (Sx.sub .i64 (add .i64 many step) 1) step) step)) false)))) (some (List.take (Int.toNat (Int.ofNat (List.length (List.replicate (Int.toNat (mul .i64 (quo .i64 (Sx.sub .i64 (add .i64 many step) 1) step) step)) false)))) y++List.drop (0 + List.length (List.take (Int.toNat (Int.ofNat (List.length (List.replicate (Int.toNat (mul .i64 (quo .i64 (Sx.sub .i64 (add .i64 many step) 1) step) step)) false)))) y)) (List.replicate (Int.toNat (mul .i64 (quo .i64 (Sx.sub .i64 (add .i64 many step) 1) step) step)) false),()))))))
def model_table_bool_read (x:As [.pr YTT1 (.sl .bool),.int .i64,.int .i64,.int .i64]):Option (As [.sl .bool]):=q3o_ x.1 x.2.1 x.2.2.1 x.2.2.2.1
theorem qfb_ (J:Orc (As [.sl .bool])) (x:As [.pr YTT1 (.sl .bool),.int .i64,.int .i64,.int .i64]):rfn Tryz.prog qa4_ 6 18446744073709551616 (Ev.get q9z_) 199 q48_ J x=q3o_ x.1 x.2.1 x.2.2.1 x.2.2.2.1:=by kernel_rfl
theorem qft_ (x:As [.pr YTT1 (.sl .bool),.int .i64,.int .i64,.int .i64]):evT Tryz.prog qa4_ 6 18446744073709551616 (Ev.get q9z_) 199 q48_ x=model_table_bool_read x:=by
 rw [rfn_eq,qfb_]
 rfl
theorem qfa_:CtOk Tryz.prog (fun _=>True) 199 ⟨q48_,model_table_bool_read⟩:=ct_of_ev env_nil qft_
@[reducible] def q3j_:Sh:=⟨[.d (.pr YTT1 (.sl (.int .u16))),.d (.int .i64),.d (.int .i64),.d (.int .i64)],[],[.pr YTT1 (.sl (.int .u16)),.int .i64,.int .i64,.int .i64],[.d (.sl (.int .u16))],[],0,[.sl (.int .u16)]⟩
def q93_:Env:=(cts [])
def q91_:List (Nat×Hint):=[]
def q33_ (t:List YTT5×List Int) (at' many step:Int):Option (As [.sl (.int .u16)]) :=
 need (nei step 0) (need (ge (mul .i64 (quo .i64 (Sx.sub .i64 (add .i64 many step) 1) step) step) 0) (need (Ev.capOk (mul .i64 (quo .i64 (Sx.sub .i64 (add .i64 many step) 1) step) step) (mul .i64 (quo .i64 (Sx.sub .i64 (add .i64 many step) 1) step) step)) (need (small (Int.toNat (mul .i64 (quo .i64 (Sx.sub .i64 (add .i64 many step) 1) step) step))) (Option.bind (cut t.2 at' (add .i64 at' many)) fun y=>need (le (Int.ofNat (0 + List.length (List.replicate (α:=Int) (Int.toNat (mul .i64 (quo .i64 (Sx.sub .i64 (add .i64 many step) 1) step) step)) 0))) (Int.ofNat (List.length (List.replicate (α:=Int) (Int.toNat (mul .i64 (quo .i64 (Sx.sub .i64 (add .i64 many step) 1) step) step)) 0)))) (some (List.take (Int.toNat (Int.ofNat (List.length (List.replicate (α:=Int) (Int.toNat (mul .i64 (quo .i64 (Sx.sub .i64 (add .i64 many step) 1) step) step)) 0)))) y++List.drop (0 + List.length (List.take (Int.toNat (Int.ofNat (List.length (List.replicate (α:=Int) (Int.toNat (mul .i64 (quo .i64 (Sx.sub .i64 (add .i64 many step) 1) step) step)) 0)))) y)) (List.replicate (Int.toNat (mul .i64 (quo .i64 (Sx.sub .i64 (add .i64 many step) 1) step) step)) 0),()))))))
def model_table_uint16_read (x:As [.pr YTT1 (.sl (.int .u16)),.int .i64,.int .i64,.int .i64]):Option (As [.sl (.int .u16)]):=q33_ x.1 x.2.1 x.2.2.1 x.2.2.2.1
theorem qek_ (J:Orc (As [.sl (.int .u16)])) (x:As [.pr YTT1 (.sl (.int .u16)),.int .i64,.int .i64,.int .i64]):rfn Tryz.prog q93_ 6 18446744073709551616 (Ev.get q91_) 200 q3j_ J x=q33_ x.1 x.2.1 x.2.2.1 x.2.2.2.1:=by kernel_rfl
theorem qet_ (x:As [.pr YTT1 (.sl (.int .u16)),.int .i64,.int .i64,.int .i64]):evT Tryz.prog q93_ 6 18446744073709551616 (Ev.get q91_) 200 q3j_ x=model_table_uint16_read x:=by
 rw [rfn_eq,qek_]
 rfl
theorem qej_:CtOk Tryz.prog (fun _=>True) 200 ⟨q3j_,model_table_uint16_read⟩:=ct_of_ev env_nil qet_
@[reducible] def q4x_:Sh:=⟨[.d (.pr (.pr YTT1 (.sl .bool)) (.pr (.pr YTT1 (.sl .bool)) (.pr (.pr YTT1 (.sl (.int .u16))) (.pr YTT1 (.sl (.int .u16)))))),.d (.int .i64),.d (.pr (.int .u8) YTT4)],[],[.pr (.pr YTT1 (.sl .bool)) (.pr (.pr YTT1 (.sl .bool)) (.pr (.pr YTT1 (.sl (.int .u16))) (.pr YTT1 (.sl (.int .u16))))),.int .i64,.pr (.int .u8) YTT4],[.d (.pr (.int .u8) YTT3)],[],0,[.pr (.int .u8) YTT3]⟩
def qby_:Env:=(cts [(199,(⟨q48_,model_table_bool_read⟩:Ct)),(200,(⟨q3j_,model_table_uint16_read⟩:Ct))])
def qbt_:List (Nat×Hint):=[]
def q4s_ (v:(List YTT5×List Bool)×(List YTT5×List Bool)×(List YTT5×List Int)×List YTT5×List Int) (p:Int) (a:YaA3q0):Option (As [.pr (.int .u8) YTT3]) :=
 if eqi p 1=true then Option.bind (model_table_bool_read (v.1,cvt .i64 a.2.1,cvt .i64 a.2.2.1,8,())) fun y=>some ((a.1,0,y.1,[],0,0),()) else if eqi p 2=true then Option.bind (model_table_bool_read (v.2.1,cvt .i64 a.2.1,cvt .i64 a.2.2.1,8,())) fun y=>some ((a.1,0,y.1,[],0,0),()) else if eqi p 3=true then Option.bind (model_table_uint16_read (v.2.2.1,cvt .i64 a.2.1,cvt .i64 a.2.2.1,1,())) fun y=>some ((a.1,0,[],y.1,0,0),()) else if eqi p 4=true then Option.bind (model_table_uint16_read (v.2.2.2,cvt .i64 a.2.1,cvt .i64 a.2.2.1,1,())) fun y=>some ((a.1,0,[],y.1,0,0),()) else some ((a.1,0,[],[],0,0),())
def model_server_answer (x:As [.pr (.pr YTT1 (.sl .bool)) (.pr (.pr YTT1 (.sl .bool)) (.pr (.pr YTT1 (.sl (.int .u16))) (.pr YTT1 (.sl (.int .u16))))),.int .i64,.pr (.int .u8) YTT4]):Option (As [.pr (.int .u8) YTT3]):=q4s_ x.1 x.2.1 x.2.2.1
theorem qfz_ (J:Orc (As [.pr (.int .u8) YTT3])) (x:As [.pr (.pr YTT1 (.sl .bool)) (.pr (.pr YTT1 (.sl .bool)) (.pr (.pr YTT1 (.sl (.int .u16))) (.pr YTT1 (.sl (.int .u16))))),.int .i64,.pr (.int .u8) YTT4]):rfn Tryz.prog qby_ 6 18446744073709551616 (Ev.get qbt_) 173 q4x_ J x=q4s_ x.1 x.2.1 x.2.2.1:=by kernel_rfl
theorem qhb_ (x:As [.pr (.pr YTT1 (.sl .bool)) (.pr (.pr YTT1 (.sl .bool)) (.pr (.pr YTT1 (.sl (.int .u16))) (.pr YTT1 (.sl (.int .u16))))),.int .i64,.pr (.int .u8) YTT4]):evT Tryz.prog qby_ 6 18446744073709551616 (Ev.get qbt_) 173 q4x_ x=model_server_answer x:=by
 rw [rfn_eq,qfz_]
 rfl
theorem qg0_:CtOk Tryz.prog (fun _=>True) 173 ⟨q4x_,model_server_answer⟩:=ct_of_ev (env_cons qfa_ (env_cons qej_ env_nil)) qhb_
@[reducible] def q81_:Sh:=⟨[.d (.pr YTT1 (.pr YTT1 (.pr YTT1 YTT1))),.d (.pr (.sl .bool) YTT10),.d (.pr (.int .u8) YTT4)],[],[.pr YTT1 (.pr YTT1 (.pr YTT1 YTT1)),.pr (.sl .bool) YTT10,.pr (.int .u8) YTT4],[.d (.pr (.sl .bool) YTT10),.d (.pr (.int .u8) YTT3)],[],0,[.pr (.sl .bool) YTT10,.pr (.int .u8) YTT3]⟩
def qc8_:Env:=(cts [(50,(⟨qbi_,model_Right⟩:Ct)),(54,(⟨q20_,model_Check⟩:Ct)),(68,(⟨q1g_,reply_Echo⟩:Ct)),(120,(⟨q56_,reply_Wrong⟩:Ct)),(124,(⟨q9a_,model_uses⟩:Ct)),(126,(⟨q7o_,model_target⟩:Ct)),(130,(⟨q23_,slices_Clone_Gbool_r⟩:Ct)),(131,(⟨q1h_,slices_Clone_Guint16_r⟩:Ct)),(173,(⟨q4x_,model_server_answer⟩:Ct))])
def qcw_:List (Nat×Hint):=[(255,⟨[],[5,6,7,8,10,11]⟩)]
def qdp_ (a:YaA3q0) (t7 t7_2 t7_3 t7_4:Int) (o o_2:List Bool) (o_3 o_4:List Int) (v v_2 v_3 v_4:List YTT5) (u:Int×Int):St:={ fr:=[(5,.pb 0 0),(6,.pb 1 0),(7,.pb 2 0),(8,.pb 3 0),(10,.pb 8 0),(11,.pb 9 0)],nt:=79,up:=[],own:=[(0,.box 44 [.d (.int .u8) a.1,.d (.int .u16) a.2.1,.d (.int .u16) a.2.2.1,.d (.int .u16) a.2.2.2.1,.d (.sl (.int .u16)) a.2.2.2.2.1,.d (.sl .bool) a.2.2.2.2.2]),(1,.box 96 [.k (Go.Value.slice Option.none 0 0),.k (Go.Value.slice Option.none 0 0),.k (Go.Value.slice Option.none 0 0),.k (Go.Value.slice Option.none 0 0)]),(2,.box 46 [.d (.int .u8) t7,.d (.int .u8) t7_2,.k (Go.Value.slice Option.none 0 0),.k (Go.Value.slice Option.none 0 0),.d (.int .u16) t7_3,.d (.int .u16) t7_4]),(3,.box 96 [.row 4,.row 5,.row 6,.row 7]),(4,.row .bool 4 o),(5,.row .bool 4 o_2),(6,.row (.int .u16) 23 o_3),(7,.row (.int .u16) 23 o_4),(8,.box 174 [.d YTT1 v,.row 4,.d YTT1 v_2,.row 5,.d YTT1 v_3,.row 6,.d YTT1 v_4,.row 7]),(9,.box 183 [.d (.int .i64) u.1,.d (.int .i64) u.2])],nx:=10,log:=[],ln:=0 }
def qk4_ (a:YaA3q0) (t7 t7_2 t7_3 t7_4:Int) (o o_2:List Bool) (o_3 o_4:List Int) (v v_2 v_3 v_4:List YTT5) (u:Int×Int):Option (As [.pr (.sl .bool) YTT10,.pr (.int .u8) YTT3]) :=
 Option.bind (reply_Echo (a,())) fun y=>if y.2.1=true then some ((o,o_2,o_3,o_4),y.1,()) else Option.bind (model_server_answer (((v,o),(v_2,o_2),(v_3,o_3),v_4,o_4),u.1,a,())) fun y=>some ((o,o_2,o_3,o_4),y.1,())
def qds_ (j1:YaA3q0->Int->Int->Int->Int->List Bool->List Bool->List Int->List Int->List YTT5->List YTT5->List YTT5->List YTT5->Int×Int->Option (As [.pr (.sl .bool) YTT10,.pr (.int .u8) YTT3])) (s:List YTT5×List YTT5×List YTT5×List YTT5) (m:List Bool×List Bool×List Int×List Int) (a:YaA3q0):Option (As [.pr (.sl .bool) YTT10,.pr (.int .u8) YTT3]) :=
 Option.bind (slices_Clone_Gbool_r (m.1,())) fun y=>Option.bind (slices_Clone_Gbool_r (m.2.1,())) fun y_1=>Option.bind (slices_Clone_Guint16_r (m.2.2.1,())) fun y_2=>Option.bind (slices_Clone_Guint16_r (m.2.2.2,())) fun y_3=>Option.bind (model_Check (s,a,())) fun y_4=>if nei y_4.1 0=true then Option.bind (reply_Wrong (a.1,y_4.1,())) fun y_5=>some ((y.1,y_1.1,y_2.1,y_3.1),y_5.1,()) else Option.bind (model_Right (s,m,())) fun y_5=>if (!y_5.1)=true then Option.bind (reply_Wrong (a.1,4,())) fun y_6=>some ((y.1,y_1.1,y_2.1,y_3.1),y_6.1,()) else Option.bind (model_uses (a.1,())) fun y_6=>Option.bind (model_target (a,())) fun y_7=>if eqi y_6.1.2 1=true then need (ge y_7.1 0) (need (le y_7.1 (Int.ofNat (List.length y.1))) (need (le (Int.ofNat (List.length y.1)) (Int.ofNat (List.length y.1))) (need (le (y_7.1 + (Int.ofNat (List.length y.1) - y_7.1)) (Int.ofNat (List.length y.1))) (j1 a 0 0 0 0 (List.take (Int.toNat y_7.1) y.1++List.take (Int.toNat (Int.ofNat (List.length y.1) - y_7.1)) a.2.2.2.2.2++List.drop (Int.toNat y_7.1 + List.length (List.take (Int.toNat (Int.ofNat (List.length y.1) - y_7.1)) a.2.2.2.2.2)) y.1) y_1.1 y_2.1 y_3.1 s.1 s.2.1 s.2.2.1 s.2.2.2 y_6.1)))) else if eqi y_6.1.2 3=true then need (ge y_7.1 0) (need (le y_7.1 (Int.ofNat (List.length y_2.1))) (need (le (Int.ofNat (List.length y_2.1)) (Int.ofNat (List.length y_2.1))) (need (le (y_7.1 + (Int.ofNat (List.length y_2.1) - y_7.1)) (Int.ofNat (List.length y_2.1))) (j1 a 0 0 0 0 y.1 y_1.1 (List.take (Int.toNat y_7.1) y_2.1++List.take (Int.toNat (Int.ofNat (List.length y_2.1) - y_7.1)) a.2.2.2.2.1++List.drop (Int.toNat y_7.1 + List.length (List.take (Int.toNat (Int.ofNat (List.length y_2.1) - y_7.1)) a.2.2.2.2.1)) y_2.1) y_3.1 s.1 s.2.1 s.2.2.1 s.2.2.2 y_6.1)))) else j1 a 0 0 0 0 y.1 y_1.1 y_2.1 y_3.1 s.1 s.2.1 s.2.2.1 s.2.2.2 y_6.1
def q8w_ (a:YaA3q0) (t7 t7_2 t7_3 t7_4:Int) (o o_2:List Bool) (o_3 o_4:List Int) (v v_2 v_3 v_4:List YTT5) (u:Int×Int):Option (As [.pr (.sl .bool) YTT10,.pr (.int .u8) YTT3]):=qk4_ a t7 t7_2 t7_3 t7_4 o o_2 o_3 o_4 v v_2 v_3 v_4 u
def model_Do (x:As [.pr YTT1 (.pr YTT1 (.pr YTT1 YTT1)),.pr (.sl .bool) YTT10,.pr (.int .u8) YTT4]):Option (As [.pr (.sl .bool) YTT10,.pr (.int .u8) YTT3]):=qds_ q8w_ x.1 x.2.1 x.2.2.1
theorem qpw_ (J:Orc (As [.pr (.sl .bool) YTT10,.pr (.int .u8) YTT3])) (a:YaA3q0) (t7 t7_2 t7_3 t7_4:Int) (o o_2:List Bool) (o_3 o_4:List Int) (v v_2 v_3 v_4:List YTT5) (u:Int×Int):pfn Tryz.prog qc8_ 6 18446744073709551616 (Ev.get qcw_) 122 q81_ J 255 [] (qdp_ a t7 t7_2 t7_3 t7_4 o o_2 o_3 o_4 v v_2 v_3 v_4 u)=qk4_ a t7 t7_2 t7_3 t7_4 o o_2 o_3 o_4 v v_2 v_3 v_4 u:=by kernel_rfl
theorem qpo_ (J:Orc (As [.pr (.sl .bool) YTT10,.pr (.int .u8) YTT3])) (x:As [.pr YTT1 (.pr YTT1 (.pr YTT1 YTT1)),.pr (.sl .bool) YTT10,.pr (.int .u8) YTT4]):rfn Tryz.prog qc8_ 6 18446744073709551616 (Ev.get qcw_) 122 q81_ J x=qds_ (fun a t7 t7_2 t7_3 t7_4 o o_2 o_3 o_4 v v_2 v_3 v_4 u=>J 255 [] (qdp_ a t7 t7_2 t7_3 t7_4 o o_2 o_3 o_4 v v_2 v_3 v_4 u)) x.1 x.2.1 x.2.2.1:=by kernel_rfl
theorem qpp_ (a:YaA3q0) (t7 t7_2 t7_3 t7_4:Int) (o o_2:List Bool) (o_3 o_4:List Int) (v v_2 v_3 v_4:List YTT5) (u:Int×Int):jfn Tryz.prog qc8_ 6 18446744073709551616 (Ev.get qcw_) 122 q81_ 255 [] (qdp_ a t7 t7_2 t7_3 t7_4 o o_2 o_3 o_4 v v_2 v_3 v_4 u)=q8w_ a t7 t7_2 t7_3 t7_4 o o_2 o_3 o_4 v v_2 v_3 v_4 u:=by
 rw [pfn_eq (by decide)]
 rw [qpw_]
 rfl
theorem qqb_ (x:As [.pr YTT1 (.pr YTT1 (.pr YTT1 YTT1)),.pr (.sl .bool) YTT10,.pr (.int .u8) YTT4]):evT Tryz.prog qc8_ 6 18446744073709551616 (Ev.get qcw_) 122 q81_ x=model_Do x:=by
 have e1:(fun a t7 t7_2 t7_3 t7_4 o o_2 o_3 o_4 v v_2 v_3 v_4 u=>(jfn Tryz.prog qc8_ 6 18446744073709551616 (Ev.get qcw_) 122 q81_) 255 [] (qdp_ a t7 t7_2 t7_3 t7_4 o o_2 o_3 o_4 v v_2 v_3 v_4 u))=q8w_:=by funext a t7 t7_2 t7_3 t7_4 o o_2 o_3 o_4 v v_2 v_3 v_4 u; exact qpp_ a t7 t7_2 t7_3 t7_4 o o_2 o_3 o_4 v v_2 v_3 v_4 u
 rw [rfn_eq,qpo_,e1]
 rfl
theorem qq1_:CtOk Tryz.prog (fun _=>True) 122 ⟨q81_,model_Do⟩:=ct_of_ev (env_cons qme_ (env_cons qgt_ (env_cons qeg_ (env_cons q9w_ (env_cons qi6_ (env_cons qfv_ (env_cons qa9_ (env_cons q92_ (env_cons qg0_ env_nil))))))))) qqb_
@[reducible] def slave_answer_s:Sh:=⟨[.d (.pr (.int .u8) (.pr (.int .u8) (.pr (.pr (.sl (.int .u16)) YTT0) (.sl .bool)))),.d (.pr (.int .u8) YTT4)],[],[.pr (.int .u8) (.pr (.int .u8) (.pr (.pr (.sl (.int .u16)) YTT0) (.sl .bool))),.pr (.int .u8) YTT4],[.d (.pr (.int .u8) YTT3)],[],0,[.pr (.int .u8) YTT3]⟩
abbrev slave_answer_R:=Option (As [.pr (.int .u8) YTT3])
def slave_answer_e:Env:=(cts [(2000038,Ev.bxCt),(47,(⟨slave_Mem_s,slave_Mem⟩:Ct)),(49,(⟨slave_Space_s,slave_Space⟩:Ct)),(68,(⟨q1g_,reply_Echo⟩:Ct)),(122,(⟨q81_,model_Do⟩:Ct))])
def slave_answer_h:List (Nat×Hint):=[(15,⟨[],[2,3,4,7]⟩),(31,⟨[],[3,4,9]⟩)]
def slave_answer_k1 (s:Int×Int×YTT2×List Bool) (a:YaA3q0) (t4 t4_2 t4_3 t4_4 read read_2 read_3 read_4:Int):St:={ fr:=[(2,.pe (.pr (.int .u8) (.pr (.int .u8) (.pr (.pr (.sl (.int .u16)) YTT0) (.sl .bool)))) s),(3,.pb 0 0),(4,.pb 1 0),(7,.pb 2 0)],nt:=40,up:=[],own:=[(0,.box 44 [.d (.int .u8) a.1,.d (.int .u16) a.2.1,.d (.int .u16) a.2.2.1,.d (.int .u16) a.2.2.2.1,.d (.sl (.int .u16)) a.2.2.2.2.1,.d (.sl .bool) a.2.2.2.2.2]),(1,.box 46 [.d (.int .u8) t4,.d (.int .u8) t4_2,.k (Go.Value.slice Option.none 0 0),.k (Go.Value.slice Option.none 0 0),.d (.int .u16) t4_3,.d (.int .u16) t4_4]),(2,.box 44 [.d (.int .u8) read,.d (.int .u16) read_2,.d (.int .u16) read_3,.d (.int .u16) read_4,.k (Go.Value.slice Option.none 0 0),.k (Go.Value.slice Option.none 0 0)])],nx:=3,log:=[],ln:=0 }
def slave_answer_k2 (a:YaA3q0) (t4 t4_2 t4_3 t4_4:Int) (r:Int×Int×List Bool×List Int×Int×Int):St:={ fr:=[(3,.pb 0 0),(4,.pb 1 0),(9,.pb 2 0)],nt:=40,up:=[],own:=[(0,.box 44 [.d (.int .u8) a.1,.d (.int .u16) a.2.1,.d (.int .u16) a.2.2.1,.d (.int .u16) a.2.2.2.1,.d (.sl (.int .u16)) a.2.2.2.2.1,.d (.sl .bool) a.2.2.2.2.2]),(1,.box 46 [.d (.int .u8) t4,.d (.int .u8) t4_2,.k (Go.Value.slice Option.none 0 0),.k (Go.Value.slice Option.none 0 0),.d (.int .u16) t4_3,.d (.int .u16) t4_4]),(2,.box 46 [.d (.int .u8) r.1,.d (.int .u8) r.2.1,.d (.sl .bool) r.2.2.1,.d (.sl (.int .u16)) r.2.2.2.1,.d (.int .u16) r.2.2.2.2.1,.d (.int .u16) r.2.2.2.2.2])],nx:=3,log:=[],ln:=0 }
def slave_answer_m1 (j2:YaA3q0->Int->Int->Int->Int->Int×Int×List Bool×List Int×Int×Int->slave_answer_R) (s:Int×Int×YTT2×List Bool) (a:YaA3q0) (t4 t4_2 t4_3 t4_4 read read_2 read_3 read_4:Int):slave_answer_R :=
 amb (eqAs slave_answer_s.rs) [Option.bind (slave_Space ()) fun y=>amb (eqAs slave_answer_s.rs) [Option.bind (slave_Mem (s,())) fun y_1=>amb (eqAs slave_answer_s.rs) [Option.bind (model_Do (y.1,y_1.1,(read,read_2,read_3,read_4,[],[]),())) fun y=>amb (eqAs slave_answer_s.rs) [j2 a t4 t4_2 t4_3 t4_4 y.2.1,j2 a t4 t4_2 t4_3 t4_4 y.2.1],amb (eqAs slave_answer_s.rs) [amb (eqAs slave_answer_s.rs) [Option.bind (model_Do (y.1,y_1.1,(read,read_2,read_3,read_4,[],[]),())) fun y=>j2 a t4 t4_2 t4_3 t4_4 y.2.1,Option.bind (model_Do (y.1,y_1.1,(read,read_2,read_3,read_4,[],[]),())) fun y=>j2 a t4 t4_2 t4_3 t4_4 y.2.1],amb (eqAs slave_answer_s.rs) [Option.bind (model_Do (y.1,y_1.1,(read,read_2,read_3,read_4,[],[]),())) fun y=>j2 a t4 t4_2 t4_3 t4_4 y.2.1,Option.bind (model_Do (y.1,y_1.1,(read,read_2,read_3,read_4,[],[]),())) fun y=>j2 a t4 t4_2 t4_3 t4_4 y.2.1]]],amb (eqAs slave_answer_s.rs) [amb (eqAs slave_answer_s.rs) [Option.bind (slave_Mem (s,())) fun y_1=>amb (eqAs slave_answer_s.rs) [Option.bind (model_Do (y.1,y_1.1,(read,read_2,read_3,read_4,[],[]),())) fun y=>j2 a t4 t4_2 t4_3 t4_4 y.2.1,Option.bind (model_Do (y.1,y_1.1,(read,read_2,read_3,read_4,[],[]),())) fun y=>j2 a t4 t4_2 t4_3 t4_4 y.2.1],Option.bind (slave_Mem (s,())) fun y_1=>Option.bind (model_Do (y.1,y_1.1,(read,read_2,read_3,read_4,[],[]),())) fun y=>j2 a t4 t4_2 t4_3 t4_4 y.2.1],amb (eqAs slave_answer_s.rs) [Option.bind (slave_Mem (s,())) fun y_1=>amb (eqAs slave_answer_s.rs) [Option.bind (model_Do (y.1,y_1.1,(read,read_2,read_3,read_4,[],[]),())) fun y=>j2 a t4 t4_2 t4_3 t4_4 y.2.1,Option.bind (model_Do (y.1,y_1.1,(read,read_2,read_3,read_4,[],[]),())) fun y=>j2 a t4 t4_2 t4_3 t4_4 y.2.1],Option.bind (slave_Mem (s,())) fun y_1=>Option.bind (model_Do (y.1,y_1.1,(read,read_2,read_3,read_4,[],[]),())) fun y=>j2 a t4 t4_2 t4_3 t4_4 y.2.1]]],amb (eqAs slave_answer_s.rs) [amb (eqAs slave_answer_s.rs) [Option.bind (slave_Space ()) fun y=>amb (eqAs slave_answer_s.rs) [Option.bind (slave_Mem (s,())) fun y_1=>amb (eqAs slave_answer_s.rs) [Option.bind (model_Do (y.1,y_1.1,(read,read_2,read_3,read_4,[],[]),())) fun y=>j2 a t4 t4_2 t4_3 t4_4 y.2.1,Option.bind (model_Do (y.1,y_1.1,(read,read_2,read_3,read_4,[],[]),())) fun y=>j2 a t4 t4_2 t4_3 t4_4 y.2.1],Option.bind (slave_Mem (s,())) fun y_1=>Option.bind (model_Do (y.1,y_1.1,(read,read_2,read_3,read_4,[],[]),())) fun y=>j2 a t4 t4_2 t4_3 t4_4 y.2.1],Option.bind (slave_Space ()) fun y=>Option.bind (slave_Mem (s,())) fun y_1=>Option.bind (model_Do (y.1,y_1.1,(read,read_2,read_3,read_4,[],[]),())) fun y=>j2 a t4 t4_2 t4_3 t4_4 y.2.1],amb (eqAs slave_answer_s.rs) [Option.bind (slave_Space ()) fun y=>amb (eqAs slave_answer_s.rs) [Option.bind (slave_Mem (s,())) fun y_1=>amb (eqAs slave_answer_s.rs) [Option.bind (model_Do (y.1,y_1.1,(read,read_2,read_3,read_4,[],[]),())) fun y=>j2 a t4 t4_2 t4_3 t4_4 y.2.1,Option.bind (model_Do (y.1,y_1.1,(read,read_2,read_3,read_4,[],[]),())) fun y=>j2 a t4 t4_2 t4_3 t4_4 y.2.1],Option.bind (slave_Mem (s,())) fun y_1=>Option.bind (model_Do (y.1,y_1.1,(read,read_2,read_3,read_4,[],[]),())) fun y=>j2 a t4 t4_2 t4_3 t4_4 y.2.1],Option.bind (slave_Space ()) fun y=>Option.bind (slave_Mem (s,())) fun y_1=>Option.bind (model_Do (y.1,y_1.1,(read,read_2,read_3,read_4,[],[]),())) fun y=>j2 a t4 t4_2 t4_3 t4_4 y.2.1]]]
def slave_answer_m2 (a:YaA3q0) (t4 t4_2 t4_3 t4_4:Int) (r:Int×Int×List Bool×List Int×Int×Int):slave_answer_R :=
 some ((a.1,r.2),())
def slave_answer_m0 (j1:Int×Int×YTT2×List Bool->YaA3q0->Int->Int->Int->Int->Int->Int->Int->Int->slave_answer_R) (s:Int×Int×YTT2×List Bool) (a:YaA3q0):slave_answer_R :=
 Option.bind (reply_Echo (a,())) fun y=>if y.2.1=true then some (y.1,()) else if eqi a.1 23=true then j1 s a 0 0 0 0 3 a.2.1 a.2.2.1 0 else j1 s a 0 0 0 0 a.1 a.2.1 a.2.2.1 0
def slave_answer_K2 (a:YaA3q0) (t4 t4_2 t4_3 t4_4:Int) (r:Int×Int×List Bool×List Int×Int×Int):slave_answer_R:=slave_answer_m2 a t4 t4_2 t4_3 t4_4 r
def slave_answer_K1 (s:Int×Int×YTT2×List Bool) (a:YaA3q0) (t4 t4_2 t4_3 t4_4 read read_2 read_3 read_4:Int):slave_answer_R:=slave_answer_m1 (slave_answer_K2) s a t4 t4_2 t4_3 t4_4 read read_2 read_3 read_4
def slave_answer (x:As [.pr (.int .u8) (.pr (.int .u8) (.pr (.pr (.sl (.int .u16)) YTT0) (.sl .bool))),.pr (.int .u8) YTT4]):slave_answer_R:=slave_answer_m0 slave_answer_K1 x.1 x.2.1
theorem slave_answer_c2 (J:Orc (As [.pr (.int .u8) YTT3])) (a:YaA3q0) (t4 t4_2 t4_3 t4_4:Int) (r:Int×Int×List Bool×List Int×Int×Int):pfn Tryz.prog slave_answer_e 6 18446744073709551616 (Ev.get slave_answer_h) 129 slave_answer_s J 31 [] (slave_answer_k2 a t4 t4_2 t4_3 t4_4 r)=slave_answer_m2 a t4 t4_2 t4_3 t4_4 r:=by kernel_rfl
theorem slave_answer_c1 (J:Orc (As [.pr (.int .u8) YTT3])) (s:Int×Int×YTT2×List Bool) (a:YaA3q0) (t4 t4_2 t4_3 t4_4 read read_2 read_3 read_4:Int):pfn Tryz.prog slave_answer_e 6 18446744073709551616 (Ev.get slave_answer_h) 129 slave_answer_s J 15 [] (slave_answer_k1 s a t4 t4_2 t4_3 t4_4 read read_2 read_3 read_4)=slave_answer_m1 (fun a t4 t4_2 t4_3 t4_4 r=>J 31 [] (slave_answer_k2 a t4 t4_2 t4_3 t4_4 r)) s a t4 t4_2 t4_3 t4_4 read read_2 read_3 read_4:=by kernel_rfl
theorem slave_answer_c0 (J:Orc (As [.pr (.int .u8) YTT3])) (x:As [.pr (.int .u8) (.pr (.int .u8) (.pr (.pr (.sl (.int .u16)) YTT0) (.sl .bool))),.pr (.int .u8) YTT4]):rfn Tryz.prog slave_answer_e 6 18446744073709551616 (Ev.get slave_answer_h) 129 slave_answer_s J x=slave_answer_m0 (fun s a t4 t4_2 t4_3 t4_4 read read_2 read_3 read_4=>J 15 [] (slave_answer_k1 s a t4 t4_2 t4_3 t4_4 read read_2 read_3 read_4)) x.1 x.2.1:=by kernel_rfl
theorem slave_answer_g2 (a:YaA3q0) (t4 t4_2 t4_3 t4_4:Int) (r:Int×Int×List Bool×List Int×Int×Int):jfn Tryz.prog slave_answer_e 6 18446744073709551616 (Ev.get slave_answer_h) 129 slave_answer_s 31 [] (slave_answer_k2 a t4 t4_2 t4_3 t4_4 r)=slave_answer_K2 a t4 t4_2 t4_3 t4_4 r:=by
 rw [pfn_eq (by decide)]
 rw [slave_answer_c2]
 rfl
theorem slave_answer_g1 (s:Int×Int×YTT2×List Bool) (a:YaA3q0) (t4 t4_2 t4_3 t4_4 read read_2 read_3 read_4:Int):jfn Tryz.prog slave_answer_e 6 18446744073709551616 (Ev.get slave_answer_h) 129 slave_answer_s 15 [] (slave_answer_k1 s a t4 t4_2 t4_3 t4_4 read read_2 read_3 read_4)=slave_answer_K1 s a t4 t4_2 t4_3 t4_4 read read_2 read_3 read_4:=by
 rw [pfn_eq (by decide)]
 have e2:(fun a t4 t4_2 t4_3 t4_4 r=>(jfn Tryz.prog slave_answer_e 6 18446744073709551616 (Ev.get slave_answer_h) 129 slave_answer_s) 31 [] (slave_answer_k2 a t4 t4_2 t4_3 t4_4 r))=slave_answer_K2:=by funext a t4 t4_2 t4_3 t4_4 r; exact slave_answer_g2 a t4 t4_2 t4_3 t4_4 r
 rw [slave_answer_c1,e2]
 rfl
theorem slave_answer_t (x:As [.pr (.int .u8) (.pr (.int .u8) (.pr (.pr (.sl (.int .u16)) YTT0) (.sl .bool))),.pr (.int .u8) YTT4]):evT Tryz.prog slave_answer_e 6 18446744073709551616 (Ev.get slave_answer_h) 129 slave_answer_s x=slave_answer x:=by
 have e1:(fun s a t4 t4_2 t4_3 t4_4 read read_2 read_3 read_4=>(jfn Tryz.prog slave_answer_e 6 18446744073709551616 (Ev.get slave_answer_h) 129 slave_answer_s) 15 [] (slave_answer_k1 s a t4 t4_2 t4_3 t4_4 read read_2 read_3 read_4))=slave_answer_K1:=by funext s a t4 t4_2 t4_3 t4_4 read read_2 read_3 read_4; exact slave_answer_g1 s a t4 t4_2 t4_3 t4_4 read read_2 read_3 read_4
 rw [rfn_eq,slave_answer_c0,e1]
 rfl
theorem slave_answer_ok:CtOk Tryz.prog (fun _=>True) 129 ⟨slave_answer_s,slave_answer⟩:=ct_of_ev (env_cons Ev.bx_ok (env_cons slave_Mem_ok (env_cons slave_Space_ok (env_cons qeg_ (env_cons qq1_ env_nil))))) slave_answer_t
@[reducible] def agent_Read_s:Sh:=⟨[.d (.sl (.int .u16))],[],[.sl (.int .u16)],[.d (.pr (.int .u16) YTT6),.d (.int .i64)],[],0,[.pr (.int .u16) YTT6,.int .i64]⟩
abbrev agent_Read_R:=Option (As [.pr (.int .u16) YTT6,.int .i64])
def agent_Read_e:Env:=(cts [(81,(⟨q9e_,words_Wide⟩:Ct))])
def agent_Read_h:List (Nat×Hint):=[(6,⟨[],[0,2,18]⟩)]
def agent_Read_k1 (w:List Int) (t18:Bool) (t2:Int×Int×Int×Int×Int):St:={ fr:=[(0,.d (.sl (.int .u16)) w),(2,.pb 0 0),(18,.d .bool t18)],nt:=45,up:=[],own:=[(0,.box 61 [.d (.int .u16) t2.1,.d (.int .u8) t2.2.1,.d (.int .u32) t2.2.2.1,.d (.int .u16) t2.2.2.2.1,.d (.int .u32) t2.2.2.2.2])],nx:=1,log:=[],ln:=0 }
def agent_Read_m1 (w:List Int) (t18:Bool) (t2:Int×Int×Int×Int×Int):agent_Read_R :=
 if t18=true then some ((0,0,0,0,0),2,()) else Option.bind (at? w 0) fun y=>Option.bind (at? w 1) fun y_1=>Option.bind (at? w 2) fun y_2=>Option.bind (at? w 3) fun y_3=>Option.bind (at? w 4) fun y_4=>Option.bind (at? w 5) fun y_5=>Option.bind (at? w 6) fun y_6=>Option.bind (words_Wide (y_2,y_3,())) fun y_7=>Option.bind (words_Wide (y_5,y_6,())) fun y_8=>some ((y,cvt .u8 y_1,y_7.1,y_4,y_8.1),0,())
def agent_Read_m0 (j1:List Int->Bool->Int×Int×Int×Int×Int->agent_Read_R) (w:List Int):agent_Read_R :=
 if nei (Int.ofNat (List.length w)) 8=true then j1 w true (0,0,0,0,0) else Option.bind (at? w 7) fun y=>if nei y 0=true then j1 w true (0,0,0,0,0) else Option.bind (at? w 1) fun y=>j1 w (ge y 256) (0,0,0,0,0)
def agent_Read_K1 (w:List Int) (t18:Bool) (t2:Int×Int×Int×Int×Int):agent_Read_R:=agent_Read_m1 w t18 t2
def agent_Read (x:As [.sl (.int .u16)]):agent_Read_R:=agent_Read_m0 agent_Read_K1 x.1
theorem agent_Read_c1 (J:Orc (As [.pr (.int .u16) YTT6,.int .i64])) (w:List Int) (t18:Bool) (t2:Int×Int×Int×Int×Int):pfn Tryz.prog agent_Read_e 6 18446744073709551616 (Ev.get agent_Read_h) 203 agent_Read_s J 6 [] (agent_Read_k1 w t18 t2)=agent_Read_m1 w t18 t2:=by kernel_rfl
theorem agent_Read_c0 (J:Orc (As [.pr (.int .u16) YTT6,.int .i64])) (x:As [.sl (.int .u16)]):rfn Tryz.prog agent_Read_e 6 18446744073709551616 (Ev.get agent_Read_h) 203 agent_Read_s J x=agent_Read_m0 (fun w t18 t2=>J 6 [] (agent_Read_k1 w t18 t2)) x.1:=by kernel_rfl
theorem agent_Read_g1 (w:List Int) (t18:Bool) (t2:Int×Int×Int×Int×Int):jfn Tryz.prog agent_Read_e 6 18446744073709551616 (Ev.get agent_Read_h) 203 agent_Read_s 6 [] (agent_Read_k1 w t18 t2)=agent_Read_K1 w t18 t2:=by
 rw [pfn_eq (by decide)]
 rw [agent_Read_c1]
 rfl
theorem agent_Read_t (x:As [.sl (.int .u16)]):evT Tryz.prog agent_Read_e 6 18446744073709551616 (Ev.get agent_Read_h) 203 agent_Read_s x=agent_Read x:=by
 have e1:(fun w t18 t2=>(jfn Tryz.prog agent_Read_e 6 18446744073709551616 (Ev.get agent_Read_h) 203 agent_Read_s) 6 [] (agent_Read_k1 w t18 t2))=agent_Read_K1:=by funext w t18 t2; exact agent_Read_g1 w t18 t2
 rw [rfn_eq,agent_Read_c0,e1]
 rfl
theorem agent_Read_ok:CtOk Tryz.prog (fun _=>True) 203 ⟨agent_Read_s,agent_Read⟩:=ct_of_ev (env_cons qi8_ env_nil) agent_Read_t
@[reducible] def agent_own_s:Sh:=⟨[.d (.pr (.sl (.int .u16)) YTT0)],[],[.pr (.sl (.int .u16)) YTT0],[.d (.pr (.sl (.int .u16)) YTT0)],[],0,[.pr (.sl (.int .u16)) YTT0]⟩
abbrev agent_own_R:=Option (As [.pr (.sl (.int .u16)) YTT0])
def agent_own_e:Env:=(cts [(131,(⟨q13_,slices_Clone_Guint16⟩:Ct))])
def agent_own_h:List (Nat×Hint):=[(58,⟨[],[1,2,12,13]⟩),(7475,⟨[.frb 5],[1,2,3,5,12,13]⟩)]
def agent_own_k1 (a t2:Int) (t12:List Bool) (t13:Int) (a_2 t2_2:List YTT2):St:={ fr:=[(1,.prw 0 a 32 0),(2,.prw 1 t2 32 0),(12,.d (.ar 8 .bool) t12),(13,.d (.int .i64) t13)],nt:=41,up:=[],own:=[(0,.row (.pr (.sl (.int .u16)) YTT0) 35 a_2),(1,.row (.pr (.sl (.int .u16)) YTT0) 35 t2_2)],nx:=2,log:=[],ln:=0 }
def agent_own_k2 (a t2 i:Int) (t12:List Bool) (t13:Int) (a_2 t2_2:List YTT2) (x:Int×List Int):St:={ fr:=[(1,.prw 0 a 32 0),(2,.prw 1 t2 32 0),(3,.d (.int .i64) i),(5,.pb 2 0),(12,.d (.ar 8 .bool) t12),(13,.d (.int .i64) t13)],nt:=41,up:=[],own:=[(0,.row (.pr (.sl (.int .u16)) YTT0) 35 a_2),(1,.row (.pr (.sl (.int .u16)) YTT0) 35 t2_2),(2,.box 30 [.d (.int .i64) x.1,.d (.sl (.int .u16)) x.2])],nx:=3,log:=[],ln:=0 }
def agent_own_m1 (j2:Int->Int->Int->List Bool->Int->List YTT2->List YTT2->Int×List Int->agent_own_R) (self1:Int->Int->List Bool->Int->List YTT2->List YTT2->agent_own_R) (a t2:Int) (t12:List Bool) (t13:Int) (a_2 t2_2:List YTT2):agent_own_R :=
 if lt t13 8=true then need (lt t13 8) (Option.bind (at? t12 t13) fun y=>if y=true then need (ge t13 0) (need (lt t13 8) (Option.bind (at? a_2 a) fun y=>Option.bind (at? y.2.2.2.2.2.1.2.2 t13) fun z=>need (ge t13 0) (need (lt t13 8) (Option.bind (at? a_2 a) fun y=>Option.bind (at? y.2.2.2.2.2.1.2.2 t13) fun z_1=>Option.bind (slices_Clone_Guint16 (z_1.2,())) fun y=>j2 a t2 t13 t12 t13 a_2 t2_2 (z.1,y.1))))) else j2 a t2 t13 t12 t13 a_2 t2_2 (0,[])) else Option.bind (at? a_2 a) fun y=>Option.bind (at? t2_2 t2) fun x=>Option.bind (at? (List.set t2_2 (Int.toNat t2) y) t2) fun y_1=>Option.bind (at? (List.set t2_2 (Int.toNat t2) y) t2) fun y=>some (y,())
def agent_own_m2 (self1:Int->Int->List Bool->Int->List YTT2->List YTT2->agent_own_R) (a t2 i:Int) (t12:List Bool) (t13:Int) (a_2 t2_2:List YTT2) (x:Int×List Int):agent_own_R :=
 need (ge i 0) (need (lt i 8) (Option.bind (at? a_2 a) fun x_1=>Option.bind (at? x_1.2.2.2.2.2.1.2.2 i) fun z=>self1 a t2 t12 (add .i64 t13 1) (List.set a_2 (Int.toNat a) (x_1.1,x_1.2.1,x_1.2.2.1,x_1.2.2.2.1,x_1.2.2.2.2.1,(x_1.2.2.2.2.2.1.1,x_1.2.2.2.2.2.1.2.1,List.set x_1.2.2.2.2.2.1.2.2 (Int.toNat i) x),x_1.2.2.2.2.2.2)) t2_2))
def agent_own_m0 (j1:Int->Int->List Bool->Int->List YTT2->List YTT2->agent_own_R) (a:List Int×(Int×Int)×Int×Int×Int×YTT9×Int):agent_own_R :=
 Option.bind (slices_Clone_Guint16 (a.1,())) fun y=>j1 0 0 a.2.2.2.2.2.1.2.1 0 [(y.1,a.2)] [zAg0]
def agent_own_K2 (u1:Int->Int->List Bool->Int->List YTT2->List YTT2->agent_own_R) (a t2 i:Int) (t12:List Bool) (t13:Int) (a_2 t2_2:List YTT2) (x:Int×List Int):agent_own_R:=agent_own_m2 u1 a t2 i t12 t13 a_2 t2_2 x
def agent_own_K1 (a t2:Int) (t12:List Bool) (t13:Int) (a_2 t2_2:List YTT2):agent_own_R :=
 loopF (fun (self:(Int)×(Int)×(List Bool)×(Int)×(List YTT2)×(List YTT2)->agent_own_R) (s:(Int)×(Int)×(List Bool)×(Int)×(List YTT2)×(List YTT2))=>agent_own_m1 (agent_own_K2 (fun a t2 t12 t13 a_2 t2_2=>self (a,t2,t12,t13,a_2,t2_2))) (fun a t2 t12 t13 a_2 t2_2=>self (a,t2,t12,t13,a_2,t2_2)) s.1 s.2.1 s.2.2.1 s.2.2.2.1 s.2.2.2.2.1 s.2.2.2.2.2) 18446744073709551616 (a,t2,t12,t13,a_2,t2_2)
def agent_own (x:As [.pr (.sl (.int .u16)) YTT0]):agent_own_R:=agent_own_m0 agent_own_K1 x.1
theorem agent_own_c2 (J:Orc (As [.pr (.sl (.int .u16)) YTT0])) (w1:St->agent_own_R) (a t2 i:Int) (t12:List Bool) (t13:Int) (a_2 t2_2:List YTT2) (x:Int×List Int):pfn Tryz.prog agent_own_e 6 18446744073709551616 (Ev.get agent_own_h) 178 agent_own_s J 7475 [w1] (agent_own_k2 a t2 i t12 t13 a_2 t2_2 x)=agent_own_m2 (fun a t2 t12 t13 a_2 t2_2=>w1 (agent_own_k1 a t2 t12 t13 a_2 t2_2)) a t2 i t12 t13 a_2 t2_2 x:=by kernel_rfl
theorem agent_own_c1 (J:Orc (As [.pr (.sl (.int .u16)) YTT0])) (w1:St->agent_own_R) (a t2:Int) (t12:List Bool) (t13:Int) (a_2 t2_2:List YTT2):pfn Tryz.prog agent_own_e 6 18446744073709551616 (Ev.get agent_own_h) 178 agent_own_s J 58 [w1] (agent_own_k1 a t2 t12 t13 a_2 t2_2)=agent_own_m1 (fun a t2 i t12 t13 a_2 t2_2 x=>J 7475 [w1] (agent_own_k2 a t2 i t12 t13 a_2 t2_2 x)) (fun a t2 t12 t13 a_2 t2_2=>w1 (agent_own_k1 a t2 t12 t13 a_2 t2_2)) a t2 t12 t13 a_2 t2_2:=by kernel_rfl
theorem agent_own_c0 (J:Orc (As [.pr (.sl (.int .u16)) YTT0])) (x:As [.pr (.sl (.int .u16)) YTT0]):rfn Tryz.prog agent_own_e 6 18446744073709551616 (Ev.get agent_own_h) 178 agent_own_s J x=agent_own_m0 (fun a t2 t12 t13 a_2 t2_2=>J 58 [] (agent_own_k1 a t2 t12 t13 a_2 t2_2)) x.1:=by kernel_rfl
theorem agent_own_g2 (w1:St->agent_own_R) (a t2 i:Int) (t12:List Bool) (t13:Int) (a_2 t2_2:List YTT2) (x:Int×List Int):jfn Tryz.prog agent_own_e 6 18446744073709551616 (Ev.get agent_own_h) 178 agent_own_s 7475 [w1] (agent_own_k2 a t2 i t12 t13 a_2 t2_2 x)=agent_own_K2 (fun a t2 t12 t13 a_2 t2_2=>w1 (agent_own_k1 a t2 t12 t13 a_2 t2_2)) a t2 i t12 t13 a_2 t2_2 x:=by
 rw [pfn_eq (by decide)]
 rw [agent_own_c2]
 rfl
theorem agent_own_g1 (a t2:Int) (t12:List Bool) (t13:Int) (a_2 t2_2:List YTT2):jfn Tryz.prog agent_own_e 6 18446744073709551616 (Ev.get agent_own_h) 178 agent_own_s 58 [] (agent_own_k1 a t2 t12 t13 a_2 t2_2)=agent_own_K1 a t2 t12 t13 a_2 t2_2:=by
 rw [pfn_eq (by decide)]
 rw [pfn_loop (by kernel_rfl)]
 refine loopF_sim (σ:=(Int)×(Int)×(List Bool)×(Int)×(List YTT2)×(List YTT2)) (mk:=fun s=>agent_own_k1 s.1 s.2.1 s.2.2.1 s.2.2.2.1 s.2.2.2.2.1 s.2.2.2.2.2) (fun w1 s=>?_) 18446744073709551616 (a,t2,t12,t13,a_2,t2_2)
 have e2:(fun a t2 i t12 t13 a_2 t2_2 x=>(jfn Tryz.prog agent_own_e 6 18446744073709551616 (Ev.get agent_own_h) 178 agent_own_s) 7475 [w1] (agent_own_k2 a t2 i t12 t13 a_2 t2_2 x))=agent_own_K2 (fun a t2 t12 t13 a_2 t2_2=>w1 (agent_own_k1 a t2 t12 t13 a_2 t2_2)):=by funext a t2 i t12 t13 a_2 t2_2 x; exact agent_own_g2 w1 a t2 i t12 t13 a_2 t2_2 x
 refine (agent_own_c1 _ w1 s.1 s.2.1 s.2.2.1 s.2.2.2.1 s.2.2.2.2.1 s.2.2.2.2.2).trans ?_
 rw [e2]
theorem agent_own_t (x:As [.pr (.sl (.int .u16)) YTT0]):evT Tryz.prog agent_own_e 6 18446744073709551616 (Ev.get agent_own_h) 178 agent_own_s x=agent_own x:=by
 have e1:(fun a t2 t12 t13 a_2 t2_2=>(jfn Tryz.prog agent_own_e 6 18446744073709551616 (Ev.get agent_own_h) 178 agent_own_s) 58 [] (agent_own_k1 a t2 t12 t13 a_2 t2_2))=agent_own_K1:=by funext a t2 t12 t13 a_2 t2_2; exact agent_own_g1 a t2 t12 t13 a_2 t2_2
 rw [rfn_eq,agent_own_c0,e1]
 rfl
theorem agent_own_ok:CtOk Tryz.prog (fun _=>True) 178 ⟨agent_own_s,agent_own⟩:=ct_of_ev (env_cons q4e_ env_nil) agent_own_t
@[reducible] def agent_others_s:Sh:=⟨[.d (.pr (.sl (.int .u16)) YTT0),.d (.int .u16)],[],[.pr (.sl (.int .u16)) YTT0,.int .u16],[.d (.bool)],[],0,[.bool]⟩
def agent_others_e:Env:=(cts [(2000035,Ev.bxCt),(113,(⟨lease_Free_s,lease_Free⟩:Ct))])
def agent_others_h:List (Nat×Hint):=[]
def agent_others_m0 (a:List Int×(Int×Int)×Int×Int×Int×YTT9×Int) (owner:Int):Option (As [.bool]) :=
 Option.bind (lease_Free (a.2.1,())) fun y=>if (!y.1)=true then some (nei a.2.1.1 owner,()) else some (false,())
def agent_others (x:As [.pr (.sl (.int .u16)) YTT0,.int .u16]):Option (As [.bool]):=agent_others_m0 x.1 x.2.1
theorem agent_others_c0 (J:Orc (As [.bool])) (x:As [.pr (.sl (.int .u16)) YTT0,.int .u16]):rfn Tryz.prog agent_others_e 6 18446744073709551616 (Ev.get agent_others_h) 214 agent_others_s J x=agent_others_m0 x.1 x.2.1:=by kernel_rfl
theorem agent_others_t (x:As [.pr (.sl (.int .u16)) YTT0,.int .u16]):evT Tryz.prog agent_others_e 6 18446744073709551616 (Ev.get agent_others_h) 214 agent_others_s x=agent_others x:=by
 rw [rfn_eq,agent_others_c0]
 rfl
theorem agent_others_ok:CtOk Tryz.prog (fun _=>True) 214 ⟨agent_others_s,agent_others⟩:=ct_of_ev (env_cons Ev.bx_ok (env_cons lease_Free_ok env_nil)) agent_others_t
@[reducible] def agent_noClaim_s:Sh:=⟨[.d (.pr (.sl (.int .u16)) YTT0),.d (.pr (.int .u16) YTT6)],[],[.pr (.sl (.int .u16)) YTT0,.pr (.int .u16) YTT6],[.d (.bool)],[],0,[.bool]⟩
def agent_noClaim_e:Env:=(cts [(2000035,Ev.bxCt)])
def agent_noClaim_h:List (Nat×Hint):=[]
def agent_noClaim_m0 (a:List Int×(Int×Int)×Int×Int×Int×YTT9×Int) (c:Int×Int×Int×Int×Int):Option (As [.bool]) :=
 if le c.2.2.1 a.2.2.2.2.1=true then some (true,()) else if nei a.2.2.1 0=true then some (lt c.2.2.1 a.2.2.2.1,()) else some (false,())
def agent_noClaim (x:As [.pr (.sl (.int .u16)) YTT0,.pr (.int .u16) YTT6]):Option (As [.bool]):=agent_noClaim_m0 x.1 x.2.1
theorem agent_noClaim_c0 (J:Orc (As [.bool])) (x:As [.pr (.sl (.int .u16)) YTT0,.pr (.int .u16) YTT6]):rfn Tryz.prog agent_noClaim_e 6 18446744073709551616 (Ev.get agent_noClaim_h) 219 agent_noClaim_s J x=agent_noClaim_m0 x.1 x.2.1:=by kernel_rfl
theorem agent_noClaim_t (x:As [.pr (.sl (.int .u16)) YTT0,.pr (.int .u16) YTT6]):evT Tryz.prog agent_noClaim_e 6 18446744073709551616 (Ev.get agent_noClaim_h) 219 agent_noClaim_s x=agent_noClaim x:=by
 rw [rfn_eq,agent_noClaim_c0]
 rfl
theorem agent_noClaim_ok:CtOk Tryz.prog (fun _=>True) 219 ⟨agent_noClaim_s,agent_noClaim⟩:=ct_of_ev (env_cons Ev.bx_ok env_nil) agent_noClaim_t
@[reducible] def agent_freed_s:Sh:=⟨[.d (.pr (.sl (.int .u16)) YTT0)],[],[.pr (.sl (.int .u16)) YTT0],[.d (.pr (.sl (.int .u16)) YTT0)],[],0,[.pr (.sl (.int .u16)) YTT0]⟩
def agent_freed_e:Env:=(cts [])
def agent_freed_h:List (Nat×Hint):=[]
def agent_freed_m0 (a:List Int×(Int×Int)×Int×Int×Int×YTT9×Int):Option (As [.pr (.sl (.int .u16)) YTT0]) :=
 some ((a.1,(0,0),0,0,a.2.2.2.2.1,zSt,a.2.2.2.2.2.2),())
def agent_freed (x:As [.pr (.sl (.int .u16)) YTT0]):Option (As [.pr (.sl (.int .u16)) YTT0]):=agent_freed_m0 x.1
theorem agent_freed_c0 (J:Orc (As [.pr (.sl (.int .u16)) YTT0])) (x:As [.pr (.sl (.int .u16)) YTT0]):rfn Tryz.prog agent_freed_e 6 18446744073709551616 (Ev.get agent_freed_h) 180 agent_freed_s J x=agent_freed_m0 x.1:=by kernel_rfl
theorem agent_freed_t (x:As [.pr (.sl (.int .u16)) YTT0]):evT Tryz.prog agent_freed_e 6 18446744073709551616 (Ev.get agent_freed_h) 180 agent_freed_s x=agent_freed x:=by
 rw [rfn_eq,agent_freed_c0]
 rfl
theorem agent_freed_ok:CtOk Tryz.prog (fun _=>True) 180 ⟨agent_freed_s,agent_freed⟩:=ct_of_ev env_nil agent_freed_t
@[reducible] def lease_Take_s:Sh:=⟨[.d (.pr (.int .u16) (.int .i64)),.d (.int .u16),.d (.int .i64)],[],[.pr (.int .u16) (.int .i64),.int .u16,.int .i64],[.d (.pr (.int .u16) (.int .i64)),.d (.int .i64)],[],0,[.pr (.int .u16) (.int .i64),.int .i64]⟩
abbrev lease_Take_R:=Option (As [.pr (.int .u16) (.int .i64),.int .i64])
def lease_Take_e:Env:=(cts [(113,(⟨lease_Free_s,lease_Free⟩:Ct)),(167,(⟨lease_counted_s,lease_counted⟩:Ct)),(207,(⟨lease_held_s,lease_held⟩:Ct))])
def lease_Take_h:List (Nat×Hint):=[(30,⟨[],[1,2,3,6,25]⟩),(14,⟨[],[1,2,3,6,15,21,22,23,24]⟩)]
def lease_Take_k1 (owner ticks:Int) (t15:Bool) (l t6:Int×Int):St:={ fr:=[(1,.d (.int .u16) owner),(2,.d (.int .i64) ticks),(3,.pb 0 0),(6,.pb 1 0),(15,.d .bool t15)],nt:=35,up:=[],own:=[(0,.box 27 [.d (.int .u16) l.1,.d (.int .i64) l.2]),(1,.box 27 [.d (.int .u16) t6.1,.d (.int .i64) t6.2])],nx:=2,log:=[],ln:=0 }
def lease_Take_k2 (owner ticks:Int) (t25:Bool) (l t6:Int×Int):St:={ fr:=[(1,.d (.int .u16) owner),(2,.d (.int .i64) ticks),(3,.pb 0 0),(6,.pb 1 0),(25,.d .bool t25)],nt:=35,up:=[],own:=[(0,.box 27 [.d (.int .u16) l.1,.d (.int .i64) l.2]),(1,.box 27 [.d (.int .u16) t6.1,.d (.int .i64) t6.2])],nx:=2,log:=[],ln:=0 }
def lease_Take_m1 (j2:Int->Int->Bool->Int×Int->Int×Int->lease_Take_R) (owner ticks:Int) (t15:Bool) (l t6:Int×Int):lease_Take_R :=
 if t15=true then some (l,2,()) else Option.bind (lease_Free (l,())) fun y=>if (!y.1)=true then j2 owner ticks (nei l.1 owner) l t6 else j2 owner ticks false l t6
def lease_Take_m2 (owner ticks:Int) (t25:Bool) (l t6:Int×Int):lease_Take_R :=
 if t25=true then some (l,22,()) else Option.bind (lease_held (owner,())) fun y=>if (eqi l.1 y.1.1 && (eqi l.2 y.1.2 && true))=true then some (l,0,()) else some ((owner,ticks),0,())
def lease_Take_m0 (j1:Int->Int->Bool->Int×Int->Int×Int->lease_Take_R) (l:Int×Int) (owner ticks:Int):lease_Take_R :=
 Option.bind (lease_counted (l,())) fun y=>if eqi owner 0=true then j1 owner ticks true y.1 (0,0) else j1 owner ticks (lt ticks 1) y.1 (0,0)
def lease_Take_K2 (owner ticks:Int) (t25:Bool) (l t6:Int×Int):lease_Take_R:=lease_Take_m2 owner ticks t25 l t6
def lease_Take_K1 (owner ticks:Int) (t15:Bool) (l t6:Int×Int):lease_Take_R:=lease_Take_m1 (lease_Take_K2) owner ticks t15 l t6
def lease_Take (x:As [.pr (.int .u16) (.int .i64),.int .u16,.int .i64]):lease_Take_R:=lease_Take_m0 lease_Take_K1 x.1 x.2.1 x.2.2.1
theorem lease_Take_c2 (J:Orc (As [.pr (.int .u16) (.int .i64),.int .i64])) (owner ticks:Int) (t25:Bool) (l t6:Int×Int):pfn Tryz.prog lease_Take_e 6 18446744073709551616 (Ev.get lease_Take_h) 227 lease_Take_s J 30 [] (lease_Take_k2 owner ticks t25 l t6)=lease_Take_m2 owner ticks t25 l t6:=by kernel_rfl
theorem lease_Take_c1 (J:Orc (As [.pr (.int .u16) (.int .i64),.int .i64])) (owner ticks:Int) (t15:Bool) (l t6:Int×Int):pfn Tryz.prog lease_Take_e 6 18446744073709551616 (Ev.get lease_Take_h) 227 lease_Take_s J 14 [] (lease_Take_k1 owner ticks t15 l t6)=lease_Take_m1 (fun owner ticks t25 l t6=>J 30 [] (lease_Take_k2 owner ticks t25 l t6)) owner ticks t15 l t6:=by kernel_rfl
theorem lease_Take_c0 (J:Orc (As [.pr (.int .u16) (.int .i64),.int .i64])) (x:As [.pr (.int .u16) (.int .i64),.int .u16,.int .i64]):rfn Tryz.prog lease_Take_e 6 18446744073709551616 (Ev.get lease_Take_h) 227 lease_Take_s J x=lease_Take_m0 (fun owner ticks t15 l t6=>J 14 [] (lease_Take_k1 owner ticks t15 l t6)) x.1 x.2.1 x.2.2.1:=by kernel_rfl
theorem lease_Take_g2 (owner ticks:Int) (t25:Bool) (l t6:Int×Int):jfn Tryz.prog lease_Take_e 6 18446744073709551616 (Ev.get lease_Take_h) 227 lease_Take_s 30 [] (lease_Take_k2 owner ticks t25 l t6)=lease_Take_K2 owner ticks t25 l t6:=by
 rw [pfn_eq (by decide)]
 rw [lease_Take_c2]
 rfl
theorem lease_Take_g1 (owner ticks:Int) (t15:Bool) (l t6:Int×Int):jfn Tryz.prog lease_Take_e 6 18446744073709551616 (Ev.get lease_Take_h) 227 lease_Take_s 14 [] (lease_Take_k1 owner ticks t15 l t6)=lease_Take_K1 owner ticks t15 l t6:=by
 rw [pfn_eq (by decide)]
 have e2:(fun owner ticks t25 l t6=>(jfn Tryz.prog lease_Take_e 6 18446744073709551616 (Ev.get lease_Take_h) 227 lease_Take_s) 30 [] (lease_Take_k2 owner ticks t25 l t6))=lease_Take_K2:=by funext owner ticks t25 l t6; exact lease_Take_g2 owner ticks t25 l t6
 rw [lease_Take_c1,e2]
 rfl
theorem lease_Take_t (x:As [.pr (.int .u16) (.int .i64),.int .u16,.int .i64]):evT Tryz.prog lease_Take_e 6 18446744073709551616 (Ev.get lease_Take_h) 227 lease_Take_s x=lease_Take x:=by
 have e1:(fun owner ticks t15 l t6=>(jfn Tryz.prog lease_Take_e 6 18446744073709551616 (Ev.get lease_Take_h) 227 lease_Take_s) 14 [] (lease_Take_k1 owner ticks t15 l t6))=lease_Take_K1:=by funext owner ticks t15 l t6; exact lease_Take_g1 owner ticks t15 l t6
 rw [rfn_eq,lease_Take_c0,e1]
 rfl
theorem lease_Take_ok:CtOk Tryz.prog (fun _=>True) 227 ⟨lease_Take_s,lease_Take⟩:=ct_of_ev (env_cons lease_Free_ok (env_cons lease_counted_ok (env_cons lease_held_ok env_nil))) lease_Take_t
@[reducible] def agent_taken_s:Sh:=⟨[.d (.pr (.sl (.int .u16)) YTT0),.d (.int .u16)],[],[.pr (.sl (.int .u16)) YTT0,.int .u16],[.d (.pr (.sl (.int .u16)) YTT0)],[],0,[.pr (.sl (.int .u16)) YTT0]⟩
def agent_taken_e:Env:=(cts [(227,(⟨lease_Take_s,lease_Take⟩:Ct))])
def agent_taken_h:List (Nat×Hint):=[]
def agent_taken_m0 (a:List Int×(Int×Int)×Int×Int×Int×YTT9×Int) (owner:Int):Option (As [.pr (.sl (.int .u16)) YTT0]) :=
 Option.bind (lease_Take (a.2.1,owner,a.2.2.2.2.2.2,())) fun y=>some ((a.1,y.1,a.2.2),())
def agent_taken (x:As [.pr (.sl (.int .u16)) YTT0,.int .u16]):Option (As [.pr (.sl (.int .u16)) YTT0]):=agent_taken_m0 x.1 x.2.1
theorem agent_taken_c0 (J:Orc (As [.pr (.sl (.int .u16)) YTT0])) (x:As [.pr (.sl (.int .u16)) YTT0,.int .u16]):rfn Tryz.prog agent_taken_e 6 18446744073709551616 (Ev.get agent_taken_h) 217 agent_taken_s J x=agent_taken_m0 x.1 x.2.1:=by kernel_rfl
theorem agent_taken_t (x:As [.pr (.sl (.int .u16)) YTT0,.int .u16]):evT Tryz.prog agent_taken_e 6 18446744073709551616 (Ev.get agent_taken_h) 217 agent_taken_s x=agent_taken x:=by
 rw [rfn_eq,agent_taken_c0]
 rfl
theorem agent_taken_ok:CtOk Tryz.prog (fun _=>True) 217 ⟨agent_taken_s,agent_taken⟩:=ct_of_ev (env_cons lease_Take_ok env_nil) agent_taken_t
@[reducible] def agent_claim_s:Sh:=⟨[.d (.pr (.sl (.int .u16)) YTT0),.d (.pr (.int .u16) YTT6)],[],[.pr (.sl (.int .u16)) YTT0,.pr (.int .u16) YTT6],[.d (.pr (.sl (.int .u16)) YTT0)],[],0,[.pr (.sl (.int .u16)) YTT0]⟩
def agent_claim_e:Env:=(cts [(180,(⟨agent_freed_s,agent_freed⟩:Ct)),(217,(⟨agent_taken_s,agent_taken⟩:Ct))])
def agent_claim_h:List (Nat×Hint):=[]
def agent_claim_m0 (a:List Int×(Int×Int)×Int×Int×Int×YTT9×Int) (c:Int×Int×Int×Int×Int):Option (As [.pr (.sl (.int .u16)) YTT0]) :=
 if eqi c.2.2.1 a.2.2.2.1=true then Option.bind (agent_taken (a,c.1,())) fun y=>some (y.1,()) else Option.bind (agent_freed (a,())) fun y=>Option.bind (agent_taken (y.1,c.1,())) fun y=>some ((y.1.1,y.1.2.1,1,c.2.2.1,y.1.2.2.2.2.1,(c.2.2.1,y.1.2.2.2.2.2.1.2),y.1.2.2.2.2.2.2),())
def agent_claim (x:As [.pr (.sl (.int .u16)) YTT0,.pr (.int .u16) YTT6]):Option (As [.pr (.sl (.int .u16)) YTT0]):=agent_claim_m0 x.1 x.2.1
theorem agent_claim_c0 (J:Orc (As [.pr (.sl (.int .u16)) YTT0])) (x:As [.pr (.sl (.int .u16)) YTT0,.pr (.int .u16) YTT6]):rfn Tryz.prog agent_claim_e 6 18446744073709551616 (Ev.get agent_claim_h) 220 agent_claim_s J x=agent_claim_m0 x.1 x.2.1:=by kernel_rfl
theorem agent_claim_t (x:As [.pr (.sl (.int .u16)) YTT0,.pr (.int .u16) YTT6]):evT Tryz.prog agent_claim_e 6 18446744073709551616 (Ev.get agent_claim_h) 220 agent_claim_s x=agent_claim x:=by
 rw [rfn_eq,agent_claim_c0]
 rfl
theorem agent_claim_ok:CtOk Tryz.prog (fun _=>True) 220 ⟨agent_claim_s,agent_claim⟩:=ct_of_ev (env_cons agent_freed_ok (env_cons agent_taken_ok env_nil)) agent_claim_t
@[reducible] def agent_in_s:Sh:=⟨[.d (.pr (.sl (.int .u16)) YTT0),.d (.int .u8),.d (.int .u32)],[],[.pr (.sl (.int .u16)) YTT0,.int .u8,.int .u32],[.d (.bool)],[],0,[.bool]⟩
def agent_in_e:Env:=(cts [(2000035,Ev.bxCt)])
def agent_in_h:List (Nat×Hint):=[]
def agent_in_m0 (a:List Int×(Int×Int)×Int×Int×Int×YTT9×Int) (phase tx:Int):Option (As [.bool]) :=
 if eqi a.2.2.1 phase=true then some (eqi a.2.2.2.1 tx,()) else some (false,())
def agent_in (x:As [.pr (.sl (.int .u16)) YTT0,.int .u8,.int .u32]):Option (As [.bool]):=agent_in_m0 x.1 x.2.1 x.2.2.1
theorem agent_in_c0 (J:Orc (As [.bool])) (x:As [.pr (.sl (.int .u16)) YTT0,.int .u8,.int .u32]):rfn Tryz.prog agent_in_e 6 18446744073709551616 (Ev.get agent_in_h) 215 agent_in_s J x=agent_in_m0 x.1 x.2.1 x.2.2.1:=by kernel_rfl
theorem agent_in_t (x:As [.pr (.sl (.int .u16)) YTT0,.int .u8,.int .u32]):evT Tryz.prog agent_in_e 6 18446744073709551616 (Ev.get agent_in_h) 215 agent_in_s x=agent_in x:=by
 rw [rfn_eq,agent_in_c0]
 rfl
theorem agent_in_ok:CtOk Tryz.prog (fun _=>True) 215 ⟨agent_in_s,agent_in⟩:=ct_of_ev (env_cons Ev.bx_ok env_nil) agent_in_t
@[reducible] def sum_shift_s:Sh:=⟨[.d (.int .u32)],[],[.int .u32],[.d (.int .u32)],[],0,[.int .u32]⟩
def sum_shift_e:Env:=(cts [])
def sum_shift_h:List (Nat×Hint):=[]
def sum_shift_m0 (sum:Int):Option (As [.int .u32]) :=
 if eqi (Sx.band .u32 sum 1) 1=true then some (Sx.bxor .u32 (Sx.shr .u32 sum 1) 3988292384,()) else some (Sx.shr .u32 sum 1,())
def sum_shift (x:As [.int .u32]):Option (As [.int .u32]):=sum_shift_m0 x.1
theorem sum_shift_c0 (J:Orc (As [.int .u32])) (x:As [.int .u32]):rfn Tryz.prog sum_shift_e 6 18446744073709551616 (Ev.get sum_shift_h) 206 sum_shift_s J x=sum_shift_m0 x.1:=by kernel_rfl
theorem sum_shift_t (x:As [.int .u32]):evT Tryz.prog sum_shift_e 6 18446744073709551616 (Ev.get sum_shift_h) 206 sum_shift_s x=sum_shift x:=by
 rw [rfn_eq,sum_shift_c0]
 rfl
theorem sum_shift_ok:CtOk Tryz.prog (fun _=>True) 206 ⟨sum_shift_s,sum_shift⟩:=ct_of_ev env_nil sum_shift_t
@[reducible] def sum_Add_s:Sh:=⟨[.d (.int .u32),.d (.int .u8)],[],[.int .u32,.int .u8],[.d (.int .u32)],[],0,[.int .u32]⟩
abbrev sum_Add_R:=Option (As [.int .u32])
def sum_Add_e:Env:=(cts [(206,(⟨sum_shift_s,sum_shift⟩:Ct))])
def sum_Add_h:List (Nat×Hint):=[(58,⟨[],[0,9]⟩)]
def sum_Add_k1 (sum t9:Int):St:={ fr:=[(0,.d (.int .u32) sum),(9,.d (.int .i64) t9)],nt:=15,up:=[],own:=[],nx:=0,log:=[],ln:=0 }
def sum_Add_m1 (self1:Int->Int->sum_Add_R) (sum t9:Int):sum_Add_R :=
 if lt t9 8=true then Option.bind (sum_shift (sum,())) fun y=>self1 y.1 (add .i64 t9 1) else some (sum,())
def sum_Add_m0 (j1:Int->Int->sum_Add_R) (sum b:Int):sum_Add_R :=
 j1 (Sx.bxor .u32 sum (cvt .u32 b)) 0
def sum_Add_K1 (sum t9:Int):sum_Add_R :=
 loopF (fun (self:(Int)×(Int)->sum_Add_R) (s:(Int)×(Int))=>sum_Add_m1 (fun sum t9=>self (sum,t9)) s.1 s.2) 18446744073709551616 (sum,t9)
def sum_Add (x:As [.int .u32,.int .u8]):sum_Add_R:=sum_Add_m0 sum_Add_K1 x.1 x.2.1
theorem sum_Add_c1 (J:Orc (As [.int .u32])) (w1:St->sum_Add_R) (sum t9:Int):pfn Tryz.prog sum_Add_e 6 18446744073709551616 (Ev.get sum_Add_h) 177 sum_Add_s J 58 [w1] (sum_Add_k1 sum t9)=sum_Add_m1 (fun sum t9=>w1 (sum_Add_k1 sum t9)) sum t9:=by kernel_rfl
theorem sum_Add_c0 (J:Orc (As [.int .u32])) (x:As [.int .u32,.int .u8]):rfn Tryz.prog sum_Add_e 6 18446744073709551616 (Ev.get sum_Add_h) 177 sum_Add_s J x=sum_Add_m0 (fun sum t9=>J 58 [] (sum_Add_k1 sum t9)) x.1 x.2.1:=by kernel_rfl
theorem sum_Add_g1 (sum t9:Int):jfn Tryz.prog sum_Add_e 6 18446744073709551616 (Ev.get sum_Add_h) 177 sum_Add_s 58 [] (sum_Add_k1 sum t9)=sum_Add_K1 sum t9:=by
 rw [pfn_eq (by decide)]
 rw [pfn_loop (by kernel_rfl)]
 refine loopF_sim (σ:=(Int)×(Int)) (mk:=fun s=>sum_Add_k1 s.1 s.2) (fun w1 s=>?_) 18446744073709551616 (sum,t9)
 refine (sum_Add_c1 _ w1 s.1 s.2).trans ?_
 rfl
theorem sum_Add_t (x:As [.int .u32,.int .u8]):evT Tryz.prog sum_Add_e 6 18446744073709551616 (Ev.get sum_Add_h) 177 sum_Add_s x=sum_Add x:=by
 have e1:(fun sum t9=>(jfn Tryz.prog sum_Add_e 6 18446744073709551616 (Ev.get sum_Add_h) 177 sum_Add_s) 58 [] (sum_Add_k1 sum t9))=sum_Add_K1:=by funext sum t9; exact sum_Add_g1 sum t9
 rw [rfn_eq,sum_Add_c0,e1]
 rfl
theorem sum_Add_ok:CtOk Tryz.prog (fun _=>True) 177 ⟨sum_Add_s,sum_Add⟩:=ct_of_ev (env_cons sum_shift_ok env_nil) sum_Add_t
@[reducible] def sum_Bytes_s:Sh:=⟨[.d (.sl (.int .u8))],[],[.sl (.int .u8)],[.d (.int .u32)],[],0,[.int .u32]⟩
abbrev sum_Bytes_R:=Option (As [.int .u32])
def sum_Bytes_e:Env:=(cts [(177,(⟨sum_Add_s,sum_Add⟩:Ct))])
def sum_Bytes_h:List (Nat×Hint):=[(7,⟨[],[3]⟩),(58,⟨[],[0,3,6,7]⟩)]
def sum_Bytes_k1 (b:List Int) (sum t6 t7:Int):St:={ fr:=[(0,.d (.sl (.int .u8)) b),(3,.d (.int .u32) sum),(6,.d (.int .i64) t6),(7,.d (.int .i64) t7)],nt:=19,up:=[],own:=[],nx:=0,log:=[],ln:=0 }
def sum_Bytes_k2 (sum:Int):St:={ fr:=[(3,.d (.int .u32) sum)],nt:=19,up:=[],own:=[],nx:=0,log:=[],ln:=0 }
def sum_Bytes_m1 (j2:Int->sum_Bytes_R) (self1:List Int->Int->Int->Int->sum_Bytes_R) (b:List Int) (sum t6 t7:Int):sum_Bytes_R :=
 if lt t7 t6=true then Option.bind (at? b t7) fun y=>Option.bind (sum_Add (sum,y,())) fun y=>self1 b y.1 t6 (add .i64 t7 1) else j2 sum
def sum_Bytes_m2 (sum:Int):sum_Bytes_R :=
 some (Int.ofNat (BitVec.toNat { toFin:=⟨4294967295 ^^^ BitVec.toNat { toFin:=⟨Int.toNat (sum % 4294967296),BitVec.ofInt._proof_1 (Go.IntKind.bits .u32) sum⟩ },BitVec.xor._proof_1 (BitVec.ofInt (Go.IntKind.bits .u32) (if Go.IntKind.signed .u32=true then -1 else Go.IntKind.max .u32)) (BitVec.ofInt (Go.IntKind.bits .u32) sum)⟩ } % 4294967296),())
def sum_Bytes_m0 (j1:List Int->Int->Int->Int->sum_Bytes_R) (b:List Int):sum_Bytes_R :=
 j1 b 4294967295 (Int.ofNat (List.length b)) 0
def sum_Bytes_K2 (sum:Int):sum_Bytes_R:=sum_Bytes_m2 sum
def sum_Bytes_K1 (b:List Int) (sum t6 t7:Int):sum_Bytes_R :=
 loopF (fun (self:(List Int)×(Int)×(Int)×(Int)->sum_Bytes_R) (s:(List Int)×(Int)×(Int)×(Int))=>sum_Bytes_m1 (sum_Bytes_K2) (fun b sum t6 t7=>self (b,sum,t6,t7)) s.1 s.2.1 s.2.2.1 s.2.2.2) 18446744073709551616 (b,sum,t6,t7)
def sum_Bytes (x:As [.sl (.int .u8)]):sum_Bytes_R:=sum_Bytes_m0 sum_Bytes_K1 x.1
theorem sum_Bytes_c2 (J:Orc (As [.int .u32])) (sum:Int):pfn Tryz.prog sum_Bytes_e 6 18446744073709551616 (Ev.get sum_Bytes_h) 134 sum_Bytes_s J 7 [] (sum_Bytes_k2 sum)=sum_Bytes_m2 sum:=by kernel_rfl
theorem sum_Bytes_c1 (J:Orc (As [.int .u32])) (w1:St->sum_Bytes_R) (b:List Int) (sum t6 t7:Int):pfn Tryz.prog sum_Bytes_e 6 18446744073709551616 (Ev.get sum_Bytes_h) 134 sum_Bytes_s J 58 [w1] (sum_Bytes_k1 b sum t6 t7)=sum_Bytes_m1 (fun sum=>J 7 [] (sum_Bytes_k2 sum)) (fun b sum t6 t7=>w1 (sum_Bytes_k1 b sum t6 t7)) b sum t6 t7:=by kernel_rfl
theorem sum_Bytes_c0 (J:Orc (As [.int .u32])) (x:As [.sl (.int .u8)]):rfn Tryz.prog sum_Bytes_e 6 18446744073709551616 (Ev.get sum_Bytes_h) 134 sum_Bytes_s J x=sum_Bytes_m0 (fun b sum t6 t7=>J 58 [] (sum_Bytes_k1 b sum t6 t7)) x.1:=by kernel_rfl
theorem sum_Bytes_g2 (sum:Int):jfn Tryz.prog sum_Bytes_e 6 18446744073709551616 (Ev.get sum_Bytes_h) 134 sum_Bytes_s 7 [] (sum_Bytes_k2 sum)=sum_Bytes_K2 sum:=by
 rw [pfn_eq (by decide)]
 rw [sum_Bytes_c2]
 rfl
theorem sum_Bytes_g1 (b:List Int) (sum t6 t7:Int):jfn Tryz.prog sum_Bytes_e 6 18446744073709551616 (Ev.get sum_Bytes_h) 134 sum_Bytes_s 58 [] (sum_Bytes_k1 b sum t6 t7)=sum_Bytes_K1 b sum t6 t7:=by
 rw [pfn_eq (by decide)]
 rw [pfn_loop (by kernel_rfl)]
 refine loopF_sim (σ:=(List Int)×(Int)×(Int)×(Int)) (mk:=fun s=>sum_Bytes_k1 s.1 s.2.1 s.2.2.1 s.2.2.2) (fun w1 s=>?_) 18446744073709551616 (b,sum,t6,t7)
 have e2:(fun sum=>(jfn Tryz.prog sum_Bytes_e 6 18446744073709551616 (Ev.get sum_Bytes_h) 134 sum_Bytes_s) 7 [] (sum_Bytes_k2 sum))=sum_Bytes_K2:=funext fun sum=>sum_Bytes_g2 sum
 refine (sum_Bytes_c1 _ w1 s.1 s.2.1 s.2.2.1 s.2.2.2).trans ?_
 rw [e2]
theorem sum_Bytes_t (x:As [.sl (.int .u8)]):evT Tryz.prog sum_Bytes_e 6 18446744073709551616 (Ev.get sum_Bytes_h) 134 sum_Bytes_s x=sum_Bytes x:=by
 have e1:(fun b sum t6 t7=>(jfn Tryz.prog sum_Bytes_e 6 18446744073709551616 (Ev.get sum_Bytes_h) 134 sum_Bytes_s) 58 [] (sum_Bytes_k1 b sum t6 t7))=sum_Bytes_K1:=by funext b sum t6 t7; exact sum_Bytes_g1 b sum t6 t7
 rw [rfn_eq,sum_Bytes_c0,e1]
 rfl
theorem sum_Bytes_ok:CtOk Tryz.prog (fun _=>True) 134 ⟨sum_Bytes_s,sum_Bytes⟩:=ct_of_ev (env_cons sum_Add_ok env_nil) sum_Bytes_t
@[reducible] def q34_:Sh:=⟨[.d (.sl (.int .u16))],[],[.sl (.int .u16)],[.d (.sl (.int .u8))],[],0,[.sl (.int .u8)]⟩
def q6e_:Env:=(cts [])
def q6g_:List (Nat×Hint):=[(58,⟨[],[0,3,10,11]⟩)]
def q43_ (l:List Int) (t10 t11:Int) (b:List Int):St:={ fr:=[(0,.d (.sl (.int .u16)) l),(3,.row 0),(10,.d (.int .i64) t10),(11,.d (.int .i64) t11)],nt:=36,up:=[],own:=[(0,.row (.int .u8) 5 b)],nx:=1,log:=[],ln:=0 }
def q44_ (self1:List Int->Int->Int->List Int->Option (As [.sl (.int .u8)])) (l:List Int) (t10 t11:Int) (b:List Int):Option (As [.sl (.int .u8)]) :=
 if lt t11 t10=true then Option.bind (at? l t11) fun y=>Option.bind (at? l t11) fun y_1=>Option.bind (at? b (mul .i64 2 t11)) fun x=>Option.bind (at? b (mul .i64 2 t11)) fun x=>Option.bind (at? (List.set b (Int.toNat (mul .i64 2 t11)) (cvt .u8 (Sx.shr .u16 y 8))) (add .i64 (mul .i64 2 t11) 1)) fun x=>Option.bind (at? (List.set b (Int.toNat (mul .i64 2 t11)) (cvt .u8 (Sx.shr .u16 y 8))) (add .i64 (mul .i64 2 t11) 1)) fun x=>self1 l t10 (add .i64 t11 1) (List.set (List.set b (Int.toNat (mul .i64 2 t11)) (cvt .u8 (Sx.shr .u16 y 8))) (Int.toNat (add .i64 (mul .i64 2 t11) 1)) (cvt .u8 y_1)) else some (b,())
def q7j_ (j1:List Int->Int->Int->List Int->Option (As [.sl (.int .u8)])) (l:List Int):Option (As [.sl (.int .u8)]) :=
 need (ge (mul .i64 2 (Int.ofNat (List.length l))) 0) (need (Ev.capOk (mul .i64 2 (Int.ofNat (List.length l))) (mul .i64 2 (Int.ofNat (List.length l)))) (need (small (Int.toNat (mul .i64 2 (Int.ofNat (List.length l))))) (j1 l (Int.ofNat (List.length l)) 0 (List.replicate (Int.toNat (mul .i64 2 (Int.ofNat (List.length l)))) 0))))
def q5b_ (l:List Int) (t10 t11:Int) (b:List Int):Option (As [.sl (.int .u8)]) :=
 loopF (fun (self:(List Int)×(Int)×(Int)×(List Int)->Option (As [.sl (.int .u8)])) (s:(List Int)×(Int)×(Int)×(List Int))=>q44_ (fun l t10 t11 b=>self (l,t10,t11,b)) s.1 s.2.1 s.2.2.1 s.2.2.2) 18446744073709551616 (l,t10,t11,b)
def words_PackRegs (x:As [.sl (.int .u16)]):Option (As [.sl (.int .u8)]):=q7j_ q5b_ x.1
theorem qjv_ (J:Orc (As [.sl (.int .u8)])) (w1:St->Option (As [.sl (.int .u8)])) (l:List Int) (t10 t11:Int) (b:List Int):pfn Tryz.prog q6e_ 6 18446744073709551616 (Ev.get q6g_) 135 q34_ J 58 [w1] (q43_ l t10 t11 b)=q44_ (fun l t10 t11 b=>w1 (q43_ l t10 t11 b)) l t10 t11 b:=by kernel_rfl
theorem qju_ (J:Orc (As [.sl (.int .u8)])) (x:As [.sl (.int .u16)]):rfn Tryz.prog q6e_ 6 18446744073709551616 (Ev.get q6g_) 135 q34_ J x=q7j_ (fun l t10 t11 b=>J 58 [] (q43_ l t10 t11 b)) x.1:=by kernel_rfl
theorem qjt_ (l:List Int) (t10 t11:Int) (b:List Int):jfn Tryz.prog q6e_ 6 18446744073709551616 (Ev.get q6g_) 135 q34_ 58 [] (q43_ l t10 t11 b)=q5b_ l t10 t11 b:=by
 rw [pfn_eq (by decide)]
 rw [pfn_loop (by kernel_rfl)]
 refine loopF_sim (σ:=(List Int)×(Int)×(Int)×(List Int)) (mk:=fun s=>q43_ s.1 s.2.1 s.2.2.1 s.2.2.2) (fun w1 s=>?_) 18446744073709551616 (l,t10,t11,b)
 refine (qjv_ _ w1 s.1 s.2.1 s.2.2.1 s.2.2.2).trans ?_
 rfl
theorem ql0_ (x:As [.sl (.int .u16)]):evT Tryz.prog q6e_ 6 18446744073709551616 (Ev.get q6g_) 135 q34_ x=words_PackRegs x:=by
 have e1:(fun l t10 t11 b=>(jfn Tryz.prog q6e_ 6 18446744073709551616 (Ev.get q6g_) 135 q34_) 58 [] (q43_ l t10 t11 b))=q5b_:=by funext l t10 t11 b; exact qjt_ l t10 t11 b
 rw [rfn_eq,qju_,e1]
 rfl
theorem qjr_:CtOk Tryz.prog (fun _=>True) 135 ⟨q34_,words_PackRegs⟩:=ct_of_ev env_nil ql0_
@[reducible] def sum_Words_s:Sh:=⟨[.d (.sl (.int .u16))],[],[.sl (.int .u16)],[.d (.int .u32)],[],0,[.int .u32]⟩
def sum_Words_e:Env:=(cts [(134,(⟨sum_Bytes_s,sum_Bytes⟩:Ct)),(135,(⟨q34_,words_PackRegs⟩:Ct))])
def sum_Words_h:List (Nat×Hint):=[]
def sum_Words_m0 (l:List Int):Option (As [.int .u32]) :=
 Option.bind (words_PackRegs (l,())) fun y=>Option.bind (sum_Bytes (y.1,())) fun y=>some (y.1,())
def sum_Words (x:As [.sl (.int .u16)]):Option (As [.int .u32]):=sum_Words_m0 x.1
theorem sum_Words_c0 (J:Orc (As [.int .u32])) (x:As [.sl (.int .u16)]):rfn Tryz.prog sum_Words_e 6 18446744073709551616 (Ev.get sum_Words_h) 74 sum_Words_s J x=sum_Words_m0 x.1:=by kernel_rfl
theorem sum_Words_t (x:As [.sl (.int .u16)]):evT Tryz.prog sum_Words_e 6 18446744073709551616 (Ev.get sum_Words_h) 74 sum_Words_s x=sum_Words x:=by
 rw [rfn_eq,sum_Words_c0]
 rfl
theorem sum_Words_ok:CtOk Tryz.prog (fun _=>True) 74 ⟨sum_Words_s,sum_Words⟩:=ct_of_ev (env_cons sum_Bytes_ok (env_cons qjr_ env_nil)) sum_Words_t
@[reducible] def stage_Sum_s:Sh:=⟨[.d (.sl YTT8)],[],[.sl YTT8],[.d (.int .u32)],[],0,[.int .u32]⟩
abbrev stage_Sum_R:=Option (As [.int .u32])
def stage_Sum_e:Env:=(cts [(73,(⟨stage_itself_s,stage_itself⟩:Ct)),(74,(⟨sum_Words_s,sum_Words⟩:Ct))])
def stage_Sum_h:List (Nat×Hint):=[(7,⟨[],[3]⟩),(58,⟨[.row 3 23],[3,6,7,8]⟩)]
def stage_Sum_k1 (t6:List (Int×List Int)) (t7 t8:Int) (all:List Int):St:={ fr:=[(3,.row 0),(6,.d (.sl YTT8) t6),(7,.d (.int .i64) t7),(8,.d (.int .i64) t8)],nt:=19,up:=[],own:=[(0,.row (.int .u16) 23 all)],nx:=1,log:=[],ln:=0 }
def stage_Sum_k2 (all:List Int):St:={ fr:=[(3,.row 0)],nt:=19,up:=[],own:=[(0,.row (.int .u16) 23 all)],nx:=1,log:=[],ln:=0 }
def stage_Sum_m1 (j2:List Int->stage_Sum_R) (self1:List (Int×List Int)->Int->Int->List Int->stage_Sum_R) (t6:List (Int×List Int)) (t7 t8:Int) (all:List Int):stage_Sum_R :=
 if lt t8 t7=true then Option.bind (at? t6 t8) fun y=>Option.bind (stage_itself (y,())) fun y=>need (small (List.length all + List.length y.1)) (self1 t6 t7 (add .i64 t8 1) (all++y.1)) else j2 all
def stage_Sum_m2 (all:List Int):stage_Sum_R :=
 Option.bind (sum_Words (all,())) fun y=>some (y.1,())
def stage_Sum_m0 (j1:List (Int×List Int)->Int->Int->List Int->stage_Sum_R) (l:List (Int×List Int)):stage_Sum_R :=
 j1 l (Int.ofNat (List.length l)) 0 []
def stage_Sum_K2 (all:List Int):stage_Sum_R:=stage_Sum_m2 all
def stage_Sum_K1 (t6:List (Int×List Int)) (t7 t8:Int) (all:List Int):stage_Sum_R :=
 loopF (fun (self:(List (Int×List Int))×(Int)×(Int)×(List Int)->stage_Sum_R) (s:(List (Int×List Int))×(Int)×(Int)×(List Int))=>stage_Sum_m1 (stage_Sum_K2) (fun t6 t7 t8 all=>self (t6,t7,t8,all)) s.1 s.2.1 s.2.2.1 s.2.2.2) 18446744073709551616 (t6,t7,t8,all)
def stage_Sum (x:As [.sl YTT8]):stage_Sum_R:=stage_Sum_m0 stage_Sum_K1 x.1
theorem stage_Sum_c2 (J:Orc (As [.int .u32])) (all:List Int):pfn Tryz.prog stage_Sum_e 6 18446744073709551616 (Ev.get stage_Sum_h) 19 stage_Sum_s J 7 [] (stage_Sum_k2 all)=stage_Sum_m2 all:=by kernel_rfl
theorem stage_Sum_c1 (J:Orc (As [.int .u32])) (w1:St->stage_Sum_R) (t6:List (Int×List Int)) (t7 t8:Int) (all:List Int):pfn Tryz.prog stage_Sum_e 6 18446744073709551616 (Ev.get stage_Sum_h) 19 stage_Sum_s J 58 [w1] (stage_Sum_k1 t6 t7 t8 all)=stage_Sum_m1 (fun all=>J 7 [] (stage_Sum_k2 all)) (fun t6 t7 t8 all=>w1 (stage_Sum_k1 t6 t7 t8 all)) t6 t7 t8 all:=by kernel_rfl
theorem stage_Sum_c0 (J:Orc (As [.int .u32])) (x:As [.sl YTT8]):rfn Tryz.prog stage_Sum_e 6 18446744073709551616 (Ev.get stage_Sum_h) 19 stage_Sum_s J x=stage_Sum_m0 (fun t6 t7 t8 all=>J 58 [] (stage_Sum_k1 t6 t7 t8 all)) x.1:=by kernel_rfl
theorem stage_Sum_g2 (all:List Int):jfn Tryz.prog stage_Sum_e 6 18446744073709551616 (Ev.get stage_Sum_h) 19 stage_Sum_s 7 [] (stage_Sum_k2 all)=stage_Sum_K2 all:=by
 rw [pfn_eq (by decide)]
 rw [stage_Sum_c2]
 rfl
theorem stage_Sum_g1 (t6:List (Int×List Int)) (t7 t8:Int) (all:List Int):jfn Tryz.prog stage_Sum_e 6 18446744073709551616 (Ev.get stage_Sum_h) 19 stage_Sum_s 58 [] (stage_Sum_k1 t6 t7 t8 all)=stage_Sum_K1 t6 t7 t8 all:=by
 rw [pfn_eq (by decide)]
 rw [pfn_loop (by kernel_rfl)]
 refine loopF_sim (σ:=(List (Int×List Int))×(Int)×(Int)×(List Int)) (mk:=fun s=>stage_Sum_k1 s.1 s.2.1 s.2.2.1 s.2.2.2) (fun w1 s=>?_) 18446744073709551616 (t6,t7,t8,all)
 have e2:(fun all=>(jfn Tryz.prog stage_Sum_e 6 18446744073709551616 (Ev.get stage_Sum_h) 19 stage_Sum_s) 7 [] (stage_Sum_k2 all))=stage_Sum_K2:=funext fun all=>stage_Sum_g2 all
 refine (stage_Sum_c1 _ w1 s.1 s.2.1 s.2.2.1 s.2.2.2).trans ?_
 rw [e2]
theorem stage_Sum_t (x:As [.sl YTT8]):evT Tryz.prog stage_Sum_e 6 18446744073709551616 (Ev.get stage_Sum_h) 19 stage_Sum_s x=stage_Sum x:=by
 have e1:(fun t6 t7 t8 all=>(jfn Tryz.prog stage_Sum_e 6 18446744073709551616 (Ev.get stage_Sum_h) 19 stage_Sum_s) 58 [] (stage_Sum_k1 t6 t7 t8 all))=stage_Sum_K1:=by funext t6 t7 t8 all; exact stage_Sum_g1 t6 t7 t8 all
 rw [rfn_eq,stage_Sum_c0,e1]
 rfl
theorem stage_Sum_ok:CtOk Tryz.prog (fun _=>True) 19 ⟨stage_Sum_s,stage_Sum⟩:=ct_of_ev (env_cons stage_itself_ok (env_cons sum_Words_ok env_nil)) stage_Sum_t
@[reducible] def stage_Blocks_s:Sh:=⟨[.d (.pr (.int .u32) (.pr (.ar 8 .bool) (.ar 8 YTT8)))],[],[.pr (.int .u32) (.pr (.ar 8 .bool) (.ar 8 YTT8))],[.d (.sl YTT8)],[],0,[.sl YTT8]⟩
abbrev stage_Blocks_R:=Option (As [.sl YTT8])
def stage_Blocks_e:Env:=(cts [(2000033,Ev.bxCt),(79,(⟨stage_own_s,stage_own⟩:Ct))])
def stage_Blocks_h:List (Nat×Hint):=[(58,⟨[.row 3 30],[1,3,7,8]⟩)]
def stage_Blocks_k1 (s:Int×List Bool×List (Int×List Int)) (t7:List Bool) (t8:Int) (l:List (Int×List Int)):St:={ fr:=[(1,.pe (.pr (.int .u32) (.pr (.ar 8 .bool) (.ar 8 YTT8))) s),(3,.row 0),(7,.d (.ar 8 .bool) t7),(8,.d (.int .i64) t8)],nt:=23,up:=[],own:=[(0,.row YTT8 30 l)],nx:=1,log:=[],ln:=0 }
def stage_Blocks_m1 (self1:Int×List Bool×List (Int×List Int)->List Bool->Int->List (Int×List Int)->stage_Blocks_R) (s:Int×List Bool×List (Int×List Int)) (t7:List Bool) (t8:Int) (l:List (Int×List Int)):stage_Blocks_R :=
 if lt t8 8=true then need (lt t8 8) (Option.bind (at? t7 t8) fun y=>if y=true then Option.bind (at? s.2.2 t8) fun y=>Option.bind (stage_own (y,())) fun y=>need (small (List.length l + Nat.succ 0)) (self1 s t7 (add .i64 t8 1) (l++[y.1])) else self1 s t7 (add .i64 t8 1) l) else some (l,())
def stage_Blocks_m0 (j1:Int×List Bool×List (Int×List Int)->List Bool->Int->List (Int×List Int)->stage_Blocks_R) (s:Int×List Bool×List (Int×List Int)):stage_Blocks_R :=
 j1 s s.2.1 0 []
def stage_Blocks_K1 (s:Int×List Bool×List (Int×List Int)) (t7:List Bool) (t8:Int) (l:List (Int×List Int)):stage_Blocks_R :=
 loopF (fun (self:YTT9×(List Bool)×(Int)×(List (Int×List Int))->stage_Blocks_R) (s:YTT9×(List Bool)×(Int)×(List (Int×List Int)))=>stage_Blocks_m1 (fun s t7 t8 l=>self (s,t7,t8,l)) s.1 s.2.1 s.2.2.1 s.2.2.2) 18446744073709551616 (s,t7,t8,l)
def stage_Blocks (x:As [.pr (.int .u32) (.pr (.ar 8 .bool) (.ar 8 YTT8))]):stage_Blocks_R:=stage_Blocks_m0 stage_Blocks_K1 x.1
theorem stage_Blocks_c1 (J:Orc (As [.sl YTT8])) (w1:St->stage_Blocks_R) (s:Int×List Bool×List (Int×List Int)) (t7:List Bool) (t8:Int) (l:List (Int×List Int)):pfn Tryz.prog stage_Blocks_e 6 18446744073709551616 (Ev.get stage_Blocks_h) 139 stage_Blocks_s J 58 [w1] (stage_Blocks_k1 s t7 t8 l)=stage_Blocks_m1 (fun s t7 t8 l=>w1 (stage_Blocks_k1 s t7 t8 l)) s t7 t8 l:=by kernel_rfl
theorem stage_Blocks_c0 (J:Orc (As [.sl YTT8])) (x:As [.pr (.int .u32) (.pr (.ar 8 .bool) (.ar 8 YTT8))]):rfn Tryz.prog stage_Blocks_e 6 18446744073709551616 (Ev.get stage_Blocks_h) 139 stage_Blocks_s J x=stage_Blocks_m0 (fun s t7 t8 l=>J 58 [] (stage_Blocks_k1 s t7 t8 l)) x.1:=by kernel_rfl
theorem stage_Blocks_g1 (s:Int×List Bool×List (Int×List Int)) (t7:List Bool) (t8:Int) (l:List (Int×List Int)):jfn Tryz.prog stage_Blocks_e 6 18446744073709551616 (Ev.get stage_Blocks_h) 139 stage_Blocks_s 58 [] (stage_Blocks_k1 s t7 t8 l)=stage_Blocks_K1 s t7 t8 l:=by
 rw [pfn_eq (by decide)]
 rw [pfn_loop (by kernel_rfl)]
 refine loopF_sim (σ:=YTT9×(List Bool)×(Int)×(List (Int×List Int))) (mk:=fun s=>stage_Blocks_k1 s.1 s.2.1 s.2.2.1 s.2.2.2) (fun w1 s=>?_) 18446744073709551616 (s,t7,t8,l)
 refine (stage_Blocks_c1 _ w1 s.1 s.2.1 s.2.2.1 s.2.2.2).trans ?_
 rfl
theorem stage_Blocks_t (x:As [.pr (.int .u32) (.pr (.ar 8 .bool) (.ar 8 YTT8))]):evT Tryz.prog stage_Blocks_e 6 18446744073709551616 (Ev.get stage_Blocks_h) 139 stage_Blocks_s x=stage_Blocks x:=by
 have e1:(fun s t7 t8 l=>(jfn Tryz.prog stage_Blocks_e 6 18446744073709551616 (Ev.get stage_Blocks_h) 139 stage_Blocks_s) 58 [] (stage_Blocks_k1 s t7 t8 l))=stage_Blocks_K1:=by funext s t7 t8 l; exact stage_Blocks_g1 s t7 t8 l
 rw [rfn_eq,stage_Blocks_c0,e1]
 rfl
theorem stage_Blocks_ok:CtOk Tryz.prog (fun _=>True) 139 ⟨stage_Blocks_s,stage_Blocks⟩:=ct_of_ev (env_cons Ev.bx_ok (env_cons stage_own_ok env_nil)) stage_Blocks_t
@[reducible] def stage_Whole_s:Sh:=⟨[.d (.pr (.int .u32) (.pr (.ar 8 .bool) (.ar 8 YTT8))),.d (.int .i64),.d (.int .u32)],[],[.pr (.int .u32) (.pr (.ar 8 .bool) (.ar 8 YTT8)),.int .i64,.int .u32],[.d (.bool)],[],0,[.bool]⟩
abbrev stage_Whole_R:=Option (As [.bool])
def stage_Whole_e:Env:=(cts [(2000033,Ev.bxCt),(19,(⟨stage_Sum_s,stage_Sum⟩:Ct)),(139,(⟨stage_Blocks_s,stage_Blocks⟩:Ct))])
def stage_Whole_h:List (Nat×Hint):=[(7,⟨[],[2,3]⟩),(58,⟨[],[1,2,3,16,17]⟩),(6,⟨[],[1,2,3,14]⟩)]
def stage_Whole_k1 (count check:Int) (s:Int×List Bool×List (Int×List Int)) (t14:Bool):St:={ fr:=[(1,.d (.int .i64) count),(2,.d (.int .u32) check),(3,.pe (.pr (.int .u32) (.pr (.ar 8 .bool) (.ar 8 YTT8))) s),(14,.d .bool t14)],nt:=32,up:=[],own:=[],nx:=0,log:=[],ln:=0 }
def stage_Whole_k2 (count check:Int) (s:Int×List Bool×List (Int×List Int)) (t16:List Bool) (t17:Int):St:={ fr:=[(1,.d (.int .i64) count),(2,.d (.int .u32) check),(3,.pe (.pr (.int .u32) (.pr (.ar 8 .bool) (.ar 8 YTT8))) s),(16,.d (.ar 8 .bool) t16),(17,.d (.int .i64) t17)],nt:=32,up:=[],own:=[],nx:=0,log:=[],ln:=0 }
def stage_Whole_k3 (check:Int) (s:Int×List Bool×List (Int×List Int)):St:={ fr:=[(2,.d (.int .u32) check),(3,.pe (.pr (.int .u32) (.pr (.ar 8 .bool) (.ar 8 YTT8))) s)],nt:=32,up:=[],own:=[],nx:=0,log:=[],ln:=0 }
def stage_Whole_m1 (j2:Int->Int->Int×List Bool×List (Int×List Int)->List Bool->Int->stage_Whole_R) (count check:Int) (s:Int×List Bool×List (Int×List Int)) (t14:Bool):stage_Whole_R :=
 if t14=true then some (false,()) else j2 count check s s.2.1 0
def stage_Whole_m2 (j3:Int->Int×List Bool×List (Int×List Int)->stage_Whole_R) (self2:Int->Int->Int×List Bool×List (Int×List Int)->List Bool->Int->stage_Whole_R) (count check:Int) (s:Int×List Bool×List (Int×List Int)) (t16:List Bool) (t17:Int):stage_Whole_R :=
 if lt t17 8=true then need (lt t17 8) (Option.bind (at? t16 t17) fun y=>if Sx.neb y (lt t17 count)=true then some (false,()) else self2 count check s t16 (add .i64 t17 1)) else j3 check s
def stage_Whole_m3 (check:Int) (s:Int×List Bool×List (Int×List Int)):stage_Whole_R :=
 Option.bind (stage_Blocks (s,())) fun y=>Option.bind (stage_Sum (y.1,())) fun y=>some (eqi y.1 check,())
def stage_Whole_m0 (j1:Int->Int->Int×List Bool×List (Int×List Int)->Bool->stage_Whole_R) (s:Int×List Bool×List (Int×List Int)) (count check:Int):stage_Whole_R :=
 if lt count 0=true then j1 count check s true else j1 count check s (gt count 8)
def stage_Whole_K3 (check:Int) (s:Int×List Bool×List (Int×List Int)):stage_Whole_R:=stage_Whole_m3 check s
def stage_Whole_K2 (count check:Int) (s:Int×List Bool×List (Int×List Int)) (t16:List Bool) (t17:Int):stage_Whole_R :=
 loopF (fun (self:(Int)×(Int)×YTT9×(List Bool)×(Int)->stage_Whole_R) (s:(Int)×(Int)×YTT9×(List Bool)×(Int))=>stage_Whole_m2 (stage_Whole_K3) (fun count check s t16 t17=>self (count,check,s,t16,t17)) s.1 s.2.1 s.2.2.1 s.2.2.2.1 s.2.2.2.2) 18446744073709551616 (count,check,s,t16,t17)
def stage_Whole_K1 (count check:Int) (s:Int×List Bool×List (Int×List Int)) (t14:Bool):stage_Whole_R:=stage_Whole_m1 (stage_Whole_K2) count check s t14
def stage_Whole (x:As [.pr (.int .u32) (.pr (.ar 8 .bool) (.ar 8 YTT8)),.int .i64,.int .u32]):stage_Whole_R:=stage_Whole_m0 stage_Whole_K1 x.1 x.2.1 x.2.2.1
theorem stage_Whole_c3 (J:Orc (As [.bool])) (check:Int) (s:Int×List Bool×List (Int×List Int)):pfn Tryz.prog stage_Whole_e 6 18446744073709551616 (Ev.get stage_Whole_h) 229 stage_Whole_s J 7 [] (stage_Whole_k3 check s)=stage_Whole_m3 check s:=by kernel_rfl
theorem stage_Whole_c2 (J:Orc (As [.bool])) (w2:St->stage_Whole_R) (count check:Int) (s:Int×List Bool×List (Int×List Int)) (t16:List Bool) (t17:Int):pfn Tryz.prog stage_Whole_e 6 18446744073709551616 (Ev.get stage_Whole_h) 229 stage_Whole_s J 58 [w2] (stage_Whole_k2 count check s t16 t17)=stage_Whole_m2 (fun check s=>J 7 [] (stage_Whole_k3 check s)) (fun count check s t16 t17=>w2 (stage_Whole_k2 count check s t16 t17)) count check s t16 t17:=by kernel_rfl
theorem stage_Whole_c1 (J:Orc (As [.bool])) (count check:Int) (s:Int×List Bool×List (Int×List Int)) (t14:Bool):pfn Tryz.prog stage_Whole_e 6 18446744073709551616 (Ev.get stage_Whole_h) 229 stage_Whole_s J 6 [] (stage_Whole_k1 count check s t14)=stage_Whole_m1 (fun count check s t16 t17=>J 58 [] (stage_Whole_k2 count check s t16 t17)) count check s t14:=by kernel_rfl
theorem stage_Whole_c0 (J:Orc (As [.bool])) (x:As [.pr (.int .u32) (.pr (.ar 8 .bool) (.ar 8 YTT8)),.int .i64,.int .u32]):rfn Tryz.prog stage_Whole_e 6 18446744073709551616 (Ev.get stage_Whole_h) 229 stage_Whole_s J x=stage_Whole_m0 (fun count check s t14=>J 6 [] (stage_Whole_k1 count check s t14)) x.1 x.2.1 x.2.2.1:=by kernel_rfl
theorem stage_Whole_g3 (check:Int) (s:Int×List Bool×List (Int×List Int)):jfn Tryz.prog stage_Whole_e 6 18446744073709551616 (Ev.get stage_Whole_h) 229 stage_Whole_s 7 [] (stage_Whole_k3 check s)=stage_Whole_K3 check s:=by
 rw [pfn_eq (by decide)]
 rw [stage_Whole_c3]
 rfl
theorem stage_Whole_g2 (count check:Int) (s:Int×List Bool×List (Int×List Int)) (t16:List Bool) (t17:Int):jfn Tryz.prog stage_Whole_e 6 18446744073709551616 (Ev.get stage_Whole_h) 229 stage_Whole_s 58 [] (stage_Whole_k2 count check s t16 t17)=stage_Whole_K2 count check s t16 t17:=by
 rw [pfn_eq (by decide)]
 rw [pfn_loop (by kernel_rfl)]
 refine loopF_sim (σ:=(Int)×(Int)×YTT9×(List Bool)×(Int)) (mk:=fun s=>stage_Whole_k2 s.1 s.2.1 s.2.2.1 s.2.2.2.1 s.2.2.2.2) (fun w2 s=>?_) 18446744073709551616 (count,check,s,t16,t17)
 have e3:(fun check s=>(jfn Tryz.prog stage_Whole_e 6 18446744073709551616 (Ev.get stage_Whole_h) 229 stage_Whole_s) 7 [] (stage_Whole_k3 check s))=stage_Whole_K3:=by funext check s; exact stage_Whole_g3 check s
 refine (stage_Whole_c2 _ w2 s.1 s.2.1 s.2.2.1 s.2.2.2.1 s.2.2.2.2).trans ?_
 rw [e3]
theorem stage_Whole_g1 (count check:Int) (s:Int×List Bool×List (Int×List Int)) (t14:Bool):jfn Tryz.prog stage_Whole_e 6 18446744073709551616 (Ev.get stage_Whole_h) 229 stage_Whole_s 6 [] (stage_Whole_k1 count check s t14)=stage_Whole_K1 count check s t14:=by
 rw [pfn_eq (by decide)]
 have e2:(fun count check s t16 t17=>(jfn Tryz.prog stage_Whole_e 6 18446744073709551616 (Ev.get stage_Whole_h) 229 stage_Whole_s) 58 [] (stage_Whole_k2 count check s t16 t17))=stage_Whole_K2:=by funext count check s t16 t17; exact stage_Whole_g2 count check s t16 t17
 rw [stage_Whole_c1,e2]
 rfl
theorem stage_Whole_t (x:As [.pr (.int .u32) (.pr (.ar 8 .bool) (.ar 8 YTT8)),.int .i64,.int .u32]):evT Tryz.prog stage_Whole_e 6 18446744073709551616 (Ev.get stage_Whole_h) 229 stage_Whole_s x=stage_Whole x:=by
 have e1:(fun count check s t14=>(jfn Tryz.prog stage_Whole_e 6 18446744073709551616 (Ev.get stage_Whole_h) 229 stage_Whole_s) 6 [] (stage_Whole_k1 count check s t14))=stage_Whole_K1:=by funext count check s t14; exact stage_Whole_g1 count check s t14
 rw [rfn_eq,stage_Whole_c0,e1]
 rfl
theorem stage_Whole_ok:CtOk Tryz.prog (fun _=>True) 229 ⟨stage_Whole_s,stage_Whole⟩:=ct_of_ev (env_cons Ev.bx_ok (env_cons stage_Sum_ok (env_cons stage_Blocks_ok env_nil))) stage_Whole_t
@[reducible] def agent_noPrepare_s:Sh:=⟨[.d (.pr (.sl (.int .u16)) YTT0),.d (.pr (.int .u16) YTT6)],[],[.pr (.sl (.int .u16)) YTT0,.pr (.int .u16) YTT6],[.d (.bool)],[],0,[.bool]⟩
def agent_noPrepare_e:Env:=(cts [(2000035,Ev.bxCt),(215,(⟨agent_in_s,agent_in⟩:Ct)),(229,(⟨stage_Whole_s,stage_Whole⟩:Ct))])
def agent_noPrepare_h:List (Nat×Hint):=[]
def agent_noPrepare_m0 (a:List Int×(Int×Int)×Int×Int×Int×YTT9×Int) (c:Int×Int×Int×Int×Int):Option (As [.bool]) :=
 Option.bind (agent_in (a,2,c.2.2.1,())) fun y=>if y.1=true then some (false,()) else Option.bind (agent_in (a,1,c.2.2.1,())) fun y=>if (!y.1)=true then some (true,()) else Option.bind (stage_Whole (a.2.2.2.2.2.1,cvt .i64 c.2.2.2.1,c.2.2.2.2,())) fun y=>some (!y.1,())
def agent_noPrepare (x:As [.pr (.sl (.int .u16)) YTT0,.pr (.int .u16) YTT6]):Option (As [.bool]):=agent_noPrepare_m0 x.1 x.2.1
theorem agent_noPrepare_c0 (J:Orc (As [.bool])) (x:As [.pr (.sl (.int .u16)) YTT0,.pr (.int .u16) YTT6]):rfn Tryz.prog agent_noPrepare_e 6 18446744073709551616 (Ev.get agent_noPrepare_h) 221 agent_noPrepare_s J x=agent_noPrepare_m0 x.1 x.2.1:=by kernel_rfl
theorem agent_noPrepare_t (x:As [.pr (.sl (.int .u16)) YTT0,.pr (.int .u16) YTT6]):evT Tryz.prog agent_noPrepare_e 6 18446744073709551616 (Ev.get agent_noPrepare_h) 221 agent_noPrepare_s x=agent_noPrepare x:=by
 rw [rfn_eq,agent_noPrepare_c0]
 rfl
theorem agent_noPrepare_ok:CtOk Tryz.prog (fun _=>True) 221 ⟨agent_noPrepare_s,agent_noPrepare⟩:=ct_of_ev (env_cons Ev.bx_ok (env_cons agent_in_ok (env_cons stage_Whole_ok env_nil))) agent_noPrepare_t
@[reducible] def lease_Hold_s:Sh:=⟨[.d (.pr (.int .u16) (.int .i64)),.d (.int .u16)],[],[.pr (.int .u16) (.int .i64),.int .u16],[.d (.pr (.int .u16) (.int .i64)),.d (.int .i64)],[],0,[.pr (.int .u16) (.int .i64),.int .i64]⟩
def lease_Hold_e:Env:=(cts [(167,(⟨lease_counted_s,lease_counted⟩:Ct)),(207,(⟨lease_held_s,lease_held⟩:Ct))])
def lease_Hold_h:List (Nat×Hint):=[]
def lease_Hold_m0 (l:Int×Int) (owner:Int):Option (As [.pr (.int .u16) (.int .i64),.int .i64]) :=
 Option.bind (lease_counted (l,())) fun y=>if eqi owner 0=true then some (y.1,2,()) else if nei y.1.1 owner=true then some (y.1,22,()) else Option.bind (lease_held (owner,())) fun y=>some (y.1,0,())
def lease_Hold (x:As [.pr (.int .u16) (.int .i64),.int .u16]):Option (As [.pr (.int .u16) (.int .i64),.int .i64]):=lease_Hold_m0 x.1 x.2.1
theorem lease_Hold_c0 (J:Orc (As [.pr (.int .u16) (.int .i64),.int .i64])) (x:As [.pr (.int .u16) (.int .i64),.int .u16]):rfn Tryz.prog lease_Hold_e 6 18446744073709551616 (Ev.get lease_Hold_h) 230 lease_Hold_s J x=lease_Hold_m0 x.1 x.2.1:=by kernel_rfl
theorem lease_Hold_t (x:As [.pr (.int .u16) (.int .i64),.int .u16]):evT Tryz.prog lease_Hold_e 6 18446744073709551616 (Ev.get lease_Hold_h) 230 lease_Hold_s x=lease_Hold x:=by
 rw [rfn_eq,lease_Hold_c0]
 rfl
theorem lease_Hold_ok:CtOk Tryz.prog (fun _=>True) 230 ⟨lease_Hold_s,lease_Hold⟩:=ct_of_ev (env_cons lease_counted_ok (env_cons lease_held_ok env_nil)) lease_Hold_t
@[reducible] def agent_prepare_s:Sh:=⟨[.d (.pr (.sl (.int .u16)) YTT0),.d (.pr (.int .u16) YTT6)],[],[.pr (.sl (.int .u16)) YTT0,.pr (.int .u16) YTT6],[.d (.pr (.sl (.int .u16)) YTT0)],[],0,[.pr (.sl (.int .u16)) YTT0]⟩
def agent_prepare_e:Env:=(cts [(230,(⟨lease_Hold_s,lease_Hold⟩:Ct))])
def agent_prepare_h:List (Nat×Hint):=[]
def agent_prepare_m0 (a:List Int×(Int×Int)×Int×Int×Int×YTT9×Int) (c:Int×Int×Int×Int×Int):Option (As [.pr (.sl (.int .u16)) YTT0]) :=
 Option.bind (lease_Hold (a.2.1,c.1,())) fun y=>some ((a.1,y.1,2,a.2.2.2),())
def agent_prepare (x:As [.pr (.sl (.int .u16)) YTT0,.pr (.int .u16) YTT6]):Option (As [.pr (.sl (.int .u16)) YTT0]):=agent_prepare_m0 x.1 x.2.1
theorem agent_prepare_c0 (J:Orc (As [.pr (.sl (.int .u16)) YTT0])) (x:As [.pr (.sl (.int .u16)) YTT0,.pr (.int .u16) YTT6]):rfn Tryz.prog agent_prepare_e 6 18446744073709551616 (Ev.get agent_prepare_h) 222 agent_prepare_s J x=agent_prepare_m0 x.1 x.2.1:=by kernel_rfl
theorem agent_prepare_t (x:As [.pr (.sl (.int .u16)) YTT0,.pr (.int .u16) YTT6]):evT Tryz.prog agent_prepare_e 6 18446744073709551616 (Ev.get agent_prepare_h) 222 agent_prepare_s x=agent_prepare x:=by
 rw [rfn_eq,agent_prepare_c0]
 rfl
theorem agent_prepare_ok:CtOk Tryz.prog (fun _=>True) 222 ⟨agent_prepare_s,agent_prepare⟩:=ct_of_ev (env_cons lease_Hold_ok env_nil) agent_prepare_t
@[reducible] def agent_noCommit_s:Sh:=⟨[.d (.pr (.sl (.int .u16)) YTT0),.d (.pr (.int .u16) YTT6)],[],[.pr (.sl (.int .u16)) YTT0,.pr (.int .u16) YTT6],[.d (.bool)],[],0,[.bool]⟩
def agent_noCommit_e:Env:=(cts [(2000035,Ev.bxCt),(215,(⟨agent_in_s,agent_in⟩:Ct))])
def agent_noCommit_h:List (Nat×Hint):=[]
def agent_noCommit_m0 (a:List Int×(Int×Int)×Int×Int×Int×YTT9×Int) (c:Int×Int×Int×Int×Int):Option (As [.bool]) :=
 if nei a.2.2.2.2.1 c.2.2.1=true then Option.bind (agent_in (a,2,c.2.2.1,())) fun y=>some (!y.1,()) else some (false,())
def agent_noCommit (x:As [.pr (.sl (.int .u16)) YTT0,.pr (.int .u16) YTT6]):Option (As [.bool]):=agent_noCommit_m0 x.1 x.2.1
theorem agent_noCommit_c0 (J:Orc (As [.bool])) (x:As [.pr (.sl (.int .u16)) YTT0,.pr (.int .u16) YTT6]):rfn Tryz.prog agent_noCommit_e 6 18446744073709551616 (Ev.get agent_noCommit_h) 223 agent_noCommit_s J x=agent_noCommit_m0 x.1 x.2.1:=by kernel_rfl
theorem agent_noCommit_t (x:As [.pr (.sl (.int .u16)) YTT0,.pr (.int .u16) YTT6]):evT Tryz.prog agent_noCommit_e 6 18446744073709551616 (Ev.get agent_noCommit_h) 223 agent_noCommit_s x=agent_noCommit x:=by
 rw [rfn_eq,agent_noCommit_c0]
 rfl
theorem agent_noCommit_ok:CtOk Tryz.prog (fun _=>True) 223 ⟨agent_noCommit_s,agent_noCommit⟩:=ct_of_ev (env_cons Ev.bx_ok (env_cons agent_in_ok env_nil)) agent_noCommit_t
@[reducible] def bank_fit_z1_s:Sh:=⟨[.d YTT8],[],[.pr (.int .i64) (.sl (.int .u16))],[.d (.bool)],[],0,[.bool]⟩
abbrev bank_fit_z1_R:=Option (As [.bool])
def bank_fit_z1_e:Env:=(cts [(76,(⟨bank_Fits_s,bank_Fits⟩:Ct))])
def bank_fit_z1_h:List (Nat×Hint):=[]
def bank_fit_z1_m0 (x:Int×List Int):bank_fit_z1_R :=
 Option.bind (bank_Fits (x,())) fun y=>some (!y.1,())
def bank_fit_z1 (x:As [.pr (.int .i64) (.sl (.int .u16))]):bank_fit_z1_R:=bank_fit_z1_m0 x.1
theorem bank_fit_z1_c0 (J:Orc (As [.bool])) (x:As [.pr (.int .i64) (.sl (.int .u16))]):rfn Tryz.prog bank_fit_z1_e 6 18446744073709551616 (Ev.get bank_fit_z1_h) 236 bank_fit_z1_s J x=bank_fit_z1_m0 x.1:=by kernel_rfl
theorem bank_fit_z1_t (x:As [.pr (.int .i64) (.sl (.int .u16))]):evT Tryz.prog bank_fit_z1_e 6 18446744073709551616 (Ev.get bank_fit_z1_h) 236 bank_fit_z1_s x=bank_fit_z1 x:=by
 rw [rfn_eq,bank_fit_z1_c0]
 rfl
theorem bank_fit_z1_ok:CtOk Tryz.prog (fun _=>True) 236 ⟨bank_fit_z1_s,bank_fit_z1⟩:=ct_of_ev (env_cons bank_Fits_ok env_nil) bank_fit_z1_t
@[reducible] def qk_:Sh:=⟨[.d (.sl YTT8),.fn (.func 236) [] []],[],[.sl YTT8],[.d (.int .i64)],[],0,[.int .i64]⟩
def q1f_:Env:=(cts [(236,(⟨bank_fit_z1_s,bank_fit_z1⟩:Ct))])
def q1e_:List (Nat×Hint):=[(26,⟨[],[0,1,7,8]⟩)]
def qt_ (s:List (Int×List Int)) (t7 t8:Int):St:={ fr:=[(0,.d (.sl YTT8) s),(1,.fn (.func 236) [] []),(7,.d (.int .i64) t7),(8,.d (.int .i64) t8)],nt:=19,up:=[],own:=[],nx:=0,log:=[],ln:=0 }
def qu_ (self1:List (Int×List Int)->Int->Int->Option (As [.int .i64])) (s:List (Int×List Int)) (t7 t8:Int):Option (As [.int .i64]) :=
 if lt t8 t7=true then Option.bind (at? s t8) fun y=>Option.bind (bank_fit_z1 (y,())) fun y=>if y.1=true then some (t8,()) else self1 s t7 (add .i64 t8 1) else some (-1,())
def q76_ (j1:List (Int×List Int)->Int->Int->Option (As [.int .i64])) (s:List (Int×List Int)):Option (As [.int .i64]) :=
 j1 s (Int.ofNat (List.length s)) 0
def q1b_ (s:List (Int×List Int)) (t7 t8:Int):Option (As [.int .i64]) :=
 loopF (fun (self:(List (Int×List Int))×(Int)×(Int)->Option (As [.int .i64])) (s:(List (Int×List Int))×(Int)×(Int))=>qu_ (fun s t7 t8=>self (s,t7,t8)) s.1 s.2.1 s.2.2) 18446744073709551616 (s,t7,t8)
def slices_IndexFunc_Gapi_Block (x:As [.sl YTT8]):Option (As [.int .i64]):=q76_ q1b_ x.1
theorem qch_ (J:Orc (As [.int .i64])) (w1:St->Option (As [.int .i64])) (s:List (Int×List Int)) (t7 t8:Int):pfn Tryz.prog q1f_ 6 18446744073709551616 (Ev.get q1e_) 237 qk_ J 26 [w1] (qt_ s t7 t8)=qu_ (fun s t7 t8=>w1 (qt_ s t7 t8)) s t7 t8:=by kernel_rfl
theorem qce_ (J:Orc (As [.int .i64])) (x:As [.sl YTT8]):rfn Tryz.prog q1f_ 6 18446744073709551616 (Ev.get q1e_) 237 qk_ J x=q76_ (fun s t7 t8=>J 26 [] (qt_ s t7 t8)) x.1:=by kernel_rfl
theorem qcu_ (s:List (Int×List Int)) (t7 t8:Int):jfn Tryz.prog q1f_ 6 18446744073709551616 (Ev.get q1e_) 237 qk_ 26 [] (qt_ s t7 t8)=q1b_ s t7 t8:=by
 rw [pfn_eq (by decide)]
 rw [pfn_loop (by kernel_rfl)]
 refine loopF_sim (σ:=(List (Int×List Int))×(Int)×(Int)) (mk:=fun s=>qt_ s.1 s.2.1 s.2.2) (fun w1 s=>?_) 18446744073709551616 (s,t7,t8)
 refine (qch_ _ w1 s.1 s.2.1 s.2.2).trans ?_
 rfl
theorem qd6_ (x:As [.sl YTT8]):evT Tryz.prog q1f_ 6 18446744073709551616 (Ev.get q1e_) 237 qk_ x=slices_IndexFunc_Gapi_Block x:=by
 have e1:(fun s t7 t8=>(jfn Tryz.prog q1f_ 6 18446744073709551616 (Ev.get q1e_) 237 qk_) 26 [] (qt_ s t7 t8))=q1b_:=by funext s t7 t8; exact qcu_ s t7 t8
 rw [rfn_eq,qce_,e1]
 rfl
theorem qcv_:CtOk Tryz.prog (fun _=>True) 237 ⟨qk_,slices_IndexFunc_Gapi_Block⟩:=ct_of_ev (env_cons bank_fit_z1_ok env_nil) qd6_
@[reducible] def q1y_:Sh:=⟨[.d (.sl YTT8),.fn (.func 236) [] []],[],[.sl YTT8],[.d (.bool)],[],0,[.bool]⟩
def q5z_:Env:=(cts [(236,(⟨bank_fit_z1_s,bank_fit_z1⟩:Ct)),(237,(⟨qk_,slices_IndexFunc_Gapi_Block⟩:Ct))])
def q65_:List (Nat×Hint):=[]
def q1l_ (s:List (Int×List Int)):bank_fit_z1_R :=
 Option.bind (slices_IndexFunc_Gapi_Block (s,())) fun y=>some (ge y.1 0,())
def slices_ContainsFunc_Gapi_Block (x:As [.sl YTT8]):bank_fit_z1_R:=q1l_ x.1
theorem qaj_ (J:Orc (As [.bool])) (x:As [.sl YTT8]):rfn Tryz.prog q5z_ 6 18446744073709551616 (Ev.get q65_) 235 q1y_ J x=q1l_ x.1:=by kernel_rfl
theorem qbl_ (x:As [.sl YTT8]):evT Tryz.prog q5z_ 6 18446744073709551616 (Ev.get q65_) 235 q1y_ x=slices_ContainsFunc_Gapi_Block x:=by
 rw [rfn_eq,qaj_]
 rfl
theorem qam_:CtOk Tryz.prog (fun _=>True) 235 ⟨q1y_,slices_ContainsFunc_Gapi_Block⟩:=ct_of_ev (env_cons bank_fit_z1_ok (env_cons qcv_ env_nil)) qbl_
@[reducible] def bank_fit_s:Sh:=⟨[.d (.sl YTT8)],[],[.sl YTT8],[.d (.bool)],[],0,[.bool]⟩
def bank_fit_e:Env:=(cts [(235,(⟨q1y_,slices_ContainsFunc_Gapi_Block⟩:Ct)),(236,(⟨bank_fit_z1_s,bank_fit_z1⟩:Ct))])
def bank_fit_h:List (Nat×Hint):=[]
def bank_fit_m0 (l:List (Int×List Int)):Option (As [.bool]) :=
 Option.bind (slices_ContainsFunc_Gapi_Block (l,())) fun y=>some (!y.1,())
def bank_fit (x:As [.sl YTT8]):Option (As [.bool]):=bank_fit_m0 x.1
theorem bank_fit_c0 (J:Orc (As [.bool])) (x:As [.sl YTT8]):rfn Tryz.prog bank_fit_e 6 18446744073709551616 (Ev.get bank_fit_h) 233 bank_fit_s J x=bank_fit_m0 x.1:=by kernel_rfl
theorem bank_fit_t (x:As [.sl YTT8]):evT Tryz.prog bank_fit_e 6 18446744073709551616 (Ev.get bank_fit_h) 233 bank_fit_s x=bank_fit x:=by
 rw [rfn_eq,bank_fit_c0]
 rfl
theorem bank_fit_ok:CtOk Tryz.prog (fun _=>True) 233 ⟨bank_fit_s,bank_fit⟩:=ct_of_ev (env_cons qam_ (env_cons bank_fit_z1_ok env_nil)) bank_fit_t
@[reducible] def bank_Over_s:Sh:=⟨[.d (.sl (.int .u16)),.d (.sl YTT8)],[],[.sl (.int .u16),.sl YTT8],[.d (.sl (.int .u16)),.d (.int .i64)],[],0,[.sl (.int .u16),.int .i64]⟩
abbrev bank_Over_R:=Option (As [.sl (.int .u16),.int .i64])
def bank_Over_e:Env:=(cts [(131,(⟨q1h_,slices_Clone_Guint16_r⟩:Ct)),(233,(⟨bank_fit_s,bank_fit⟩:Ct))])
def bank_Over_h:List (Nat×Hint):=[(31,⟨[],[0]⟩),(250,⟨[],[0,16,17,18]⟩)]
def bank_Over_k1 (t16:List (Int×List Int)) (t17 t18:Int) (bank:List Int):St:={ fr:=[(0,.row 0),(16,.d (.sl YTT8) t16),(17,.d (.int .i64) t17),(18,.d (.int .i64) t18)],nt:=31,up:=[],own:=[(0,.row (.int .u16) 23 bank)],nx:=1,log:=[],ln:=0 }
def bank_Over_k2 (bank:List Int):St:={ fr:=[(0,.row 0)],nt:=31,up:=[],own:=[(0,.row (.int .u16) 23 bank)],nx:=1,log:=[],ln:=0 }
def bank_Over_m1 (j2:List Int->bank_Over_R) (self1:List (Int×List Int)->Int->Int->List Int->bank_Over_R) (t16:List (Int×List Int)) (t17 t18:Int) (bank:List Int):bank_Over_R :=
 if lt t18 t17=true then Option.bind (at? t16 t18) fun y=>need (ge y.1 0) (need (le y.1 (Int.ofNat (List.length bank))) (need (le (Int.ofNat (List.length bank)) (Int.ofNat (List.length bank))) (need (le (y.1 + (Int.ofNat (List.length bank) - y.1)) (Int.ofNat (List.length bank))) (self1 t16 t17 (add .i64 t18 1) (List.take (Int.toNat y.1) bank++List.take (Int.toNat (Int.ofNat (List.length bank) - y.1)) y.2++List.drop (Int.toNat y.1 + List.length (List.take (Int.toNat (Int.ofNat (List.length bank) - y.1)) y.2)) bank))))) else j2 bank
def bank_Over_m2 (bank:List Int):bank_Over_R :=
 some (bank,0,())
def bank_Over_m0 (j1:List (Int×List Int)->Int->Int->List Int->bank_Over_R) (bank:List Int) (l:List (Int×List Int)):bank_Over_R :=
 if nei (Int.ofNat (List.length bank)) 64=true then some ([],21,()) else Option.bind (bank_fit (l,())) fun y=>if (!y.1)=true then some ([],20,()) else Option.bind (slices_Clone_Guint16_r (bank,())) fun y=>j1 l (Int.ofNat (List.length l)) 0 y.1
def bank_Over_K2 (bank:List Int):bank_Over_R:=bank_Over_m2 bank
def bank_Over_K1 (t16:List (Int×List Int)) (t17 t18:Int) (bank:List Int):bank_Over_R :=
 loopF (fun (self:(List (Int×List Int))×(Int)×(Int)×(List Int)->bank_Over_R) (s:(List (Int×List Int))×(Int)×(Int)×(List Int))=>bank_Over_m1 (bank_Over_K2) (fun t16 t17 t18 bank=>self (t16,t17,t18,bank)) s.1 s.2.1 s.2.2.1 s.2.2.2) 18446744073709551616 (t16,t17,t18,bank)
def bank_Over (x:As [.sl (.int .u16),.sl YTT8]):bank_Over_R:=bank_Over_m0 bank_Over_K1 x.1 x.2.1
theorem bank_Over_c2 (J:Orc (As [.sl (.int .u16),.int .i64])) (bank:List Int):pfn Tryz.prog bank_Over_e 6 18446744073709551616 (Ev.get bank_Over_h) 231 bank_Over_s J 31 [] (bank_Over_k2 bank)=bank_Over_m2 bank:=by kernel_rfl
theorem bank_Over_c1 (J:Orc (As [.sl (.int .u16),.int .i64])) (w1:St->bank_Over_R) (t16:List (Int×List Int)) (t17 t18:Int) (bank:List Int):pfn Tryz.prog bank_Over_e 6 18446744073709551616 (Ev.get bank_Over_h) 231 bank_Over_s J 250 [w1] (bank_Over_k1 t16 t17 t18 bank)=bank_Over_m1 (fun bank=>J 31 [] (bank_Over_k2 bank)) (fun t16 t17 t18 bank=>w1 (bank_Over_k1 t16 t17 t18 bank)) t16 t17 t18 bank:=by kernel_rfl
theorem bank_Over_c0 (J:Orc (As [.sl (.int .u16),.int .i64])) (x:As [.sl (.int .u16),.sl YTT8]):rfn Tryz.prog bank_Over_e 6 18446744073709551616 (Ev.get bank_Over_h) 231 bank_Over_s J x=bank_Over_m0 (fun t16 t17 t18 bank=>J 250 [] (bank_Over_k1 t16 t17 t18 bank)) x.1 x.2.1:=by kernel_rfl
theorem bank_Over_g2 (bank:List Int):jfn Tryz.prog bank_Over_e 6 18446744073709551616 (Ev.get bank_Over_h) 231 bank_Over_s 31 [] (bank_Over_k2 bank)=bank_Over_K2 bank:=by
 rw [pfn_eq (by decide)]
 rw [bank_Over_c2]
 rfl
theorem bank_Over_g1 (t16:List (Int×List Int)) (t17 t18:Int) (bank:List Int):jfn Tryz.prog bank_Over_e 6 18446744073709551616 (Ev.get bank_Over_h) 231 bank_Over_s 250 [] (bank_Over_k1 t16 t17 t18 bank)=bank_Over_K1 t16 t17 t18 bank:=by
 rw [pfn_eq (by decide)]
 rw [pfn_loop (by kernel_rfl)]
 refine loopF_sim (σ:=(List (Int×List Int))×(Int)×(Int)×(List Int)) (mk:=fun s=>bank_Over_k1 s.1 s.2.1 s.2.2.1 s.2.2.2) (fun w1 s=>?_) 18446744073709551616 (t16,t17,t18,bank)
 have e2:(fun bank=>(jfn Tryz.prog bank_Over_e 6 18446744073709551616 (Ev.get bank_Over_h) 231 bank_Over_s) 31 [] (bank_Over_k2 bank))=bank_Over_K2:=funext fun bank=>bank_Over_g2 bank
 refine (bank_Over_c1 _ w1 s.1 s.2.1 s.2.2.1 s.2.2.2).trans ?_
 rw [e2]
theorem bank_Over_t (x:As [.sl (.int .u16),.sl YTT8]):evT Tryz.prog bank_Over_e 6 18446744073709551616 (Ev.get bank_Over_h) 231 bank_Over_s x=bank_Over x:=by
 have e1:(fun t16 t17 t18 bank=>(jfn Tryz.prog bank_Over_e 6 18446744073709551616 (Ev.get bank_Over_h) 231 bank_Over_s) 250 [] (bank_Over_k1 t16 t17 t18 bank))=bank_Over_K1:=by funext t16 t17 t18 bank; exact bank_Over_g1 t16 t17 t18 bank
 rw [rfn_eq,bank_Over_c0,e1]
 rfl
theorem bank_Over_ok:CtOk Tryz.prog (fun _=>True) 231 ⟨bank_Over_s,bank_Over⟩:=ct_of_ev (env_cons q92_ (env_cons bank_fit_ok env_nil)) bank_Over_t
@[reducible] def agent_commit_s:Sh:=⟨[.d (.pr (.sl (.int .u16)) YTT0),.d (.pr (.int .u16) YTT6)],[],[.pr (.sl (.int .u16)) YTT0,.pr (.int .u16) YTT6],[.d (.pr (.sl (.int .u16)) YTT0)],[],0,[.pr (.sl (.int .u16)) YTT0]⟩
def agent_commit_e:Env:=(cts [(139,(⟨stage_Blocks_s,stage_Blocks⟩:Ct)),(180,(⟨agent_freed_s,agent_freed⟩:Ct)),(231,(⟨bank_Over_s,bank_Over⟩:Ct))])
def agent_commit_h:List (Nat×Hint):=[]
def agent_commit_m0 (a:List Int×(Int×Int)×Int×Int×Int×YTT9×Int) (c:Int×Int×Int×Int×Int):Option (As [.pr (.sl (.int .u16)) YTT0]) :=
 if eqi a.2.2.2.2.1 c.2.2.1=true then some (a,()) else Option.bind (stage_Blocks (a.2.2.2.2.2.1,())) fun y=>Option.bind (bank_Over (a.1,y.1,())) fun y=>if nei y.2.1 0=true then some (a,()) else Option.bind (agent_freed ((y.1,a.2.1,a.2.2.1,a.2.2.2.1,c.2.2.1,a.2.2.2.2.2),())) fun y=>some (y.1,())
def agent_commit (x:As [.pr (.sl (.int .u16)) YTT0,.pr (.int .u16) YTT6]):Option (As [.pr (.sl (.int .u16)) YTT0]):=agent_commit_m0 x.1 x.2.1
theorem agent_commit_c0 (J:Orc (As [.pr (.sl (.int .u16)) YTT0])) (x:As [.pr (.sl (.int .u16)) YTT0,.pr (.int .u16) YTT6]):rfn Tryz.prog agent_commit_e 6 18446744073709551616 (Ev.get agent_commit_h) 224 agent_commit_s J x=agent_commit_m0 x.1 x.2.1:=by kernel_rfl
theorem agent_commit_t (x:As [.pr (.sl (.int .u16)) YTT0,.pr (.int .u16) YTT6]):evT Tryz.prog agent_commit_e 6 18446744073709551616 (Ev.get agent_commit_h) 224 agent_commit_s x=agent_commit x:=by
 rw [rfn_eq,agent_commit_c0]
 rfl
theorem agent_commit_ok:CtOk Tryz.prog (fun _=>True) 224 ⟨agent_commit_s,agent_commit⟩:=ct_of_ev (env_cons stage_Blocks_ok (env_cons agent_freed_ok (env_cons bank_Over_ok env_nil))) agent_commit_t
@[reducible] def agent_noAbort_s:Sh:=⟨[.d (.pr (.sl (.int .u16)) YTT0),.d (.pr (.int .u16) YTT6)],[],[.pr (.sl (.int .u16)) YTT0,.pr (.int .u16) YTT6],[.d (.bool)],[],0,[.bool]⟩
def agent_noAbort_e:Env:=(cts [(2000035,Ev.bxCt)])
def agent_noAbort_h:List (Nat×Hint):=[]
def agent_noAbort_m0 (a:List Int×(Int×Int)×Int×Int×Int×YTT9×Int) (c:Int×Int×Int×Int×Int):Option (As [.bool]) :=
 some (le c.2.2.1 a.2.2.2.2.1,())
def agent_noAbort (x:As [.pr (.sl (.int .u16)) YTT0,.pr (.int .u16) YTT6]):Option (As [.bool]):=agent_noAbort_m0 x.1 x.2.1
theorem agent_noAbort_c0 (J:Orc (As [.bool])) (x:As [.pr (.sl (.int .u16)) YTT0,.pr (.int .u16) YTT6]):rfn Tryz.prog agent_noAbort_e 6 18446744073709551616 (Ev.get agent_noAbort_h) 225 agent_noAbort_s J x=agent_noAbort_m0 x.1 x.2.1:=by kernel_rfl
theorem agent_noAbort_t (x:As [.pr (.sl (.int .u16)) YTT0,.pr (.int .u16) YTT6]):evT Tryz.prog agent_noAbort_e 6 18446744073709551616 (Ev.get agent_noAbort_h) 225 agent_noAbort_s x=agent_noAbort x:=by
 rw [rfn_eq,agent_noAbort_c0]
 rfl
theorem agent_noAbort_ok:CtOk Tryz.prog (fun _=>True) 225 ⟨agent_noAbort_s,agent_noAbort⟩:=ct_of_ev (env_cons Ev.bx_ok env_nil) agent_noAbort_t
@[reducible] def agent_abort_s:Sh:=⟨[.d (.pr (.sl (.int .u16)) YTT0),.d (.pr (.int .u16) YTT6)],[],[.pr (.sl (.int .u16)) YTT0,.pr (.int .u16) YTT6],[.d (.pr (.sl (.int .u16)) YTT0)],[],0,[.pr (.sl (.int .u16)) YTT0]⟩
abbrev agent_abort_R:=Option (As [.pr (.sl (.int .u16)) YTT0])
def agent_abort_e:Env:=(cts [(2000035,Ev.bxCt),(180,(⟨agent_freed_s,agent_freed⟩:Ct))])
def agent_abort_h:List (Nat×Hint):=[(6,⟨[],[2,4,17]⟩)]
def agent_abort_k1 (a:List Int×(Int×Int)×Int×Int×Int×YTT9×Int) (t4:Int) (t17:Bool) (t4_2:List YTT2):St:={ fr:=[(2,.pe (.pr (.sl (.int .u16)) YTT0) a),(4,.prw 0 t4 32 0),(17,.d .bool t17)],nt:=21,up:=[],own:=[(0,.row (.pr (.sl (.int .u16)) YTT0) 35 t4_2)],nx:=1,log:=[],ln:=0 }
def agent_abort_m1 (a:List Int×(Int×Int)×Int×Int×Int×YTT9×Int) (t4:Int) (t17:Bool) (t4_2:List YTT2):agent_abort_R :=
 if t17=true then Option.bind (at? t4_2 t4) fun x=>Option.bind (at? (List.set t4_2 (Int.toNat t4) a) t4) fun y=>Option.bind (at? (List.set t4_2 (Int.toNat t4) a) t4) fun y=>some (y,()) else Option.bind (agent_freed (a,())) fun y=>Option.bind (at? t4_2 t4) fun x=>Option.bind (at? (List.set t4_2 (Int.toNat t4) y.1) t4) fun y_1=>Option.bind (at? (List.set t4_2 (Int.toNat t4) y.1) t4) fun y=>some (y,())
def agent_abort_m0 (j1:List Int×(Int×Int)×Int×Int×Int×YTT9×Int->Int->Bool->List YTT2->agent_abort_R) (a:List Int×(Int×Int)×Int×Int×Int×YTT9×Int) (c:Int×Int×Int×Int×Int):agent_abort_R :=
 if nei a.2.1.1 c.1=true then j1 a 0 true [zAg0] else j1 a 0 (nei a.2.2.2.1 c.2.2.1) [zAg0]
def agent_abort_K1 (a:List Int×(Int×Int)×Int×Int×Int×YTT9×Int) (t4:Int) (t17:Bool) (t4_2:List YTT2):agent_abort_R:=agent_abort_m1 a t4 t17 t4_2
def agent_abort (x:As [.pr (.sl (.int .u16)) YTT0,.pr (.int .u16) YTT6]):agent_abort_R:=agent_abort_m0 agent_abort_K1 x.1 x.2.1
theorem agent_abort_c1 (J:Orc (As [.pr (.sl (.int .u16)) YTT0])) (a:List Int×(Int×Int)×Int×Int×Int×YTT9×Int) (t4:Int) (t17:Bool) (t4_2:List YTT2):pfn Tryz.prog agent_abort_e 6 18446744073709551616 (Ev.get agent_abort_h) 226 agent_abort_s J 6 [] (agent_abort_k1 a t4 t17 t4_2)=agent_abort_m1 a t4 t17 t4_2:=by kernel_rfl
theorem agent_abort_c0 (J:Orc (As [.pr (.sl (.int .u16)) YTT0])) (x:As [.pr (.sl (.int .u16)) YTT0,.pr (.int .u16) YTT6]):rfn Tryz.prog agent_abort_e 6 18446744073709551616 (Ev.get agent_abort_h) 226 agent_abort_s J x=agent_abort_m0 (fun a t4 t17 t4_2=>J 6 [] (agent_abort_k1 a t4 t17 t4_2)) x.1 x.2.1:=by kernel_rfl
theorem agent_abort_g1 (a:List Int×(Int×Int)×Int×Int×Int×YTT9×Int) (t4:Int) (t17:Bool) (t4_2:List YTT2):jfn Tryz.prog agent_abort_e 6 18446744073709551616 (Ev.get agent_abort_h) 226 agent_abort_s 6 [] (agent_abort_k1 a t4 t17 t4_2)=agent_abort_K1 a t4 t17 t4_2:=by
 rw [pfn_eq (by decide)]
 rw [agent_abort_c1]
 rfl
theorem agent_abort_t (x:As [.pr (.sl (.int .u16)) YTT0,.pr (.int .u16) YTT6]):evT Tryz.prog agent_abort_e 6 18446744073709551616 (Ev.get agent_abort_h) 226 agent_abort_s x=agent_abort x:=by
 have e1:(fun a t4 t17 t4_2=>(jfn Tryz.prog agent_abort_e 6 18446744073709551616 (Ev.get agent_abort_h) 226 agent_abort_s) 6 [] (agent_abort_k1 a t4 t17 t4_2))=agent_abort_K1:=by funext a t4 t17 t4_2; exact agent_abort_g1 a t4 t17 t4_2
 rw [rfn_eq,agent_abort_c0,e1]
 rfl
theorem agent_abort_ok:CtOk Tryz.prog (fun _=>True) 226 ⟨agent_abort_s,agent_abort⟩:=ct_of_ev (env_cons Ev.bx_ok (env_cons agent_freed_ok env_nil)) agent_abort_t
@[reducible] def agent_Do_s:Sh:=⟨[.d (.pr (.sl (.int .u16)) YTT0),.d (.pr (.int .u16) YTT6)],[],[.pr (.sl (.int .u16)) YTT0,.pr (.int .u16) YTT6],[.d (.pr (.sl (.int .u16)) YTT0),.d (.int .i64)],[],0,[.pr (.sl (.int .u16)) YTT0,.int .i64]⟩
def agent_Do_e:Env:=(cts [(178,(⟨agent_own_s,agent_own⟩:Ct)),(214,(⟨agent_others_s,agent_others⟩:Ct)),(219,(⟨agent_noClaim_s,agent_noClaim⟩:Ct)),(220,(⟨agent_claim_s,agent_claim⟩:Ct)),(221,(⟨agent_noPrepare_s,agent_noPrepare⟩:Ct)),(222,(⟨agent_prepare_s,agent_prepare⟩:Ct)),(223,(⟨agent_noCommit_s,agent_noCommit⟩:Ct)),(224,(⟨agent_commit_s,agent_commit⟩:Ct)),(225,(⟨agent_noAbort_s,agent_noAbort⟩:Ct)),(226,(⟨agent_abort_s,agent_abort⟩:Ct))])
def agent_Do_h:List (Nat×Hint):=[]
def agent_Do_m0 (a:List Int×(Int×Int)×Int×Int×Int×YTT9×Int) (c:Int×Int×Int×Int×Int):Option (As [.pr (.sl (.int .u16)) YTT0,.int .i64]) :=
 Option.bind (agent_own (a,())) fun y=>amb (eqAs agent_Do_s.rs) [if eqi 1 c.2.1=true then if eqi c.1 0=true then some (y.1,2,()) else if eqi c.2.2.1 0=true then some (y.1,2,()) else Option.bind (agent_others (y.1,c.1,())) fun y_1=>if y_1.1=true then some (y.1,22,()) else Option.bind (agent_noClaim (y.1,c,())) fun y_2=>if y_2.1=true then some (y.1,23,()) else Option.bind (agent_claim (y.1,c,())) fun y=>some (y.1,0,()) else if eqi 2 c.2.1=true then if eqi c.1 0=true then some (y.1,2,()) else if eqi c.2.2.1 0=true then some (y.1,2,()) else Option.bind (agent_others (y.1,c.1,())) fun y_1=>if y_1.1=true then some (y.1,22,()) else Option.bind (agent_noPrepare (y.1,c,())) fun y_2=>if y_2.1=true then some (y.1,23,()) else Option.bind (agent_prepare (y.1,c,())) fun y=>some (y.1,0,()) else if eqi 3 c.2.1=true then if eqi c.1 0=true then some (y.1,2,()) else if eqi c.2.2.1 0=true then some (y.1,2,()) else Option.bind (agent_others (y.1,c.1,())) fun y_1=>if y_1.1=true then some (y.1,22,()) else Option.bind (agent_noCommit (y.1,c,())) fun y_2=>if y_2.1=true then some (y.1,23,()) else Option.bind (agent_commit (y.1,c,())) fun y=>some (y.1,0,()) else if eqi 4 c.2.1=true then if eqi c.1 0=true then some (y.1,2,()) else if eqi c.2.2.1 0=true then some (y.1,2,()) else Option.bind (agent_others (y.1,c.1,())) fun y_1=>if y_1.1=true then some (y.1,22,()) else Option.bind (agent_noAbort (y.1,c,())) fun y_2=>if y_2.1=true then some (y.1,23,()) else Option.bind (agent_abort (y.1,c,())) fun y=>some (y.1,0,()) else if eqi c.1 0=true then some (y.1,2,()) else if eqi c.2.2.1 0=true then some (y.1,2,()) else some (y.1,2,()),if eqi 1 c.2.1=true then if eqi c.1 0=true then some (y.1,2,()) else if eqi c.2.2.1 0=true then some (y.1,2,()) else Option.bind (agent_others (y.1,c.1,())) fun y_1=>if y_1.1=true then some (y.1,22,()) else Option.bind (agent_noClaim (y.1,c,())) fun y_2=>if y_2.1=true then some (y.1,23,()) else Option.bind (agent_claim (y.1,c,())) fun y=>some (y.1,0,()) else if eqi 2 c.2.1=true then if eqi c.1 0=true then some (y.1,2,()) else if eqi c.2.2.1 0=true then some (y.1,2,()) else Option.bind (agent_others (y.1,c.1,())) fun y_1=>if y_1.1=true then some (y.1,22,()) else Option.bind (agent_noPrepare (y.1,c,())) fun y_2=>if y_2.1=true then some (y.1,23,()) else Option.bind (agent_prepare (y.1,c,())) fun y=>some (y.1,0,()) else if eqi 3 c.2.1=true then if eqi c.1 0=true then some (y.1,2,()) else if eqi c.2.2.1 0=true then some (y.1,2,()) else Option.bind (agent_others (y.1,c.1,())) fun y_1=>if y_1.1=true then some (y.1,22,()) else Option.bind (agent_noCommit (y.1,c,())) fun y_2=>if y_2.1=true then some (y.1,23,()) else Option.bind (agent_commit (y.1,c,())) fun y=>some (y.1,0,()) else if eqi 4 c.2.1=true then if eqi c.1 0=true then some (y.1,2,()) else if eqi c.2.2.1 0=true then some (y.1,2,()) else Option.bind (agent_others (y.1,c.1,())) fun y_1=>if y_1.1=true then some (y.1,22,()) else Option.bind (agent_noAbort (y.1,c,())) fun y_2=>if y_2.1=true then some (y.1,23,()) else Option.bind (agent_abort (y.1,c,())) fun y=>some (y.1,0,()) else if eqi c.1 0=true then some (y.1,2,()) else if eqi c.2.2.1 0=true then some (y.1,2,()) else some (y.1,2,())]
def agent_Do (x:As [.pr (.sl (.int .u16)) YTT0,.pr (.int .u16) YTT6]):Option (As [.pr (.sl (.int .u16)) YTT0,.int .i64]):=agent_Do_m0 x.1 x.2.1
theorem agent_Do_c0 (J:Orc (As [.pr (.sl (.int .u16)) YTT0,.int .i64])) (x:As [.pr (.sl (.int .u16)) YTT0,.pr (.int .u16) YTT6]):rfn Tryz.prog agent_Do_e 6 18446744073709551616 (Ev.get agent_Do_h) 204 agent_Do_s J x=agent_Do_m0 x.1 x.2.1:=by kernel_rfl
theorem agent_Do_t (x:As [.pr (.sl (.int .u16)) YTT0,.pr (.int .u16) YTT6]):evT Tryz.prog agent_Do_e 6 18446744073709551616 (Ev.get agent_Do_h) 204 agent_Do_s x=agent_Do x:=by
 rw [rfn_eq,agent_Do_c0]
 rfl
theorem agent_Do_ok:CtOk Tryz.prog (fun _=>True) 204 ⟨agent_Do_s,agent_Do⟩:=ct_of_ev (env_cons agent_own_ok (env_cons agent_others_ok (env_cons agent_noClaim_ok (env_cons agent_claim_ok (env_cons agent_noPrepare_ok (env_cons agent_prepare_ok (env_cons agent_noCommit_ok (env_cons agent_commit_ok (env_cons agent_noAbort_ok (env_cons agent_abort_ok env_nil)))))))))) agent_Do_t
end Go.Proofs.Lx
end
