/- Proved in the last of these 12 parts (this is part 6): SlaveSilent returns true, whatever the bank, what came ahead, the unit, the bytes, the place and the pattern. Conditions: those of the given statement, and no others. -/
import Derived.Test.YtkcmbampiiolbaaGreatParte
import Derived.Test.YtkcmbampiiolbaaGreatProg
set_option linter.unusedVariables false
set_option linter.unusedSimpArgs false
set_option linter.unusedSectionVars false
section
open Go Go.Proofs Ev Sx
set_option maxRecDepth 100000
namespace Go.Proofs.Lx
abbrev qk_:Type:=Int×Int×Bool×Bool×Bool
@[reducible] def q16_:Sh:=⟨[.d YTT1,.d (.int .i64),.d (.int .i64),.fn (.func 260) [] [.pb 0 0,.pb 1 0]],[.box 3 [.d (.int .i64)],.box 3 [.d (.int .i64)]],[.sl (.pr (.int .i64) YTT12),.int .i64,.int .i64,.int .i64,.int .i64],[.d (.bool)],[(0,.box 3 [.d (.int .i64)]),(1,.box 3 [.d (.int .i64)])],0,[.bool,.int .i64,.int .i64]⟩
def q23_:Env:=(cts [(259,(⟨q1g_,q12_⟩:Ct)),(260,(⟨q1h_,qt_⟩:Ct)),(261,(⟨q2k_,q82_⟩:Ct)),(264,(⟨q1d_,qw_⟩:Ct)),(265,(⟨q1b_,qo_⟩:Ct))])
def q24_:List (Nat×Hint):=[(15,⟨[],[10]⟩),(122,⟨[],[1,2,3,9,10,19,20,21]⟩),(125342,⟨[],[1,2,3,9,10,12,14,15,19,20,21]⟩),(501369,⟨[],[1,2,3,9,10,12,14,15,19,20,21]⟩)]
def q2i_ (at' many left:Int) (t19:List YTT5) (t20 t21 o o_2:Int) (met:List Bool):St:={ fr:=[(1,.d (.int .i64) at'),(2,.d (.int .i64) many),(3,.fn (.func 260) [] [.pb 0 0,.pb 1 0]),(9,.row 2),(10,.d (.int .i64) left),(19,.d YTT1 t19),(20,.d (.int .i64) t20),(21,.d (.int .i64) t21)],nt:=62,up:=[],own:=[(0,.box 3 [.d (.int .i64) o]),(1,.box 3 [.d (.int .i64) o_2]),(2,.row .bool 4 met)],nx:=3,log:=[],ln:=2 }
def qh2_ (left o o_2:Int):St:={ fr:=[(10,.d (.int .i64) left)],nt:=62,up:=[],own:=[(0,.box 3 [.d (.int .i64) o]),(1,.box 3 [.d (.int .i64) o_2])],nx:=2,log:=[],ln:=2 }
def q44_ (at' many left to' i:Int) (t19:List YTT5) (t20 t21 o o_2:Int) (met:List Bool) (x:qk_):St:={ fr:=[(1,.d (.int .i64) at'),(2,.d (.int .i64) many),(3,.fn (.func 260) [] [.pb 0 0,.pb 1 0]),(9,.row 2),(10,.d (.int .i64) left),(12,.pb 3 0),(14,.d (.int .i64) to'),(15,.d (.int .i64) i),(19,.d YTT1 t19),(20,.d (.int .i64) t20),(21,.d (.int .i64) t21)],nt:=62,up:=[],own:=[(0,.box 3 [.d (.int .i64) o]),(1,.box 3 [.d (.int .i64) o_2]),(2,.row .bool 4 met),(3,.box 168 [.d (.int .i64) x.1,.d (.int .i64) x.2.1,.d .bool x.2.2.1,.d .bool x.2.2.2.1,.d .bool x.2.2.2.2])],nx:=4,log:=[],ln:=2 }
def qgm_ (at' many left to' i:Int) (t19:List YTT5) (t20 t21 o o_2:Int) (met:List Bool) (x:qk_):St:={ fr:=[(1,.d (.int .i64) at'),(2,.d (.int .i64) many),(3,.fn (.func 260) [] [.pb 0 0,.pb 1 0]),(9,.row 2),(10,.d (.int .i64) left),(12,.pb 3 0),(14,.d (.int .i64) to'),(15,.d (.int .i64) i),(19,.d YTT1 t19),(20,.d (.int .i64) t20),(21,.d (.int .i64) t21)],nt:=62,up:=[],own:=[(0,.box 3 [.d (.int .i64) o]),(1,.box 3 [.d (.int .i64) o_2]),(2,.row .bool 4 met),(3,.box 168 [.d (.int .i64) x.1,.d (.int .i64) x.2.1,.d .bool x.2.2.1,.d .bool x.2.2.2.1,.d .bool x.2.2.2.2])],nx:=4,log:=[],ln:=2 }
def qcg_ (j2:Int->Int->Int->Option (As [.bool,.int .i64,.int .i64])) (j3:Int->Int->Int->Int->Int->List YTT5->Int->Int->Int->Int->List Bool->qk_->Option (As [.bool,.int .i64,.int .i64])) (self1:Int->Int->Int->List YTT5->Int->Int->Int->Int->List Bool->Option (As [.bool,.int .i64,.int .i64])) (at' many left:Int) (t19:List YTT5) (t20 t21 o o_2:Int) (met:List Bool):Option (As [.bool,.int .i64,.int .i64]) :=
 if lt t21 t20=true then Option.bind (at? t19 t21) fun y=>if eqi left 0=true then j2 left o o_2 else Option.bind (q82_ (y,at',add .i64 at' many,())) fun y_1=>j3 at' many left y_1.2.1 y_1.1 t19 t20 t21 o o_2 met y else j2 left o o_2
def qvl_ (left o o_2:Int):Option (As [.bool,.int .i64,.int .i64]) :=
 some (eqi left 0,o,o_2,())
def qbz_ (j4:Int->Int->Int->Int->Int->List YTT5->Int->Int->Int->Int->List Bool->qk_->Option (As [.bool,.int .i64,.int .i64])) (self1:Int->Int->Int->List YTT5->Int->Int->Int->Int->List Bool->Option (As [.bool,.int .i64,.int .i64])) (self3:Int->Int->Int->Int->Int->List YTT5->Int->Int->Int->Int->List Bool->qk_->Option (As [.bool,.int .i64,.int .i64])) (at' many left to' i:Int) (t19:List YTT5) (t20 t21 o o_2:Int) (met:List Bool) (x:qk_):Option (As [.bool,.int .i64,.int .i64]) :=
 if lt i to'=true then Option.bind (at? met (Sx.sub .i64 i at')) fun x_1=>Option.bind (at? met (Sx.sub .i64 i at')) fun y=>if y=true then j4 at' many left to' i t19 t20 t21 o o_2 met x else Option.bind (qt_ (x,o,o_2,())) fun y=>if (!y.1)=true then some (false,y.2.1,y.2.2.1,()) else Option.bind (at? met (Sx.sub .i64 i at')) fun x_2=>Option.bind (at? met (Sx.sub .i64 i at')) fun x_3=>j4 at' many (Sx.sub .i64 left 1) to' i t19 t20 t21 y.2.1 y.2.2.1 (List.set met (Int.toNat (Sx.sub .i64 i at')) true) x else self1 at' many left t19 t20 (add .i64 t21 1) o o_2 met
def qoa_ (self1:Int->Int->Int->List YTT5->Int->Int->Int->Int->List Bool->Option (As [.bool,.int .i64,.int .i64])) (self3:Int->Int->Int->Int->Int->List YTT5->Int->Int->Int->Int->List Bool->qk_->Option (As [.bool,.int .i64,.int .i64])) (at' many left to' i:Int) (t19:List YTT5) (t20 t21 o o_2:Int) (met:List Bool) (x:qk_):Option (As [.bool,.int .i64,.int .i64]) :=
 self3 at' many left to' (add .i64 i 1) t19 t20 t21 o o_2 met x
def qgc_ (j1:Int->Int->Int->List YTT5->Int->Int->Int->Int->List Bool->Option (As [.bool,.int .i64,.int .i64])) (areas:List YTT5) (at' many wanted areas_2:Int):Option (As [.bool,.int .i64,.int .i64]) :=
 need (ge many 0) (need (Ev.capOk many many) (need (small (Int.toNat many)) (j1 at' many many areas (Int.ofNat (List.length areas)) 0 wanted areas_2 (List.replicate (Int.toNat many) false))))
def q90_ (left o o_2:Int):Option (As [.bool,.int .i64,.int .i64]):=qvl_ left o o_2
def q6r_ (u1:Int->Int->Int->List YTT5->Int->Int->Int->Int->List Bool->Option (As [.bool,.int .i64,.int .i64])) (u3:Int->Int->Int->Int->Int->List YTT5->Int->Int->Int->Int->List Bool->qk_->Option (As [.bool,.int .i64,.int .i64])) (at' many left to' i:Int) (t19:List YTT5) (t20 t21 o o_2:Int) (met:List Bool) (x:qk_):Option (As [.bool,.int .i64,.int .i64]):=qoa_ u1 u3 at' many left to' i t19 t20 t21 o o_2 met x
def q6q_ (u1:Int->Int->Int->List YTT5->Int->Int->Int->Int->List Bool->Option (As [.bool,.int .i64,.int .i64])) (at' many left to' i:Int) (t19:List YTT5) (t20 t21 o o_2:Int) (met:List Bool) (x:qk_):Option (As [.bool,.int .i64,.int .i64]) :=
 loopF (fun (self:(Int)×(Int)×(Int)×(Int)×(Int)×(List YTT5)×(Int)×(Int)×(Int)×(Int)×(List Bool)×YTT5->Option (As [.bool,.int .i64,.int .i64])) (s:(Int)×(Int)×(Int)×(Int)×(Int)×(List YTT5)×(Int)×(Int)×(Int)×(Int)×(List Bool)×YTT5)=>qbz_ (q6r_ u1 (fun at' many left to' i t19 t20 t21 o o_2 met x=>self (at',many,left,to',i,t19,t20,t21,o,o_2,met,x))) u1 (fun at' many left to' i t19 t20 t21 o o_2 met x=>self (at',many,left,to',i,t19,t20,t21,o,o_2,met,x)) s.1 s.2.1 s.2.2.1 s.2.2.2.1 s.2.2.2.2.1 s.2.2.2.2.2.1 s.2.2.2.2.2.2.1 s.2.2.2.2.2.2.2.1 s.2.2.2.2.2.2.2.2.1 s.2.2.2.2.2.2.2.2.2.1 s.2.2.2.2.2.2.2.2.2.2.1 s.2.2.2.2.2.2.2.2.2.2.2) 18446744073709551616 (at',many,left,to',i,t19,t20,t21,o,o_2,met,x)
def qcp_ (at' many left:Int) (t19:List YTT5) (t20 t21 o o_2:Int) (met:List Bool):Option (As [.bool,.int .i64,.int .i64]) :=
 loopF (fun (self:(Int)×(Int)×(Int)×(List YTT5)×(Int)×(Int)×(Int)×(Int)×(List Bool)->Option (As [.bool,.int .i64,.int .i64])) (s:(Int)×(Int)×(Int)×(List YTT5)×(Int)×(Int)×(Int)×(Int)×(List Bool))=>qcg_ (q90_) (q6q_ (fun at' many left t19 t20 t21 o o_2 met=>self (at',many,left,t19,t20,t21,o,o_2,met))) (fun at' many left t19 t20 t21 o o_2 met=>self (at',many,left,t19,t20,t21,o,o_2,met)) s.1 s.2.1 s.2.2.1 s.2.2.2.1 s.2.2.2.2.1 s.2.2.2.2.2.1 s.2.2.2.2.2.2.1 s.2.2.2.2.2.2.2.1 s.2.2.2.2.2.2.2.2) 18446744073709551616 (at',many,left,t19,t20,t21,o,o_2,met)
def q6m_ (x:As [.sl (.pr (.int .i64) YTT12),.int .i64,.int .i64,.int .i64,.int .i64]):Option (As [.bool,.int .i64,.int .i64]):=qgc_ qcp_ x.1 x.2.1 x.2.2.1 x.2.2.2.1 x.2.2.2.2.1
theorem q15n_ (J:Orc (As [.bool,.int .i64,.int .i64])) (left o o_2:Int):pfn Tryz.prog q23_ 6 18446744073709551616 (Ev.get q24_) 258 q16_ J 15 [] (qh2_ left o o_2)=qvl_ left o o_2:=by kernel_rfl
theorem q169_ (J:Orc (As [.bool,.int .i64,.int .i64])) (w1 w3:St->Option (As [.bool,.int .i64,.int .i64])) (at' many left to' i:Int) (t19:List YTT5) (t20 t21 o o_2:Int) (met:List Bool) (x:qk_):pfn Tryz.prog q23_ 6 18446744073709551616 (Ev.get q24_) 258 q16_ J 501369 [w1,w3] (qgm_ at' many left to' i t19 t20 t21 o o_2 met x)=qoa_ (fun at' many left t19 t20 t21 o o_2 met=>w1 (q2i_ at' many left t19 t20 t21 o o_2 met)) (fun at' many left to' i t19 t20 t21 o o_2 met x=>w3 (q44_ at' many left to' i t19 t20 t21 o o_2 met x)) at' many left to' i t19 t20 t21 o o_2 met x:=by kernel_rfl
theorem q154_ (J:Orc (As [.bool,.int .i64,.int .i64])) (w1 w3:St->Option (As [.bool,.int .i64,.int .i64])) (at' many left to' i:Int) (t19:List YTT5) (t20 t21 o o_2:Int) (met:List Bool) (x:qk_):pfn Tryz.prog q23_ 6 18446744073709551616 (Ev.get q24_) 258 q16_ J 125342 [w1,w3] (q44_ at' many left to' i t19 t20 t21 o o_2 met x)=qbz_ (fun at' many left to' i t19 t20 t21 o o_2 met x=>J 501369 [w1,w3] (qgm_ at' many left to' i t19 t20 t21 o o_2 met x)) (fun at' many left t19 t20 t21 o o_2 met=>w1 (q2i_ at' many left t19 t20 t21 o o_2 met)) (fun at' many left to' i t19 t20 t21 o o_2 met x=>w3 (q44_ at' many left to' i t19 t20 t21 o o_2 met x)) at' many left to' i t19 t20 t21 o o_2 met x:=by kernel_rfl
theorem q158_ (J:Orc (As [.bool,.int .i64,.int .i64])) (w1:St->Option (As [.bool,.int .i64,.int .i64])) (at' many left:Int) (t19:List YTT5) (t20 t21 o o_2:Int) (met:List Bool):pfn Tryz.prog q23_ 6 18446744073709551616 (Ev.get q24_) 258 q16_ J 122 [w1] (q2i_ at' many left t19 t20 t21 o o_2 met)=qcg_ (fun left o o_2=>J 15 [] (qh2_ left o o_2)) (fun at' many left to' i t19 t20 t21 o o_2 met x=>J 125342 [w1] (q44_ at' many left to' i t19 t20 t21 o o_2 met x)) (fun at' many left t19 t20 t21 o o_2 met=>w1 (q2i_ at' many left t19 t20 t21 o o_2 met)) at' many left t19 t20 t21 o o_2 met:=by kernel_rfl
theorem q14z_ (J:Orc (As [.bool,.int .i64,.int .i64])) (x:As [.sl (.pr (.int .i64) YTT12),.int .i64,.int .i64,.int .i64,.int .i64]):rfn Tryz.prog q23_ 6 18446744073709551616 (Ev.get q24_) 258 q16_ J x=qgc_ (fun at' many left t19 t20 t21 o o_2 met=>J 122 [] (q2i_ at' many left t19 t20 t21 o o_2 met)) x.1 x.2.1 x.2.2.1 x.2.2.2.1 x.2.2.2.2.1:=by kernel_rfl
theorem q151_ (left o o_2:Int):jfn Tryz.prog q23_ 6 18446744073709551616 (Ev.get q24_) 258 q16_ 15 [] (qh2_ left o o_2)=q90_ left o o_2:=by
 rw [q8_ (by decide)]
 rw [q15n_]
 rfl
theorem q16b_ (w1 w3:St->Option (As [.bool,.int .i64,.int .i64])) (at' many left to' i:Int) (t19:List YTT5) (t20 t21 o o_2:Int) (met:List Bool) (x:qk_):jfn Tryz.prog q23_ 6 18446744073709551616 (Ev.get q24_) 258 q16_ 501369 [w1,w3] (qgm_ at' many left to' i t19 t20 t21 o o_2 met x)=q6r_ (fun at' many left t19 t20 t21 o o_2 met=>w1 (q2i_ at' many left t19 t20 t21 o o_2 met)) (fun at' many left to' i t19 t20 t21 o o_2 met x=>w3 (q44_ at' many left to' i t19 t20 t21 o o_2 met x)) at' many left to' i t19 t20 t21 o o_2 met x:=by
 rw [q8_ (by decide)]
 rw [q169_]
 rfl
theorem q15m_ (w1:St->Option (As [.bool,.int .i64,.int .i64])) (at' many left to' i:Int) (t19:List YTT5) (t20 t21 o o_2:Int) (met:List Bool) (x:qk_):jfn Tryz.prog q23_ 6 18446744073709551616 (Ev.get q24_) 258 q16_ 125342 [w1] (q44_ at' many left to' i t19 t20 t21 o o_2 met x)=q6q_ (fun at' many left t19 t20 t21 o o_2 met=>w1 (q2i_ at' many left t19 t20 t21 o o_2 met)) at' many left to' i t19 t20 t21 o o_2 met x:=by
 rw [q8_ (by decide)]
 rw [qr_ (by kernel_rfl)]
 refine qi_ (σ:=(Int)×(Int)×(Int)×(Int)×(Int)×(List YTT5)×(Int)×(Int)×(Int)×(Int)×(List Bool)×YTT5) (mk:=fun s=>q44_ s.1 s.2.1 s.2.2.1 s.2.2.2.1 s.2.2.2.2.1 s.2.2.2.2.2.1 s.2.2.2.2.2.2.1 s.2.2.2.2.2.2.2.1 s.2.2.2.2.2.2.2.2.1 s.2.2.2.2.2.2.2.2.2.1 s.2.2.2.2.2.2.2.2.2.2.1 s.2.2.2.2.2.2.2.2.2.2.2) (fun w3 s=>?_) 18446744073709551616 (at',many,left,to',i,t19,t20,t21,o,o_2,met,x)
 have e4:(fun at' many left to' i t19 t20 t21 o o_2 met x=>(jfn Tryz.prog q23_ 6 18446744073709551616 (Ev.get q24_) 258 q16_) 501369 [w1,w3] (qgm_ at' many left to' i t19 t20 t21 o o_2 met x))=q6r_ (fun at' many left t19 t20 t21 o o_2 met=>w1 (q2i_ at' many left t19 t20 t21 o o_2 met)) (fun at' many left to' i t19 t20 t21 o o_2 met x=>w3 (q44_ at' many left to' i t19 t20 t21 o o_2 met x)):=by funext at' many left to' i t19 t20 t21 o o_2 met x; exact q16b_ w1 w3 at' many left to' i t19 t20 t21 o o_2 met x
 refine (q154_ _ w1 w3 s.1 s.2.1 s.2.2.1 s.2.2.2.1 s.2.2.2.2.1 s.2.2.2.2.2.1 s.2.2.2.2.2.2.1 s.2.2.2.2.2.2.2.1 s.2.2.2.2.2.2.2.2.1 s.2.2.2.2.2.2.2.2.2.1 s.2.2.2.2.2.2.2.2.2.2.1 s.2.2.2.2.2.2.2.2.2.2.2).trans ?_
 rw [e4]
theorem q153_ (at' many left:Int) (t19:List YTT5) (t20 t21 o o_2:Int) (met:List Bool):jfn Tryz.prog q23_ 6 18446744073709551616 (Ev.get q24_) 258 q16_ 122 [] (q2i_ at' many left t19 t20 t21 o o_2 met)=qcp_ at' many left t19 t20 t21 o o_2 met:=by
 rw [q8_ (by decide)]
 rw [qr_ (by kernel_rfl)]
 refine qi_ (σ:=(Int)×(Int)×(Int)×(List YTT5)×(Int)×(Int)×(Int)×(Int)×(List Bool)) (mk:=fun s=>q2i_ s.1 s.2.1 s.2.2.1 s.2.2.2.1 s.2.2.2.2.1 s.2.2.2.2.2.1 s.2.2.2.2.2.2.1 s.2.2.2.2.2.2.2.1 s.2.2.2.2.2.2.2.2) (fun w1 s=>?_) 18446744073709551616 (at',many,left,t19,t20,t21,o,o_2,met)
 have e2:(fun left o o_2=>(jfn Tryz.prog q23_ 6 18446744073709551616 (Ev.get q24_) 258 q16_) 15 [] (qh2_ left o o_2))=q90_:=by funext left o o_2; exact q151_ left o o_2
 have e3:(fun at' many left to' i t19 t20 t21 o o_2 met x=>(jfn Tryz.prog q23_ 6 18446744073709551616 (Ev.get q24_) 258 q16_) 125342 [w1] (q44_ at' many left to' i t19 t20 t21 o o_2 met x))=q6q_ (fun at' many left t19 t20 t21 o o_2 met=>w1 (q2i_ at' many left t19 t20 t21 o o_2 met)):=by funext at' many left to' i t19 t20 t21 o o_2 met x; exact q15m_ w1 at' many left to' i t19 t20 t21 o o_2 met x
 refine (q158_ _ w1 s.1 s.2.1 s.2.2.1 s.2.2.2.1 s.2.2.2.2.1 s.2.2.2.2.2.1 s.2.2.2.2.2.2.1 s.2.2.2.2.2.2.2.1 s.2.2.2.2.2.2.2.2).trans ?_
 rw [e2,e3]
theorem q17o_ (x:As [.sl (.pr (.int .i64) YTT12),.int .i64,.int .i64,.int .i64,.int .i64]):evT Tryz.prog q23_ 6 18446744073709551616 (Ev.get q24_) 258 q16_ x=q6m_ x:=by
 have e1:(fun at' many left t19 t20 t21 o o_2 met=>(jfn Tryz.prog q23_ 6 18446744073709551616 (Ev.get q24_) 258 q16_) 122 [] (q2i_ at' many left t19 t20 t21 o o_2 met))=qcp_:=by funext at' many left t19 t20 t21 o o_2 met; exact q153_ at' many left t19 t20 t21 o o_2 met
 rw [q5_,q14z_,e1]
 rfl
theorem qgx_:CtOk Tryz.prog (fun _=>True) 258 ⟨q16_,q6m_⟩:=q3_ (q0_ q30_ (q0_ q2z_ (q0_ qnp_ (q0_ q2n_ (q0_ q2m_ q4_))))) q17o_
@[reducible] def q15_:Sh:=⟨[.d YTT1,.d (.int .i64),.d (.int .i64),.fn (.func 264) [] []],[],[.sl (.pr (.int .i64) YTT12),.int .i64,.int .i64],[.d (.bool)],[],0,[.bool]⟩
def q1z_:Env:=(cts [(259,(⟨q1g_,q12_⟩:Ct)),(260,(⟨q1h_,qt_⟩:Ct)),(261,(⟨q2k_,q82_⟩:Ct)),(264,(⟨q1d_,qw_⟩:Ct)),(265,(⟨q1b_,qo_⟩:Ct))])
def q21_:List (Nat×Hint):=[(15,⟨[],[10]⟩),(122,⟨[],[1,2,3,9,10,19,20,21]⟩),(125342,⟨[],[1,2,3,9,10,12,14,15,19,20,21]⟩),(501369,⟨[],[1,2,3,9,10,12,14,15,19,20,21]⟩)]
def q2f_ (at' many left:Int) (t19:List YTT5) (t20 t21:Int) (met:List Bool):St:={ fr:=[(1,.d (.int .i64) at'),(2,.d (.int .i64) many),(3,.fn (.func 264) [] []),(9,.row 0),(10,.d (.int .i64) left),(19,.d YTT1 t19),(20,.d (.int .i64) t20),(21,.d (.int .i64) t21)],nt:=62,up:=[],own:=[(0,.row .bool 4 met)],nx:=1,log:=[],ln:=0 }
def qh3_ (left:Int):St:={ fr:=[(10,.d (.int .i64) left)],nt:=62,up:=[],own:=[],nx:=0,log:=[],ln:=0 }
def q45_ (at' many left to' i:Int) (t19:List YTT5) (t20 t21:Int) (met:List Bool) (x:qk_):St:={ fr:=[(1,.d (.int .i64) at'),(2,.d (.int .i64) many),(3,.fn (.func 264) [] []),(9,.row 0),(10,.d (.int .i64) left),(12,.pb 1 0),(14,.d (.int .i64) to'),(15,.d (.int .i64) i),(19,.d YTT1 t19),(20,.d (.int .i64) t20),(21,.d (.int .i64) t21)],nt:=62,up:=[],own:=[(0,.row .bool 4 met),(1,.box 168 [.d (.int .i64) x.1,.d (.int .i64) x.2.1,.d .bool x.2.2.1,.d .bool x.2.2.2.1,.d .bool x.2.2.2.2])],nx:=2,log:=[],ln:=0 }
def qgq_ (at' many left to' i:Int) (t19:List YTT5) (t20 t21:Int) (met:List Bool) (x:qk_):St:={ fr:=[(1,.d (.int .i64) at'),(2,.d (.int .i64) many),(3,.fn (.func 264) [] []),(9,.row 0),(10,.d (.int .i64) left),(12,.pb 1 0),(14,.d (.int .i64) to'),(15,.d (.int .i64) i),(19,.d YTT1 t19),(20,.d (.int .i64) t20),(21,.d (.int .i64) t21)],nt:=62,up:=[],own:=[(0,.row .bool 4 met),(1,.box 168 [.d (.int .i64) x.1,.d (.int .i64) x.2.1,.d .bool x.2.2.1,.d .bool x.2.2.2.1,.d .bool x.2.2.2.2])],nx:=2,log:=[],ln:=0 }
def qcc_ (j2:Int->Option (As [.bool])) (j3:Int->Int->Int->Int->Int->List YTT5->Int->Int->List Bool->qk_->Option (As [.bool])) (self1:Int->Int->Int->List YTT5->Int->Int->List Bool->Option (As [.bool])) (at' many left:Int) (t19:List YTT5) (t20 t21:Int) (met:List Bool):Option (As [.bool]) :=
 if lt t21 t20=true then Option.bind (at? t19 t21) fun y=>if eqi left 0=true then j2 left else Option.bind (q82_ (y,at',add .i64 at' many,())) fun y_1=>j3 at' many left y_1.2.1 y_1.1 t19 t20 t21 met y else j2 left
def qw8_ (left:Int):Option (As [.bool]) :=
 some (eqi left 0,())
def qcs_ (j4:Int->Int->Int->Int->Int->List YTT5->Int->Int->List Bool->qk_->Option (As [.bool])) (self1:Int->Int->Int->List YTT5->Int->Int->List Bool->Option (As [.bool])) (self3:Int->Int->Int->Int->Int->List YTT5->Int->Int->List Bool->qk_->Option (As [.bool])) (at' many left to' i:Int) (t19:List YTT5) (t20 t21:Int) (met:List Bool) (x:qk_):Option (As [.bool]) :=
 if lt i to'=true then Option.bind (at? met (Sx.sub .i64 i at')) fun x_1=>Option.bind (at? met (Sx.sub .i64 i at')) fun y=>if y=true then j4 at' many left to' i t19 t20 t21 met x else Option.bind (qw_ (x,())) fun y=>if (!y.1)=true then some (false,()) else Option.bind (at? met (Sx.sub .i64 i at')) fun x_2=>Option.bind (at? met (Sx.sub .i64 i at')) fun x_3=>j4 at' many (Sx.sub .i64 left 1) to' i t19 t20 t21 (List.set met (Int.toNat (Sx.sub .i64 i at')) true) x else self1 at' many left t19 t20 (add .i64 t21 1) met
def qoe_ (self1:Int->Int->Int->List YTT5->Int->Int->List Bool->Option (As [.bool])) (self3:Int->Int->Int->Int->Int->List YTT5->Int->Int->List Bool->qk_->Option (As [.bool])) (at' many left to' i:Int) (t19:List YTT5) (t20 t21:Int) (met:List Bool) (x:qk_):Option (As [.bool]) :=
 self3 at' many left to' (add .i64 i 1) t19 t20 t21 met x
def qgs_ (j1:Int->Int->Int->List YTT5->Int->Int->List Bool->Option (As [.bool])) (areas:List YTT5) (at' many:Int):Option (As [.bool]) :=
 need (ge many 0) (need (Ev.capOk many many) (need (small (Int.toNat many)) (j1 at' many many areas (Int.ofNat (List.length areas)) 0 (List.replicate (Int.toNat many) false))))
def q94_ (left:Int):Option (As [.bool]):=qw8_ left
def q6v_ (u1:Int->Int->Int->List YTT5->Int->Int->List Bool->Option (As [.bool])) (u3:Int->Int->Int->Int->Int->List YTT5->Int->Int->List Bool->qk_->Option (As [.bool])) (at' many left to' i:Int) (t19:List YTT5) (t20 t21:Int) (met:List Bool) (x:qk_):Option (As [.bool]):=qoe_ u1 u3 at' many left to' i t19 t20 t21 met x
def q6p_ (u1:Int->Int->Int->List YTT5->Int->Int->List Bool->Option (As [.bool])) (at' many left to' i:Int) (t19:List YTT5) (t20 t21:Int) (met:List Bool) (x:qk_):Option (As [.bool]) :=
 loopF (fun (self:(Int)×(Int)×(Int)×(Int)×(Int)×(List YTT5)×(Int)×(Int)×(List Bool)×YTT5->Option (As [.bool])) (s:(Int)×(Int)×(Int)×(Int)×(Int)×(List YTT5)×(Int)×(Int)×(List Bool)×YTT5)=>qcs_ (q6v_ u1 (fun at' many left to' i t19 t20 t21 met x=>self (at',many,left,to',i,t19,t20,t21,met,x))) u1 (fun at' many left to' i t19 t20 t21 met x=>self (at',many,left,to',i,t19,t20,t21,met,x)) s.1 s.2.1 s.2.2.1 s.2.2.2.1 s.2.2.2.2.1 s.2.2.2.2.2.1 s.2.2.2.2.2.2.1 s.2.2.2.2.2.2.2.1 s.2.2.2.2.2.2.2.2.1 s.2.2.2.2.2.2.2.2.2) 18446744073709551616 (at',many,left,to',i,t19,t20,t21,met,x)
def qcf_ (at' many left:Int) (t19:List YTT5) (t20 t21:Int) (met:List Bool):Option (As [.bool]) :=
 loopF (fun (self:(Int)×(Int)×(Int)×(List YTT5)×(Int)×(Int)×(List Bool)->Option (As [.bool])) (s:(Int)×(Int)×(Int)×(List YTT5)×(Int)×(Int)×(List Bool))=>qcc_ (q94_) (q6p_ (fun at' many left t19 t20 t21 met=>self (at',many,left,t19,t20,t21,met))) (fun at' many left t19 t20 t21 met=>self (at',many,left,t19,t20,t21,met)) s.1 s.2.1 s.2.2.1 s.2.2.2.1 s.2.2.2.2.1 s.2.2.2.2.2.1 s.2.2.2.2.2.2) 18446744073709551616 (at',many,left,t19,t20,t21,met)
def q6o_ (x:As [.sl (.pr (.int .i64) YTT12),.int .i64,.int .i64]):Option (As [.bool]):=qgs_ qcf_ x.1 x.2.1 x.2.2.1
theorem q160_ (J:Orc (As [.bool])) (left:Int):pfn Tryz.prog q1z_ 6 18446744073709551616 (Ev.get q21_) 258 q15_ J 15 [] (qh3_ left)=qw8_ left:=by kernel_rfl
theorem q150_ (J:Orc (As [.bool])) (w1 w3:St->Option (As [.bool])) (at' many left to' i:Int) (t19:List YTT5) (t20 t21:Int) (met:List Bool) (x:qk_):pfn Tryz.prog q1z_ 6 18446744073709551616 (Ev.get q21_) 258 q15_ J 501369 [w1,w3] (qgq_ at' many left to' i t19 t20 t21 met x)=qoe_ (fun at' many left t19 t20 t21 met=>w1 (q2f_ at' many left t19 t20 t21 met)) (fun at' many left to' i t19 t20 t21 met x=>w3 (q45_ at' many left to' i t19 t20 t21 met x)) at' many left to' i t19 t20 t21 met x:=by kernel_rfl
theorem q168_ (J:Orc (As [.bool])) (w1 w3:St->Option (As [.bool])) (at' many left to' i:Int) (t19:List YTT5) (t20 t21:Int) (met:List Bool) (x:qk_):pfn Tryz.prog q1z_ 6 18446744073709551616 (Ev.get q21_) 258 q15_ J 125342 [w1,w3] (q45_ at' many left to' i t19 t20 t21 met x)=qcs_ (fun at' many left to' i t19 t20 t21 met x=>J 501369 [w1,w3] (qgq_ at' many left to' i t19 t20 t21 met x)) (fun at' many left t19 t20 t21 met=>w1 (q2f_ at' many left t19 t20 t21 met)) (fun at' many left to' i t19 t20 t21 met x=>w3 (q45_ at' many left to' i t19 t20 t21 met x)) at' many left to' i t19 t20 t21 met x:=by kernel_rfl
theorem q15l_ (J:Orc (As [.bool])) (w1:St->Option (As [.bool])) (at' many left:Int) (t19:List YTT5) (t20 t21:Int) (met:List Bool):pfn Tryz.prog q1z_ 6 18446744073709551616 (Ev.get q21_) 258 q15_ J 122 [w1] (q2f_ at' many left t19 t20 t21 met)=qcc_ (fun left=>J 15 [] (qh3_ left)) (fun at' many left to' i t19 t20 t21 met x=>J 125342 [w1] (q45_ at' many left to' i t19 t20 t21 met x)) (fun at' many left t19 t20 t21 met=>w1 (q2f_ at' many left t19 t20 t21 met)) at' many left t19 t20 t21 met:=by kernel_rfl
theorem q15d_ (J:Orc (As [.bool])) (x:As [.sl (.pr (.int .i64) YTT12),.int .i64,.int .i64]):rfn Tryz.prog q1z_ 6 18446744073709551616 (Ev.get q21_) 258 q15_ J x=qgs_ (fun at' many left t19 t20 t21 met=>J 122 [] (q2f_ at' many left t19 t20 t21 met)) x.1 x.2.1 x.2.2.1:=by kernel_rfl
theorem q15a_ (left:Int):jfn Tryz.prog q1z_ 6 18446744073709551616 (Ev.get q21_) 258 q15_ 15 [] (qh3_ left)=q94_ left:=by
 rw [q8_ (by decide)]
 rw [q160_]
 rfl
theorem q15g_ (w1 w3:St->Option (As [.bool])) (at' many left to' i:Int) (t19:List YTT5) (t20 t21:Int) (met:List Bool) (x:qk_):jfn Tryz.prog q1z_ 6 18446744073709551616 (Ev.get q21_) 258 q15_ 501369 [w1,w3] (qgq_ at' many left to' i t19 t20 t21 met x)=q6v_ (fun at' many left t19 t20 t21 met=>w1 (q2f_ at' many left t19 t20 t21 met)) (fun at' many left to' i t19 t20 t21 met x=>w3 (q45_ at' many left to' i t19 t20 t21 met x)) at' many left to' i t19 t20 t21 met x:=by
 rw [q8_ (by decide)]
 rw [q150_]
 rfl
theorem q15o_ (w1:St->Option (As [.bool])) (at' many left to' i:Int) (t19:List YTT5) (t20 t21:Int) (met:List Bool) (x:qk_):jfn Tryz.prog q1z_ 6 18446744073709551616 (Ev.get q21_) 258 q15_ 125342 [w1] (q45_ at' many left to' i t19 t20 t21 met x)=q6p_ (fun at' many left t19 t20 t21 met=>w1 (q2f_ at' many left t19 t20 t21 met)) at' many left to' i t19 t20 t21 met x:=by
 rw [q8_ (by decide)]
 rw [qr_ (by kernel_rfl)]
 refine qi_ (σ:=(Int)×(Int)×(Int)×(Int)×(Int)×(List YTT5)×(Int)×(Int)×(List Bool)×YTT5) (mk:=fun s=>q45_ s.1 s.2.1 s.2.2.1 s.2.2.2.1 s.2.2.2.2.1 s.2.2.2.2.2.1 s.2.2.2.2.2.2.1 s.2.2.2.2.2.2.2.1 s.2.2.2.2.2.2.2.2.1 s.2.2.2.2.2.2.2.2.2) (fun w3 s=>?_) 18446744073709551616 (at',many,left,to',i,t19,t20,t21,met,x)
 have e4:(fun at' many left to' i t19 t20 t21 met x=>(jfn Tryz.prog q1z_ 6 18446744073709551616 (Ev.get q21_) 258 q15_) 501369 [w1,w3] (qgq_ at' many left to' i t19 t20 t21 met x))=q6v_ (fun at' many left t19 t20 t21 met=>w1 (q2f_ at' many left t19 t20 t21 met)) (fun at' many left to' i t19 t20 t21 met x=>w3 (q45_ at' many left to' i t19 t20 t21 met x)):=by funext at' many left to' i t19 t20 t21 met x; exact q15g_ w1 w3 at' many left to' i t19 t20 t21 met x
 refine (q168_ _ w1 w3 s.1 s.2.1 s.2.2.1 s.2.2.2.1 s.2.2.2.2.1 s.2.2.2.2.2.1 s.2.2.2.2.2.2.1 s.2.2.2.2.2.2.2.1 s.2.2.2.2.2.2.2.2.1 s.2.2.2.2.2.2.2.2.2).trans ?_
 rw [e4]
theorem q162_ (at' many left:Int) (t19:List YTT5) (t20 t21:Int) (met:List Bool):jfn Tryz.prog q1z_ 6 18446744073709551616 (Ev.get q21_) 258 q15_ 122 [] (q2f_ at' many left t19 t20 t21 met)=qcf_ at' many left t19 t20 t21 met:=by
 rw [q8_ (by decide)]
 rw [qr_ (by kernel_rfl)]
 refine qi_ (σ:=(Int)×(Int)×(Int)×(List YTT5)×(Int)×(Int)×(List Bool)) (mk:=fun s=>q2f_ s.1 s.2.1 s.2.2.1 s.2.2.2.1 s.2.2.2.2.1 s.2.2.2.2.2.1 s.2.2.2.2.2.2) (fun w1 s=>?_) 18446744073709551616 (at',many,left,t19,t20,t21,met)
 have e2:(fun left=>(jfn Tryz.prog q1z_ 6 18446744073709551616 (Ev.get q21_) 258 q15_) 15 [] (qh3_ left))=q94_:=funext fun left=>q15a_ left
 have e3:(fun at' many left to' i t19 t20 t21 met x=>(jfn Tryz.prog q1z_ 6 18446744073709551616 (Ev.get q21_) 258 q15_) 125342 [w1] (q45_ at' many left to' i t19 t20 t21 met x))=q6p_ (fun at' many left t19 t20 t21 met=>w1 (q2f_ at' many left t19 t20 t21 met)):=by funext at' many left to' i t19 t20 t21 met x; exact q15o_ w1 at' many left to' i t19 t20 t21 met x
 refine (q15l_ _ w1 s.1 s.2.1 s.2.2.1 s.2.2.2.1 s.2.2.2.2.1 s.2.2.2.2.2.1 s.2.2.2.2.2.2).trans ?_
 rw [e2,e3]
theorem q16t_ (x:As [.sl (.pr (.int .i64) YTT12),.int .i64,.int .i64]):evT Tryz.prog q1z_ 6 18446744073709551616 (Ev.get q21_) 258 q15_ x=q6o_ x:=by
 have e1:(fun at' many left t19 t20 t21 met=>(jfn Tryz.prog q1z_ 6 18446744073709551616 (Ev.get q21_) 258 q15_) 122 [] (q2f_ at' many left t19 t20 t21 met))=qcf_:=by funext at' many left t19 t20 t21 met; exact q162_ at' many left t19 t20 t21 met
 rw [q5_,q15d_,e1]
 rfl
theorem qgb_:CtOk Tryz.prog (fun _=>True) 258 ⟨q15_,q6o_⟩:=q3_ (q0_ q30_ (q0_ q2z_ (q0_ qnp_ (q0_ q2n_ (q0_ q2m_ q4_))))) q16t_
@[reducible] def q13_:Sh:=⟨[.d YTT1,.d (.int .i64),.d (.int .i64),.fn (.func 265) [] [.pb 0 0,.pb 1 0]],[.box 3 [.d (.int .i64)],.box 3 [.d (.int .i64)]],[.sl (.pr (.int .i64) YTT12),.int .i64,.int .i64,.int .i64,.int .i64],[.d (.bool)],[(0,.box 3 [.d (.int .i64)]),(1,.box 3 [.d (.int .i64)])],0,[.bool,.int .i64,.int .i64]⟩
def q22_:Env:=(cts [(259,(⟨q1g_,q12_⟩:Ct)),(260,(⟨q1h_,qt_⟩:Ct)),(261,(⟨q2k_,q82_⟩:Ct)),(264,(⟨q1d_,qw_⟩:Ct)),(265,(⟨q1b_,qo_⟩:Ct))])
def q1y_:List (Nat×Hint):=[(15,⟨[],[10]⟩),(122,⟨[],[1,2,3,9,10,19,20,21]⟩),(125342,⟨[],[1,2,3,9,10,12,14,15,19,20,21]⟩),(501369,⟨[],[1,2,3,9,10,12,14,15,19,20,21]⟩)]
def q2g_ (at' many left:Int) (t19:List YTT5) (t20 t21 o o_2:Int) (met:List Bool):St:={ fr:=[(1,.d (.int .i64) at'),(2,.d (.int .i64) many),(3,.fn (.func 265) [] [.pb 0 0,.pb 1 0]),(9,.row 2),(10,.d (.int .i64) left),(19,.d YTT1 t19),(20,.d (.int .i64) t20),(21,.d (.int .i64) t21)],nt:=62,up:=[],own:=[(0,.box 3 [.d (.int .i64) o]),(1,.box 3 [.d (.int .i64) o_2]),(2,.row .bool 4 met)],nx:=3,log:=[],ln:=2 }
def qh5_ (left o o_2:Int):St:={ fr:=[(10,.d (.int .i64) left)],nt:=62,up:=[],own:=[(0,.box 3 [.d (.int .i64) o]),(1,.box 3 [.d (.int .i64) o_2])],nx:=2,log:=[],ln:=2 }
def q47_ (at' many left to' i:Int) (t19:List YTT5) (t20 t21 o o_2:Int) (met:List Bool) (x:qk_):St:={ fr:=[(1,.d (.int .i64) at'),(2,.d (.int .i64) many),(3,.fn (.func 265) [] [.pb 0 0,.pb 1 0]),(9,.row 2),(10,.d (.int .i64) left),(12,.pb 3 0),(14,.d (.int .i64) to'),(15,.d (.int .i64) i),(19,.d YTT1 t19),(20,.d (.int .i64) t20),(21,.d (.int .i64) t21)],nt:=62,up:=[],own:=[(0,.box 3 [.d (.int .i64) o]),(1,.box 3 [.d (.int .i64) o_2]),(2,.row .bool 4 met),(3,.box 168 [.d (.int .i64) x.1,.d (.int .i64) x.2.1,.d .bool x.2.2.1,.d .bool x.2.2.2.1,.d .bool x.2.2.2.2])],nx:=4,log:=[],ln:=2 }
def qgy_ (at' many left to' i:Int) (t19:List YTT5) (t20 t21 o o_2:Int) (met:List Bool) (x:qk_):St:={ fr:=[(1,.d (.int .i64) at'),(2,.d (.int .i64) many),(3,.fn (.func 265) [] [.pb 0 0,.pb 1 0]),(9,.row 2),(10,.d (.int .i64) left),(12,.pb 3 0),(14,.d (.int .i64) to'),(15,.d (.int .i64) i),(19,.d YTT1 t19),(20,.d (.int .i64) t20),(21,.d (.int .i64) t21)],nt:=62,up:=[],own:=[(0,.box 3 [.d (.int .i64) o]),(1,.box 3 [.d (.int .i64) o_2]),(2,.row .bool 4 met),(3,.box 168 [.d (.int .i64) x.1,.d (.int .i64) x.2.1,.d .bool x.2.2.1,.d .bool x.2.2.2.1,.d .bool x.2.2.2.2])],nx:=4,log:=[],ln:=2 }
def qc6_ (j2:Int->Int->Int->Option (As [.bool,.int .i64,.int .i64])) (j3:Int->Int->Int->Int->Int->List YTT5->Int->Int->Int->Int->List Bool->qk_->Option (As [.bool,.int .i64,.int .i64])) (self1:Int->Int->Int->List YTT5->Int->Int->Int->Int->List Bool->Option (As [.bool,.int .i64,.int .i64])) (at' many left:Int) (t19:List YTT5) (t20 t21 o o_2:Int) (met:List Bool):Option (As [.bool,.int .i64,.int .i64]) :=
 if lt t21 t20=true then Option.bind (at? t19 t21) fun y=>if eqi left 0=true then j2 left o o_2 else Option.bind (q82_ (y,at',add .i64 at' many,())) fun y_1=>j3 at' many left y_1.2.1 y_1.1 t19 t20 t21 o o_2 met y else j2 left o o_2
def qwe_ (left o o_2:Int):Option (As [.bool,.int .i64,.int .i64]) :=
 some (eqi left 0,o,o_2,())
def qch_ (j4:Int->Int->Int->Int->Int->List YTT5->Int->Int->Int->Int->List Bool->qk_->Option (As [.bool,.int .i64,.int .i64])) (self1:Int->Int->Int->List YTT5->Int->Int->Int->Int->List Bool->Option (As [.bool,.int .i64,.int .i64])) (self3:Int->Int->Int->Int->Int->List YTT5->Int->Int->Int->Int->List Bool->qk_->Option (As [.bool,.int .i64,.int .i64])) (at' many left to' i:Int) (t19:List YTT5) (t20 t21 o o_2:Int) (met:List Bool) (x:qk_):Option (As [.bool,.int .i64,.int .i64]) :=
 if lt i to'=true then Option.bind (at? met (Sx.sub .i64 i at')) fun x_1=>Option.bind (at? met (Sx.sub .i64 i at')) fun y=>if y=true then j4 at' many left to' i t19 t20 t21 o o_2 met x else Option.bind (qo_ (x,o,o_2,())) fun y=>if (!y.1)=true then some (false,y.2.1,y.2.2.1,()) else Option.bind (at? met (Sx.sub .i64 i at')) fun x_2=>Option.bind (at? met (Sx.sub .i64 i at')) fun x_3=>j4 at' many (Sx.sub .i64 left 1) to' i t19 t20 t21 y.2.1 y.2.2.1 (List.set met (Int.toNat (Sx.sub .i64 i at')) true) x else self1 at' many left t19 t20 (add .i64 t21 1) o o_2 met
def qof_ (self1:Int->Int->Int->List YTT5->Int->Int->Int->Int->List Bool->Option (As [.bool,.int .i64,.int .i64])) (self3:Int->Int->Int->Int->Int->List YTT5->Int->Int->Int->Int->List Bool->qk_->Option (As [.bool,.int .i64,.int .i64])) (at' many left to' i:Int) (t19:List YTT5) (t20 t21 o o_2:Int) (met:List Bool) (x:qk_):Option (As [.bool,.int .i64,.int .i64]) :=
 self3 at' many left to' (add .i64 i 1) t19 t20 t21 o o_2 met x
def qgj_ (j1:Int->Int->Int->List YTT5->Int->Int->Int->Int->List Bool->Option (As [.bool,.int .i64,.int .i64])) (areas:List YTT5) (at' many wanted areas_2:Int):Option (As [.bool,.int .i64,.int .i64]) :=
 need (ge many 0) (need (Ev.capOk many many) (need (small (Int.toNat many)) (j1 at' many many areas (Int.ofNat (List.length areas)) 0 wanted areas_2 (List.replicate (Int.toNat many) false))))
def q93_ (left o o_2:Int):Option (As [.bool,.int .i64,.int .i64]):=qwe_ left o o_2
def q6w_ (u1:Int->Int->Int->List YTT5->Int->Int->Int->Int->List Bool->Option (As [.bool,.int .i64,.int .i64])) (u3:Int->Int->Int->Int->Int->List YTT5->Int->Int->Int->Int->List Bool->qk_->Option (As [.bool,.int .i64,.int .i64])) (at' many left to' i:Int) (t19:List YTT5) (t20 t21 o o_2:Int) (met:List Bool) (x:qk_):Option (As [.bool,.int .i64,.int .i64]):=qof_ u1 u3 at' many left to' i t19 t20 t21 o o_2 met x
def q6y_ (u1:Int->Int->Int->List YTT5->Int->Int->Int->Int->List Bool->Option (As [.bool,.int .i64,.int .i64])) (at' many left to' i:Int) (t19:List YTT5) (t20 t21 o o_2:Int) (met:List Bool) (x:qk_):Option (As [.bool,.int .i64,.int .i64]) :=
 loopF (fun (self:(Int)×(Int)×(Int)×(Int)×(Int)×(List YTT5)×(Int)×(Int)×(Int)×(Int)×(List Bool)×YTT5->Option (As [.bool,.int .i64,.int .i64])) (s:(Int)×(Int)×(Int)×(Int)×(Int)×(List YTT5)×(Int)×(Int)×(Int)×(Int)×(List Bool)×YTT5)=>qch_ (q6w_ u1 (fun at' many left to' i t19 t20 t21 o o_2 met x=>self (at',many,left,to',i,t19,t20,t21,o,o_2,met,x))) u1 (fun at' many left to' i t19 t20 t21 o o_2 met x=>self (at',many,left,to',i,t19,t20,t21,o,o_2,met,x)) s.1 s.2.1 s.2.2.1 s.2.2.2.1 s.2.2.2.2.1 s.2.2.2.2.2.1 s.2.2.2.2.2.2.1 s.2.2.2.2.2.2.2.1 s.2.2.2.2.2.2.2.2.1 s.2.2.2.2.2.2.2.2.2.1 s.2.2.2.2.2.2.2.2.2.2.1 s.2.2.2.2.2.2.2.2.2.2.2) 18446744073709551616 (at',many,left,to',i,t19,t20,t21,o,o_2,met,x)
def qc5_ (at' many left:Int) (t19:List YTT5) (t20 t21 o o_2:Int) (met:List Bool):Option (As [.bool,.int .i64,.int .i64]) :=
 loopF (fun (self:(Int)×(Int)×(Int)×(List YTT5)×(Int)×(Int)×(Int)×(Int)×(List Bool)->Option (As [.bool,.int .i64,.int .i64])) (s:(Int)×(Int)×(Int)×(List YTT5)×(Int)×(Int)×(Int)×(Int)×(List Bool))=>qc6_ (q93_) (q6y_ (fun at' many left t19 t20 t21 o o_2 met=>self (at',many,left,t19,t20,t21,o,o_2,met))) (fun at' many left t19 t20 t21 o o_2 met=>self (at',many,left,t19,t20,t21,o,o_2,met)) s.1 s.2.1 s.2.2.1 s.2.2.2.1 s.2.2.2.2.1 s.2.2.2.2.2.1 s.2.2.2.2.2.2.1 s.2.2.2.2.2.2.2.1 s.2.2.2.2.2.2.2.2) 18446744073709551616 (at',many,left,t19,t20,t21,o,o_2,met)
def q6n_ (x:As [.sl (.pr (.int .i64) YTT12),.int .i64,.int .i64,.int .i64,.int .i64]):Option (As [.bool,.int .i64,.int .i64]):=qgj_ qc5_ x.1 x.2.1 x.2.2.1 x.2.2.2.1 x.2.2.2.2.1
theorem q15u_ (J:Orc (As [.bool,.int .i64,.int .i64])) (left o o_2:Int):pfn Tryz.prog q22_ 6 18446744073709551616 (Ev.get q1y_) 258 q13_ J 15 [] (qh5_ left o o_2)=qwe_ left o o_2:=by kernel_rfl
theorem q15e_ (J:Orc (As [.bool,.int .i64,.int .i64])) (w1 w3:St->Option (As [.bool,.int .i64,.int .i64])) (at' many left to' i:Int) (t19:List YTT5) (t20 t21 o o_2:Int) (met:List Bool) (x:qk_):pfn Tryz.prog q22_ 6 18446744073709551616 (Ev.get q1y_) 258 q13_ J 501369 [w1,w3] (qgy_ at' many left to' i t19 t20 t21 o o_2 met x)=qof_ (fun at' many left t19 t20 t21 o o_2 met=>w1 (q2g_ at' many left t19 t20 t21 o o_2 met)) (fun at' many left to' i t19 t20 t21 o o_2 met x=>w3 (q47_ at' many left to' i t19 t20 t21 o o_2 met x)) at' many left to' i t19 t20 t21 o o_2 met x:=by kernel_rfl
theorem q165_ (J:Orc (As [.bool,.int .i64,.int .i64])) (w1 w3:St->Option (As [.bool,.int .i64,.int .i64])) (at' many left to' i:Int) (t19:List YTT5) (t20 t21 o o_2:Int) (met:List Bool) (x:qk_):pfn Tryz.prog q22_ 6 18446744073709551616 (Ev.get q1y_) 258 q13_ J 125342 [w1,w3] (q47_ at' many left to' i t19 t20 t21 o o_2 met x)=qch_ (fun at' many left to' i t19 t20 t21 o o_2 met x=>J 501369 [w1,w3] (qgy_ at' many left to' i t19 t20 t21 o o_2 met x)) (fun at' many left t19 t20 t21 o o_2 met=>w1 (q2g_ at' many left t19 t20 t21 o o_2 met)) (fun at' many left to' i t19 t20 t21 o o_2 met x=>w3 (q47_ at' many left to' i t19 t20 t21 o o_2 met x)) at' many left to' i t19 t20 t21 o o_2 met x:=by kernel_rfl
theorem q161_ (J:Orc (As [.bool,.int .i64,.int .i64])) (w1:St->Option (As [.bool,.int .i64,.int .i64])) (at' many left:Int) (t19:List YTT5) (t20 t21 o o_2:Int) (met:List Bool):pfn Tryz.prog q22_ 6 18446744073709551616 (Ev.get q1y_) 258 q13_ J 122 [w1] (q2g_ at' many left t19 t20 t21 o o_2 met)=qc6_ (fun left o o_2=>J 15 [] (qh5_ left o o_2)) (fun at' many left to' i t19 t20 t21 o o_2 met x=>J 125342 [w1] (q47_ at' many left to' i t19 t20 t21 o o_2 met x)) (fun at' many left t19 t20 t21 o o_2 met=>w1 (q2g_ at' many left t19 t20 t21 o o_2 met)) at' many left t19 t20 t21 o o_2 met:=by kernel_rfl
theorem q167_ (J:Orc (As [.bool,.int .i64,.int .i64])) (x:As [.sl (.pr (.int .i64) YTT12),.int .i64,.int .i64,.int .i64,.int .i64]):rfn Tryz.prog q22_ 6 18446744073709551616 (Ev.get q1y_) 258 q13_ J x=qgj_ (fun at' many left t19 t20 t21 o o_2 met=>J 122 [] (q2g_ at' many left t19 t20 t21 o o_2 met)) x.1 x.2.1 x.2.2.1 x.2.2.2.1 x.2.2.2.2.1:=by kernel_rfl
theorem q15b_ (left o o_2:Int):jfn Tryz.prog q22_ 6 18446744073709551616 (Ev.get q1y_) 258 q13_ 15 [] (qh5_ left o o_2)=q93_ left o o_2:=by
 rw [q8_ (by decide)]
 rw [q15u_]
 rfl
theorem q164_ (w1 w3:St->Option (As [.bool,.int .i64,.int .i64])) (at' many left to' i:Int) (t19:List YTT5) (t20 t21 o o_2:Int) (met:List Bool) (x:qk_):jfn Tryz.prog q22_ 6 18446744073709551616 (Ev.get q1y_) 258 q13_ 501369 [w1,w3] (qgy_ at' many left to' i t19 t20 t21 o o_2 met x)=q6w_ (fun at' many left t19 t20 t21 o o_2 met=>w1 (q2g_ at' many left t19 t20 t21 o o_2 met)) (fun at' many left to' i t19 t20 t21 o o_2 met x=>w3 (q47_ at' many left to' i t19 t20 t21 o o_2 met x)) at' many left to' i t19 t20 t21 o o_2 met x:=by
 rw [q8_ (by decide)]
 rw [q15e_]
 rfl
theorem q16c_ (w1:St->Option (As [.bool,.int .i64,.int .i64])) (at' many left to' i:Int) (t19:List YTT5) (t20 t21 o o_2:Int) (met:List Bool) (x:qk_):jfn Tryz.prog q22_ 6 18446744073709551616 (Ev.get q1y_) 258 q13_ 125342 [w1] (q47_ at' many left to' i t19 t20 t21 o o_2 met x)=q6y_ (fun at' many left t19 t20 t21 o o_2 met=>w1 (q2g_ at' many left t19 t20 t21 o o_2 met)) at' many left to' i t19 t20 t21 o o_2 met x:=by
 rw [q8_ (by decide)]
 rw [qr_ (by kernel_rfl)]
 refine qi_ (σ:=(Int)×(Int)×(Int)×(Int)×(Int)×(List YTT5)×(Int)×(Int)×(Int)×(Int)×(List Bool)×YTT5) (mk:=fun s=>q47_ s.1 s.2.1 s.2.2.1 s.2.2.2.1 s.2.2.2.2.1 s.2.2.2.2.2.1 s.2.2.2.2.2.2.1 s.2.2.2.2.2.2.2.1 s.2.2.2.2.2.2.2.2.1 s.2.2.2.2.2.2.2.2.2.1 s.2.2.2.2.2.2.2.2.2.2.1 s.2.2.2.2.2.2.2.2.2.2.2) (fun w3 s=>?_) 18446744073709551616 (at',many,left,to',i,t19,t20,t21,o,o_2,met,x)
 have e4:(fun at' many left to' i t19 t20 t21 o o_2 met x=>(jfn Tryz.prog q22_ 6 18446744073709551616 (Ev.get q1y_) 258 q13_) 501369 [w1,w3] (qgy_ at' many left to' i t19 t20 t21 o o_2 met x))=q6w_ (fun at' many left t19 t20 t21 o o_2 met=>w1 (q2g_ at' many left t19 t20 t21 o o_2 met)) (fun at' many left to' i t19 t20 t21 o o_2 met x=>w3 (q47_ at' many left to' i t19 t20 t21 o o_2 met x)):=by funext at' many left to' i t19 t20 t21 o o_2 met x; exact q164_ w1 w3 at' many left to' i t19 t20 t21 o o_2 met x
 refine (q165_ _ w1 w3 s.1 s.2.1 s.2.2.1 s.2.2.2.1 s.2.2.2.2.1 s.2.2.2.2.2.1 s.2.2.2.2.2.2.1 s.2.2.2.2.2.2.2.1 s.2.2.2.2.2.2.2.2.1 s.2.2.2.2.2.2.2.2.2.1 s.2.2.2.2.2.2.2.2.2.2.1 s.2.2.2.2.2.2.2.2.2.2.2).trans ?_
 rw [e4]
theorem q15y_ (at' many left:Int) (t19:List YTT5) (t20 t21 o o_2:Int) (met:List Bool):jfn Tryz.prog q22_ 6 18446744073709551616 (Ev.get q1y_) 258 q13_ 122 [] (q2g_ at' many left t19 t20 t21 o o_2 met)=qc5_ at' many left t19 t20 t21 o o_2 met:=by
 rw [q8_ (by decide)]
 rw [qr_ (by kernel_rfl)]
 refine qi_ (σ:=(Int)×(Int)×(Int)×(List YTT5)×(Int)×(Int)×(Int)×(Int)×(List Bool)) (mk:=fun s=>q2g_ s.1 s.2.1 s.2.2.1 s.2.2.2.1 s.2.2.2.2.1 s.2.2.2.2.2.1 s.2.2.2.2.2.2.1 s.2.2.2.2.2.2.2.1 s.2.2.2.2.2.2.2.2) (fun w1 s=>?_) 18446744073709551616 (at',many,left,t19,t20,t21,o,o_2,met)
 have e2:(fun left o o_2=>(jfn Tryz.prog q22_ 6 18446744073709551616 (Ev.get q1y_) 258 q13_) 15 [] (qh5_ left o o_2))=q93_:=by funext left o o_2; exact q15b_ left o o_2
 have e3:(fun at' many left to' i t19 t20 t21 o o_2 met x=>(jfn Tryz.prog q22_ 6 18446744073709551616 (Ev.get q1y_) 258 q13_) 125342 [w1] (q47_ at' many left to' i t19 t20 t21 o o_2 met x))=q6y_ (fun at' many left t19 t20 t21 o o_2 met=>w1 (q2g_ at' many left t19 t20 t21 o o_2 met)):=by funext at' many left to' i t19 t20 t21 o o_2 met x; exact q16c_ w1 at' many left to' i t19 t20 t21 o o_2 met x
 refine (q161_ _ w1 s.1 s.2.1 s.2.2.1 s.2.2.2.1 s.2.2.2.2.1 s.2.2.2.2.2.1 s.2.2.2.2.2.2.1 s.2.2.2.2.2.2.2.1 s.2.2.2.2.2.2.2.2).trans ?_
 rw [e2,e3]
theorem q17l_ (x:As [.sl (.pr (.int .i64) YTT12),.int .i64,.int .i64,.int .i64,.int .i64]):evT Tryz.prog q22_ 6 18446744073709551616 (Ev.get q1y_) 258 q13_ x=q6n_ x:=by
 have e1:(fun at' many left t19 t20 t21 o o_2 met=>(jfn Tryz.prog q22_ 6 18446744073709551616 (Ev.get q1y_) 258 q13_) 122 [] (q2g_ at' many left t19 t20 t21 o o_2 met))=qc5_:=by funext at' many left t19 t20 t21 o o_2 met; exact q15y_ at' many left t19 t20 t21 o o_2 met
 rw [q5_,q167_,e1]
 rfl
theorem qgk_:CtOk Tryz.prog (fun _=>True) 258 ⟨q13_,q6n_⟩:=q3_ (q0_ q30_ (q0_ q2z_ (q0_ qnp_ (q0_ q2n_ (q0_ q2m_ q4_))))) q17l_
@[reducible] def q5w_:Sh:=⟨[.d (.pr YTT1 (.sl .bool)),.d (.int .i64),.d (.int .i64)],[],[.pr YTT1 (.sl .bool),.int .i64,.int .i64],[.d (.bool)],[],0,[.bool]⟩
def qg6_:Env:=(cts [(258,(⟨q17_,q6j_⟩:Ct)),(258,(⟨q16_,q6m_⟩:Ct)),(258,(⟨q15_,q6o_⟩:Ct)),(258,(⟨q13_,q6n_⟩:Ct)),(259,(⟨q1g_,q12_⟩:Ct))])
def qg5_:List (Nat×Hint):=[]
def qf6_ (t:List YTT5×List Bool) (at' many:Int):Option (As [.bool]) :=
 Option.bind (q6j_ (t.1,at',many,())) fun y=>some (y.1,())
def q1w_ (x:As [.pr YTT1 (.sl .bool),.int .i64,.int .i64]):Option (As [.bool]):=qf6_ x.1 x.2.1 x.2.2.1
theorem qsv_ (J:Orc (As [.bool])) (x:As [.pr YTT1 (.sl .bool),.int .i64,.int .i64]):rfn Tryz.prog qg6_ 6 18446744073709551616 (Ev.get qg5_) 256 q5w_ J x=qf6_ x.1 x.2.1 x.2.2.1:=by kernel_rfl
theorem qtr_ (x:As [.pr YTT1 (.sl .bool),.int .i64,.int .i64]):evT Tryz.prog qg6_ 6 18446744073709551616 (Ev.get qg5_) 256 q5w_ x=q1w_ x:=by
 rw [q5_,qsv_]
 rfl
theorem qsm_:CtOk Tryz.prog (fun _=>True) 256 ⟨q5w_,q1w_⟩:=q3_ (q0_ qgn_ (q0_ qgx_ (q0_ qgb_ (q0_ qgk_ (q0_ q30_ q4_))))) qtr_
@[reducible] def q5v_:Sh:=⟨[.d (.pr YTT1 (.sl .bool)),.d (.int .i64),.d (.int .i64)],[],[.pr YTT1 (.sl .bool),.int .i64,.int .i64],[.d (.bool)],[],0,[.bool]⟩
def qg9_:Env:=(cts [(258,(⟨q17_,q6j_⟩:Ct)),(258,(⟨q16_,q6m_⟩:Ct)),(258,(⟨q15_,q6o_⟩:Ct)),(258,(⟨q13_,q6n_⟩:Ct)),(260,(⟨q1h_,qt_⟩:Ct))])
def qg7_:List (Nat×Hint):=[]
def qfp_ (t:List YTT5×List Bool) (at' many:Int):Option (As [.bool]) :=
 Option.bind (q6m_ (t.1,at',many,at',many,())) fun y=>some (y.1,())
def q1x_ (x:As [.pr YTT1 (.sl .bool),.int .i64,.int .i64]):Option (As [.bool]):=qfp_ x.1 x.2.1 x.2.2.1
theorem qss_ (J:Orc (As [.bool])) (x:As [.pr YTT1 (.sl .bool),.int .i64,.int .i64]):rfn Tryz.prog qg9_ 6 18446744073709551616 (Ev.get qg7_) 257 q5v_ J x=qfp_ x.1 x.2.1 x.2.2.1:=by kernel_rfl
theorem qu3_ (x:As [.pr YTT1 (.sl .bool),.int .i64,.int .i64]):evT Tryz.prog qg9_ 6 18446744073709551616 (Ev.get qg7_) 257 q5v_ x=q1x_ x:=by
 rw [q5_,qss_]
 rfl
theorem qsu_:CtOk Tryz.prog (fun _=>True) 257 ⟨q5v_,q1x_⟩:=q3_ (q0_ qgn_ (q0_ qgx_ (q0_ qgb_ (q0_ qgk_ (q0_ q2z_ q4_))))) qu3_
@[reducible] def q54_:Sh:=⟨[.d (.pr YTT1 (.sl (.int .u16))),.d (.int .i64),.d (.int .i64)],[],[.pr YTT1 (.sl (.int .u16)),.int .i64,.int .i64],[.d (.bool)],[],0,[.bool]⟩
def qeg_:Env:=(cts [(258,(⟨q17_,q6j_⟩:Ct)),(258,(⟨q16_,q6m_⟩:Ct)),(258,(⟨q15_,q6o_⟩:Ct)),(258,(⟨q13_,q6n_⟩:Ct)),(264,(⟨q1d_,qw_⟩:Ct))])
def qeh_:List (Nat×Hint):=[]
def qdd_ (t:List YTT5×List Int) (at' many:Int):Option (As [.bool]) :=
 Option.bind (q6o_ (t.1,at',many,())) fun y=>some (y.1,())
def q1i_ (x:As [.pr YTT1 (.sl (.int .u16)),.int .i64,.int .i64]):Option (As [.bool]):=qdd_ x.1 x.2.1 x.2.2.1
theorem qp9_ (J:Orc (As [.bool])) (x:As [.pr YTT1 (.sl (.int .u16)),.int .i64,.int .i64]):rfn Tryz.prog qeg_ 6 18446744073709551616 (Ev.get qeh_) 262 q54_ J x=qdd_ x.1 x.2.1 x.2.2.1:=by kernel_rfl
theorem qsc_ (x:As [.pr YTT1 (.sl (.int .u16)),.int .i64,.int .i64]):evT Tryz.prog qeg_ 6 18446744073709551616 (Ev.get qeh_) 262 q54_ x=q1i_ x:=by
 rw [q5_,qp9_]
 rfl
theorem qqm_:CtOk Tryz.prog (fun _=>True) 262 ⟨q54_,q1i_⟩:=q3_ (q0_ qgn_ (q0_ qgx_ (q0_ qgb_ (q0_ qgk_ (q0_ q2n_ q4_))))) qsc_
@[reducible] def q53_:Sh:=⟨[.d (.pr YTT1 (.sl (.int .u16))),.d (.int .i64),.d (.int .i64)],[],[.pr YTT1 (.sl (.int .u16)),.int .i64,.int .i64],[.d (.bool)],[],0,[.bool]⟩
def qei_:Env:=(cts [(258,(⟨q17_,q6j_⟩:Ct)),(258,(⟨q16_,q6m_⟩:Ct)),(258,(⟨q15_,q6o_⟩:Ct)),(258,(⟨q13_,q6n_⟩:Ct)),(265,(⟨q1b_,qo_⟩:Ct))])
def qef_:List (Nat×Hint):=[]
def qdr_ (t:List YTT5×List Int) (at' many:Int):Option (As [.bool]) :=
 Option.bind (q6n_ (t.1,at',many,at',many,())) fun y=>some (y.1,())
def q18_ (x:As [.pr YTT1 (.sl (.int .u16)),.int .i64,.int .i64]):Option (As [.bool]):=qdr_ x.1 x.2.1 x.2.2.1
theorem qqy_ (J:Orc (As [.bool])) (x:As [.pr YTT1 (.sl (.int .u16)),.int .i64,.int .i64]):rfn Tryz.prog qei_ 6 18446744073709551616 (Ev.get qef_) 263 q53_ J x=qdr_ x.1 x.2.1 x.2.2.1:=by kernel_rfl
theorem qsb_ (x:As [.pr YTT1 (.sl (.int .u16)),.int .i64,.int .i64]):evT Tryz.prog qei_ 6 18446744073709551616 (Ev.get qef_) 263 q53_ x=q18_ x:=by
 rw [q5_,qqy_]
 rfl
theorem qp1_:CtOk Tryz.prog (fun _=>True) 263 ⟨q53_,q18_⟩:=q3_ (q0_ qgn_ (q0_ qgx_ (q0_ qgb_ (q0_ qgk_ (q0_ q2m_ q4_))))) qsb_
@[reducible] def q4h_:Sh:=⟨[.d (.pr YTT1 (.pr YTT1 (.pr YTT1 YTT1))),.d (.pr (.int .u8) YTT4)],[],[.pr YTT1 (.pr YTT1 (.pr YTT1 YTT1)),.pr (.int .u8) YTT4],[.d (.int .u8)],[],0,[.int .u8]⟩
def q8n_:Env:=(cts [(58,(⟨q5d_,qbd_⟩:Ct)),(117,(⟨qjk_,qe0_⟩:Ct)),(124,(⟨qiu_,qgt_⟩:Ct)),(126,(⟨qfc_,q9y_⟩:Ct)),(256,(⟨q5w_,q1w_⟩:Ct)),(257,(⟨q5v_,q1x_⟩:Ct)),(262,(⟨q54_,q1i_⟩:Ct)),(263,(⟨q53_,q18_⟩:Ct))])
def q8k_:List (Nat×Hint):=[(509,⟨[],[60]⟩),(125,⟨[],[3,5,6,40,55,56,57,58,59]⟩)]
def qko_ (t40:Bool) (a:Int×Int×Int×Int×List Int×List Bool) (v:(List YTT5×List Bool)×(List YTT5×List Bool)×(List YTT5×List Int)×List YTT5×List Int) (u:Int×Int):St:={ fr:=[(3,.pb 0 0),(5,.pb 1 0),(6,.pb 2 0),(40,.d .bool t40)],nt:=61,up:=[],own:=[(0,.box 44 [.d (.int .u8) a.1,.d (.int .u16) a.2.1,.d (.int .u16) a.2.2.1,.d (.int .u16) a.2.2.2.1,.d (.sl (.int .u16)) a.2.2.2.2.1,.d (.sl .bool) a.2.2.2.2.2]),(1,.box 174 [.d YTT1 v.1.1,.d (.sl .bool) v.1.2,.d YTT1 v.2.1.1,.d (.sl .bool) v.2.1.2,.d YTT1 v.2.2.1.1,.d (.sl (.int .u16)) v.2.2.1.2,.d YTT1 v.2.2.2.1,.d (.sl (.int .u16)) v.2.2.2.2]),(2,.box 183 [.d (.int .i64) u.1,.d (.int .i64) u.2])],nx:=3,log:=[],ln:=0 }
def qkx_ (t60:Bool):St:={ fr:=[(60,.d .bool t60)],nt:=61,up:=[],own:=[],nx:=0,log:=[],ln:=0 }
def qzn_ (j2:Bool->Option (As [.int .u8])) (t40:Bool) (a:Int×Int×Int×Int×List Int×List Bool) (v:(List YTT5×List Bool)×(List YTT5×List Bool)×(List YTT5×List Int)×List YTT5×List Int) (u:Int×Int):Option (As [.int .u8]) :=
 if t40=true then some (2,()) else Option.bind (q9y_ (a,())) fun y=>if eqi u.2 1=true then Option.bind (q1x_ (v.1,y.1,y.2.1,())) fun y=>j2 !y.1 else if eqi u.2 2=true then Option.bind (q1x_ (v.2.1,y.1,y.2.1,())) fun y=>j2 !y.1 else if eqi u.2 3=true then Option.bind (q18_ (v.2.2.1,y.1,y.2.1,())) fun y=>j2 !y.1 else if eqi u.2 4=true then Option.bind (q18_ (v.2.2.2,y.1,y.2.1,())) fun y=>j2 !y.1 else j2 false
def qz8_ (t60:Bool):Option (As [.int .u8]) :=
 if t60=true then some (2,()) else some (0,())
def qkg_ (j1:Bool->Int×Int×Int×Int×List Int×List Bool->(List YTT5×List Bool)×(List YTT5×List Bool)×(List YTT5×List Int)×List YTT5×List Int->Int×Int->Option (As [.int .u8])) (s:List YTT5×List YTT5×List YTT5×List YTT5) (a:Int×Int×Int×Int×List Int×List Bool):Option (As [.int .u8]) :=
 Option.bind (qbd_ (a,())) fun y=>if (!y.1)=true then some (3,()) else Option.bind (qe0_ (s,([],[],[],[]),())) fun y=>Option.bind (qgt_ (a.1,())) fun y_1=>if eqi y_1.1.1 1=true then Option.bind (q1w_ (y.1.1,cvt .i64 a.2.1,cvt .i64 a.2.2.1,())) fun y_2=>j1 (!y_2.1) a y.1 y_1.1 else if eqi y_1.1.1 2=true then Option.bind (q1w_ (y.1.2.1,cvt .i64 a.2.1,cvt .i64 a.2.2.1,())) fun y_2=>j1 (!y_2.1) a y.1 y_1.1 else if eqi y_1.1.1 3=true then Option.bind (q1i_ (y.1.2.2.1,cvt .i64 a.2.1,cvt .i64 a.2.2.1,())) fun y_2=>j1 (!y_2.1) a y.1 y_1.1 else if eqi y_1.1.1 4=true then Option.bind (q1i_ (y.1.2.2.2,cvt .i64 a.2.1,cvt .i64 a.2.2.1,())) fun y_2=>j1 (!y_2.1) a y.1 y_1.1 else j1 false a y.1 y_1.1
def q5h_ (t60:Bool):Option (As [.int .u8]):=qz8_ t60
def q1e_ (t40:Bool) (a:Int×Int×Int×Int×List Int×List Bool) (v:(List YTT5×List Bool)×(List YTT5×List Bool)×(List YTT5×List Int)×List YTT5×List Int) (u:Int×Int):Option (As [.int .u8]):=qzn_ (q5h_) t40 a v u
def qbo_ (x:As [.pr YTT1 (.pr YTT1 (.pr YTT1 YTT1)),.pr (.int .u8) YTT4]):Option (As [.int .u8]):=qkg_ q1e_ x.1 x.2.1
theorem q19u_ (J:Orc (As [.int .u8])) (t60:Bool):pfn Tryz.prog q8n_ 6 18446744073709551616 (Ev.get q8k_) 54 q4h_ J 509 [] (qkx_ t60)=qz8_ t60:=by kernel_rfl
theorem q190_ (J:Orc (As [.int .u8])) (t40:Bool) (a:Int×Int×Int×Int×List Int×List Bool) (v:(List YTT5×List Bool)×(List YTT5×List Bool)×(List YTT5×List Int)×List YTT5×List Int) (u:Int×Int):pfn Tryz.prog q8n_ 6 18446744073709551616 (Ev.get q8k_) 54 q4h_ J 125 [] (qko_ t40 a v u)=qzn_ (fun t60=>J 509 [] (qkx_ t60)) t40 a v u:=by kernel_rfl
theorem q1a2_ (J:Orc (As [.int .u8])) (x:As [.pr YTT1 (.pr YTT1 (.pr YTT1 YTT1)),.pr (.int .u8) YTT4]):rfn Tryz.prog q8n_ 6 18446744073709551616 (Ev.get q8k_) 54 q4h_ J x=qkg_ (fun t40 a v u=>J 125 [] (qko_ t40 a v u)) x.1 x.2.1:=by kernel_rfl
theorem q1a0_ (t60:Bool):jfn Tryz.prog q8n_ 6 18446744073709551616 (Ev.get q8k_) 54 q4h_ 509 [] (qkx_ t60)=q5h_ t60:=by
 rw [q8_ (by decide)]
 rw [q19u_]
 rfl
theorem q19m_ (t40:Bool) (a:Int×Int×Int×Int×List Int×List Bool) (v:(List YTT5×List Bool)×(List YTT5×List Bool)×(List YTT5×List Int)×List YTT5×List Int) (u:Int×Int):jfn Tryz.prog q8n_ 6 18446744073709551616 (Ev.get q8k_) 54 q4h_ 125 [] (qko_ t40 a v u)=q1e_ t40 a v u:=by
 rw [q8_ (by decide)]
 have e2:(fun t60=>(jfn Tryz.prog q8n_ 6 18446744073709551616 (Ev.get q8k_) 54 q4h_) 509 [] (qkx_ t60))=q5h_:=funext fun t60=>q1a0_ t60
 rw [q190_,e2]
 rfl
theorem q1ag_ (x:As [.pr YTT1 (.pr YTT1 (.pr YTT1 YTT1)),.pr (.int .u8) YTT4]):evT Tryz.prog q8n_ 6 18446744073709551616 (Ev.get q8k_) 54 q4h_ x=qbo_ x:=by
 have e1:(fun t40 a v u=>(jfn Tryz.prog q8n_ 6 18446744073709551616 (Ev.get q8k_) 54 q4h_) 125 [] (qko_ t40 a v u))=q1e_:=by funext t40 a v u; exact q19m_ t40 a v u
 rw [q5_,q1a2_,e1]
 rfl
theorem qy0_:CtOk Tryz.prog (fun _=>True) 54 ⟨q4h_,qbo_⟩:=q3_ (q0_ qw2_ (q0_ q117_ (q0_ q10k_ (q0_ qxd_ (q0_ qsm_ (q0_ qsu_ (q0_ qqm_ (q0_ qp1_ q4_)))))))) q1ag_
@[reducible] def qaf_:Sh:=⟨[.d (.int .u8),.d (.int .u8)],[],[.int .u8,.int .u8],[.d (.pr (.int .u8) YTT3)],[],0,[.pr (.int .u8) YTT3]⟩
def q118_:Env:=(cts [])
def q11l_:List (Nat×Hint):=[]
def qz9_ (f except:Int):Option (As [.pr (.int .u8) YTT3]) :=
 some ((rem f 128,except,[],[],0,0),())
def qh_ (x:As [.int .u8,.int .u8]):Option (As [.pr (.int .u8) YTT3]):=qz9_ x.1 x.2.1
theorem q1a3_ (J:Orc (As [.pr (.int .u8) YTT3])) (x:As [.int .u8,.int .u8]):rfn Tryz.prog q118_ 6 18446744073709551616 (Ev.get q11l_) 120 qaf_ J x=qz9_ x.1 x.2.1:=by kernel_rfl
theorem q1ct_ (x:As [.int .u8,.int .u8]):evT Tryz.prog q118_ 6 18446744073709551616 (Ev.get q11l_) 120 qaf_ x=qh_ x:=by
 rw [q5_,q1a3_]
 rfl
theorem qkl_:CtOk Tryz.prog (fun _=>True) 120 ⟨qaf_,qh_⟩:=q3_ q4_ q1ct_
@[reducible] def q48_:Sh:=⟨[.d (.sl .bool),.d (.bool)],[],[.sl .bool,.bool],[.d (.int .i64)],[],0,[.int .i64]⟩
def q8e_:Env:=(cts [])
def q7m_:List (Nat×Hint):=[(26,⟨[],[0,1,7,8]⟩)]
def q51_ (s:List Bool) (v:Bool) (t7 t8:Int):St:={ fr:=[(0,.d (.sl .bool) s),(1,.d .bool v),(7,.d (.int .i64) t7),(8,.d (.int .i64) t8)],nt:=19,up:=[],own:=[],nx:=0,log:=[],ln:=0 }
def q4v_ (self1:List Bool->Bool->Int->Int->Option (As [.int .i64])) (s:List Bool) (v:Bool) (t7 t8:Int):Option (As [.int .i64]) :=
 if lt t8 t7=true then Option.bind (at? s t8) fun y=>if Sx.eqb v y=true then some (t8,()) else self1 s v t7 (add .i64 t8 1) else some (-1,())
def qa5_ (j1:List Bool->Bool->Int->Int->Option (As [.int .i64])) (s:List Bool) (v:Bool):Option (As [.int .i64]) :=
 j1 s v (Int.ofNat (List.length s)) 0
def q77_ (s:List Bool) (v:Bool) (t7 t8:Int):Option (As [.int .i64]) :=
 loopF (fun (self:(List Bool)×(Bool)×(Int)×(Int)->Option (As [.int .i64])) (s:(List Bool)×(Bool)×(Int)×(Int))=>q4v_ (fun s v t7 t8=>self (s,v,t7,t8)) s.1 s.2.1 s.2.2.1 s.2.2.2) 18446744073709551616 (s,v,t7,t8)
def q9u_ (x:As [.sl .bool,.bool]):Option (As [.int .i64]):=qa5_ q77_ x.1 x.2.1
theorem qyd_ (J:Orc (As [.int .i64])) (w1:St->Option (As [.int .i64])) (s:List Bool) (v:Bool) (t7 t8:Int):pfn Tryz.prog q8e_ 6 18446744073709551616 (Ev.get q7m_) 133 q48_ J 26 [w1] (q51_ s v t7 t8)=q4v_ (fun s v t7 t8=>w1 (q51_ s v t7 t8)) s v t7 t8:=by kernel_rfl
theorem qzj_ (J:Orc (As [.int .i64])) (x:As [.sl .bool,.bool]):rfn Tryz.prog q8e_ 6 18446744073709551616 (Ev.get q7m_) 133 q48_ J x=qa5_ (fun s v t7 t8=>J 26 [] (q51_ s v t7 t8)) x.1 x.2.1:=by kernel_rfl
theorem qyw_ (s:List Bool) (v:Bool) (t7 t8:Int):jfn Tryz.prog q8e_ 6 18446744073709551616 (Ev.get q7m_) 133 q48_ 26 [] (q51_ s v t7 t8)=q77_ s v t7 t8:=by
 rw [q8_ (by decide)]
 rw [qr_ (by kernel_rfl)]
 refine qi_ (σ:=(List Bool)×(Bool)×(Int)×(Int)) (mk:=fun s=>q51_ s.1 s.2.1 s.2.2.1 s.2.2.2) (fun w1 s=>?_) 18446744073709551616 (s,v,t7,t8)
 refine (qyd_ _ w1 s.1 s.2.1 s.2.2.1 s.2.2.2).trans ?_
 rfl
theorem qzr_ (x:As [.sl .bool,.bool]):evT Tryz.prog q8e_ 6 18446744073709551616 (Ev.get q7m_) 133 q48_ x=q9u_ x:=by
 have e1:(fun s v t7 t8=>(jfn Tryz.prog q8e_ 6 18446744073709551616 (Ev.get q7m_) 133 q48_) 26 [] (q51_ s v t7 t8))=q77_:=by funext s v t7 t8; exact qyw_ s v t7 t8
 rw [q5_,qzj_,e1]
 rfl
theorem qzl_:CtOk Tryz.prog (fun _=>True) 133 ⟨q48_,q9u_⟩:=q3_ q4_ qzr_
@[reducible] def q8s_:Sh:=⟨[.d (.sl .bool),.d (.bool)],[],[.sl .bool,.bool],[.d (.bool)],[],0,[.bool]⟩
def qlc_:Env:=(cts [(133,(⟨q48_,q9u_⟩:Ct))])
def ql6_:List (Nat×Hint):=[]
def q83_ (s:List Bool) (v:Bool):Option (As [.bool]) :=
 Option.bind (q9u_ (s,v,())) fun y=>some (ge y.1 0,())
def q50_ (x:As [.sl .bool,.bool]):Option (As [.bool]):=q83_ x.1 x.2.1
theorem qvs_ (J:Orc (As [.bool])) (x:As [.sl .bool,.bool]):rfn Tryz.prog qlc_ 6 18446744073709551616 (Ev.get ql6_) 70 q8s_ J x=q83_ x.1 x.2.1:=by kernel_rfl
theorem qws_ (x:As [.sl .bool,.bool]):evT Tryz.prog qlc_ 6 18446744073709551616 (Ev.get ql6_) 70 q8s_ x=q50_ x:=by
 rw [q5_,qvs_]
 rfl
theorem qw0_:CtOk Tryz.prog (fun _=>True) 70 ⟨q8s_,q50_⟩:=q3_ (q0_ qzl_ q4_) qws_
@[reducible] def qh8_:Sh:=⟨[.d (.int .u32)],[],[.int .u32],[.d (.int .u16),.d (.int .u16)],[],0,[.int .u16,.int .u16]⟩
def q10q_:Env:=(cts [])
def q10g_:List (Nat×Hint):=[]
def qk5_ (x:Int):Option (As [.int .u16,.int .u16]) :=
 some (cvt .u16 (Sx.shr .u32 x 16),cvt .u16 x,())
def q7i_ (x:As [.int .u32]):Option (As [.int .u16,.int .u16]):=qk5_ x.1
theorem q182_ (J:Orc (As [.int .u16,.int .u16])) (x:As [.int .u32]):rfn Tryz.prog q10q_ 6 18446744073709551616 (Ev.get q10g_) 71 qh8_ J x=qk5_ x.1:=by kernel_rfl
theorem q1ck_ (x:As [.int .u32]):evT Tryz.prog q10q_ 6 18446744073709551616 (Ev.get q10g_) 71 qh8_ x=q7i_ x:=by
 rw [q5_,q182_]
 rfl
theorem qxy_:CtOk Tryz.prog (fun _=>True) 71 ⟨qh8_,q7i_⟩:=q3_ q4_ q1ck_
@[reducible] def qc7_:Sh:=⟨[.d (.int .u16)],[],[.int .u16],[.d (.pr (.int .u16) (.int .i64))],[],0,[.pr (.int .u16) (.int .i64)]⟩
def q138_:Env:=(cts [])
def q12f_:List (Nat×Hint):=[]
def q10s_ (owner:Int):Option (As [.pr (.int .u16) (.int .i64)]) :=
 some ((owner,-1),())
def q6l_ (x:As [.int .u16]):Option (As [.pr (.int .u16) (.int .i64)]):=q10s_ x.1
theorem q1ak_ (J:Orc (As [.pr (.int .u16) (.int .i64)])) (x:As [.int .u16]):rfn Tryz.prog q138_ 6 18446744073709551616 (Ev.get q12f_) 207 qc7_ J x=q10s_ x.1:=by kernel_rfl
theorem q1ef_ (x:As [.int .u16]):evT Tryz.prog q138_ 6 18446744073709551616 (Ev.get q12f_) 207 qc7_ x=q6l_ x:=by
 rw [q5_,q1ak_]
 rfl
theorem qo8_:CtOk Tryz.prog (fun _=>True) 207 ⟨qc7_,q6l_⟩:=q3_ q4_ q1ef_
@[reducible] def qng_:Sh:=⟨[.d (.pr (.int .u16) (.int .i64))],[],[.pr (.int .u16) (.int .i64)],[.d (.bool)],[],0,[.bool]⟩
def q11f_:Env:=(cts [(207,(⟨qc7_,q6l_⟩:Ct))])
def q10m_:List (Nat×Hint):=[]
def qku_ (l:Int×Int):Option (As [.bool]) :=
 if eqi l.1 0=true then some (eqi l.1 0 && (eqi l.2 0 && true),()) else if ge l.2 1=true then some (true,()) else Option.bind (q6l_ (l.1,())) fun y=>some (eqi l.1 y.1.1 && (eqi l.2 y.1.2 && true),())
def qmf_ (x:As [.pr (.int .u16) (.int .i64)]):Option (As [.bool]):=qku_ x.1
theorem q191_ (J:Orc (As [.bool])) (x:As [.pr (.int .u16) (.int .i64)]):rfn Tryz.prog q11f_ 6 18446744073709551616 (Ev.get q10m_) 197 qng_ J x=qku_ x.1:=by kernel_rfl
theorem q1bs_ (x:As [.pr (.int .u16) (.int .i64)]):evT Tryz.prog q11f_ 6 18446744073709551616 (Ev.get q10m_) 197 qng_ x=qmf_ x:=by
 rw [q5_,q191_]
 rfl
theorem q18c_:CtOk Tryz.prog (fun _=>True) 197 ⟨qng_,qmf_⟩:=q3_ (q0_ qo8_ q4_) q1bs_
@[reducible] def q7o_:Sh:=⟨[.d (.pr (.int .u16) (.int .i64))],[],[.pr (.int .u16) (.int .i64)],[.d (.pr (.int .u16) (.int .i64))],[],0,[.pr (.int .u16) (.int .i64)]⟩
def qx7_:Env:=(cts [(197,(⟨qng_,qmf_⟩:Ct))])
def qx2_:List (Nat×Hint):=[]
def qgg_ (l:Int×Int):Option (As [.pr (.int .u16) (.int .i64)]) :=
 Option.bind (qmf_ (l,())) fun y=>if (!y.1)=true then some ((0,0),()) else some (l,())
def q4b_ (x:As [.pr (.int .u16) (.int .i64)]):Option (As [.pr (.int .u16) (.int .i64)]):=qgg_ x.1
theorem q152_ (J:Orc (As [.pr (.int .u16) (.int .i64)])) (x:As [.pr (.int .u16) (.int .i64)]):rfn Tryz.prog qx7_ 6 18446744073709551616 (Ev.get qx2_) 167 q7o_ J x=qgg_ x.1:=by kernel_rfl
theorem q17d_ (x:As [.pr (.int .u16) (.int .i64)]):evT Tryz.prog qx7_ 6 18446744073709551616 (Ev.get qx2_) 167 q7o_ x=q4b_ x:=by
 rw [q5_,q152_]
 rfl
theorem qgw_:CtOk Tryz.prog (fun _=>True) 167 ⟨q7o_,q4b_⟩:=q3_ (q0_ q18c_ q4_) q17d_
@[reducible] def q9x_:Sh:=⟨[.d (.pr (.int .u16) (.int .i64))],[],[.pr (.int .u16) (.int .i64)],[.d (.bool)],[],0,[.bool]⟩
def q12i_:Env:=(cts [(167,(⟨q7o_,q4b_⟩:Ct))])
def q12h_:List (Nat×Hint):=[]
def qnn_ (l:Int×Int):Option (As [.bool]) :=
 Option.bind (q4b_ (l,())) fun y=>some (eqi y.1.1 0 && (eqi y.1.2 0 && true),())
def q5j_ (x:As [.pr (.int .u16) (.int .i64)]):Option (As [.bool]):=qnn_ x.1
theorem q1cs_ (J:Orc (As [.bool])) (x:As [.pr (.int .u16) (.int .i64)]):rfn Tryz.prog q12i_ 6 18446744073709551616 (Ev.get q12h_) 113 q9x_ J x=qnn_ x.1:=by kernel_rfl
theorem q1gy_ (x:As [.pr (.int .u16) (.int .i64)]):evT Tryz.prog q12i_ 6 18446744073709551616 (Ev.get q12h_) 113 q9x_ x=q5j_ x:=by
 rw [q5_,q1cs_]
 rfl
theorem qho_:CtOk Tryz.prog (fun _=>True) 113 ⟨q9x_,q5j_⟩:=q3_ (q0_ qgw_ q4_) q1gy_
@[reducible] def qad_:Sh:=⟨[.d (.pr (.int .u32) (.pr (.ar 8 .bool) (.ar 8 YTT8)))],[],[.pr (.int .u32) (.pr (.ar 8 .bool) (.ar 8 YTT8))],[.d (.int .i64)],[],0,[.int .i64]⟩
def qhs_:Env:=(cts [(2000033,Ev.bxCt)])
def qht_:List (Nat×Hint):=[(58,⟨[],[3,7,8]⟩)]
def qbx_ (n:Int) (t7:List Bool) (t8:Int):St:={ fr:=[(3,.d (.int .i64) n),(7,.d (.ar 8 .bool) t7),(8,.d (.int .i64) t8)],nt:=16,up:=[],own:=[],nx:=0,log:=[],ln:=0 }
def qbt_ (self1:Int->List Bool->Int->Option (As [.int .i64])) (n:Int) (t7:List Bool) (t8:Int):Option (As [.int .i64]) :=
 if lt t8 8=true then need (lt t8 8) (Option.bind (at? t7 t8) fun y=>if y=true then self1 (add .i64 n 1) t7 (add .i64 t8 1) else self1 n t7 (add .i64 t8 1)) else some (n,())
def qyj_ (j1:Int->List Bool->Int->Option (As [.int .i64])) (s:Int×List Bool×List (Int×List Int)):Option (As [.int .i64]) :=
 j1 0 s.2.1 0
def qg2_ (n:Int) (t7:List Bool) (t8:Int):Option (As [.int .i64]) :=
 loopF (fun (self:(Int)×(List Bool)×(Int)->Option (As [.int .i64])) (s:(Int)×(List Bool)×(Int))=>qbt_ (fun n t7 t8=>self (n,t7,t8)) s.1 s.2.1 s.2.2) 18446744073709551616 (n,t7,t8)
def qm5_ (x:As [.pr (.int .u32) (.pr (.ar 8 .bool) (.ar 8 YTT8))]):Option (As [.int .i64]):=qyj_ qg2_ x.1
theorem q19g_ (J:Orc (As [.int .i64])) (w1:St->Option (As [.int .i64])) (n:Int) (t7:List Bool) (t8:Int):pfn Tryz.prog qhs_ 6 18446744073709551616 (Ev.get qht_) 142 qad_ J 58 [w1] (qbx_ n t7 t8)=qbt_ (fun n t7 t8=>w1 (qbx_ n t7 t8)) n t7 t8:=by kernel_rfl
theorem q1a1_ (J:Orc (As [.int .i64])) (x:As [.pr (.int .u32) (.pr (.ar 8 .bool) (.ar 8 YTT8))]):rfn Tryz.prog qhs_ 6 18446744073709551616 (Ev.get qht_) 142 qad_ J x=qyj_ (fun n t7 t8=>J 58 [] (qbx_ n t7 t8)) x.1:=by kernel_rfl
theorem q17u_ (n:Int) (t7:List Bool) (t8:Int):jfn Tryz.prog qhs_ 6 18446744073709551616 (Ev.get qht_) 142 qad_ 58 [] (qbx_ n t7 t8)=qg2_ n t7 t8:=by
 rw [q8_ (by decide)]
 rw [qr_ (by kernel_rfl)]
 refine qi_ (σ:=(Int)×(List Bool)×(Int)) (mk:=fun s=>qbx_ s.1 s.2.1 s.2.2) (fun w1 s=>?_) 18446744073709551616 (n,t7,t8)
 refine (q19g_ _ w1 s.1 s.2.1 s.2.2).trans ?_
 rfl
theorem q1d3_ (x:As [.pr (.int .u32) (.pr (.ar 8 .bool) (.ar 8 YTT8))]):evT Tryz.prog qhs_ 6 18446744073709551616 (Ev.get qht_) 142 qad_ x=qm5_ x:=by
 have e1:(fun n t7 t8=>(jfn Tryz.prog qhs_ 6 18446744073709551616 (Ev.get qht_) 142 qad_) 58 [] (qbx_ n t7 t8))=qg2_:=by funext n t7 t8; exact q17u_ n t7 t8
 rw [q5_,q1a1_,e1]
 rfl
theorem q18r_:CtOk Tryz.prog (fun _=>True) 142 ⟨qad_,qm5_⟩:=q3_ (q0_ Ev.bx_ok q4_) q1d3_
@[reducible] def q8z_:Sh:=⟨[.d (.pr (.sl (.int .u16)) YTT0)],[],[.pr (.sl (.int .u16)) YTT0],[.d (.sl (.int .u16))],[],0,[.sl (.int .u16)]⟩
def qff_:Env:=(cts [(2000035,Ev.bxCt),(71,(⟨qh8_,q7i_⟩:Ct)),(113,(⟨q9x_,q5j_⟩:Ct)),(142,(⟨qad_,qm5_⟩:Ct))])
def qf2_:List (Nat×Hint):=[(7,⟨[],[1,3]⟩)]
def qie_ (a:List Int×(Int×Int)×Int×Int×Int×YTT9×Int) (owner:Int):St:={ fr:=[(1,.pe (.pr (.sl (.int .u16)) YTT0) a),(3,.d (.int .u16) owner)],nt:=39,up:=[],own:=[],nx:=0,log:=[],ln:=0 }
def qis_ (a:List Int×(Int×Int)×Int×Int×Int×YTT9×Int) (owner:Int):Option (As [.sl (.int .u16)]) :=
 Option.bind (q7i_ (a.2.2.2.1,())) fun y=>Option.bind (q7i_ (a.2.2.2.2.1,())) fun y_1=>Option.bind (qm5_ (a.2.2.2.2.2.1,())) fun y_2=>some ([owner,cvt .u16 a.2.2.1,y.1,y.2.1,y_1.1,y_1.2.1,cvt .u16 y_2.1,0],())
def qi7_ (j1:List Int×(Int×Int)×Int×Int×Int×YTT9×Int->Int->Option (As [.sl (.int .u16)])) (a:List Int×(Int×Int)×Int×Int×Int×YTT9×Int):Option (As [.sl (.int .u16)]) :=
 Option.bind (q5j_ (a.2.1,())) fun y=>if y.1=true then j1 a 0 else j1 a a.2.1.1
def qdm_ (a:List Int×(Int×Int)×Int×Int×Int×YTT9×Int) (owner:Int):Option (As [.sl (.int .u16)]):=qis_ a owner
def q7_ (x:As [.pr (.sl (.int .u16)) YTT0]):Option (As [.sl (.int .u16)]):=qi7_ qdm_ x.1
theorem q16j_ (J:Orc (As [.sl (.int .u16)])) (a:List Int×(Int×Int)×Int×Int×Int×YTT9×Int) (owner:Int):pfn Tryz.prog qff_ 6 18446744073709551616 (Ev.get qf2_) 112 q8z_ J 7 [] (qie_ a owner)=qis_ a owner:=by kernel_rfl
theorem q175_ (J:Orc (As [.sl (.int .u16)])) (x:As [.pr (.sl (.int .u16)) YTT0]):rfn Tryz.prog qff_ 6 18446744073709551616 (Ev.get qf2_) 112 q8z_ J x=qi7_ (fun a owner=>J 7 [] (qie_ a owner)) x.1:=by kernel_rfl
theorem q16g_ (a:List Int×(Int×Int)×Int×Int×Int×YTT9×Int) (owner:Int):jfn Tryz.prog qff_ 6 18446744073709551616 (Ev.get qf2_) 112 q8z_ 7 [] (qie_ a owner)=qdm_ a owner:=by
 rw [q8_ (by decide)]
 rw [q16j_]
 rfl
theorem q19a_ (x:As [.pr (.sl (.int .u16)) YTT0]):evT Tryz.prog qff_ 6 18446744073709551616 (Ev.get qf2_) 112 q8z_ x=q7_ x:=by
 have e1:(fun a owner=>(jfn Tryz.prog qff_ 6 18446744073709551616 (Ev.get qf2_) 112 q8z_) 7 [] (qie_ a owner))=qdm_:=by funext a owner; exact q16g_ a owner
 rw [q5_,q175_,e1]
 rfl
theorem q16o_:CtOk Tryz.prog (fun _=>True) 112 ⟨q8z_,q7_⟩:=q3_ (q0_ Ev.bx_ok (q0_ qxy_ (q0_ qho_ (q0_ q18r_ q4_)))) q19a_
@[reducible] def qf4_:Sh:=⟨[.d (.int .i64)],[],[.int .i64],[.d (.bool)],[],0,[.bool]⟩
def qyr_:Env:=(cts [])
def qym_:List (Nat×Hint):=[]
def qif_ (n:Int):Option (As [.bool]) :=
 if ge n 0=true then some (lt n 8,()) else some (false,())
def q9m_ (x:As [.int .i64]):Option (As [.bool]):=qif_ x.1
theorem q16n_ (J:Orc (As [.bool])) (x:As [.int .i64]):rfn Tryz.prog qyr_ 6 18446744073709551616 (Ev.get qym_) 75 qf4_ J x=qif_ x.1:=by kernel_rfl
theorem q1a6_ (x:As [.int .i64]):evT Tryz.prog qyr_ 6 18446744073709551616 (Ev.get qym_) 75 qf4_ x=q9m_ x:=by
 rw [q5_,q16n_]
 rfl
theorem qx4_:CtOk Tryz.prog (fun _=>True) 75 ⟨qf4_,q9m_⟩:=q3_ q4_ q1a6_
@[reducible] def qks_:Sh:=⟨[.d (.int .u16),.d (.int .u32),.d (.int .i64),.d YTT8],[],[.int .u16,.int .u32,.int .i64,.pr (.int .i64) (.sl (.int .u16))],[.d (.sl (.int .u16))],[],0,[.sl (.int .u16)]⟩
def qz4_:Env:=(cts [(71,(⟨qh8_,q7i_⟩:Ct)),(73,(⟨q32_,q7n_⟩:Ct))])
def qyz_:List (Nat×Hint):=[]
def qin_ (owner tx n:Int) (x:Int×List Int):Option (As [.sl (.int .u16)]) :=
 Option.bind (q7i_ (tx,())) fun y=>need (small (0 + Nat.succ (Nat.succ (Nat.succ (Nat.succ 0))))) (Option.bind (q7n_ (x,())) fun y_1=>need (small (Nat.succ (Nat.succ (Nat.succ (Nat.succ 0))) + List.length y_1.1)) (some (owner::y.1::y.2.1::cvt .u16 n::y_1.1,())))
def qfa_ (x:As [.int .u16,.int .u32,.int .i64,.pr (.int .i64) (.sl (.int .u16))]):Option (As [.sl (.int .u16)]):=qin_ x.1 x.2.1 x.2.2.1 x.2.2.2.1
theorem q16i_ (J:Orc (As [.sl (.int .u16)])) (x:As [.int .u16,.int .u32,.int .i64,.pr (.int .i64) (.sl (.int .u16))]):rfn Tryz.prog qz4_ 6 18446744073709551616 (Ev.get qyz_) 77 qks_ J x=qin_ x.1 x.2.1 x.2.2.1 x.2.2.2.1:=by kernel_rfl
theorem q18f_ (x:As [.int .u16,.int .u32,.int .i64,.pr (.int .i64) (.sl (.int .u16))]):evT Tryz.prog qz4_ 6 18446744073709551616 (Ev.get qyz_) 77 qks_ x=qfa_ x:=by
 rw [q5_,q16i_]
 rfl
theorem q17p_:CtOk Tryz.prog (fun _=>True) 77 ⟨qks_,qfa_⟩:=q3_ (q0_ qxy_ (q0_ qr2_ q4_)) q18f_
@[reducible] def qc2_:Sh:=⟨[.d (.pr (.int .u32) (.pr (.ar 8 .bool) (.ar 8 YTT8))),.d (.int .u16),.d (.int .i64)],[],[.pr (.int .u32) (.pr (.ar 8 .bool) (.ar 8 YTT8)),.int .u16,.int .i64],[.d (.sl (.int .u16))],[],0,[.sl (.int .u16)]⟩
def qj0_:Env:=(cts [(2000033,Ev.bxCt),(75,(⟨qf4_,q9m_⟩:Ct)),(77,(⟨qks_,qfa_⟩:Ct))])
def qjg_:List (Nat×Hint):=[(6,⟨[],[1,2,3,16]⟩)]
def qmp_ (owner n:Int) (s:Int×List Bool×List (Int×List Int)) (t16:Bool):St:={ fr:=[(1,.d (.int .u16) owner),(2,.d (.int .i64) n),(3,.pe (.pr (.int .u32) (.pr (.ar 8 .bool) (.ar 8 YTT8))) s),(16,.d .bool t16)],nt:=27,up:=[],own:=[],nx:=0,log:=[],ln:=0 }
def qmn_ (owner n:Int) (s:Int×List Bool×List (Int×List Int)) (t16:Bool):Option (As [.sl (.int .u16)]) :=
 if t16=true then some ([0,0,0,0,0,0,0,0,0,0,0,0,0,0,0,0,0,0,0,0],()) else Option.bind (at? s.2.2 n) fun y=>Option.bind (qfa_ (owner,s.1,n,y,())) fun y=>some (y.1,())
def qnc_ (j1:Int->Int->Int×List Bool×List (Int×List Int)->Bool->Option (As [.sl (.int .u16)])) (s:Int×List Bool×List (Int×List Int)) (owner n:Int):Option (As [.sl (.int .u16)]) :=
 Option.bind (q9m_ (n,())) fun y=>if (!y.1)=true then j1 owner n s true else Option.bind (at? s.2.1 n) fun y=>j1 owner n s !y
def qmz_ (owner n:Int) (s:Int×List Bool×List (Int×List Int)) (t16:Bool):Option (As [.sl (.int .u16)]):=qmn_ owner n s t16
def qq9_ (x:As [.pr (.int .u32) (.pr (.ar 8 .bool) (.ar 8 YTT8)),.int .u16,.int .i64]):Option (As [.sl (.int .u16)]):=qnc_ qmz_ x.1 x.2.1 x.2.2.1
theorem q1de_ (J:Orc (As [.sl (.int .u16)])) (owner n:Int) (s:Int×List Bool×List (Int×List Int)) (t16:Bool):pfn Tryz.prog qj0_ 6 18446744073709551616 (Ev.get qjg_) 114 qc2_ J 6 [] (qmp_ owner n s t16)=qmn_ owner n s t16:=by kernel_rfl
theorem q1av_ (J:Orc (As [.sl (.int .u16)])) (x:As [.pr (.int .u32) (.pr (.ar 8 .bool) (.ar 8 YTT8)),.int .u16,.int .i64]):rfn Tryz.prog qj0_ 6 18446744073709551616 (Ev.get qjg_) 114 qc2_ J x=qnc_ (fun owner n s t16=>J 6 [] (qmp_ owner n s t16)) x.1 x.2.1 x.2.2.1:=by kernel_rfl
theorem q1cg_ (owner n:Int) (s:Int×List Bool×List (Int×List Int)) (t16:Bool):jfn Tryz.prog qj0_ 6 18446744073709551616 (Ev.get qjg_) 114 qc2_ 6 [] (qmp_ owner n s t16)=qmz_ owner n s t16:=by
 rw [q8_ (by decide)]
 rw [q1de_]
 rfl
theorem q1fp_ (x:As [.pr (.int .u32) (.pr (.ar 8 .bool) (.ar 8 YTT8)),.int .u16,.int .i64]):evT Tryz.prog qj0_ 6 18446744073709551616 (Ev.get qjg_) 114 qc2_ x=qq9_ x:=by
 have e1:(fun owner n s t16=>(jfn Tryz.prog qj0_ 6 18446744073709551616 (Ev.get qjg_) 114 qc2_) 6 [] (qmp_ owner n s t16))=qmz_:=by funext owner n s t16; exact q1cg_ owner n s t16
 rw [q5_,q1av_,e1]
 rfl
theorem q1cn_:CtOk Tryz.prog (fun _=>True) 114 ⟨qc2_,qq9_⟩:=q3_ (q0_ Ev.bx_ok (q0_ qx4_ (q0_ q17p_ q4_))) q1fp_
@[reducible] def q2_:Sh:=⟨[.d (.pr (.int .u8) (.pr (.int .u8) (.pr (.pr (.sl (.int .u16)) YTT0) (.sl .bool))))],[],[.pr (.int .u8) (.pr (.int .u8) (.pr (.pr (.sl (.int .u16)) YTT0) (.sl .bool)))],[.d (.pr (.sl .bool) YTT10)],[],0,[.pr (.sl .bool) YTT10]⟩
def q67_:Env:=(cts [(2000038,Ev.bxCt),(70,(⟨q8s_,q50_⟩:Ct)),(112,(⟨q8z_,q7_⟩:Ct)),(113,(⟨q9x_,q5j_⟩:Ct)),(114,(⟨qc2_,qq9_⟩:Ct))])
def q6b_:List (Nat×Hint):=[(3,⟨[],[1,2,3]⟩),(15,⟨[],[1,2,3]⟩),(4090,⟨[],[1,2,3,57]⟩)]
def qq1_ (s:Int×Int×YTT2×List Bool) (m:List Int) (o o_2:List Bool) (o_3:List Int):St:={ fr:=[(1,.pe (.pr (.int .u8) (.pr (.int .u8) (.pr (.pr (.sl (.int .u16)) YTT0) (.sl .bool)))) s),(2,.pb 0 0),(3,.pb 1 0)],nt:=78,up:=[],own:=[(0,.box 96 [.k (Go.Value.slice Option.none 0 0),.k (Go.Value.slice Option.none 0 0),.k (Go.Value.slice Option.none 0 0),.k (Go.Value.slice Option.none 0 0)]),(1,.box 96 [.row 2,.row 3,.row 4,.d (.sl (.int .u16)) m]),(2,.row .bool 4 o),(3,.row .bool 4 o_2),(4,.row (.int .u16) 23 o_3)],nx:=5,log:=[],ln:=0 }
def qra_ (s:Int×Int×YTT2×List Bool) (m:List Int) (o o_2:List Bool) (o_3:List Int):St:={ fr:=[(1,.pe (.pr (.int .u8) (.pr (.int .u8) (.pr (.pr (.sl (.int .u16)) YTT0) (.sl .bool)))) s),(2,.pb 0 0),(3,.pb 1 0)],nt:=78,up:=[],own:=[(0,.box 96 [.k (Go.Value.slice Option.none 0 0),.k (Go.Value.slice Option.none 0 0),.k (Go.Value.slice Option.none 0 0),.k (Go.Value.slice Option.none 0 0)]),(1,.box 96 [.row 2,.row 3,.row 4,.d (.sl (.int .u16)) m]),(2,.row .bool 4 o),(3,.row .bool 4 o_2),(4,.row (.int .u16) 23 o_3)],nx:=5,log:=[],ln:=0 }
def qg0_ (s:Int×Int×YTT2×List Bool) (t57:Int) (m:List Int) (o o_2:List Bool) (o_3:List Int):St:={ fr:=[(1,.pe (.pr (.int .u8) (.pr (.int .u8) (.pr (.pr (.sl (.int .u16)) YTT0) (.sl .bool)))) s),(2,.pb 0 0),(3,.pb 1 0),(57,.d (.int .i64) t57)],nt:=78,up:=[],own:=[(0,.box 96 [.k (Go.Value.slice Option.none 0 0),.k (Go.Value.slice Option.none 0 0),.k (Go.Value.slice Option.none 0 0),.k (Go.Value.slice Option.none 0 0)]),(1,.box 96 [.row 2,.row 3,.row 4,.d (.sl (.int .u16)) m]),(2,.row .bool 4 o),(3,.row .bool 4 o_2),(4,.row (.int .u16) 23 o_3)],nx:=5,log:=[],ln:=0 }
def qqp_ (j2:Int×Int×YTT2×List Bool->List Int->List Bool->List Bool->List Int->Option (As [.pr (.sl .bool) YTT10])) (s:Int×Int×YTT2×List Bool) (m:List Int) (o o_2:List Bool) (o_3:List Int):Option (As [.pr (.sl .bool) YTT10]) :=
 need (le (Int.ofNat (0 + List.length o)) (Int.ofNat (List.length o))) (if le s.2.2.1.2.2.1 2=true then Option.bind (at? o_2 s.2.2.1.2.2.1) fun x=>Option.bind (at? o_2 s.2.2.1.2.2.1) fun x=>j2 s m (List.take (Int.toNat (Int.ofNat (List.length o))) s.2.2.2++List.drop (0 + List.length (List.take (Int.toNat (Int.ofNat (List.length o))) s.2.2.2)) o) (List.set o_2 (Int.toNat s.2.2.1.2.2.1) true) o_3 else j2 s m (List.take (Int.toNat (Int.ofNat (List.length o))) s.2.2.2++List.drop (0 + List.length (List.take (Int.toNat (Int.ofNat (List.length o))) s.2.2.2)) o) o_2 o_3)
def qqs_ (j3:Int×Int×YTT2×List Bool->Int->List Int->List Bool->List Bool->List Int->Option (As [.pr (.sl .bool) YTT10])) (s:Int×Int×YTT2×List Bool) (m:List Int) (o o_2:List Bool) (o_3:List Int):Option (As [.pr (.sl .bool) YTT10]) :=
 Option.bind (q5j_ (s.2.2.1.2.1,())) fun y=>Option.bind (at? o_2 4) fun x=>Option.bind (at? o_2 4) fun x=>Option.bind (q50_ (List.take 8 (List.drop 0 s.2.2.1.2.2.2.2.2.1.2.1),true,())) fun y_1=>Option.bind (at? (List.set o_2 4 !y.1) 5) fun x=>Option.bind (at? (List.set o_2 4 !y.1) 5) fun x=>need (le (Int.ofNat (List.length o_3)) (Int.ofNat (List.length o_3))) (need (le 64 (Int.ofNat (List.length o_3 + 0))) (need (le 64 (Int.ofNat (List.length o_3))) (need (le 256 (Int.ofNat (List.length (List.take 64 s.2.2.1.1++List.drop (0 + List.length (List.take 64 s.2.2.1.1)) o_3)))) (need (le (Int.ofNat (List.length (List.take 64 s.2.2.1.1++List.drop (0 + List.length (List.take 64 s.2.2.1.1)) o_3))) (Int.ofNat (List.length (List.take 64 s.2.2.1.1++List.drop (0 + List.length (List.take 64 s.2.2.1.1)) o_3)))) (need (le (256 + (Int.ofNat (List.length (List.take 64 s.2.2.1.1++List.drop (0 + List.length (List.take 64 s.2.2.1.1)) o_3)) - 256)) (Int.ofNat (List.length (List.take 64 s.2.2.1.1++List.drop (0 + List.length (List.take 64 s.2.2.1.1)) o_3)))) (j3 s 0 m o (List.set (List.set o_2 4 !y.1) 5 y_1.1) (List.take 256 (List.take 64 s.2.2.1.1++List.drop (0 + List.length (List.take 64 s.2.2.1.1)) o_3)++List.take (Int.toNat (Int.ofNat (List.length (List.take 64 s.2.2.1.1++List.drop (0 + List.length (List.take 64 s.2.2.1.1)) o_3)) - 256)) m++List.drop (256 + List.length (List.take (Int.toNat (Int.ofNat (List.length (List.take 64 s.2.2.1.1++List.drop (0 + List.length (List.take 64 s.2.2.1.1)) o_3)) - 256)) m)) (List.take 64 s.2.2.1.1++List.drop (0 + List.length (List.take 64 s.2.2.1.1)) o_3))))))))
def qfl_ (self3:Int×Int×YTT2×List Bool->Int->List Int->List Bool->List Bool->List Int->Option (As [.pr (.sl .bool) YTT10])) (s:Int×Int×YTT2×List Bool) (t57:Int) (m:List Int) (o o_2:List Bool) (o_3:List Int):Option (As [.pr (.sl .bool) YTT10]) :=
 if lt t57 8=true then need (ge (add .i64 512 (mul .i64 t57 32)) 0) (need (le (add .i64 512 (mul .i64 t57 32)) (Int.ofNat (List.length o_3))) (need (le (Int.ofNat (List.length o_3)) (Int.ofNat (List.length o_3))) (Option.bind (at? m 0) fun y=>Option.bind (qq9_ (s.2.2.1.2.2.2.2.2.1,y,t57,())) fun y=>need (le (add .i64 512 (mul .i64 t57 32) + (Int.ofNat (List.length o_3) - add .i64 512 (mul .i64 t57 32))) (Int.ofNat (List.length o_3))) (self3 s (add .i64 t57 1) m o o_2 (List.take (Int.toNat (add .i64 512 (mul .i64 t57 32))) o_3++List.take (Int.toNat (Int.ofNat (List.length o_3) - add .i64 512 (mul .i64 t57 32))) y.1++List.drop (Int.toNat (add .i64 512 (mul .i64 t57 32)) + List.length (List.take (Int.toNat (Int.ofNat (List.length o_3) - add .i64 512 (mul .i64 t57 32))) y.1)) o_3))))) else some ((o,o_2,o_3,m),())
def qqc_ (j1:Int×Int×YTT2×List Bool->List Int->List Bool->List Bool->List Int->Option (As [.pr (.sl .bool) YTT10])) (s:Int×Int×YTT2×List Bool):Option (As [.pr (.sl .bool) YTT10]) :=
 amb (eqAs q2_.rs) [amb (eqAs q2_.rs) [amb (eqAs q2_.rs) [amb (eqAs q2_.rs) [Option.bind (q7_ (s.2.2.1,())) fun y=>j1 s y.1 (List.replicate 16 false) (List.replicate 8 false) (List.replicate 756 0),Option.bind (q7_ (s.2.2.1,())) fun y=>j1 s y.1 (List.replicate 16 false) (List.replicate 8 false) (List.replicate 756 0)],amb (eqAs q2_.rs) [Option.bind (q7_ (s.2.2.1,())) fun y=>amb (eqAs q2_.rs) [j1 s y.1 (List.replicate 16 false) (List.replicate 8 false) (List.replicate 756 0),j1 s y.1 (List.replicate 16 false) (List.replicate 8 false) (List.replicate 756 0)],amb (eqAs q2_.rs) [Option.bind (q7_ (s.2.2.1,())) fun y=>j1 s y.1 (List.replicate 16 false) (List.replicate 8 false) (List.replicate 756 0),Option.bind (q7_ (s.2.2.1,())) fun y=>j1 s y.1 (List.replicate 16 false) (List.replicate 8 false) (List.replicate 756 0)]]],amb (eqAs q2_.rs) [amb (eqAs q2_.rs) [amb (eqAs q2_.rs) [Option.bind (q7_ (s.2.2.1,())) fun y=>j1 s y.1 (List.replicate 16 false) (List.replicate 8 false) (List.replicate 756 0),Option.bind (q7_ (s.2.2.1,())) fun y=>j1 s y.1 (List.replicate 16 false) (List.replicate 8 false) (List.replicate 756 0)],amb (eqAs q2_.rs) [Option.bind (q7_ (s.2.2.1,())) fun y=>amb (eqAs q2_.rs) [j1 s y.1 (List.replicate 16 false) (List.replicate 8 false) (List.replicate 756 0),j1 s y.1 (List.replicate 16 false) (List.replicate 8 false) (List.replicate 756 0)],amb (eqAs q2_.rs) [Option.bind (q7_ (s.2.2.1,())) fun y=>j1 s y.1 (List.replicate 16 false) (List.replicate 8 false) (List.replicate 756 0),Option.bind (q7_ (s.2.2.1,())) fun y=>j1 s y.1 (List.replicate 16 false) (List.replicate 8 false) (List.replicate 756 0)]]],amb (eqAs q2_.rs) [Option.bind (q7_ (s.2.2.1,())) fun y=>amb (eqAs q2_.rs) [amb (eqAs q2_.rs) [j1 s y.1 (List.replicate 16 false) (List.replicate 8 false) (List.replicate 756 0),j1 s y.1 (List.replicate 16 false) (List.replicate 8 false) (List.replicate 756 0)],amb (eqAs q2_.rs) [amb (eqAs q2_.rs) [j1 s y.1 (List.replicate 16 false) (List.replicate 8 false) (List.replicate 756 0),j1 s y.1 (List.replicate 16 false) (List.replicate 8 false) (List.replicate 756 0)],amb (eqAs q2_.rs) [j1 s y.1 (List.replicate 16 false) (List.replicate 8 false) (List.replicate 756 0),j1 s y.1 (List.replicate 16 false) (List.replicate 8 false) (List.replicate 756 0)]]],amb (eqAs q2_.rs) [amb (eqAs q2_.rs) [Option.bind (q7_ (s.2.2.1,())) fun y=>j1 s y.1 (List.replicate 16 false) (List.replicate 8 false) (List.replicate 756 0),Option.bind (q7_ (s.2.2.1,())) fun y=>j1 s y.1 (List.replicate 16 false) (List.replicate 8 false) (List.replicate 756 0)],amb (eqAs q2_.rs) [amb (eqAs q2_.rs) [Option.bind (q7_ (s.2.2.1,())) fun y=>j1 s y.1 (List.replicate 16 false) (List.replicate 8 false) (List.replicate 756 0),Option.bind (q7_ (s.2.2.1,())) fun y=>j1 s y.1 (List.replicate 16 false) (List.replicate 8 false) (List.replicate 756 0)],Option.bind (q7_ (s.2.2.1,())) fun y=>amb (eqAs q2_.rs) [j1 s y.1 (List.replicate 16 false) (List.replicate 8 false) (List.replicate 756 0),j1 s y.1 (List.replicate 16 false) (List.replicate 8 false) (List.replicate 756 0)]]]]]],amb (eqAs q2_.rs) [amb (eqAs q2_.rs) [amb (eqAs q2_.rs) [amb (eqAs q2_.rs) [Option.bind (q7_ (s.2.2.1,())) fun y=>j1 s y.1 (List.replicate 16 false) (List.replicate 8 false) (List.replicate 756 0),Option.bind (q7_ (s.2.2.1,())) fun y=>j1 s y.1 (List.replicate 16 false) (List.replicate 8 false) (List.replicate 756 0)],amb (eqAs q2_.rs) [Option.bind (q7_ (s.2.2.1,())) fun y=>amb (eqAs q2_.rs) [j1 s y.1 (List.replicate 16 false) (List.replicate 8 false) (List.replicate 756 0),j1 s y.1 (List.replicate 16 false) (List.replicate 8 false) (List.replicate 756 0)],amb (eqAs q2_.rs) [Option.bind (q7_ (s.2.2.1,())) fun y=>j1 s y.1 (List.replicate 16 false) (List.replicate 8 false) (List.replicate 756 0),Option.bind (q7_ (s.2.2.1,())) fun y=>j1 s y.1 (List.replicate 16 false) (List.replicate 8 false) (List.replicate 756 0)]]],amb (eqAs q2_.rs) [amb (eqAs q2_.rs) [amb (eqAs q2_.rs) [Option.bind (q7_ (s.2.2.1,())) fun y=>j1 s y.1 (List.replicate 16 false) (List.replicate 8 false) (List.replicate 756 0),Option.bind (q7_ (s.2.2.1,())) fun y=>j1 s y.1 (List.replicate 16 false) (List.replicate 8 false) (List.replicate 756 0)],amb (eqAs q2_.rs) [Option.bind (q7_ (s.2.2.1,())) fun y=>amb (eqAs q2_.rs) [j1 s y.1 (List.replicate 16 false) (List.replicate 8 false) (List.replicate 756 0),j1 s y.1 (List.replicate 16 false) (List.replicate 8 false) (List.replicate 756 0)],amb (eqAs q2_.rs) [Option.bind (q7_ (s.2.2.1,())) fun y=>j1 s y.1 (List.replicate 16 false) (List.replicate 8 false) (List.replicate 756 0),Option.bind (q7_ (s.2.2.1,())) fun y=>j1 s y.1 (List.replicate 16 false) (List.replicate 8 false) (List.replicate 756 0)]]],amb (eqAs q2_.rs) [Option.bind (q7_ (s.2.2.1,())) fun y=>amb (eqAs q2_.rs) [amb (eqAs q2_.rs) [j1 s y.1 (List.replicate 16 false) (List.replicate 8 false) (List.replicate 756 0),j1 s y.1 (List.replicate 16 false) (List.replicate 8 false) (List.replicate 756 0)],amb (eqAs q2_.rs) [amb (eqAs q2_.rs) [j1 s y.1 (List.replicate 16 false) (List.replicate 8 false) (List.replicate 756 0),j1 s y.1 (List.replicate 16 false) (List.replicate 8 false) (List.replicate 756 0)],amb (eqAs q2_.rs) [j1 s y.1 (List.replicate 16 false) (List.replicate 8 false) (List.replicate 756 0),j1 s y.1 (List.replicate 16 false) (List.replicate 8 false) (List.replicate 756 0)]]],amb (eqAs q2_.rs) [amb (eqAs q2_.rs) [Option.bind (q7_ (s.2.2.1,())) fun y=>j1 s y.1 (List.replicate 16 false) (List.replicate 8 false) (List.replicate 756 0),Option.bind (q7_ (s.2.2.1,())) fun y=>j1 s y.1 (List.replicate 16 false) (List.replicate 8 false) (List.replicate 756 0)],amb (eqAs q2_.rs) [amb (eqAs q2_.rs) [Option.bind (q7_ (s.2.2.1,())) fun y=>j1 s y.1 (List.replicate 16 false) (List.replicate 8 false) (List.replicate 756 0),Option.bind (q7_ (s.2.2.1,())) fun y=>j1 s y.1 (List.replicate 16 false) (List.replicate 8 false) (List.replicate 756 0)],Option.bind (q7_ (s.2.2.1,())) fun y=>amb (eqAs q2_.rs) [j1 s y.1 (List.replicate 16 false) (List.replicate 8 false) (List.replicate 756 0),j1 s y.1 (List.replicate 16 false) (List.replicate 8 false) (List.replicate 756 0)]]]]]],amb (eqAs q2_.rs) [amb (eqAs q2_.rs) [amb (eqAs q2_.rs) [amb (eqAs q2_.rs) [Option.bind (q7_ (s.2.2.1,())) fun y=>j1 s y.1 (List.replicate 16 false) (List.replicate 8 false) (List.replicate 756 0),Option.bind (q7_ (s.2.2.1,())) fun y=>j1 s y.1 (List.replicate 16 false) (List.replicate 8 false) (List.replicate 756 0)],amb (eqAs q2_.rs) [Option.bind (q7_ (s.2.2.1,())) fun y=>amb (eqAs q2_.rs) [j1 s y.1 (List.replicate 16 false) (List.replicate 8 false) (List.replicate 756 0),j1 s y.1 (List.replicate 16 false) (List.replicate 8 false) (List.replicate 756 0)],amb (eqAs q2_.rs) [Option.bind (q7_ (s.2.2.1,())) fun y=>j1 s y.1 (List.replicate 16 false) (List.replicate 8 false) (List.replicate 756 0),Option.bind (q7_ (s.2.2.1,())) fun y=>j1 s y.1 (List.replicate 16 false) (List.replicate 8 false) (List.replicate 756 0)]]],amb (eqAs q2_.rs) [amb (eqAs q2_.rs) [amb (eqAs q2_.rs) [Option.bind (q7_ (s.2.2.1,())) fun y=>j1 s y.1 (List.replicate 16 false) (List.replicate 8 false) (List.replicate 756 0),Option.bind (q7_ (s.2.2.1,())) fun y=>j1 s y.1 (List.replicate 16 false) (List.replicate 8 false) (List.replicate 756 0)],amb (eqAs q2_.rs) [Option.bind (q7_ (s.2.2.1,())) fun y=>amb (eqAs q2_.rs) [j1 s y.1 (List.replicate 16 false) (List.replicate 8 false) (List.replicate 756 0),j1 s y.1 (List.replicate 16 false) (List.replicate 8 false) (List.replicate 756 0)],amb (eqAs q2_.rs) [Option.bind (q7_ (s.2.2.1,())) fun y=>j1 s y.1 (List.replicate 16 false) (List.replicate 8 false) (List.replicate 756 0),Option.bind (q7_ (s.2.2.1,())) fun y=>j1 s y.1 (List.replicate 16 false) (List.replicate 8 false) (List.replicate 756 0)]]],amb (eqAs q2_.rs) [Option.bind (q7_ (s.2.2.1,())) fun y=>amb (eqAs q2_.rs) [amb (eqAs q2_.rs) [j1 s y.1 (List.replicate 16 false) (List.replicate 8 false) (List.replicate 756 0),j1 s y.1 (List.replicate 16 false) (List.replicate 8 false) (List.replicate 756 0)],amb (eqAs q2_.rs) [amb (eqAs q2_.rs) [j1 s y.1 (List.replicate 16 false) (List.replicate 8 false) (List.replicate 756 0),j1 s y.1 (List.replicate 16 false) (List.replicate 8 false) (List.replicate 756 0)],amb (eqAs q2_.rs) [j1 s y.1 (List.replicate 16 false) (List.replicate 8 false) (List.replicate 756 0),j1 s y.1 (List.replicate 16 false) (List.replicate 8 false) (List.replicate 756 0)]]],amb (eqAs q2_.rs) [amb (eqAs q2_.rs) [Option.bind (q7_ (s.2.2.1,())) fun y=>j1 s y.1 (List.replicate 16 false) (List.replicate 8 false) (List.replicate 756 0),Option.bind (q7_ (s.2.2.1,())) fun y=>j1 s y.1 (List.replicate 16 false) (List.replicate 8 false) (List.replicate 756 0)],amb (eqAs q2_.rs) [amb (eqAs q2_.rs) [Option.bind (q7_ (s.2.2.1,())) fun y=>j1 s y.1 (List.replicate 16 false) (List.replicate 8 false) (List.replicate 756 0),Option.bind (q7_ (s.2.2.1,())) fun y=>j1 s y.1 (List.replicate 16 false) (List.replicate 8 false) (List.replicate 756 0)],Option.bind (q7_ (s.2.2.1,())) fun y=>amb (eqAs q2_.rs) [j1 s y.1 (List.replicate 16 false) (List.replicate 8 false) (List.replicate 756 0),j1 s y.1 (List.replicate 16 false) (List.replicate 8 false) (List.replicate 756 0)]]]]]],amb (eqAs q2_.rs) [Option.bind (q7_ (s.2.2.1,())) fun y=>amb (eqAs q2_.rs) [amb (eqAs q2_.rs) [amb (eqAs q2_.rs) [j1 s y.1 (List.replicate 16 false) (List.replicate 8 false) (List.replicate 756 0),j1 s y.1 (List.replicate 16 false) (List.replicate 8 false) (List.replicate 756 0)],amb (eqAs q2_.rs) [amb (eqAs q2_.rs) [j1 s y.1 (List.replicate 16 false) (List.replicate 8 false) (List.replicate 756 0),j1 s y.1 (List.replicate 16 false) (List.replicate 8 false) (List.replicate 756 0)],amb (eqAs q2_.rs) [j1 s y.1 (List.replicate 16 false) (List.replicate 8 false) (List.replicate 756 0),j1 s y.1 (List.replicate 16 false) (List.replicate 8 false) (List.replicate 756 0)]]],amb (eqAs q2_.rs) [amb (eqAs q2_.rs) [amb (eqAs q2_.rs) [j1 s y.1 (List.replicate 16 false) (List.replicate 8 false) (List.replicate 756 0),j1 s y.1 (List.replicate 16 false) (List.replicate 8 false) (List.replicate 756 0)],amb (eqAs q2_.rs) [amb (eqAs q2_.rs) [j1 s y.1 (List.replicate 16 false) (List.replicate 8 false) (List.replicate 756 0),j1 s y.1 (List.replicate 16 false) (List.replicate 8 false) (List.replicate 756 0)],amb (eqAs q2_.rs) [j1 s y.1 (List.replicate 16 false) (List.replicate 8 false) (List.replicate 756 0),j1 s y.1 (List.replicate 16 false) (List.replicate 8 false) (List.replicate 756 0)]]],amb (eqAs q2_.rs) [amb (eqAs q2_.rs) [amb (eqAs q2_.rs) [j1 s y.1 (List.replicate 16 false) (List.replicate 8 false) (List.replicate 756 0),j1 s y.1 (List.replicate 16 false) (List.replicate 8 false) (List.replicate 756 0)],amb (eqAs q2_.rs) [amb (eqAs q2_.rs) [j1 s y.1 (List.replicate 16 false) (List.replicate 8 false) (List.replicate 756 0),j1 s y.1 (List.replicate 16 false) (List.replicate 8 false) (List.replicate 756 0)],amb (eqAs q2_.rs) [j1 s y.1 (List.replicate 16 false) (List.replicate 8 false) (List.replicate 756 0),j1 s y.1 (List.replicate 16 false) (List.replicate 8 false) (List.replicate 756 0)]]],amb (eqAs q2_.rs) [amb (eqAs q2_.rs) [j1 s y.1 (List.replicate 16 false) (List.replicate 8 false) (List.replicate 756 0),j1 s y.1 (List.replicate 16 false) (List.replicate 8 false) (List.replicate 756 0)],amb (eqAs q2_.rs) [amb (eqAs q2_.rs) [j1 s y.1 (List.replicate 16 false) (List.replicate 8 false) (List.replicate 756 0),j1 s y.1 (List.replicate 16 false) (List.replicate 8 false) (List.replicate 756 0)],amb (eqAs q2_.rs) [j1 s y.1 (List.replicate 16 false) (List.replicate 8 false) (List.replicate 756 0),j1 s y.1 (List.replicate 16 false) (List.replicate 8 false) (List.replicate 756 0)]]]]]],amb (eqAs q2_.rs) [amb (eqAs q2_.rs) [amb (eqAs q2_.rs) [Option.bind (q7_ (s.2.2.1,())) fun y=>j1 s y.1 (List.replicate 16 false) (List.replicate 8 false) (List.replicate 756 0),Option.bind (q7_ (s.2.2.1,())) fun y=>j1 s y.1 (List.replicate 16 false) (List.replicate 8 false) (List.replicate 756 0)],amb (eqAs q2_.rs) [amb (eqAs q2_.rs) [Option.bind (q7_ (s.2.2.1,())) fun y=>j1 s y.1 (List.replicate 16 false) (List.replicate 8 false) (List.replicate 756 0),Option.bind (q7_ (s.2.2.1,())) fun y=>j1 s y.1 (List.replicate 16 false) (List.replicate 8 false) (List.replicate 756 0)],Option.bind (q7_ (s.2.2.1,())) fun y=>amb (eqAs q2_.rs) [j1 s y.1 (List.replicate 16 false) (List.replicate 8 false) (List.replicate 756 0),j1 s y.1 (List.replicate 16 false) (List.replicate 8 false) (List.replicate 756 0)]]],amb (eqAs q2_.rs) [amb (eqAs q2_.rs) [amb (eqAs q2_.rs) [Option.bind (q7_ (s.2.2.1,())) fun y=>j1 s y.1 (List.replicate 16 false) (List.replicate 8 false) (List.replicate 756 0),Option.bind (q7_ (s.2.2.1,())) fun y=>j1 s y.1 (List.replicate 16 false) (List.replicate 8 false) (List.replicate 756 0)],amb (eqAs q2_.rs) [amb (eqAs q2_.rs) [Option.bind (q7_ (s.2.2.1,())) fun y=>j1 s y.1 (List.replicate 16 false) (List.replicate 8 false) (List.replicate 756 0),Option.bind (q7_ (s.2.2.1,())) fun y=>j1 s y.1 (List.replicate 16 false) (List.replicate 8 false) (List.replicate 756 0)],Option.bind (q7_ (s.2.2.1,())) fun y=>amb (eqAs q2_.rs) [j1 s y.1 (List.replicate 16 false) (List.replicate 8 false) (List.replicate 756 0),j1 s y.1 (List.replicate 16 false) (List.replicate 8 false) (List.replicate 756 0)]]],amb (eqAs q2_.rs) [amb (eqAs q2_.rs) [amb (eqAs q2_.rs) [Option.bind (q7_ (s.2.2.1,())) fun y=>j1 s y.1 (List.replicate 16 false) (List.replicate 8 false) (List.replicate 756 0),Option.bind (q7_ (s.2.2.1,())) fun y=>j1 s y.1 (List.replicate 16 false) (List.replicate 8 false) (List.replicate 756 0)],amb (eqAs q2_.rs) [amb (eqAs q2_.rs) [Option.bind (q7_ (s.2.2.1,())) fun y=>j1 s y.1 (List.replicate 16 false) (List.replicate 8 false) (List.replicate 756 0),Option.bind (q7_ (s.2.2.1,())) fun y=>j1 s y.1 (List.replicate 16 false) (List.replicate 8 false) (List.replicate 756 0)],Option.bind (q7_ (s.2.2.1,())) fun y=>amb (eqAs q2_.rs) [j1 s y.1 (List.replicate 16 false) (List.replicate 8 false) (List.replicate 756 0),j1 s y.1 (List.replicate 16 false) (List.replicate 8 false) (List.replicate 756 0)]]],Option.bind (q7_ (s.2.2.1,())) fun y=>amb (eqAs q2_.rs) [amb (eqAs q2_.rs) [j1 s y.1 (List.replicate 16 false) (List.replicate 8 false) (List.replicate 756 0),j1 s y.1 (List.replicate 16 false) (List.replicate 8 false) (List.replicate 756 0)],amb (eqAs q2_.rs) [amb (eqAs q2_.rs) [j1 s y.1 (List.replicate 16 false) (List.replicate 8 false) (List.replicate 756 0),j1 s y.1 (List.replicate 16 false) (List.replicate 8 false) (List.replicate 756 0)],amb (eqAs q2_.rs) [j1 s y.1 (List.replicate 16 false) (List.replicate 8 false) (List.replicate 756 0),j1 s y.1 (List.replicate 16 false) (List.replicate 8 false) (List.replicate 756 0)]]]]]]]]]]
def qfo_ (s:Int×Int×YTT2×List Bool) (t57:Int) (m:List Int) (o o_2:List Bool) (o_3:List Int):Option (As [.pr (.sl .bool) YTT10]) :=
 loopF (fun (self:(Int×Int×YTT2×List Bool)×(Int)×(List Int)×(List Bool)×(List Bool)×(List Int)->Option (As [.pr (.sl .bool) YTT10])) (s:(Int×Int×YTT2×List Bool)×(Int)×(List Int)×(List Bool)×(List Bool)×(List Int))=>qfl_ (fun s t57 m o o_2 o_3=>self (s,t57,m,o,o_2,o_3)) s.1 s.2.1 s.2.2.1 s.2.2.2.1 s.2.2.2.2.1 s.2.2.2.2.2) 18446744073709551616 (s,t57,m,o,o_2,o_3)
def qr6_ (s:Int×Int×YTT2×List Bool) (m:List Int) (o o_2:List Bool) (o_3:List Int):Option (As [.pr (.sl .bool) YTT10]):=qqs_ (qfo_) s m o o_2 o_3
def qs3_ (s:Int×Int×YTT2×List Bool) (m:List Int) (o o_2:List Bool) (o_3:List Int):Option (As [.pr (.sl .bool) YTT10]):=qqp_ (qr6_) s m o o_2 o_3
def q5b_ (x:As [.pr (.int .u8) (.pr (.int .u8) (.pr (.pr (.sl (.int .u16)) YTT0) (.sl .bool)))]):Option (As [.pr (.sl .bool) YTT10]):=qqc_ qs3_ x.1
theorem q1f7_ (J:Orc (As [.pr (.sl .bool) YTT10])) (w3:St->Option (As [.pr (.sl .bool) YTT10])) (s:Int×Int×YTT2×List Bool) (t57:Int) (m:List Int) (o o_2:List Bool) (o_3:List Int):pfn Tryz.prog q67_ 6 18446744073709551616 (Ev.get q6b_) 47 q2_ J 4090 [w3] (qg0_ s t57 m o o_2 o_3)=qfl_ (fun s t57 m o o_2 o_3=>w3 (qg0_ s t57 m o o_2 o_3)) s t57 m o o_2 o_3:=by kernel_rfl
theorem q1ds_ (J:Orc (As [.pr (.sl .bool) YTT10])) (s:Int×Int×YTT2×List Bool) (m:List Int) (o o_2:List Bool) (o_3:List Int):pfn Tryz.prog q67_ 6 18446744073709551616 (Ev.get q6b_) 47 q2_ J 15 [] (qra_ s m o o_2 o_3)=qqs_ (fun s t57 m o o_2 o_3=>J 4090 [] (qg0_ s t57 m o o_2 o_3)) s m o o_2 o_3:=by kernel_rfl
theorem q1g1_ (J:Orc (As [.pr (.sl .bool) YTT10])) (s:Int×Int×YTT2×List Bool) (m:List Int) (o o_2:List Bool) (o_3:List Int):pfn Tryz.prog q67_ 6 18446744073709551616 (Ev.get q6b_) 47 q2_ J 3 [] (qq1_ s m o o_2 o_3)=qqp_ (fun s m o o_2 o_3=>J 15 [] (qra_ s m o o_2 o_3)) s m o o_2 o_3:=by kernel_rfl
theorem q1ek_ (J:Orc (As [.pr (.sl .bool) YTT10])) (x:As [.pr (.int .u8) (.pr (.int .u8) (.pr (.pr (.sl (.int .u16)) YTT0) (.sl .bool)))]):rfn Tryz.prog q67_ 6 18446744073709551616 (Ev.get q6b_) 47 q2_ J x=qqc_ (fun s m o o_2 o_3=>J 3 [] (qq1_ s m o o_2 o_3)) x.1:=by kernel_rfl
theorem q1ei_ (s:Int×Int×YTT2×List Bool) (t57:Int) (m:List Int) (o o_2:List Bool) (o_3:List Int):jfn Tryz.prog q67_ 6 18446744073709551616 (Ev.get q6b_) 47 q2_ 4090 [] (qg0_ s t57 m o o_2 o_3)=qfo_ s t57 m o o_2 o_3:=by
 rw [q8_ (by decide)]
 rw [qr_ (by kernel_rfl)]
 refine qi_ (σ:=(Int×Int×YTT2×List Bool)×(Int)×(List Int)×(List Bool)×(List Bool)×(List Int)) (mk:=fun s=>qg0_ s.1 s.2.1 s.2.2.1 s.2.2.2.1 s.2.2.2.2.1 s.2.2.2.2.2) (fun w3 s=>?_) 18446744073709551616 (s,t57,m,o,o_2,o_3)
 refine (q1f7_ _ w3 s.1 s.2.1 s.2.2.1 s.2.2.2.1 s.2.2.2.2.1 s.2.2.2.2.2).trans ?_
 rfl
theorem q1g0_ (s:Int×Int×YTT2×List Bool) (m:List Int) (o o_2:List Bool) (o_3:List Int):jfn Tryz.prog q67_ 6 18446744073709551616 (Ev.get q6b_) 47 q2_ 15 [] (qra_ s m o o_2 o_3)=qr6_ s m o o_2 o_3:=by
 rw [q8_ (by decide)]
 have e3:(fun s t57 m o o_2 o_3=>(jfn Tryz.prog q67_ 6 18446744073709551616 (Ev.get q6b_) 47 q2_) 4090 [] (qg0_ s t57 m o o_2 o_3))=qfo_:=by funext s t57 m o o_2 o_3; exact q1ei_ s t57 m o o_2 o_3
 rw [q1ds_,e3]
 rfl
theorem q1dz_ (s:Int×Int×YTT2×List Bool) (m:List Int) (o o_2:List Bool) (o_3:List Int):jfn Tryz.prog q67_ 6 18446744073709551616 (Ev.get q6b_) 47 q2_ 3 [] (qq1_ s m o o_2 o_3)=qs3_ s m o o_2 o_3:=by
 rw [q8_ (by decide)]
 have e2:(fun s m o o_2 o_3=>(jfn Tryz.prog q67_ 6 18446744073709551616 (Ev.get q6b_) 47 q2_) 15 [] (qra_ s m o o_2 o_3))=qr6_:=by funext s m o o_2 o_3; exact q1g0_ s m o o_2 o_3
 rw [q1g1_,e2]
 rfl
theorem q1im_ (x:As [.pr (.int .u8) (.pr (.int .u8) (.pr (.pr (.sl (.int .u16)) YTT0) (.sl .bool)))]):evT Tryz.prog q67_ 6 18446744073709551616 (Ev.get q6b_) 47 q2_ x=q5b_ x:=by
 have e1:(fun s m o o_2 o_3=>(jfn Tryz.prog q67_ 6 18446744073709551616 (Ev.get q6b_) 47 q2_) 3 [] (qq1_ s m o o_2 o_3))=qs3_:=by funext s m o o_2 o_3; exact q1dz_ s m o o_2 o_3
 rw [q5_,q1ek_,e1]
 rfl
theorem q1gn_:CtOk Tryz.prog (fun _=>True) 47 ⟨q2_,q5b_⟩:=q3_ (q0_ Ev.bx_ok (q0_ qw0_ (q0_ q16o_ (q0_ qho_ (q0_ q1cn_ q4_))))) q1im_
@[reducible] def q4c_:Sh:=⟨[.d (.pr (.int .u8) YTT4)],[],[.pr (.int .u8) YTT4],[.d (.pr (.int .u8) YTT3),.d (.bool)],[],0,[.pr (.int .u8) YTT3,.bool]⟩
def q7u_:Env:=(cts [(58,(⟨q5d_,qbd_⟩:Ct))])
def q7q_:List (Nat×Hint):=[(15,⟨[.rwb 4 2 4,.rwb 4 3 23],[2,4]⟩),(1967,⟨[],[1,2,4,33]⟩)]
def qdb_ (t2 t2_2 t2_3 t2_4 r r_2 r_3 r_4:Int) (o:List Bool) (o_2:List Int):St:={ fr:=[(2,.pb 0 0),(4,.pb 1 0)],nt:=40,up:=[],own:=[(0,.box 46 [.d (.int .u8) t2,.d (.int .u8) t2_2,.k (Go.Value.slice Option.none 0 0),.k (Go.Value.slice Option.none 0 0),.d (.int .u16) t2_3,.d (.int .u16) t2_4]),(1,.box 46 [.d (.int .u8) r,.d (.int .u8) r_2,.row 2,.row 3,.d (.int .u16) r_3,.d (.int .u16) r_4]),(2,.row .bool 4 o),(3,.row (.int .u16) 23 o_2)],nx:=4,log:=[],ln:=0 }
def qnw_ (t33:Bool) (a a_2 a_3 a_4:Int) (a_5:List Int) (a_6:List Bool) (t2 t2_2 t2_3 t2_4 r r_2 r_3 r_4:Int):St:={ fr:=[(1,.pb 0 0),(2,.pb 1 0),(4,.pb 2 0),(33,.d .bool t33)],nt:=40,up:=[],own:=[(0,.box 44 [.d (.int .u8) a,.d (.int .u16) a_2,.d (.int .u16) a_3,.d (.int .u16) a_4,.d (.sl (.int .u16)) a_5,.d (.sl .bool) a_6]),(1,.box 46 [.d (.int .u8) t2,.d (.int .u8) t2_2,.k (Go.Value.slice Option.none 0 0),.k (Go.Value.slice Option.none 0 0),.d (.int .u16) t2_3,.d (.int .u16) t2_4]),(2,.box 46 [.d (.int .u8) r,.d (.int .u8) r_2,.k (Go.Value.slice Option.none 0 0),.k (Go.Value.slice Option.none 0 0),.d (.int .u16) r_3,.d (.int .u16) r_4])],nx:=3,log:=[],ln:=0 }
def q11j_ (t2 t2_2 t2_3 t2_4 r r_2 r_3 r_4:Int) (o:List Bool) (o_2:List Int):Option (As [.pr (.int .u8) YTT3,.bool]) :=
 some ((r,r_2,o,o_2,r_3,r_4),true,())
def q11o_ (j1:Int->Int->Int->Int->Int->Int->Int->Int->List Bool->List Int->Option (As [.pr (.int .u8) YTT3,.bool])) (t33:Bool) (a a_2 a_3 a_4:Int) (a_5:List Int) (a_6:List Bool) (t2 t2_2 t2_3 t2_4 r r_2 r_3 r_4:Int):Option (As [.pr (.int .u8) YTT3,.bool]) :=
 if t33=true then j1 t2 t2_2 t2_3 t2_4 r r_2 r_3 a_3 [] [] else some ((0,0,[],[],0,0),false,())
def qo3_ (j1:Int->Int->Int->Int->Int->Int->Int->Int->List Bool->List Int->Option (As [.pr (.int .u8) YTT3,.bool])) (j2:Bool->Int->Int->Int->Int->List Int->List Bool->Int->Int->Int->Int->Int->Int->Int->Int->Option (As [.pr (.int .u8) YTT3,.bool])) (a:Int×Int×Int×Int×List Int×List Bool):Option (As [.pr (.int .u8) YTT3,.bool]) :=
 Option.bind (qbd_ (a,())) fun y=>if (!y.1)=true then some ((0,0,[],[],0,0),false,()) else if eqi a.1 5=true then Option.bind (at? a.2.2.2.2.2 0) fun y=>j1 0 0 0 0 a.1 0 a.2.1 0 [y] [] else if eqi a.1 6=true then Option.bind (at? a.2.2.2.2.1 0) fun y=>j1 0 0 0 0 a.1 0 a.2.1 0 [] [y] else if eqi a.1 15=true then j2 true a.1 a.2.1 a.2.2.1 a.2.2.2.1 a.2.2.2.2.1 a.2.2.2.2.2 0 0 0 0 a.1 0 a.2.1 0 else j2 (eqi a.1 16) a.1 a.2.1 a.2.2.1 a.2.2.2.1 a.2.2.2.2.1 a.2.2.2.2.2 0 0 0 0 a.1 0 a.2.1 0
def qcy_ (t2 t2_2 t2_3 t2_4 r r_2 r_3 r_4:Int) (o:List Bool) (o_2:List Int):Option (As [.pr (.int .u8) YTT3,.bool]):=q11j_ t2 t2_2 t2_3 t2_4 r r_2 r_3 r_4 o o_2
def qn9_ (t33:Bool) (a a_2 a_3 a_4:Int) (a_5:List Int) (a_6:List Bool) (t2 t2_2 t2_3 t2_4 r r_2 r_3 r_4:Int):Option (As [.pr (.int .u8) YTT3,.bool]):=q11o_ (qcy_) t33 a a_2 a_3 a_4 a_5 a_6 t2 t2_2 t2_3 t2_4 r r_2 r_3 r_4
def qb0_ (x:As [.pr (.int .u8) YTT4]):Option (As [.pr (.int .u8) YTT3,.bool]):=qo3_ qcy_ qn9_ x.1
theorem q1c8_ (J:Orc (As [.pr (.int .u8) YTT3,.bool])) (t2 t2_2 t2_3 t2_4 r r_2 r_3 r_4:Int) (o:List Bool) (o_2:List Int):pfn Tryz.prog q7u_ 6 18446744073709551616 (Ev.get q7q_) 68 q4c_ J 15 [] (qdb_ t2 t2_2 t2_3 t2_4 r r_2 r_3 r_4 o o_2)=q11j_ t2 t2_2 t2_3 t2_4 r r_2 r_3 r_4 o o_2:=by kernel_rfl
theorem q1cj_ (J:Orc (As [.pr (.int .u8) YTT3,.bool])) (t33:Bool) (a a_2 a_3 a_4:Int) (a_5:List Int) (a_6:List Bool) (t2 t2_2 t2_3 t2_4 r r_2 r_3 r_4:Int):pfn Tryz.prog q7u_ 6 18446744073709551616 (Ev.get q7q_) 68 q4c_ J 1967 [] (qnw_ t33 a a_2 a_3 a_4 a_5 a_6 t2 t2_2 t2_3 t2_4 r r_2 r_3 r_4)=q11o_ (fun t2 t2_2 t2_3 t2_4 r r_2 r_3 r_4 o o_2=>J 15 [] (qdb_ t2 t2_2 t2_3 t2_4 r r_2 r_3 r_4 o o_2)) t33 a a_2 a_3 a_4 a_5 a_6 t2 t2_2 t2_3 t2_4 r r_2 r_3 r_4:=by kernel_rfl
theorem q1an_ (J:Orc (As [.pr (.int .u8) YTT3,.bool])) (x:As [.pr (.int .u8) YTT4]):rfn Tryz.prog q7u_ 6 18446744073709551616 (Ev.get q7q_) 68 q4c_ J x=qo3_ (fun t2 t2_2 t2_3 t2_4 r r_2 r_3 r_4 o o_2=>J 15 [] (qdb_ t2 t2_2 t2_3 t2_4 r r_2 r_3 r_4 o o_2)) (fun t33 a a_2 a_3 a_4 a_5 a_6 t2 t2_2 t2_3 t2_4 r r_2 r_3 r_4=>J 1967 [] (qnw_ t33 a a_2 a_3 a_4 a_5 a_6 t2 t2_2 t2_3 t2_4 r r_2 r_3 r_4)) x.1:=by kernel_rfl
theorem q112_ (t2 t2_2 t2_3 t2_4 r r_2 r_3 r_4:Int) (o:List Bool) (o_2:List Int):jfn Tryz.prog q7u_ 6 18446744073709551616 (Ev.get q7q_) 68 q4c_ 15 [] (qdb_ t2 t2_2 t2_3 t2_4 r r_2 r_3 r_4 o o_2)=qcy_ t2 t2_2 t2_3 t2_4 r r_2 r_3 r_4 o o_2:=by
 rw [q8_ (by decide)]
 rw [q1c8_]
 rfl
theorem q1ar_ (t33:Bool) (a a_2 a_3 a_4:Int) (a_5:List Int) (a_6:List Bool) (t2 t2_2 t2_3 t2_4 r r_2 r_3 r_4:Int):jfn Tryz.prog q7u_ 6 18446744073709551616 (Ev.get q7q_) 68 q4c_ 1967 [] (qnw_ t33 a a_2 a_3 a_4 a_5 a_6 t2 t2_2 t2_3 t2_4 r r_2 r_3 r_4)=qn9_ t33 a a_2 a_3 a_4 a_5 a_6 t2 t2_2 t2_3 t2_4 r r_2 r_3 r_4:=by
 rw [q8_ (by decide)]
 have e1:(fun t2 t2_2 t2_3 t2_4 r r_2 r_3 r_4 o o_2=>(jfn Tryz.prog q7u_ 6 18446744073709551616 (Ev.get q7q_) 68 q4c_) 15 [] (qdb_ t2 t2_2 t2_3 t2_4 r r_2 r_3 r_4 o o_2))=qcy_:=by funext t2 t2_2 t2_3 t2_4 r r_2 r_3 r_4 o o_2; exact q112_ t2 t2_2 t2_3 t2_4 r r_2 r_3 r_4 o o_2
 rw [q1cj_,e1]
 rfl
theorem q1go_ (x:As [.pr (.int .u8) YTT4]):evT Tryz.prog q7u_ 6 18446744073709551616 (Ev.get q7q_) 68 q4c_ x=qb0_ x:=by
 have e1:(fun t2 t2_2 t2_3 t2_4 r r_2 r_3 r_4 o o_2=>(jfn Tryz.prog q7u_ 6 18446744073709551616 (Ev.get q7q_) 68 q4c_) 15 [] (qdb_ t2 t2_2 t2_3 t2_4 r r_2 r_3 r_4 o o_2))=qcy_:=by funext t2 t2_2 t2_3 t2_4 r r_2 r_3 r_4 o o_2; exact q112_ t2 t2_2 t2_3 t2_4 r r_2 r_3 r_4 o o_2
 have e2:(fun t33 a a_2 a_3 a_4 a_5 a_6 t2 t2_2 t2_3 t2_4 r r_2 r_3 r_4=>(jfn Tryz.prog q7u_ 6 18446744073709551616 (Ev.get q7q_) 68 q4c_) 1967 [] (qnw_ t33 a a_2 a_3 a_4 a_5 a_6 t2 t2_2 t2_3 t2_4 r r_2 r_3 r_4))=qn9_:=by funext t33 a a_2 a_3 a_4 a_5 a_6 t2 t2_2 t2_3 t2_4 r r_2 r_3 r_4; exact q1ar_ t33 a a_2 a_3 a_4 a_5 a_6 t2 t2_2 t2_3 t2_4 r r_2 r_3 r_4
 rw [q5_,q1an_,e1,e2]
 rfl
theorem q11c_:CtOk Tryz.prog (fun _=>True) 68 ⟨q4c_,qb0_⟩:=q3_ (q0_ qw2_ q4_) q1go_
@[reducible] def qu_:Sh:=⟨[.d (.pr YTT1 (.sl .bool)),.d (.bool)],[],[.pr YTT1 (.sl .bool),.bool],[.d (.bool)],[],0,[.bool]⟩
def q1a_:Env:=(cts [])
def q1c_:List (Nat×Hint):=[(122,⟨[],[1,2,5,13,14,15,24,25,26,27,28,29,32,33,34,37,38,39,40,41,42,43,44,45,49,50]⟩),(31334,⟨[.agd 50 .bool],[1,2,7,13,14,15,51]⟩),(15666,⟨[.agd 25 (.int .i64),.agd 27 (.sl .bool),.agd 28 (.int .i64),.agd 29 .bool,.agd 33 (.int .i64),.agd 34 .bool,.agd 38 (.int .i64),.agd 40 (.sl .bool),.agd 41 (.int .i64),.agd 43 (.int .i64),.agd 44 (.int .i64),.agd 45 .bool],[1,2,7,13,14,15,46]⟩)]
def qy_ (fixed:Bool) (endV:Int) (t13:List YTT5) (t14 t15:Int) (t:List YTT5×List Bool):St:={ fr:=[(1,.d .bool fixed),(2,.pb 0 0),(5,.d (.int .i64) endV),(13,.d YTT1 t13),(14,.d (.int .i64) t14),(15,.d (.int .i64) t15)],nt:=58,up:=[],own:=[(0,.box 170 [.d YTT1 t.1,.d (.sl .bool) t.2])],nx:=1,log:=[],ln:=0 }
def q7a_ (fixed:Bool) (t13:List YTT5) (t14 t15:Int) (t46:Bool) (t:List YTT5×List Bool) (x:qk_):St:={ fr:=[(1,.d .bool fixed),(2,.pb 0 0),(7,.pb 1 0),(13,.d YTT1 t13),(14,.d (.int .i64) t14),(15,.d (.int .i64) t15),(46,.d .bool t46)],nt:=58,up:=[],own:=[(0,.box 170 [.d YTT1 t.1,.d (.sl .bool) t.2]),(1,.box 168 [.d (.int .i64) x.1,.d (.int .i64) x.2.1,.d .bool x.2.2.1,.d .bool x.2.2.2.1,.d .bool x.2.2.2.2])],nx:=2,log:=[],ln:=0 }
def q7b_ (fixed:Bool) (t13:List YTT5) (t14 t15:Int) (t51:Bool) (t:List YTT5×List Bool) (x:qk_):St:={ fr:=[(1,.d .bool fixed),(2,.pb 0 0),(7,.pb 1 0),(13,.d YTT1 t13),(14,.d (.int .i64) t14),(15,.d (.int .i64) t15),(51,.d .bool t51)],nt:=58,up:=[],own:=[(0,.box 170 [.d YTT1 t.1,.d (.sl .bool) t.2]),(1,.box 168 [.d (.int .i64) x.1,.d (.int .i64) x.2.1,.d .bool x.2.2.1,.d .bool x.2.2.2.1,.d .bool x.2.2.2.2])],nx:=2,log:=[],ln:=0 }
def q3c_ (j2:Bool->List YTT5->Int->Int->Bool->List YTT5×List Bool->qk_->Option (As [.bool])) (self1:Bool->Int->List YTT5->Int->Int->List YTT5×List Bool->Option (As [.bool])) (fixed:Bool) (endV:Int) (t13:List YTT5) (t14 t15:Int) (t:List YTT5×List Bool):Option (As [.bool]) :=
 if lt t15 t14=true then Option.bind (at? t13 t15) fun y=>if lt y.1 endV=true then j2 fixed t13 t14 t15 true t y else if gt y.1 (Int.ofNat (List.length t.2))=true then j2 fixed t13 t14 t15 true t y else if lt y.2.1 1=true then j2 fixed t13 t14 t15 true t y else j2 fixed t13 t14 t15 (gt y.2.1 (Sx.sub .i64 (Int.ofNat (List.length t.2)) y.1)) t y else some (true,())
def qan_ (j3:Bool->List YTT5->Int->Int->Bool->List YTT5×List Bool->qk_->Option (As [.bool])) (self1:Bool->Int->List YTT5->Int->Int->List YTT5×List Bool->Option (As [.bool])) (fixed:Bool) (t13:List YTT5) (t14 t15:Int) (t46:Bool) (t:List YTT5×List Bool) (x:qk_):Option (As [.bool]) :=
 if t46=true then some (false,()) else if fixed=true then j3 fixed t13 t14 t15 x.2.2.2.1 t x else j3 fixed t13 t14 t15 false t x
def qaq_ (self1:Bool->Int->List YTT5->Int->Int->List YTT5×List Bool->Option (As [.bool])) (fixed:Bool) (t13:List YTT5) (t14 t15:Int) (t51:Bool) (t:List YTT5×List Bool) (x:qk_):Option (As [.bool]) :=
 if t51=true then some (false,()) else self1 fixed (add .i64 x.1 x.2.1) t13 t14 (add .i64 t15 1) t
def q7e_ (j1:Bool->Int->List YTT5->Int->Int->List YTT5×List Bool->Option (As [.bool])) (t:List YTT5×List Bool) (fixed:Bool):Option (As [.bool]) :=
 if gt (Int.ofNat (List.length t.2)) 65536=true then some (false,()) else j1 fixed 0 t.1 (Int.ofNat (List.length t.1)) 0 t
def q4t_ (u1:Bool->Int->List YTT5->Int->Int->List YTT5×List Bool->Option (As [.bool])) (fixed:Bool) (t13:List YTT5) (t14 t15:Int) (t51:Bool) (t:List YTT5×List Bool) (x:qk_):Option (As [.bool]):=qaq_ u1 fixed t13 t14 t15 t51 t x
def q4s_ (u1:Bool->Int->List YTT5->Int->Int->List YTT5×List Bool->Option (As [.bool])) (fixed:Bool) (t13:List YTT5) (t14 t15:Int) (t46:Bool) (t:List YTT5×List Bool) (x:qk_):Option (As [.bool]):=qan_ (q4t_ u1) u1 fixed t13 t14 t15 t46 t x
def q3d_ (fixed:Bool) (endV:Int) (t13:List YTT5) (t14 t15:Int) (t:List YTT5×List Bool):Option (As [.bool]) :=
 loopF (fun (self:(Bool)×(Int)×(List YTT5)×(Int)×(Int)×(List YTT5×List Bool)->Option (As [.bool])) (s:(Bool)×(Int)×(List YTT5)×(Int)×(Int)×(List YTT5×List Bool))=>q3c_ (q4s_ (fun fixed endV t13 t14 t15 t=>self (fixed,endV,t13,t14,t15,t))) (fun fixed endV t13 t14 t15 t=>self (fixed,endV,t13,t14,t15,t)) s.1 s.2.1 s.2.2.1 s.2.2.2.1 s.2.2.2.2.1 s.2.2.2.2.2) 18446744073709551616 (fixed,endV,t13,t14,t15,t)
def q4o_ (x:As [.pr YTT1 (.sl .bool),.bool]):Option (As [.bool]):=q7e_ q3d_ x.1 x.2.1
theorem quz_ (J:Orc (As [.bool])) (w1:St->Option (As [.bool])) (fixed:Bool) (t13:List YTT5) (t14 t15:Int) (t51:Bool) (t:List YTT5×List Bool) (x:qk_):pfn Tryz.prog q1a_ 6 18446744073709551616 (Ev.get q1c_) 118 qu_ J 31334 [w1] (q7b_ fixed t13 t14 t15 t51 t x)=qaq_ (fun fixed endV t13 t14 t15 t=>w1 (qy_ fixed endV t13 t14 t15 t)) fixed t13 t14 t15 t51 t x:=by kernel_rfl
theorem qv5_ (J:Orc (As [.bool])) (w1:St->Option (As [.bool])) (fixed:Bool) (t13:List YTT5) (t14 t15:Int) (t46:Bool) (t:List YTT5×List Bool) (x:qk_):pfn Tryz.prog q1a_ 6 18446744073709551616 (Ev.get q1c_) 118 qu_ J 15666 [w1] (q7a_ fixed t13 t14 t15 t46 t x)=qan_ (fun fixed t13 t14 t15 t51 t x=>J 31334 [w1] (q7b_ fixed t13 t14 t15 t51 t x)) (fun fixed endV t13 t14 t15 t=>w1 (qy_ fixed endV t13 t14 t15 t)) fixed t13 t14 t15 t46 t x:=by kernel_rfl
theorem qv0_ (J:Orc (As [.bool])) (w1:St->Option (As [.bool])) (fixed:Bool) (endV:Int) (t13:List YTT5) (t14 t15:Int) (t:List YTT5×List Bool):pfn Tryz.prog q1a_ 6 18446744073709551616 (Ev.get q1c_) 118 qu_ J 122 [w1] (qy_ fixed endV t13 t14 t15 t)=q3c_ (fun fixed t13 t14 t15 t46 t x=>J 15666 [w1] (q7a_ fixed t13 t14 t15 t46 t x)) (fun fixed endV t13 t14 t15 t=>w1 (qy_ fixed endV t13 t14 t15 t)) fixed endV t13 t14 t15 t:=by kernel_rfl
theorem qvb_ (J:Orc (As [.bool])) (x:As [.pr YTT1 (.sl .bool),.bool]):rfn Tryz.prog q1a_ 6 18446744073709551616 (Ev.get q1c_) 118 qu_ J x=q7e_ (fun fixed endV t13 t14 t15 t=>J 122 [] (qy_ fixed endV t13 t14 t15 t)) x.1 x.2.1:=by kernel_rfl
theorem qv8_ (w1:St->Option (As [.bool])) (fixed:Bool) (t13:List YTT5) (t14 t15:Int) (t51:Bool) (t:List YTT5×List Bool) (x:qk_):jfn Tryz.prog q1a_ 6 18446744073709551616 (Ev.get q1c_) 118 qu_ 31334 [w1] (q7b_ fixed t13 t14 t15 t51 t x)=q4t_ (fun fixed endV t13 t14 t15 t=>w1 (qy_ fixed endV t13 t14 t15 t)) fixed t13 t14 t15 t51 t x:=by
 rw [q8_ (by decide)]
 rw [quz_]
 rfl
theorem qv1_ (w1:St->Option (As [.bool])) (fixed:Bool) (t13:List YTT5) (t14 t15:Int) (t46:Bool) (t:List YTT5×List Bool) (x:qk_):jfn Tryz.prog q1a_ 6 18446744073709551616 (Ev.get q1c_) 118 qu_ 15666 [w1] (q7a_ fixed t13 t14 t15 t46 t x)=q4s_ (fun fixed endV t13 t14 t15 t=>w1 (qy_ fixed endV t13 t14 t15 t)) fixed t13 t14 t15 t46 t x:=by
 rw [q8_ (by decide)]
 have e3:(fun fixed t13 t14 t15 t51 t x=>(jfn Tryz.prog q1a_ 6 18446744073709551616 (Ev.get q1c_) 118 qu_) 31334 [w1] (q7b_ fixed t13 t14 t15 t51 t x))=q4t_ (fun fixed endV t13 t14 t15 t=>w1 (qy_ fixed endV t13 t14 t15 t)):=by funext fixed t13 t14 t15 t51 t x; exact qv8_ w1 fixed t13 t14 t15 t51 t x
 rw [qv5_,e3]
 rfl
theorem qv7_ (fixed:Bool) (endV:Int) (t13:List YTT5) (t14 t15:Int) (t:List YTT5×List Bool):jfn Tryz.prog q1a_ 6 18446744073709551616 (Ev.get q1c_) 118 qu_ 122 [] (qy_ fixed endV t13 t14 t15 t)=q3d_ fixed endV t13 t14 t15 t:=by
 rw [q8_ (by decide)]
 rw [qr_ (by kernel_rfl)]
 refine qi_ (σ:=(Bool)×(Int)×(List YTT5)×(Int)×(Int)×(List YTT5×List Bool)) (mk:=fun s=>qy_ s.1 s.2.1 s.2.2.1 s.2.2.2.1 s.2.2.2.2.1 s.2.2.2.2.2) (fun w1 s=>?_) 18446744073709551616 (fixed,endV,t13,t14,t15,t)
 have e2:(fun fixed t13 t14 t15 t46 t x=>(jfn Tryz.prog q1a_ 6 18446744073709551616 (Ev.get q1c_) 118 qu_) 15666 [w1] (q7a_ fixed t13 t14 t15 t46 t x))=q4s_ (fun fixed endV t13 t14 t15 t=>w1 (qy_ fixed endV t13 t14 t15 t)):=by funext fixed t13 t14 t15 t46 t x; exact qv1_ w1 fixed t13 t14 t15 t46 t x
 refine (qv0_ _ w1 s.1 s.2.1 s.2.2.1 s.2.2.2.1 s.2.2.2.2.1 s.2.2.2.2.2).trans ?_
 rw [e2]
theorem qw7_ (x:As [.pr YTT1 (.sl .bool),.bool]):evT Tryz.prog q1a_ 6 18446744073709551616 (Ev.get q1c_) 118 qu_ x=q4o_ x:=by
 have e1:(fun fixed endV t13 t14 t15 t=>(jfn Tryz.prog q1a_ 6 18446744073709551616 (Ev.get q1c_) 118 qu_) 122 [] (qy_ fixed endV t13 t14 t15 t))=q3d_:=by funext fixed endV t13 t14 t15 t; exact qv7_ fixed endV t13 t14 t15 t
 rw [q5_,qvb_,e1]
 rfl
theorem qva_:CtOk Tryz.prog (fun _=>True) 118 ⟨qu_,q4o_⟩:=q3_ q4_ qw7_
end Go.Proofs.Lx
end
