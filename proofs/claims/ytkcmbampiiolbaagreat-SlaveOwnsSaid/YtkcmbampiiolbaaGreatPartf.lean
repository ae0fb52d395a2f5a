/- Proved in the last of these 12 parts (this is part 6): SlaveOwns returns true, whatever the link, the bank, the ticks and what comes. Conditions: those of the given statement, and no others. -/
import Derived.Test.YtkcmbampiiolbaaGreatParte
import Derived.Test.YtkcmbampiiolbaaGreatProg
set_option linter.unusedVariables false
set_option linter.unusedSimpArgs false
set_option linter.unusedSectionVars false
section
open Go Go.Proofs Ev Sx
set_option maxRecDepth 100000
namespace Go.Proofs.Lx
abbrev qj_:Type:=Int×Int×Bool×Bool×Bool
@[reducible] def q14_:Sh:=⟨[.d YTT1,.d (.int .i64),.d (.int .i64),.fn (.func 260) [] [.pb 0 0,.pb 1 0]],[.box 3 [.d (.int .i64)],.box 3 [.d (.int .i64)]],[.sl (.pr (.int .i64) YTT12),.int .i64,.int .i64,.int .i64,.int .i64],[.d (.bool)],[(0,.box 3 [.d (.int .i64)]),(1,.box 3 [.d (.int .i64)])],0,[.bool,.int .i64,.int .i64]⟩
def q24_:Env:=(cts [(259,(⟨q1h_,q12_⟩:Ct)),(260,(⟨q1i_,qt_⟩:Ct)),(261,(⟨q2l_,q84_⟩:Ct)),(264,(⟨q1c_,qw_⟩:Ct)),(265,(⟨q1b_,qo_⟩:Ct))])
def q23_:List (Nat×Hint):=[(15,⟨[],[10]⟩),(122,⟨[],[1,2,3,9,10,19,20,21]⟩),(125342,⟨[],[1,2,3,9,10,12,14,15,19,20,21]⟩),(501369,⟨[],[1,2,3,9,10,12,14,15,19,20,21]⟩)]
def q2f_ (at' many left:Int) (t19:List YTT5) (t20 t21 o o_2:Int) (met:List Bool):St:={ fr:=[(1,.d (.int .i64) at'),(2,.d (.int .i64) many),(3,.fn (.func 260) [] [.pb 0 0,.pb 1 0]),(9,.row 2),(10,.d (.int .i64) left),(19,.d YTT1 t19),(20,.d (.int .i64) t20),(21,.d (.int .i64) t21)],nt:=62,up:=[],own:=[(0,.box 3 [.d (.int .i64) o]),(1,.box 3 [.d (.int .i64) o_2]),(2,.row .bool 4 met)],nx:=3,log:=[],ln:=2 }
def qgu_ (left o o_2:Int):St:={ fr:=[(10,.d (.int .i64) left)],nt:=62,up:=[],own:=[(0,.box 3 [.d (.int .i64) o]),(1,.box 3 [.d (.int .i64) o_2])],nx:=2,log:=[],ln:=2 }
def q47_ (at' many left to' i:Int) (t19:List YTT5) (t20 t21 o o_2:Int) (met:List Bool) (x:qj_):St:={ fr:=[(1,.d (.int .i64) at'),(2,.d (.int .i64) many),(3,.fn (.func 260) [] [.pb 0 0,.pb 1 0]),(9,.row 2),(10,.d (.int .i64) left),(12,.pb 3 0),(14,.d (.int .i64) to'),(15,.d (.int .i64) i),(19,.d YTT1 t19),(20,.d (.int .i64) t20),(21,.d (.int .i64) t21)],nt:=62,up:=[],own:=[(0,.box 3 [.d (.int .i64) o]),(1,.box 3 [.d (.int .i64) o_2]),(2,.row .bool 4 met),(3,.box 168 [.d (.int .i64) x.1,.d (.int .i64) x.2.1,.d .bool x.2.2.1,.d .bool x.2.2.2.1,.d .bool x.2.2.2.2])],nx:=4,log:=[],ln:=2 }
def qgq_ (at' many left to' i:Int) (t19:List YTT5) (t20 t21 o o_2:Int) (met:List Bool) (x:qj_):St:={ fr:=[(1,.d (.int .i64) at'),(2,.d (.int .i64) many),(3,.fn (.func 260) [] [.pb 0 0,.pb 1 0]),(9,.row 2),(10,.d (.int .i64) left),(12,.pb 3 0),(14,.d (.int .i64) to'),(15,.d (.int .i64) i),(19,.d YTT1 t19),(20,.d (.int .i64) t20),(21,.d (.int .i64) t21)],nt:=62,up:=[],own:=[(0,.box 3 [.d (.int .i64) o]),(1,.box 3 [.d (.int .i64) o_2]),(2,.row .bool 4 met),(3,.box 168 [.d (.int .i64) x.1,.d (.int .i64) x.2.1,.d .bool x.2.2.1,.d .bool x.2.2.2.1,.d .bool x.2.2.2.2])],nx:=4,log:=[],ln:=2 }
def qcg_ (j2:Int->Int->Int->Option (As [.bool,.int .i64,.int .i64])) (j3:Int->Int->Int->Int->Int->List YTT5->Int->Int->Int->Int->List Bool->qj_->Option (As [.bool,.int .i64,.int .i64])) (self1:Int->Int->Int->List YTT5->Int->Int->Int->Int->List Bool->Option (As [.bool,.int .i64,.int .i64])) (at' many left:Int) (t19:List YTT5) (t20 t21 o o_2:Int) (met:List Bool):Option (As [.bool,.int .i64,.int .i64]) :=
 if lt t21 t20=true then Option.bind (at? t19 t21) fun y=>if eqi left 0=true then j2 left o o_2 else Option.bind (q84_ (y,at',add .i64 at' many,())) fun y_1=>j3 at' many left y_1.2.1 y_1.1 t19 t20 t21 o o_2 met y else j2 left o o_2
def qve_ (left o o_2:Int):Option (As [.bool,.int .i64,.int .i64]) :=
 some (eqi left 0,o,o_2,())
def qcb_ (j4:Int->Int->Int->Int->Int->List YTT5->Int->Int->Int->Int->List Bool->qj_->Option (As [.bool,.int .i64,.int .i64])) (self1:Int->Int->Int->List YTT5->Int->Int->Int->Int->List Bool->Option (As [.bool,.int .i64,.int .i64])) (self3:Int->Int->Int->Int->Int->List YTT5->Int->Int->Int->Int->List Bool->qj_->Option (As [.bool,.int .i64,.int .i64])) (at' many left to' i:Int) (t19:List YTT5) (t20 t21 o o_2:Int) (met:List Bool) (x:qj_):Option (As [.bool,.int .i64,.int .i64]) :=
 if lt i to'=true then Option.bind (at? met (Sx.sub .i64 i at')) fun x_1=>Option.bind (at? met (Sx.sub .i64 i at')) fun y=>if y=true then j4 at' many left to' i t19 t20 t21 o o_2 met x else Option.bind (qt_ (x,o,o_2,())) fun y=>if (!y.1)=true then some (false,y.2.1,y.2.2.1,()) else Option.bind (at? met (Sx.sub .i64 i at')) fun x_2=>Option.bind (at? met (Sx.sub .i64 i at')) fun x_3=>j4 at' many (Sx.sub .i64 left 1) to' i t19 t20 t21 y.2.1 y.2.2.1 (List.set met (Int.toNat (Sx.sub .i64 i at')) true) x else self1 at' many left t19 t20 (add .i64 t21 1) o o_2 met
def qo8_ (self1:Int->Int->Int->List YTT5->Int->Int->Int->Int->List Bool->Option (As [.bool,.int .i64,.int .i64])) (self3:Int->Int->Int->Int->Int->List YTT5->Int->Int->Int->Int->List Bool->qj_->Option (As [.bool,.int .i64,.int .i64])) (at' many left to' i:Int) (t19:List YTT5) (t20 t21 o o_2:Int) (met:List Bool) (x:qj_):Option (As [.bool,.int .i64,.int .i64]) :=
 self3 at' many left to' (add .i64 i 1) t19 t20 t21 o o_2 met x
def qgf_ (j1:Int->Int->Int->List YTT5->Int->Int->Int->Int->List Bool->Option (As [.bool,.int .i64,.int .i64])) (areas:List YTT5) (at' many wanted areas_2:Int):Option (As [.bool,.int .i64,.int .i64]) :=
 need (ge many 0) (need (Ev.capOk many many) (need (small (Int.toNat many)) (j1 at' many many areas (Int.ofNat (List.length areas)) 0 wanted areas_2 (List.replicate (Int.toNat many) false))))
def q92_ (left o o_2:Int):Option (As [.bool,.int .i64,.int .i64]):=qve_ left o o_2
def q6r_ (u1:Int->Int->Int->List YTT5->Int->Int->Int->Int->List Bool->Option (As [.bool,.int .i64,.int .i64])) (u3:Int->Int->Int->Int->Int->List YTT5->Int->Int->Int->Int->List Bool->qj_->Option (As [.bool,.int .i64,.int .i64])) (at' many left to' i:Int) (t19:List YTT5) (t20 t21 o o_2:Int) (met:List Bool) (x:qj_):Option (As [.bool,.int .i64,.int .i64]):=qo8_ u1 u3 at' many left to' i t19 t20 t21 o o_2 met x
def q6t_ (u1:Int->Int->Int->List YTT5->Int->Int->Int->Int->List Bool->Option (As [.bool,.int .i64,.int .i64])) (at' many left to' i:Int) (t19:List YTT5) (t20 t21 o o_2:Int) (met:List Bool) (x:qj_):Option (As [.bool,.int .i64,.int .i64]) :=
 loopF (fun (self:(Int)×(Int)×(Int)×(Int)×(Int)×(List YTT5)×(Int)×(Int)×(Int)×(Int)×(List Bool)×YTT5->Option (As [.bool,.int .i64,.int .i64])) (s:(Int)×(Int)×(Int)×(Int)×(Int)×(List YTT5)×(Int)×(Int)×(Int)×(Int)×(List Bool)×YTT5)=>qcb_ (q6r_ u1 (fun at' many left to' i t19 t20 t21 o o_2 met x=>self (at',many,left,to',i,t19,t20,t21,o,o_2,met,x))) u1 (fun at' many left to' i t19 t20 t21 o o_2 met x=>self (at',many,left,to',i,t19,t20,t21,o,o_2,met,x)) s.1 s.2.1 s.2.2.1 s.2.2.2.1 s.2.2.2.2.1 s.2.2.2.2.2.1 s.2.2.2.2.2.2.1 s.2.2.2.2.2.2.2.1 s.2.2.2.2.2.2.2.2.1 s.2.2.2.2.2.2.2.2.2.1 s.2.2.2.2.2.2.2.2.2.2.1 s.2.2.2.2.2.2.2.2.2.2.2) 18446744073709551616 (at',many,left,to',i,t19,t20,t21,o,o_2,met,x)
def qbn_ (at' many left:Int) (t19:List YTT5) (t20 t21 o o_2:Int) (met:List Bool):Option (As [.bool,.int .i64,.int .i64]) :=
 loopF (fun (self:(Int)×(Int)×(Int)×(List YTT5)×(Int)×(Int)×(Int)×(Int)×(List Bool)->Option (As [.bool,.int .i64,.int .i64])) (s:(Int)×(Int)×(Int)×(List YTT5)×(Int)×(Int)×(Int)×(Int)×(List Bool))=>qcg_ (q92_) (q6t_ (fun at' many left t19 t20 t21 o o_2 met=>self (at',many,left,t19,t20,t21,o,o_2,met))) (fun at' many left t19 t20 t21 o o_2 met=>self (at',many,left,t19,t20,t21,o,o_2,met)) s.1 s.2.1 s.2.2.1 s.2.2.2.1 s.2.2.2.2.1 s.2.2.2.2.2.1 s.2.2.2.2.2.2.1 s.2.2.2.2.2.2.2.1 s.2.2.2.2.2.2.2.2) 18446744073709551616 (at',many,left,t19,t20,t21,o,o_2,met)
def q6j_ (x:As [.sl (.pr (.int .i64) YTT12),.int .i64,.int .i64,.int .i64,.int .i64]):Option (As [.bool,.int .i64,.int .i64]):=qgf_ qbn_ x.1 x.2.1 x.2.2.1 x.2.2.2.1 x.2.2.2.2.1
theorem q15o_ (J:Orc (As [.bool,.int .i64,.int .i64])) (left o o_2:Int):pfn Tryz.prog q24_ 6 18446744073709551616 (Ev.get q23_) 258 q14_ J 15 [] (qgu_ left o o_2)=qve_ left o o_2:=by kernel_rfl
theorem q15s_ (J:Orc (As [.bool,.int .i64,.int .i64])) (w1 w3:St->Option (As [.bool,.int .i64,.int .i64])) (at' many left to' i:Int) (t19:List YTT5) (t20 t21 o o_2:Int) (met:List Bool) (x:qj_):pfn Tryz.prog q24_ 6 18446744073709551616 (Ev.get q23_) 258 q14_ J 501369 [w1,w3] (qgq_ at' many left to' i t19 t20 t21 o o_2 met x)=qo8_ (fun at' many left t19 t20 t21 o o_2 met=>w1 (q2f_ at' many left t19 t20 t21 o o_2 met)) (fun at' many left to' i t19 t20 t21 o o_2 met x=>w3 (q47_ at' many left to' i t19 t20 t21 o o_2 met x)) at' many left to' i t19 t20 t21 o o_2 met x:=by kernel_rfl
theorem q14p_ (J:Orc (As [.bool,.int .i64,.int .i64])) (w1 w3:St->Option (As [.bool,.int .i64,.int .i64])) (at' many left to' i:Int) (t19:List YTT5) (t20 t21 o o_2:Int) (met:List Bool) (x:qj_):pfn Tryz.prog q24_ 6 18446744073709551616 (Ev.get q23_) 258 q14_ J 125342 [w1,w3] (q47_ at' many left to' i t19 t20 t21 o o_2 met x)=qcb_ (fun at' many left to' i t19 t20 t21 o o_2 met x=>J 501369 [w1,w3] (qgq_ at' many left to' i t19 t20 t21 o o_2 met x)) (fun at' many left t19 t20 t21 o o_2 met=>w1 (q2f_ at' many left t19 t20 t21 o o_2 met)) (fun at' many left to' i t19 t20 t21 o o_2 met x=>w3 (q47_ at' many left to' i t19 t20 t21 o o_2 met x)) at' many left to' i t19 t20 t21 o o_2 met x:=by kernel_rfl
theorem q150_ (J:Orc (As [.bool,.int .i64,.int .i64])) (w1:St->Option (As [.bool,.int .i64,.int .i64])) (at' many left:Int) (t19:List YTT5) (t20 t21 o o_2:Int) (met:List Bool):pfn Tryz.prog q24_ 6 18446744073709551616 (Ev.get q23_) 258 q14_ J 122 [w1] (q2f_ at' many left t19 t20 t21 o o_2 met)=qcg_ (fun left o o_2=>J 15 [] (qgu_ left o o_2)) (fun at' many left to' i t19 t20 t21 o o_2 met x=>J 125342 [w1] (q47_ at' many left to' i t19 t20 t21 o o_2 met x)) (fun at' many left t19 t20 t21 o o_2 met=>w1 (q2f_ at' many left t19 t20 t21 o o_2 met)) at' many left t19 t20 t21 o o_2 met:=by kernel_rfl
theorem q14x_ (J:Orc (As [.bool,.int .i64,.int .i64])) (x:As [.sl (.pr (.int .i64) YTT12),.int .i64,.int .i64,.int .i64,.int .i64]):rfn Tryz.prog q24_ 6 18446744073709551616 (Ev.get q23_) 258 q14_ J x=qgf_ (fun at' many left t19 t20 t21 o o_2 met=>J 122 [] (q2f_ at' many left t19 t20 t21 o o_2 met)) x.1 x.2.1 x.2.2.1 x.2.2.2.1 x.2.2.2.2.1:=by kernel_rfl
theorem q14m_ (left o o_2:Int):jfn Tryz.prog q24_ 6 18446744073709551616 (Ev.get q23_) 258 q14_ 15 [] (qgu_ left o o_2)=q92_ left o o_2:=by
 rw [q8_ (by decide)]
 rw [q15o_]
 rfl
theorem q159_ (w1 w3:St->Option (As [.bool,.int .i64,.int .i64])) (at' many left to' i:Int) (t19:List YTT5) (t20 t21 o o_2:Int) (met:List Bool) (x:qj_):jfn Tryz.prog q24_ 6 18446744073709551616 (Ev.get q23_) 258 q14_ 501369 [w1,w3] (qgq_ at' many left to' i t19 t20 t21 o o_2 met x)=q6r_ (fun at' many left t19 t20 t21 o o_2 met=>w1 (q2f_ at' many left t19 t20 t21 o o_2 met)) (fun at' many left to' i t19 t20 t21 o o_2 met x=>w3 (q47_ at' many left to' i t19 t20 t21 o o_2 met x)) at' many left to' i t19 t20 t21 o o_2 met x:=by
 rw [q8_ (by decide)]
 rw [q15s_]
 rfl
theorem q14v_ (w1:St->Option (As [.bool,.int .i64,.int .i64])) (at' many left to' i:Int) (t19:List YTT5) (t20 t21 o o_2:Int) (met:List Bool) (x:qj_):jfn Tryz.prog q24_ 6 18446744073709551616 (Ev.get q23_) 258 q14_ 125342 [w1] (q47_ at' many left to' i t19 t20 t21 o o_2 met x)=q6t_ (fun at' many left t19 t20 t21 o o_2 met=>w1 (q2f_ at' many left t19 t20 t21 o o_2 met)) at' many left to' i t19 t20 t21 o o_2 met x:=by
 rw [q8_ (by decide)]
 rw [qr_ (by kernel_rfl)]
 refine qi_ (σ:=(Int)×(Int)×(Int)×(Int)×(Int)×(List YTT5)×(Int)×(Int)×(Int)×(Int)×(List Bool)×YTT5) (mk:=fun s=>q47_ s.1 s.2.1 s.2.2.1 s.2.2.2.1 s.2.2.2.2.1 s.2.2.2.2.2.1 s.2.2.2.2.2.2.1 s.2.2.2.2.2.2.2.1 s.2.2.2.2.2.2.2.2.1 s.2.2.2.2.2.2.2.2.2.1 s.2.2.2.2.2.2.2.2.2.2.1 s.2.2.2.2.2.2.2.2.2.2.2) (fun w3 s=>?_) 18446744073709551616 (at',many,left,to',i,t19,t20,t21,o,o_2,met,x)
 have e4:(fun at' many left to' i t19 t20 t21 o o_2 met x=>(jfn Tryz.prog q24_ 6 18446744073709551616 (Ev.get q23_) 258 q14_) 501369 [w1,w3] (qgq_ at' many left to' i t19 t20 t21 o o_2 met x))=q6r_ (fun at' many left t19 t20 t21 o o_2 met=>w1 (q2f_ at' many left t19 t20 t21 o o_2 met)) (fun at' many left to' i t19 t20 t21 o o_2 met x=>w3 (q47_ at' many left to' i t19 t20 t21 o o_2 met x)):=by funext at' many left to' i t19 t20 t21 o o_2 met x; exact q159_ w1 w3 at' many left to' i t19 t20 t21 o o_2 met x
 refine (q14p_ _ w1 w3 s.1 s.2.1 s.2.2.1 s.2.2.2.1 s.2.2.2.2.1 s.2.2.2.2.2.1 s.2.2.2.2.2.2.1 s.2.2.2.2.2.2.2.1 s.2.2.2.2.2.2.2.2.1 s.2.2.2.2.2.2.2.2.2.1 s.2.2.2.2.2.2.2.2.2.2.1 s.2.2.2.2.2.2.2.2.2.2.2).trans ?_
 rw [e4]
theorem q14j_ (at' many left:Int) (t19:List YTT5) (t20 t21 o o_2:Int) (met:List Bool):jfn Tryz.prog q24_ 6 18446744073709551616 (Ev.get q23_) 258 q14_ 122 [] (q2f_ at' many left t19 t20 t21 o o_2 met)=qbn_ at' many left t19 t20 t21 o o_2 met:=by
 rw [q8_ (by decide)]
 rw [qr_ (by kernel_rfl)]
 refine qi_ (σ:=(Int)×(Int)×(Int)×(List YTT5)×(Int)×(Int)×(Int)×(Int)×(List Bool)) (mk:=fun s=>q2f_ s.1 s.2.1 s.2.2.1 s.2.2.2.1 s.2.2.2.2.1 s.2.2.2.2.2.1 s.2.2.2.2.2.2.1 s.2.2.2.2.2.2.2.1 s.2.2.2.2.2.2.2.2) (fun w1 s=>?_) 18446744073709551616 (at',many,left,t19,t20,t21,o,o_2,met)
 have e2:(fun left o o_2=>(jfn Tryz.prog q24_ 6 18446744073709551616 (Ev.get q23_) 258 q14_) 15 [] (qgu_ left o o_2))=q92_:=by funext left o o_2; exact q14m_ left o o_2
 have e3:(fun at' many left to' i t19 t20 t21 o o_2 met x=>(jfn Tryz.prog q24_ 6 18446744073709551616 (Ev.get q23_) 258 q14_) 125342 [w1] (q47_ at' many left to' i t19 t20 t21 o o_2 met x))=q6t_ (fun at' many left t19 t20 t21 o o_2 met=>w1 (q2f_ at' many left t19 t20 t21 o o_2 met)):=by funext at' many left to' i t19 t20 t21 o o_2 met x; exact q14v_ w1 at' many left to' i t19 t20 t21 o o_2 met x
 refine (q150_ _ w1 s.1 s.2.1 s.2.2.1 s.2.2.2.1 s.2.2.2.2.1 s.2.2.2.2.2.1 s.2.2.2.2.2.2.1 s.2.2.2.2.2.2.2.1 s.2.2.2.2.2.2.2.2).trans ?_
 rw [e2,e3]
theorem q16b_ (x:As [.sl (.pr (.int .i64) YTT12),.int .i64,.int .i64,.int .i64,.int .i64]):evT Tryz.prog q24_ 6 18446744073709551616 (Ev.get q23_) 258 q14_ x=q6j_ x:=by
 have e1:(fun at' many left t19 t20 t21 o o_2 met=>(jfn Tryz.prog q24_ 6 18446744073709551616 (Ev.get q23_) 258 q14_) 122 [] (q2f_ at' many left t19 t20 t21 o o_2 met))=qbn_:=by funext at' many left t19 t20 t21 o o_2 met; exact q14j_ at' many left t19 t20 t21 o o_2 met
 rw [q5_,q14x_,e1]
 rfl
theorem qgi_:CtOk Tryz.prog (fun _=>True) 258 ⟨q14_,q6j_⟩:=q3_ (q0_ q33_ (q0_ q32_ (q0_ qmo_ (q0_ q2o_ (q0_ q2p_ q4_))))) q16b_
@[reducible] def q18_:Sh:=⟨[.d YTT1,.d (.int .i64),.d (.int .i64),.fn (.func 264) [] []],[],[.sl (.pr (.int .i64) YTT12),.int .i64,.int .i64],[.d (.bool)],[],0,[.bool]⟩
def q1w_:Env:=(cts [(259,(⟨q1h_,q12_⟩:Ct)),(260,(⟨q1i_,qt_⟩:Ct)),(261,(⟨q2l_,q84_⟩:Ct)),(264,(⟨q1c_,qw_⟩:Ct)),(265,(⟨q1b_,qo_⟩:Ct))])
def q1y_:List (Nat×Hint):=[(15,⟨[],[10]⟩),(122,⟨[],[1,2,3,9,10,19,20,21]⟩),(125342,⟨[],[1,2,3,9,10,12,14,15,19,20,21]⟩),(501369,⟨[],[1,2,3,9,10,12,14,15,19,20,21]⟩)]
def q2i_ (at' many left:Int) (t19:List YTT5) (t20 t21:Int) (met:List Bool):St:={ fr:=[(1,.d (.int .i64) at'),(2,.d (.int .i64) many),(3,.fn (.func 264) [] []),(9,.row 0),(10,.d (.int .i64) left),(19,.d YTT1 t19),(20,.d (.int .i64) t20),(21,.d (.int .i64) t21)],nt:=62,up:=[],own:=[(0,.row .bool 4 met)],nx:=1,log:=[],ln:=0 }
def qgt_ (left:Int):St:={ fr:=[(10,.d (.int .i64) left)],nt:=62,up:=[],own:=[],nx:=0,log:=[],ln:=0 }
def q49_ (at' many left to' i:Int) (t19:List YTT5) (t20 t21:Int) (met:List Bool) (x:qj_):St:={ fr:=[(1,.d (.int .i64) at'),(2,.d (.int .i64) many),(3,.fn (.func 264) [] []),(9,.row 0),(10,.d (.int .i64) left),(12,.pb 1 0),(14,.d (.int .i64) to'),(15,.d (.int .i64) i),(19,.d YTT1 t19),(20,.d (.int .i64) t20),(21,.d (.int .i64) t21)],nt:=62,up:=[],own:=[(0,.row .bool 4 met),(1,.box 168 [.d (.int .i64) x.1,.d (.int .i64) x.2.1,.d .bool x.2.2.1,.d .bool x.2.2.2.1,.d .bool x.2.2.2.2])],nx:=2,log:=[],ln:=0 }
def qgs_ (at' many left to' i:Int) (t19:List YTT5) (t20 t21:Int) (met:List Bool) (x:qj_):St:={ fr:=[(1,.d (.int .i64) at'),(2,.d (.int .i64) many),(3,.fn (.func 264) [] []),(9,.row 0),(10,.d (.int .i64) left),(12,.pb 1 0),(14,.d (.int .i64) to'),(15,.d (.int .i64) i),(19,.d YTT1 t19),(20,.d (.int .i64) t20),(21,.d (.int .i64) t21)],nt:=62,up:=[],own:=[(0,.row .bool 4 met),(1,.box 168 [.d (.int .i64) x.1,.d (.int .i64) x.2.1,.d .bool x.2.2.1,.d .bool x.2.2.2.1,.d .bool x.2.2.2.2])],nx:=2,log:=[],ln:=0 }
def qc8_ (j2:Int->Option (As [.bool])) (j3:Int->Int->Int->Int->Int->List YTT5->Int->Int->List Bool->qj_->Option (As [.bool])) (self1:Int->Int->Int->List YTT5->Int->Int->List Bool->Option (As [.bool])) (at' many left:Int) (t19:List YTT5) (t20 t21:Int) (met:List Bool):Option (As [.bool]) :=
 if lt t21 t20=true then Option.bind (at? t19 t21) fun y=>if eqi left 0=true then j2 left else Option.bind (q84_ (y,at',add .i64 at' many,())) fun y_1=>j3 at' many left y_1.2.1 y_1.1 t19 t20 t21 met y else j2 left
def qvc_ (left:Int):Option (As [.bool]) :=
 some (eqi left 0,())
def qc6_ (j4:Int->Int->Int->Int->Int->List YTT5->Int->Int->List Bool->qj_->Option (As [.bool])) (self1:Int->Int->Int->List YTT5->Int->Int->List Bool->Option (As [.bool])) (self3:Int->Int->Int->Int->Int->List YTT5->Int->Int->List Bool->qj_->Option (As [.bool])) (at' many left to' i:Int) (t19:List YTT5) (t20 t21:Int) (met:List Bool) (x:qj_):Option (As [.bool]) :=
 if lt i to'=true then Option.bind (at? met (Sx.sub .i64 i at')) fun x_1=>Option.bind (at? met (Sx.sub .i64 i at')) fun y=>if y=true then j4 at' many left to' i t19 t20 t21 met x else Option.bind (qw_ (x,())) fun y=>if (!y.1)=true then some (false,()) else Option.bind (at? met (Sx.sub .i64 i at')) fun x_2=>Option.bind (at? met (Sx.sub .i64 i at')) fun x_3=>j4 at' many (Sx.sub .i64 left 1) to' i t19 t20 t21 (List.set met (Int.toNat (Sx.sub .i64 i at')) true) x else self1 at' many left t19 t20 (add .i64 t21 1) met
def qoa_ (self1:Int->Int->Int->List YTT5->Int->Int->List Bool->Option (As [.bool])) (self3:Int->Int->Int->Int->Int->List YTT5->Int->Int->List Bool->qj_->Option (As [.bool])) (at' many left to' i:Int) (t19:List YTT5) (t20 t21:Int) (met:List Bool) (x:qj_):Option (As [.bool]) :=
 self3 at' many left to' (add .i64 i 1) t19 t20 t21 met x
def qgn_ (j1:Int->Int->Int->List YTT5->Int->Int->List Bool->Option (As [.bool])) (areas:List YTT5) (at' many:Int):Option (As [.bool]) :=
 need (ge many 0) (need (Ev.capOk many many) (need (small (Int.toNat many)) (j1 at' many many areas (Int.ofNat (List.length areas)) 0 (List.replicate (Int.toNat many) false))))
def q8y_ (left:Int):Option (As [.bool]):=qvc_ left
def q6q_ (u1:Int->Int->Int->List YTT5->Int->Int->List Bool->Option (As [.bool])) (u3:Int->Int->Int->Int->Int->List YTT5->Int->Int->List Bool->qj_->Option (As [.bool])) (at' many left to' i:Int) (t19:List YTT5) (t20 t21:Int) (met:List Bool) (x:qj_):Option (As [.bool]):=qoa_ u1 u3 at' many left to' i t19 t20 t21 met x
def q6o_ (u1:Int->Int->Int->List YTT5->Int->Int->List Bool->Option (As [.bool])) (at' many left to' i:Int) (t19:List YTT5) (t20 t21:Int) (met:List Bool) (x:qj_):Option (As [.bool]) :=
 loopF (fun (self:(Int)×(Int)×(Int)×(Int)×(Int)×(List YTT5)×(Int)×(Int)×(List Bool)×YTT5->Option (As [.bool])) (s:(Int)×(Int)×(Int)×(Int)×(Int)×(List YTT5)×(Int)×(Int)×(List Bool)×YTT5)=>qc6_ (q6q_ u1 (fun at' many left to' i t19 t20 t21 met x=>self (at',many,left,to',i,t19,t20,t21,met,x))) u1 (fun at' many left to' i t19 t20 t21 met x=>self (at',many,left,to',i,t19,t20,t21,met,x)) s.1 s.2.1 s.2.2.1 s.2.2.2.1 s.2.2.2.2.1 s.2.2.2.2.2.1 s.2.2.2.2.2.2.1 s.2.2.2.2.2.2.2.1 s.2.2.2.2.2.2.2.2.1 s.2.2.2.2.2.2.2.2.2) 18446744073709551616 (at',many,left,to',i,t19,t20,t21,met,x)
def qc0_ (at' many left:Int) (t19:List YTT5) (t20 t21:Int) (met:List Bool):Option (As [.bool]) :=
 loopF (fun (self:(Int)×(Int)×(Int)×(List YTT5)×(Int)×(Int)×(List Bool)->Option (As [.bool])) (s:(Int)×(Int)×(Int)×(List YTT5)×(Int)×(Int)×(List Bool))=>qc8_ (q8y_) (q6o_ (fun at' many left t19 t20 t21 met=>self (at',many,left,t19,t20,t21,met))) (fun at' many left t19 t20 t21 met=>self (at',many,left,t19,t20,t21,met)) s.1 s.2.1 s.2.2.1 s.2.2.2.1 s.2.2.2.2.1 s.2.2.2.2.2.1 s.2.2.2.2.2.2) 18446744073709551616 (at',many,left,t19,t20,t21,met)
def q6f_ (x:As [.sl (.pr (.int .i64) YTT12),.int .i64,.int .i64]):Option (As [.bool]):=qgn_ qc0_ x.1 x.2.1 x.2.2.1
theorem q14o_ (J:Orc (As [.bool])) (left:Int):pfn Tryz.prog q1w_ 6 18446744073709551616 (Ev.get q1y_) 258 q18_ J 15 [] (qgt_ left)=qvc_ left:=by kernel_rfl
theorem q14h_ (J:Orc (As [.bool])) (w1 w3:St->Option (As [.bool])) (at' many left to' i:Int) (t19:List YTT5) (t20 t21:Int) (met:List Bool) (x:qj_):pfn Tryz.prog q1w_ 6 18446744073709551616 (Ev.get q1y_) 258 q18_ J 501369 [w1,w3] (qgs_ at' many left to' i t19 t20 t21 met x)=qoa_ (fun at' many left t19 t20 t21 met=>w1 (q2i_ at' many left t19 t20 t21 met)) (fun at' many left to' i t19 t20 t21 met x=>w3 (q49_ at' many left to' i t19 t20 t21 met x)) at' many left to' i t19 t20 t21 met x:=by kernel_rfl
theorem q14q_ (J:Orc (As [.bool])) (w1 w3:St->Option (As [.bool])) (at' many left to' i:Int) (t19:List YTT5) (t20 t21:Int) (met:List Bool) (x:qj_):pfn Tryz.prog q1w_ 6 18446744073709551616 (Ev.get q1y_) 258 q18_ J 125342 [w1,w3] (q49_ at' many left to' i t19 t20 t21 met x)=qc6_ (fun at' many left to' i t19 t20 t21 met x=>J 501369 [w1,w3] (qgs_ at' many left to' i t19 t20 t21 met x)) (fun at' many left t19 t20 t21 met=>w1 (q2i_ at' many left t19 t20 t21 met)) (fun at' many left to' i t19 t20 t21 met x=>w3 (q49_ at' many left to' i t19 t20 t21 met x)) at' many left to' i t19 t20 t21 met x:=by kernel_rfl
theorem q15k_ (J:Orc (As [.bool])) (w1:St->Option (As [.bool])) (at' many left:Int) (t19:List YTT5) (t20 t21:Int) (met:List Bool):pfn Tryz.prog q1w_ 6 18446744073709551616 (Ev.get q1y_) 258 q18_ J 122 [w1] (q2i_ at' many left t19 t20 t21 met)=qc8_ (fun left=>J 15 [] (qgt_ left)) (fun at' many left to' i t19 t20 t21 met x=>J 125342 [w1] (q49_ at' many left to' i t19 t20 t21 met x)) (fun at' many left t19 t20 t21 met=>w1 (q2i_ at' many left t19 t20 t21 met)) at' many left t19 t20 t21 met:=by kernel_rfl
theorem q15p_ (J:Orc (As [.bool])) (x:As [.sl (.pr (.int .i64) YTT12),.int .i64,.int .i64]):rfn Tryz.prog q1w_ 6 18446744073709551616 (Ev.get q1y_) 258 q18_ J x=qgn_ (fun at' many left t19 t20 t21 met=>J 122 [] (q2i_ at' many left t19 t20 t21 met)) x.1 x.2.1 x.2.2.1:=by kernel_rfl
theorem q154_ (left:Int):jfn Tryz.prog q1w_ 6 18446744073709551616 (Ev.get q1y_) 258 q18_ 15 [] (qgt_ left)=q8y_ left:=by
 rw [q8_ (by decide)]
 rw [q14o_]
 rfl
theorem q157_ (w1 w3:St->Option (As [.bool])) (at' many left to' i:Int) (t19:List YTT5) (t20 t21:Int) (met:List Bool) (x:qj_):jfn Tryz.prog q1w_ 6 18446744073709551616 (Ev.get q1y_) 258 q18_ 501369 [w1,w3] (qgs_ at' many left to' i t19 t20 t21 met x)=q6q_ (fun at' many left t19 t20 t21 met=>w1 (q2i_ at' many left t19 t20 t21 met)) (fun at' many left to' i t19 t20 t21 met x=>w3 (q49_ at' many left to' i t19 t20 t21 met x)) at' many left to' i t19 t20 t21 met x:=by
 rw [q8_ (by decide)]
 rw [q14h_]
 rfl
theorem q155_ (w1:St->Option (As [.bool])) (at' many left to' i:Int) (t19:List YTT5) (t20 t21:Int) (met:List Bool) (x:qj_):jfn Tryz.prog q1w_ 6 18446744073709551616 (Ev.get q1y_) 258 q18_ 125342 [w1] (q49_ at' many left to' i t19 t20 t21 met x)=q6o_ (fun at' many left t19 t20 t21 met=>w1 (q2i_ at' many left t19 t20 t21 met)) at' many left to' i t19 t20 t21 met x:=by
 rw [q8_ (by decide)]
 rw [qr_ (by kernel_rfl)]
 refine qi_ (σ:=(Int)×(Int)×(Int)×(Int)×(Int)×(List YTT5)×(Int)×(Int)×(List Bool)×YTT5) (mk:=fun s=>q49_ s.1 s.2.1 s.2.2.1 s.2.2.2.1 s.2.2.2.2.1 s.2.2.2.2.2.1 s.2.2.2.2.2.2.1 s.2.2.2.2.2.2.2.1 s.2.2.2.2.2.2.2.2.1 s.2.2.2.2.2.2.2.2.2) (fun w3 s=>?_) 18446744073709551616 (at',many,left,to',i,t19,t20,t21,met,x)
 have e4:(fun at' many left to' i t19 t20 t21 met x=>(jfn Tryz.prog q1w_ 6 18446744073709551616 (Ev.get q1y_) 258 q18_) 501369 [w1,w3] (qgs_ at' many left to' i t19 t20 t21 met x))=q6q_ (fun at' many left t19 t20 t21 met=>w1 (q2i_ at' many left t19 t20 t21 met)) (fun at' many left to' i t19 t20 t21 met x=>w3 (q49_ at' many left to' i t19 t20 t21 met x)):=by funext at' many left to' i t19 t20 t21 met x; exact q157_ w1 w3 at' many left to' i t19 t20 t21 met x
 refine (q14q_ _ w1 w3 s.1 s.2.1 s.2.2.1 s.2.2.2.1 s.2.2.2.2.1 s.2.2.2.2.2.1 s.2.2.2.2.2.2.1 s.2.2.2.2.2.2.2.1 s.2.2.2.2.2.2.2.2.1 s.2.2.2.2.2.2.2.2.2).trans ?_
 rw [e4]
theorem q15n_ (at' many left:Int) (t19:List YTT5) (t20 t21:Int) (met:List Bool):jfn Tryz.prog q1w_ 6 18446744073709551616 (Ev.get q1y_) 258 q18_ 122 [] (q2i_ at' many left t19 t20 t21 met)=qc0_ at' many left t19 t20 t21 met:=by
 rw [q8_ (by decide)]
 rw [qr_ (by kernel_rfl)]
 refine qi_ (σ:=(Int)×(Int)×(Int)×(List YTT5)×(Int)×(Int)×(List Bool)) (mk:=fun s=>q2i_ s.1 s.2.1 s.2.2.1 s.2.2.2.1 s.2.2.2.2.1 s.2.2.2.2.2.1 s.2.2.2.2.2.2) (fun w1 s=>?_) 18446744073709551616 (at',many,left,t19,t20,t21,met)
 have e2:(fun left=>(jfn Tryz.prog q1w_ 6 18446744073709551616 (Ev.get q1y_) 258 q18_) 15 [] (qgt_ left))=q8y_:=funext fun left=>q154_ left
 have e3:(fun at' many left to' i t19 t20 t21 met x=>(jfn Tryz.prog q1w_ 6 18446744073709551616 (Ev.get q1y_) 258 q18_) 125342 [w1] (q49_ at' many left to' i t19 t20 t21 met x))=q6o_ (fun at' many left t19 t20 t21 met=>w1 (q2i_ at' many left t19 t20 t21 met)):=by funext at' many left to' i t19 t20 t21 met x; exact q155_ w1 at' many left to' i t19 t20 t21 met x
 refine (q15k_ _ w1 s.1 s.2.1 s.2.2.1 s.2.2.2.1 s.2.2.2.2.1 s.2.2.2.2.2.1 s.2.2.2.2.2.2).trans ?_
 rw [e2,e3]
theorem q16w_ (x:As [.sl (.pr (.int .i64) YTT12),.int .i64,.int .i64]):evT Tryz.prog q1w_ 6 18446744073709551616 (Ev.get q1y_) 258 q18_ x=q6f_ x:=by
 have e1:(fun at' many left t19 t20 t21 met=>(jfn Tryz.prog q1w_ 6 18446744073709551616 (Ev.get q1y_) 258 q18_) 122 [] (q2i_ at' many left t19 t20 t21 met))=qc0_:=by funext at' many left t19 t20 t21 met; exact q15n_ at' many left t19 t20 t21 met
 rw [q5_,q15p_,e1]
 rfl
theorem qgw_:CtOk Tryz.prog (fun _=>True) 258 ⟨q18_,q6f_⟩:=q3_ (q0_ q33_ (q0_ q32_ (q0_ qmo_ (q0_ q2o_ (q0_ q2p_ q4_))))) q16w_
@[reducible] def q17_:Sh:=⟨[.d YTT1,.d (.int .i64),.d (.int .i64),.fn (.func 265) [] [.pb 0 0,.pb 1 0]],[.box 3 [.d (.int .i64)],.box 3 [.d (.int .i64)]],[.sl (.pr (.int .i64) YTT12),.int .i64,.int .i64,.int .i64,.int .i64],[.d (.bool)],[(0,.box 3 [.d (.int .i64)]),(1,.box 3 [.d (.int .i64)])],0,[.bool,.int .i64,.int .i64]⟩
def q1v_:Env:=(cts [(259,(⟨q1h_,q12_⟩:Ct)),(260,(⟨q1i_,qt_⟩:Ct)),(261,(⟨q2l_,q84_⟩:Ct)),(264,(⟨q1c_,qw_⟩:Ct)),(265,(⟨q1b_,qo_⟩:Ct))])
def q22_:List (Nat×Hint):=[(15,⟨[],[10]⟩),(122,⟨[],[1,2,3,9,10,19,20,21]⟩),(125342,⟨[],[1,2,3,9,10,12,14,15,19,20,21]⟩),(501369,⟨[],[1,2,3,9,10,12,14,15,19,20,21]⟩)]
def q2g_ (at' many left:Int) (t19:List YTT5) (t20 t21 o o_2:Int) (met:List Bool):St:={ fr:=[(1,.d (.int .i64) at'),(2,.d (.int .i64) many),(3,.fn (.func 265) [] [.pb 0 0,.pb 1 0]),(9,.row 2),(10,.d (.int .i64) left),(19,.d YTT1 t19),(20,.d (.int .i64) t20),(21,.d (.int .i64) t21)],nt:=62,up:=[],own:=[(0,.box 3 [.d (.int .i64) o]),(1,.box 3 [.d (.int .i64) o_2]),(2,.row .bool 4 met)],nx:=3,log:=[],ln:=2 }
def qh3_ (left o o_2:Int):St:={ fr:=[(10,.d (.int .i64) left)],nt:=62,up:=[],own:=[(0,.box 3 [.d (.int .i64) o]),(1,.box 3 [.d (.int .i64) o_2])],nx:=2,log:=[],ln:=2 }
def q4a_ (at' many left to' i:Int) (t19:List YTT5) (t20 t21 o o_2:Int) (met:List Bool) (x:qj_):St:={ fr:=[(1,.d (.int .i64) at'),(2,.d (.int .i64) many),(3,.fn (.func 265) [] [.pb 0 0,.pb 1 0]),(9,.row 2),(10,.d (.int .i64) left),(12,.pb 3 0),(14,.d (.int .i64) to'),(15,.d (.int .i64) i),(19,.d YTT1 t19),(20,.d (.int .i64) t20),(21,.d (.int .i64) t21)],nt:=62,up:=[],own:=[(0,.box 3 [.d (.int .i64) o]),(1,.box 3 [.d (.int .i64) o_2]),(2,.row .bool 4 met),(3,.box 168 [.d (.int .i64) x.1,.d (.int .i64) x.2.1,.d .bool x.2.2.1,.d .bool x.2.2.2.1,.d .bool x.2.2.2.2])],nx:=4,log:=[],ln:=2 }
def qgd_ (at' many left to' i:Int) (t19:List YTT5) (t20 t21 o o_2:Int) (met:List Bool) (x:qj_):St:={ fr:=[(1,.d (.int .i64) at'),(2,.d (.int .i64) many),(3,.fn (.func 265) [] [.pb 0 0,.pb 1 0]),(9,.row 2),(10,.d (.int .i64) left),(12,.pb 3 0),(14,.d (.int .i64) to'),(15,.d (.int .i64) i),(19,.d YTT1 t19),(20,.d (.int .i64) t20),(21,.d (.int .i64) t21)],nt:=62,up:=[],own:=[(0,.box 3 [.d (.int .i64) o]),(1,.box 3 [.d (.int .i64) o_2]),(2,.row .bool 4 met),(3,.box 168 [.d (.int .i64) x.1,.d (.int .i64) x.2.1,.d .bool x.2.2.1,.d .bool x.2.2.2.1,.d .bool x.2.2.2.2])],nx:=4,log:=[],ln:=2 }
def qbz_ (j2:Int->Int->Int->Option (As [.bool,.int .i64,.int .i64])) (j3:Int->Int->Int->Int->Int->List YTT5->Int->Int->Int->Int->List Bool->qj_->Option (As [.bool,.int .i64,.int .i64])) (self1:Int->Int->Int->List YTT5->Int->Int->Int->Int->List Bool->Option (As [.bool,.int .i64,.int .i64])) (at' many left:Int) (t19:List YTT5) (t20 t21 o o_2:Int) (met:List Bool):Option (As [.bool,.int .i64,.int .i64]) :=
 if lt t21 t20=true then Option.bind (at? t19 t21) fun y=>if eqi left 0=true then j2 left o o_2 else Option.bind (q84_ (y,at',add .i64 at' many,())) fun y_1=>j3 at' many left y_1.2.1 y_1.1 t19 t20 t21 o o_2 met y else j2 left o o_2
def qvl_ (left o o_2:Int):Option (As [.bool,.int .i64,.int .i64]) :=
 some (eqi left 0,o,o_2,())
def qbv_ (j4:Int->Int->Int->Int->Int->List YTT5->Int->Int->Int->Int->List Bool->qj_->Option (As [.bool,.int .i64,.int .i64])) (self1:Int->Int->Int->List YTT5->Int->Int->Int->Int->List Bool->Option (As [.bool,.int .i64,.int .i64])) (self3:Int->Int->Int->Int->Int->List YTT5->Int->Int->Int->Int->List Bool->qj_->Option (As [.bool,.int .i64,.int .i64])) (at' many left to' i:Int) (t19:List YTT5) (t20 t21 o o_2:Int) (met:List Bool) (x:qj_):Option (As [.bool,.int .i64,.int .i64]) :=
 if lt i to'=true then Option.bind (at? met (Sx.sub .i64 i at')) fun x_1=>Option.bind (at? met (Sx.sub .i64 i at')) fun y=>if y=true then j4 at' many left to' i t19 t20 t21 o o_2 met x else Option.bind (qo_ (x,o,o_2,())) fun y=>if (!y.1)=true then some (false,y.2.1,y.2.2.1,()) else Option.bind (at? met (Sx.sub .i64 i at')) fun x_2=>Option.bind (at? met (Sx.sub .i64 i at')) fun x_3=>j4 at' many (Sx.sub .i64 left 1) to' i t19 t20 t21 y.2.1 y.2.2.1 (List.set met (Int.toNat (Sx.sub .i64 i at')) true) x else self1 at' many left t19 t20 (add .i64 t21 1) o o_2 met
def qo9_ (self1:Int->Int->Int->List YTT5->Int->Int->Int->Int->List Bool->Option (As [.bool,.int .i64,.int .i64])) (self3:Int->Int->Int->Int->Int->List YTT5->Int->Int->Int->Int->List Bool->qj_->Option (As [.bool,.int .i64,.int .i64])) (at' many left to' i:Int) (t19:List YTT5) (t20 t21 o o_2:Int) (met:List Bool) (x:qj_):Option (As [.bool,.int .i64,.int .i64]) :=
 self3 at' many left to' (add .i64 i 1) t19 t20 t21 o o_2 met x
def qgr_ (j1:Int->Int->Int->List YTT5->Int->Int->Int->Int->List Bool->Option (As [.bool,.int .i64,.int .i64])) (areas:List YTT5) (at' many wanted areas_2:Int):Option (As [.bool,.int .i64,.int .i64]) :=
 need (ge many 0) (need (Ev.capOk many many) (need (small (Int.toNat many)) (j1 at' many many areas (Int.ofNat (List.length areas)) 0 wanted areas_2 (List.replicate (Int.toNat many) false))))
def q93_ (left o o_2:Int):Option (As [.bool,.int .i64,.int .i64]):=qvl_ left o o_2
def q6n_ (u1:Int->Int->Int->List YTT5->Int->Int->Int->Int->List Bool->Option (As [.bool,.int .i64,.int .i64])) (u3:Int->Int->Int->Int->Int->List YTT5->Int->Int->Int->Int->List Bool->qj_->Option (As [.bool,.int .i64,.int .i64])) (at' many left to' i:Int) (t19:List YTT5) (t20 t21 o o_2:Int) (met:List Bool) (x:qj_):Option (As [.bool,.int .i64,.int .i64]):=qo9_ u1 u3 at' many left to' i t19 t20 t21 o o_2 met x
def q6l_ (u1:Int->Int->Int->List YTT5->Int->Int->Int->Int->List Bool->Option (As [.bool,.int .i64,.int .i64])) (at' many left to' i:Int) (t19:List YTT5) (t20 t21 o o_2:Int) (met:List Bool) (x:qj_):Option (As [.bool,.int .i64,.int .i64]) :=
 loopF (fun (self:(Int)×(Int)×(Int)×(Int)×(Int)×(List YTT5)×(Int)×(Int)×(Int)×(Int)×(List Bool)×YTT5->Option (As [.bool,.int .i64,.int .i64])) (s:(Int)×(Int)×(Int)×(Int)×(Int)×(List YTT5)×(Int)×(Int)×(Int)×(Int)×(List Bool)×YTT5)=>qbv_ (q6n_ u1 (fun at' many left to' i t19 t20 t21 o o_2 met x=>self (at',many,left,to',i,t19,t20,t21,o,o_2,met,x))) u1 (fun at' many left to' i t19 t20 t21 o o_2 met x=>self (at',many,left,to',i,t19,t20,t21,o,o_2,met,x)) s.1 s.2.1 s.2.2.1 s.2.2.2.1 s.2.2.2.2.1 s.2.2.2.2.2.1 s.2.2.2.2.2.2.1 s.2.2.2.2.2.2.2.1 s.2.2.2.2.2.2.2.2.1 s.2.2.2.2.2.2.2.2.2.1 s.2.2.2.2.2.2.2.2.2.2.1 s.2.2.2.2.2.2.2.2.2.2.2) 18446744073709551616 (at',many,left,to',i,t19,t20,t21,o,o_2,met,x)
def qc7_ (at' many left:Int) (t19:List YTT5) (t20 t21 o o_2:Int) (met:List Bool):Option (As [.bool,.int .i64,.int .i64]) :=
 loopF (fun (self:(Int)×(Int)×(Int)×(List YTT5)×(Int)×(Int)×(Int)×(Int)×(List Bool)->Option (As [.bool,.int .i64,.int .i64])) (s:(Int)×(Int)×(Int)×(List YTT5)×(Int)×(Int)×(Int)×(Int)×(List Bool))=>qbz_ (q93_) (q6l_ (fun at' many left t19 t20 t21 o o_2 met=>self (at',many,left,t19,t20,t21,o,o_2,met))) (fun at' many left t19 t20 t21 o o_2 met=>self (at',many,left,t19,t20,t21,o,o_2,met)) s.1 s.2.1 s.2.2.1 s.2.2.2.1 s.2.2.2.2.1 s.2.2.2.2.2.1 s.2.2.2.2.2.2.1 s.2.2.2.2.2.2.2.1 s.2.2.2.2.2.2.2.2) 18446744073709551616 (at',many,left,t19,t20,t21,o,o_2,met)
def q6h_ (x:As [.sl (.pr (.int .i64) YTT12),.int .i64,.int .i64,.int .i64,.int .i64]):Option (As [.bool,.int .i64,.int .i64]):=qgr_ qc7_ x.1 x.2.1 x.2.2.1 x.2.2.2.1 x.2.2.2.2.1
theorem q15i_ (J:Orc (As [.bool,.int .i64,.int .i64])) (left o o_2:Int):pfn Tryz.prog q1v_ 6 18446744073709551616 (Ev.get q22_) 258 q17_ J 15 [] (qh3_ left o o_2)=qvl_ left o o_2:=by kernel_rfl
theorem q15h_ (J:Orc (As [.bool,.int .i64,.int .i64])) (w1 w3:St->Option (As [.bool,.int .i64,.int .i64])) (at' many left to' i:Int) (t19:List YTT5) (t20 t21 o o_2:Int) (met:List Bool) (x:qj_):pfn Tryz.prog q1v_ 6 18446744073709551616 (Ev.get q22_) 258 q17_ J 501369 [w1,w3] (qgd_ at' many left to' i t19 t20 t21 o o_2 met x)=qo9_ (fun at' many left t19 t20 t21 o o_2 met=>w1 (q2g_ at' many left t19 t20 t21 o o_2 met)) (fun at' many left to' i t19 t20 t21 o o_2 met x=>w3 (q4a_ at' many left to' i t19 t20 t21 o o_2 met x)) at' many left to' i t19 t20 t21 o o_2 met x:=by kernel_rfl
theorem q14k_ (J:Orc (As [.bool,.int .i64,.int .i64])) (w1 w3:St->Option (As [.bool,.int .i64,.int .i64])) (at' many left to' i:Int) (t19:List YTT5) (t20 t21 o o_2:Int) (met:List Bool) (x:qj_):pfn Tryz.prog q1v_ 6 18446744073709551616 (Ev.get q22_) 258 q17_ J 125342 [w1,w3] (q4a_ at' many left to' i t19 t20 t21 o o_2 met x)=qbv_ (fun at' many left to' i t19 t20 t21 o o_2 met x=>J 501369 [w1,w3] (qgd_ at' many left to' i t19 t20 t21 o o_2 met x)) (fun at' many left t19 t20 t21 o o_2 met=>w1 (q2g_ at' many left t19 t20 t21 o o_2 met)) (fun at' many left to' i t19 t20 t21 o o_2 met x=>w3 (q4a_ at' many left to' i t19 t20 t21 o o_2 met x)) at' many left to' i t19 t20 t21 o o_2 met x:=by kernel_rfl
theorem q15l_ (J:Orc (As [.bool,.int .i64,.int .i64])) (w1:St->Option (As [.bool,.int .i64,.int .i64])) (at' many left:Int) (t19:List YTT5) (t20 t21 o o_2:Int) (met:List Bool):pfn Tryz.prog q1v_ 6 18446744073709551616 (Ev.get q22_) 258 q17_ J 122 [w1] (q2g_ at' many left t19 t20 t21 o o_2 met)=qbz_ (fun left o o_2=>J 15 [] (qh3_ left o o_2)) (fun at' many left to' i t19 t20 t21 o o_2 met x=>J 125342 [w1] (q4a_ at' many left to' i t19 t20 t21 o o_2 met x)) (fun at' many left t19 t20 t21 o o_2 met=>w1 (q2g_ at' many left t19 t20 t21 o o_2 met)) at' many left t19 t20 t21 o o_2 met:=by kernel_rfl
theorem q14e_ (J:Orc (As [.bool,.int .i64,.int .i64])) (x:As [.sl (.pr (.int .i64) YTT12),.int .i64,.int .i64,.int .i64,.int .i64]):rfn Tryz.prog q1v_ 6 18446744073709551616 (Ev.get q22_) 258 q17_ J x=qgr_ (fun at' many left t19 t20 t21 o o_2 met=>J 122 [] (q2g_ at' many left t19 t20 t21 o o_2 met)) x.1 x.2.1 x.2.2.1 x.2.2.2.1 x.2.2.2.2.1:=by kernel_rfl
theorem q151_ (left o o_2:Int):jfn Tryz.prog q1v_ 6 18446744073709551616 (Ev.get q22_) 258 q17_ 15 [] (qh3_ left o o_2)=q93_ left o o_2:=by
 rw [q8_ (by decide)]
 rw [q15i_]
 rfl
theorem q156_ (w1 w3:St->Option (As [.bool,.int .i64,.int .i64])) (at' many left to' i:Int) (t19:List YTT5) (t20 t21 o o_2:Int) (met:List Bool) (x:qj_):jfn Tryz.prog q1v_ 6 18446744073709551616 (Ev.get q22_) 258 q17_ 501369 [w1,w3] (qgd_ at' many left to' i t19 t20 t21 o o_2 met x)=q6n_ (fun at' many left t19 t20 t21 o o_2 met=>w1 (q2g_ at' many left t19 t20 t21 o o_2 met)) (fun at' many left to' i t19 t20 t21 o o_2 met x=>w3 (q4a_ at' many left to' i t19 t20 t21 o o_2 met x)) at' many left to' i t19 t20 t21 o o_2 met x:=by
 rw [q8_ (by decide)]
 rw [q15h_]
 rfl
theorem q14y_ (w1:St->Option (As [.bool,.int .i64,.int .i64])) (at' many left to' i:Int) (t19:List YTT5) (t20 t21 o o_2:Int) (met:List Bool) (x:qj_):jfn Tryz.prog q1v_ 6 18446744073709551616 (Ev.get q22_) 258 q17_ 125342 [w1] (q4a_ at' many left to' i t19 t20 t21 o o_2 met x)=q6l_ (fun at' many left t19 t20 t21 o o_2 met=>w1 (q2g_ at' many left t19 t20 t21 o o_2 met)) at' many left to' i t19 t20 t21 o o_2 met x:=by
 rw [q8_ (by decide)]
 rw [qr_ (by kernel_rfl)]
 refine qi_ (σ:=(Int)×(Int)×(Int)×(Int)×(Int)×(List YTT5)×(Int)×(Int)×(Int)×(Int)×(List Bool)×YTT5) (mk:=fun s=>q4a_ s.1 s.2.1 s.2.2.1 s.2.2.2.1 s.2.2.2.2.1 s.2.2.2.2.2.1 s.2.2.2.2.2.2.1 s.2.2.2.2.2.2.2.1 s.2.2.2.2.2.2.2.2.1 s.2.2.2.2.2.2.2.2.2.1 s.2.2.2.2.2.2.2.2.2.2.1 s.2.2.2.2.2.2.2.2.2.2.2) (fun w3 s=>?_) 18446744073709551616 (at',many,left,to',i,t19,t20,t21,o,o_2,met,x)
 have e4:(fun at' many left to' i t19 t20 t21 o o_2 met x=>(jfn Tryz.prog q1v_ 6 18446744073709551616 (Ev.get q22_) 258 q17_) 501369 [w1,w3] (qgd_ at' many left to' i t19 t20 t21 o o_2 met x))=q6n_ (fun at' many left t19 t20 t21 o o_2 met=>w1 (q2g_ at' many left t19 t20 t21 o o_2 met)) (fun at' many left to' i t19 t20 t21 o o_2 met x=>w3 (q4a_ at' many left to' i t19 t20 t21 o o_2 met x)):=by funext at' many left to' i t19 t20 t21 o o_2 met x; exact q156_ w1 w3 at' many left to' i t19 t20 t21 o o_2 met x
 refine (q14k_ _ w1 w3 s.1 s.2.1 s.2.2.1 s.2.2.2.1 s.2.2.2.2.1 s.2.2.2.2.2.1 s.2.2.2.2.2.2.1 s.2.2.2.2.2.2.2.1 s.2.2.2.2.2.2.2.2.1 s.2.2.2.2.2.2.2.2.2.1 s.2.2.2.2.2.2.2.2.2.2.1 s.2.2.2.2.2.2.2.2.2.2.2).trans ?_
 rw [e4]
theorem q14l_ (at' many left:Int) (t19:List YTT5) (t20 t21 o o_2:Int) (met:List Bool):jfn Tryz.prog q1v_ 6 18446744073709551616 (Ev.get q22_) 258 q17_ 122 [] (q2g_ at' many left t19 t20 t21 o o_2 met)=qc7_ at' many left t19 t20 t21 o o_2 met:=by
 rw [q8_ (by decide)]
 rw [qr_ (by kernel_rfl)]
 refine qi_ (σ:=(Int)×(Int)×(Int)×(List YTT5)×(Int)×(Int)×(Int)×(Int)×(List Bool)) (mk:=fun s=>q2g_ s.1 s.2.1 s.2.2.1 s.2.2.2.1 s.2.2.2.2.1 s.2.2.2.2.2.1 s.2.2.2.2.2.2.1 s.2.2.2.2.2.2.2.1 s.2.2.2.2.2.2.2.2) (fun w1 s=>?_) 18446744073709551616 (at',many,left,t19,t20,t21,o,o_2,met)
 have e2:(fun left o o_2=>(jfn Tryz.prog q1v_ 6 18446744073709551616 (Ev.get q22_) 258 q17_) 15 [] (qh3_ left o o_2))=q93_:=by funext left o o_2; exact q151_ left o o_2
 have e3:(fun at' many left to' i t19 t20 t21 o o_2 met x=>(jfn Tryz.prog q1v_ 6 18446744073709551616 (Ev.get q22_) 258 q17_) 125342 [w1] (q4a_ at' many left to' i t19 t20 t21 o o_2 met x))=q6l_ (fun at' many left t19 t20 t21 o o_2 met=>w1 (q2g_ at' many left t19 t20 t21 o o_2 met)):=by funext at' many left to' i t19 t20 t21 o o_2 met x; exact q14y_ w1 at' many left to' i t19 t20 t21 o o_2 met x
 refine (q15l_ _ w1 s.1 s.2.1 s.2.2.1 s.2.2.2.1 s.2.2.2.2.1 s.2.2.2.2.2.1 s.2.2.2.2.2.2.1 s.2.2.2.2.2.2.2.1 s.2.2.2.2.2.2.2.2).trans ?_
 rw [e2,e3]
theorem q16i_ (x:As [.sl (.pr (.int .i64) YTT12),.int .i64,.int .i64,.int .i64,.int .i64]):evT Tryz.prog q1v_ 6 18446744073709551616 (Ev.get q22_) 258 q17_ x=q6h_ x:=by
 have e1:(fun at' many left t19 t20 t21 o o_2 met=>(jfn Tryz.prog q1v_ 6 18446744073709551616 (Ev.get q22_) 258 q17_) 122 [] (q2g_ at' many left t19 t20 t21 o o_2 met))=qc7_:=by funext at' many left t19 t20 t21 o o_2 met; exact q14l_ at' many left t19 t20 t21 o o_2 met
 rw [q5_,q14e_,e1]
 rfl
theorem qgv_:CtOk Tryz.prog (fun _=>True) 258 ⟨q17_,q6h_⟩:=q3_ (q0_ q33_ (q0_ q32_ (q0_ qmo_ (q0_ q2o_ (q0_ q2p_ q4_))))) q16i_
@[reducible] def q5v_:Sh:=⟨[.d (.pr YTT1 (.sl .bool)),.d (.int .i64),.d (.int .i64)],[],[.pr YTT1 (.sl .bool),.int .i64,.int .i64],[.d (.bool)],[],0,[.bool]⟩
def qg7_:Env:=(cts [(258,(⟨q16_,q6g_⟩:Ct)),(258,(⟨q14_,q6j_⟩:Ct)),(258,(⟨q18_,q6f_⟩:Ct)),(258,(⟨q17_,q6h_⟩:Ct)),(259,(⟨q1h_,q12_⟩:Ct))])
def qg4_:List (Nat×Hint):=[]
def qfv_ (t:List YTT5×List Bool) (at' many:Int):Option (As [.bool]) :=
 Option.bind (q6g_ (t.1,at',many,())) fun y=>some (y.1,())
def q1x_ (x:As [.pr YTT1 (.sl .bool),.int .i64,.int .i64]):Option (As [.bool]):=qfv_ x.1 x.2.1 x.2.2.1
theorem qsl_ (J:Orc (As [.bool])) (x:As [.pr YTT1 (.sl .bool),.int .i64,.int .i64]):rfn Tryz.prog qg7_ 6 18446744073709551616 (Ev.get qg4_) 256 q5v_ J x=qfv_ x.1 x.2.1 x.2.2.1:=by kernel_rfl
theorem qu4_ (x:As [.pr YTT1 (.sl .bool),.int .i64,.int .i64]):evT Tryz.prog qg7_ 6 18446744073709551616 (Ev.get qg4_) 256 q5v_ x=q1x_ x:=by
 rw [q5_,qsl_]
 rfl
theorem qsi_:CtOk Tryz.prog (fun _=>True) 256 ⟨q5v_,q1x_⟩:=q3_ (q0_ qgp_ (q0_ qgi_ (q0_ qgw_ (q0_ qgv_ (q0_ q33_ q4_))))) qu4_
@[reducible] def q5u_:Sh:=⟨[.d (.pr YTT1 (.sl .bool)),.d (.int .i64),.d (.int .i64)],[],[.pr YTT1 (.sl .bool),.int .i64,.int .i64],[.d (.bool)],[],0,[.bool]⟩
def qg5_:Env:=(cts [(258,(⟨q16_,q6g_⟩:Ct)),(258,(⟨q14_,q6j_⟩:Ct)),(258,(⟨q18_,q6f_⟩:Ct)),(258,(⟨q17_,q6h_⟩:Ct)),(260,(⟨q1i_,qt_⟩:Ct))])
def qg6_:List (Nat×Hint):=[]
def qg1_ (t:List YTT5×List Bool) (at' many:Int):Option (As [.bool]) :=
 Option.bind (q6j_ (t.1,at',many,at',many,())) fun y=>some (y.1,())
def q21_ (x:As [.pr YTT1 (.sl .bool),.int .i64,.int .i64]):Option (As [.bool]):=qg1_ x.1 x.2.1 x.2.2.1
theorem qsf_ (J:Orc (As [.bool])) (x:As [.pr YTT1 (.sl .bool),.int .i64,.int .i64]):rfn Tryz.prog qg5_ 6 18446744073709551616 (Ev.get qg6_) 257 q5u_ J x=qg1_ x.1 x.2.1 x.2.2.1:=by kernel_rfl
theorem qtz_ (x:As [.pr YTT1 (.sl .bool),.int .i64,.int .i64]):evT Tryz.prog qg5_ 6 18446744073709551616 (Ev.get qg6_) 257 q5u_ x=q21_ x:=by
 rw [q5_,qsf_]
 rfl
theorem qsd_:CtOk Tryz.prog (fun _=>True) 257 ⟨q5u_,q21_⟩:=q3_ (q0_ qgp_ (q0_ qgi_ (q0_ qgw_ (q0_ qgv_ (q0_ q32_ q4_))))) qtz_
@[reducible] def q54_:Sh:=⟨[.d (.pr YTT1 (.sl (.int .u16))),.d (.int .i64),.d (.int .i64)],[],[.pr YTT1 (.sl (.int .u16)),.int .i64,.int .i64],[.d (.bool)],[],0,[.bool]⟩
def qeh_:Env:=(cts [(258,(⟨q16_,q6g_⟩:Ct)),(258,(⟨q14_,q6j_⟩:Ct)),(258,(⟨q18_,q6f_⟩:Ct)),(258,(⟨q17_,q6h_⟩:Ct)),(264,(⟨q1c_,qw_⟩:Ct))])
def qeg_:List (Nat×Hint):=[]
def qdy_ (t:List YTT5×List Int) (at' many:Int):Option (As [.bool]) :=
 Option.bind (q6f_ (t.1,at',many,())) fun y=>some (y.1,())
def q1g_ (x:As [.pr YTT1 (.sl (.int .u16)),.int .i64,.int .i64]):Option (As [.bool]):=qdy_ x.1 x.2.1 x.2.2.1
theorem qqz_ (J:Orc (As [.bool])) (x:As [.pr YTT1 (.sl (.int .u16)),.int .i64,.int .i64]):rfn Tryz.prog qeh_ 6 18446744073709551616 (Ev.get qeg_) 262 q54_ J x=qdy_ x.1 x.2.1 x.2.2.1:=by kernel_rfl
theorem qs1_ (x:As [.pr YTT1 (.sl (.int .u16)),.int .i64,.int .i64]):evT Tryz.prog qeh_ 6 18446744073709551616 (Ev.get qeg_) 262 q54_ x=q1g_ x:=by
 rw [q5_,qqz_]
 rfl
theorem qrb_:CtOk Tryz.prog (fun _=>True) 262 ⟨q54_,q1g_⟩:=q3_ (q0_ qgp_ (q0_ qgi_ (q0_ qgw_ (q0_ qgv_ (q0_ q2o_ q4_))))) qs1_
@[reducible] def q55_:Sh:=⟨[.d (.pr YTT1 (.sl (.int .u16))),.d (.int .i64),.d (.int .i64)],[],[.pr YTT1 (.sl (.int .u16)),.int .i64,.int .i64],[.d (.bool)],[],0,[.bool]⟩
def qej_:Env:=(cts [(258,(⟨q16_,q6g_⟩:Ct)),(258,(⟨q14_,q6j_⟩:Ct)),(258,(⟨q18_,q6f_⟩:Ct)),(258,(⟨q17_,q6h_⟩:Ct)),(265,(⟨q1b_,qo_⟩:Ct))])
def qei_:List (Nat×Hint):=[]
def qd3_ (t:List YTT5×List Int) (at' many:Int):Option (As [.bool]) :=
 Option.bind (q6h_ (t.1,at',many,at',many,())) fun y=>some (y.1,())
def q19_ (x:As [.pr YTT1 (.sl (.int .u16)),.int .i64,.int .i64]):Option (As [.bool]):=qd3_ x.1 x.2.1 x.2.2.1
theorem qp7_ (J:Orc (As [.bool])) (x:As [.pr YTT1 (.sl (.int .u16)),.int .i64,.int .i64]):rfn Tryz.prog qej_ 6 18446744073709551616 (Ev.get qei_) 263 q55_ J x=qd3_ x.1 x.2.1 x.2.2.1:=by kernel_rfl
theorem qs3_ (x:As [.pr YTT1 (.sl (.int .u16)),.int .i64,.int .i64]):evT Tryz.prog qej_ 6 18446744073709551616 (Ev.get qei_) 263 q55_ x=q19_ x:=by
 rw [q5_,qp7_]
 rfl
theorem qqd_:CtOk Tryz.prog (fun _=>True) 263 ⟨q55_,q19_⟩:=q3_ (q0_ qgp_ (q0_ qgi_ (q0_ qgw_ (q0_ qgv_ (q0_ q2p_ q4_))))) qs3_
@[reducible] def q4j_:Sh:=⟨[.d (.pr YTT1 (.pr YTT1 (.pr YTT1 YTT1))),.d (.pr (.int .u8) YTT4)],[],[.pr YTT1 (.pr YTT1 (.pr YTT1 YTT1)),.pr (.int .u8) YTT4],[.d (.int .u8)],[],0,[.int .u8]⟩
def q8j_:Env:=(cts [(58,(⟨q5f_,qbc_⟩:Ct)),(117,(⟨qis_,qdd_⟩:Ct)),(124,(⟨qjg_,qgc_⟩:Ct)),(126,(⟨qfu_,q9i_⟩:Ct)),(256,(⟨q5v_,q1x_⟩:Ct)),(257,(⟨q5u_,q21_⟩:Ct)),(262,(⟨q54_,q1g_⟩:Ct)),(263,(⟨q55_,q19_⟩:Ct))])
def q8m_:List (Nat×Hint):=[(509,⟨[],[60]⟩),(125,⟨[],[3,5,6,40,55,56,57,58,59]⟩)]
def qk6_ (t40:Bool) (a:Int×Int×Int×Int×List Int×List Bool) (v:(List YTT5×List Bool)×(List YTT5×List Bool)×(List YTT5×List Int)×List YTT5×List Int) (u:Int×Int):St:={ fr:=[(3,.pb 0 0),(5,.pb 1 0),(6,.pb 2 0),(40,.d .bool t40)],nt:=61,up:=[],own:=[(0,.box 44 [.d (.int .u8) a.1,.d (.int .u16) a.2.1,.d (.int .u16) a.2.2.1,.d (.int .u16) a.2.2.2.1,.d (.sl (.int .u16)) a.2.2.2.2.1,.d (.sl .bool) a.2.2.2.2.2]),(1,.box 174 [.d YTT1 v.1.1,.d (.sl .bool) v.1.2,.d YTT1 v.2.1.1,.d (.sl .bool) v.2.1.2,.d YTT1 v.2.2.1.1,.d (.sl (.int .u16)) v.2.2.1.2,.d YTT1 v.2.2.2.1,.d (.sl (.int .u16)) v.2.2.2.2]),(2,.box 183 [.d (.int .i64) u.1,.d (.int .i64) u.2])],nx:=3,log:=[],ln:=0 }
def qjv_ (t60:Bool):St:={ fr:=[(60,.d .bool t60)],nt:=61,up:=[],own:=[],nx:=0,log:=[],ln:=0 }
def qxq_ (j2:Bool->Option (As [.int .u8])) (t40:Bool) (a:Int×Int×Int×Int×List Int×List Bool) (v:(List YTT5×List Bool)×(List YTT5×List Bool)×(List YTT5×List Int)×List YTT5×List Int) (u:Int×Int):Option (As [.int .u8]) :=
 if t40=true then some (2,()) else Option.bind (q9i_ (a,())) fun y=>if eqi u.2 1=true then Option.bind (q21_ (v.1,y.1,y.2.1,())) fun y=>j2 !y.1 else if eqi u.2 2=true then Option.bind (q21_ (v.2.1,y.1,y.2.1,())) fun y=>j2 !y.1 else if eqi u.2 3=true then Option.bind (q19_ (v.2.2.1,y.1,y.2.1,())) fun y=>j2 !y.1 else if eqi u.2 4=true then Option.bind (q19_ (v.2.2.2,y.1,y.2.1,())) fun y=>j2 !y.1 else j2 false
def qyd_ (t60:Bool):Option (As [.int .u8]) :=
 if t60=true then some (2,()) else some (0,())
def qkc_ (j1:Bool->Int×Int×Int×Int×List Int×List Bool->(List YTT5×List Bool)×(List YTT5×List Bool)×(List YTT5×List Int)×List YTT5×List Int->Int×Int->Option (As [.int .u8])) (s:List YTT5×List YTT5×List YTT5×List YTT5) (a:Int×Int×Int×Int×List Int×List Bool):Option (As [.int .u8]) :=
 Option.bind (qbc_ (a,())) fun y=>if (!y.1)=true then some (3,()) else Option.bind (qdd_ (s,([],[],[],[]),())) fun y=>Option.bind (qgc_ (a.1,())) fun y_1=>if eqi y_1.1.1 1=true then Option.bind (q1x_ (y.1.1,cvt .i64 a.2.1,cvt .i64 a.2.2.1,())) fun y_2=>j1 (!y_2.1) a y.1 y_1.1 else if eqi y_1.1.1 2=true then Option.bind (q1x_ (y.1.2.1,cvt .i64 a.2.1,cvt .i64 a.2.2.1,())) fun y_2=>j1 (!y_2.1) a y.1 y_1.1 else if eqi y_1.1.1 3=true then Option.bind (q1g_ (y.1.2.2.1,cvt .i64 a.2.1,cvt .i64 a.2.2.1,())) fun y_2=>j1 (!y_2.1) a y.1 y_1.1 else if eqi y_1.1.1 4=true then Option.bind (q1g_ (y.1.2.2.2,cvt .i64 a.2.1,cvt .i64 a.2.2.1,())) fun y_2=>j1 (!y_2.1) a y.1 y_1.1 else j1 false a y.1 y_1.1
def q5k_ (t60:Bool):Option (As [.int .u8]):=qyd_ t60
def q1f_ (t40:Bool) (a:Int×Int×Int×Int×List Int×List Bool) (v:(List YTT5×List Bool)×(List YTT5×List Bool)×(List YTT5×List Int)×List YTT5×List Int) (u:Int×Int):Option (As [.int .u8]):=qxq_ (q5k_) t40 a v u
def qb2_ (x:As [.pr YTT1 (.pr YTT1 (.pr YTT1 YTT1)),.pr (.int .u8) YTT4]):Option (As [.int .u8]):=qkc_ q1f_ x.1 x.2.1
theorem q17a_ (J:Orc (As [.int .u8])) (t60:Bool):pfn Tryz.prog q8j_ 6 18446744073709551616 (Ev.get q8m_) 54 q4j_ J 509 [] (qjv_ t60)=qyd_ t60:=by kernel_rfl
theorem q18e_ (J:Orc (As [.int .u8])) (t40:Bool) (a:Int×Int×Int×Int×List Int×List Bool) (v:(List YTT5×List Bool)×(List YTT5×List Bool)×(List YTT5×List Int)×List YTT5×List Int) (u:Int×Int):pfn Tryz.prog q8j_ 6 18446744073709551616 (Ev.get q8m_) 54 q4j_ J 125 [] (qk6_ t40 a v u)=qxq_ (fun t60=>J 509 [] (qjv_ t60)) t40 a v u:=by kernel_rfl
theorem q17r_ (J:Orc (As [.int .u8])) (x:As [.pr YTT1 (.pr YTT1 (.pr YTT1 YTT1)),.pr (.int .u8) YTT4]):rfn Tryz.prog q8j_ 6 18446744073709551616 (Ev.get q8m_) 54 q4j_ J x=qkc_ (fun t40 a v u=>J 125 [] (qk6_ t40 a v u)) x.1 x.2.1:=by kernel_rfl
theorem q18o_ (t60:Bool):jfn Tryz.prog q8j_ 6 18446744073709551616 (Ev.get q8m_) 54 q4j_ 509 [] (qjv_ t60)=q5k_ t60:=by
 rw [q8_ (by decide)]
 rw [q17a_]
 rfl
theorem q19j_ (t40:Bool) (a:Int×Int×Int×Int×List Int×List Bool) (v:(List YTT5×List Bool)×(List YTT5×List Bool)×(List YTT5×List Int)×List YTT5×List Int) (u:Int×Int):jfn Tryz.prog q8j_ 6 18446744073709551616 (Ev.get q8m_) 54 q4j_ 125 [] (qk6_ t40 a v u)=q1f_ t40 a v u:=by
 rw [q8_ (by decide)]
 have e2:(fun t60=>(jfn Tryz.prog q8j_ 6 18446744073709551616 (Ev.get q8m_) 54 q4j_) 509 [] (qjv_ t60))=q5k_:=funext fun t60=>q18o_ t60
 rw [q18e_,e2]
 rfl
theorem q1bs_ (x:As [.pr YTT1 (.pr YTT1 (.pr YTT1 YTT1)),.pr (.int .u8) YTT4]):evT Tryz.prog q8j_ 6 18446744073709551616 (Ev.get q8m_) 54 q4j_ x=qb2_ x:=by
 have e1:(fun t40 a v u=>(jfn Tryz.prog q8j_ 6 18446744073709551616 (Ev.get q8m_) 54 q4j_) 125 [] (qk6_ t40 a v u))=q1f_:=by funext t40 a v u; exact q19j_ t40 a v u
 rw [q5_,q17r_,e1]
 rfl
theorem qz0_:CtOk Tryz.prog (fun _=>True) 54 ⟨q4j_,qb2_⟩:=q3_ (q0_ qvu_ (q0_ q10q_ (q0_ q10e_ (q0_ qwm_ (q0_ qsi_ (q0_ qsd_ (q0_ qrb_ (q0_ qqd_ q4_)))))))) q1bs_
@[reducible] def qag_:Sh:=⟨[.d (.int .u8),.d (.int .u8)],[],[.int .u8,.int .u8],[.d (.pr (.int .u8) YTT3)],[],0,[.pr (.int .u8) YTT3]⟩
def q105_:Env:=(cts [])
def q10p_:List (Nat×Hint):=[]
def qy8_ (f except:Int):Option (As [.pr (.int .u8) YTT3]) :=
 some ((rem f 128,except,[],[],0,0),())
def qe_ (x:As [.int .u8,.int .u8]):Option (As [.pr (.int .u8) YTT3]):=qy8_ x.1 x.2.1
theorem q17m_ (J:Orc (As [.pr (.int .u8) YTT3])) (x:As [.int .u8,.int .u8]):rfn Tryz.prog q105_ 6 18446744073709551616 (Ev.get q10p_) 120 qag_ J x=qy8_ x.1 x.2.1:=by kernel_rfl
theorem q1c6_ (x:As [.int .u8,.int .u8]):evT Tryz.prog q105_ 6 18446744073709551616 (Ev.get q10p_) 120 qag_ x=qe_ x:=by
 rw [q5_,q17m_]
 rfl
theorem qkh_:CtOk Tryz.prog (fun _=>True) 120 ⟨qag_,qe_⟩:=q3_ q4_ q1c6_
@[reducible] def q4b_:Sh:=⟨[.d (.sl .bool),.d (.bool)],[],[.sl .bool,.bool],[.d (.int .i64)],[],0,[.int .i64]⟩
def q8d_:Env:=(cts [])
def q7x_:List (Nat×Hint):=[(26,⟨[],[0,1,7,8]⟩)]
def q4z_ (s:List Bool) (v:Bool) (t7 t8:Int):St:={ fr:=[(0,.d (.sl .bool) s),(1,.d .bool v),(7,.d (.int .i64) t7),(8,.d (.int .i64) t8)],nt:=19,up:=[],own:=[],nx:=0,log:=[],ln:=0 }
def q4v_ (self1:List Bool->Bool->Int->Int->Option (As [.int .i64])) (s:List Bool) (v:Bool) (t7 t8:Int):Option (As [.int .i64]) :=
 if lt t8 t7=true then Option.bind (at? s t8) fun y=>if Sx.eqb v y=true then some (t8,()) else self1 s v t7 (add .i64 t8 1) else some (-1,())
def qa5_ (j1:List Bool->Bool->Int->Int->Option (As [.int .i64])) (s:List Bool) (v:Bool):Option (As [.int .i64]) :=
 j1 s v (Int.ofNat (List.length s)) 0
def q79_ (s:List Bool) (v:Bool) (t7 t8:Int):Option (As [.int .i64]) :=
 loopF (fun (self:(List Bool)×(Bool)×(Int)×(Int)->Option (As [.int .i64])) (s:(List Bool)×(Bool)×(Int)×(Int))=>q4v_ (fun s v t7 t8=>self (s,v,t7,t8)) s.1 s.2.1 s.2.2.1 s.2.2.2) 18446744073709551616 (s,v,t7,t8)
def q9s_ (x:As [.sl .bool,.bool]):Option (As [.int .i64]):=qa5_ q79_ x.1 x.2.1
theorem qz4_ (J:Orc (As [.int .i64])) (w1:St->Option (As [.int .i64])) (s:List Bool) (v:Bool) (t7 t8:Int):pfn Tryz.prog q8d_ 6 18446744073709551616 (Ev.get q7x_) 133 q4b_ J 26 [w1] (q4z_ s v t7 t8)=q4v_ (fun s v t7 t8=>w1 (q4z_ s v t7 t8)) s v t7 t8:=by kernel_rfl
theorem qyr_ (J:Orc (As [.int .i64])) (x:As [.sl .bool,.bool]):rfn Tryz.prog q8d_ 6 18446744073709551616 (Ev.get q7x_) 133 q4b_ J x=qa5_ (fun s v t7 t8=>J 26 [] (q4z_ s v t7 t8)) x.1 x.2.1:=by kernel_rfl
theorem qyw_ (s:List Bool) (v:Bool) (t7 t8:Int):jfn Tryz.prog q8d_ 6 18446744073709551616 (Ev.get q7x_) 133 q4b_ 26 [] (q4z_ s v t7 t8)=q79_ s v t7 t8:=by
 rw [q8_ (by decide)]
 rw [qr_ (by kernel_rfl)]
 refine qi_ (σ:=(List Bool)×(Bool)×(Int)×(Int)) (mk:=fun s=>q4z_ s.1 s.2.1 s.2.2.1 s.2.2.2) (fun w1 s=>?_) 18446744073709551616 (s,v,t7,t8)
 refine (qz4_ _ w1 s.1 s.2.1 s.2.2.1 s.2.2.2).trans ?_
 rfl
theorem qzj_ (x:As [.sl .bool,.bool]):evT Tryz.prog q8d_ 6 18446744073709551616 (Ev.get q7x_) 133 q4b_ x=q9s_ x:=by
 have e1:(fun s v t7 t8=>(jfn Tryz.prog q8d_ 6 18446744073709551616 (Ev.get q7x_) 133 q4b_) 26 [] (q4z_ s v t7 t8))=q79_:=by funext s v t7 t8; exact qyw_ s v t7 t8
 rw [q5_,qyr_,e1]
 rfl
theorem qxk_:CtOk Tryz.prog (fun _=>True) 133 ⟨q4b_,q9s_⟩:=q3_ q4_ qzj_
@[reducible] def q8r_:Sh:=⟨[.d (.sl .bool),.d (.bool)],[],[.sl .bool,.bool],[.d (.bool)],[],0,[.bool]⟩
def qkw_:Env:=(cts [(133,(⟨q4b_,q9s_⟩:Ct))])
def qkx_:List (Nat×Hint):=[]
def q85_ (s:List Bool) (v:Bool):Option (As [.bool]) :=
 Option.bind (q9s_ (s,v,())) fun y=>some (ge y.1 0,())
def q52_ (x:As [.sl .bool,.bool]):Option (As [.bool]):=q85_ x.1 x.2.1
theorem qv7_ (J:Orc (As [.bool])) (x:As [.sl .bool,.bool]):rfn Tryz.prog qkw_ 6 18446744073709551616 (Ev.get qkx_) 70 q8r_ J x=q85_ x.1 x.2.1:=by kernel_rfl
theorem qw4_ (x:As [.sl .bool,.bool]):evT Tryz.prog qkw_ 6 18446744073709551616 (Ev.get qkx_) 70 q8r_ x=q52_ x:=by
 rw [q5_,qv7_]
 rfl
theorem qva_:CtOk Tryz.prog (fun _=>True) 70 ⟨q8r_,q52_⟩:=q3_ (q0_ qxk_ q4_) qw4_
@[reducible] def qhi_:Sh:=⟨[.d (.int .u32)],[],[.int .u32],[.d (.int .u16),.d (.int .u16)],[],0,[.int .u16,.int .u16]⟩
def qzz_:Env:=(cts [])
def q10a_:List (Nat×Hint):=[]
def qk4_ (x:Int):Option (As [.int .u16,.int .u16]) :=
 some (cvt .u16 (Sx.shr .u32 x 16),cvt .u16 x,())
def q7k_ (x:As [.int .u32]):Option (As [.int .u16,.int .u16]):=qk4_ x.1
theorem q17p_ (J:Orc (As [.int .u16,.int .u16])) (x:As [.int .u32]):rfn Tryz.prog qzz_ 6 18446744073709551616 (Ev.get q10a_) 71 qhi_ J x=qk4_ x.1:=by kernel_rfl
theorem q1an_ (x:As [.int .u32]):evT Tryz.prog qzz_ 6 18446744073709551616 (Ev.get q10a_) 71 qhi_ x=q7k_ x:=by
 rw [q5_,q17p_]
 rfl
theorem qyp_:CtOk Tryz.prog (fun _=>True) 71 ⟨qhi_,q7k_⟩:=q3_ q4_ q1an_
@[reducible] def qbp_:Sh:=⟨[.d (.int .u16)],[],[.int .u16],[.d (.pr (.int .u16) (.int .i64))],[],0,[.pr (.int .u16) (.int .i64)]⟩
def q11v_:Env:=(cts [])
def q12z_:List (Nat×Hint):=[]
def q100_ (owner:Int):Option (As [.pr (.int .u16) (.int .i64)]) :=
 some ((owner,-1),())
def q6i_ (x:As [.int .u16]):Option (As [.pr (.int .u16) (.int .i64)]):=q100_ x.1
theorem q1cl_ (J:Orc (As [.pr (.int .u16) (.int .i64)])) (x:As [.int .u16]):rfn Tryz.prog q11v_ 6 18446744073709551616 (Ev.get q12z_) 207 qbp_ J x=q100_ x.1:=by kernel_rfl
theorem q1fm_ (x:As [.int .u16]):evT Tryz.prog q11v_ 6 18446744073709551616 (Ev.get q12z_) 207 qbp_ x=q6i_ x:=by
 rw [q5_,q1cl_]
 rfl
theorem qmp_:CtOk Tryz.prog (fun _=>True) 207 ⟨qbp_,q6i_⟩:=q3_ q4_ q1fm_
@[reducible] def qn3_:Sh:=⟨[.d (.pr (.int .u16) (.int .i64))],[],[.pr (.int .u16) (.int .i64)],[.d (.bool)],[],0,[.bool]⟩
def q10k_:Env:=(cts [(207,(⟨qbp_,q6i_⟩:Ct))])
def q10o_:List (Nat×Hint):=[]
def qju_ (l:Int×Int):Option (As [.bool]) :=
 if eqi l.1 0=true then some (eqi l.1 0 && (eqi l.2 0 && true),()) else if ge l.2 1=true then some (true,()) else Option.bind (q6i_ (l.1,())) fun y=>some (eqi l.1 y.1.1 && (eqi l.2 y.1.2 && true),())
def qlp_ (x:As [.pr (.int .u16) (.int .i64)]):Option (As [.bool]):=qju_ x.1
theorem q19e_ (J:Orc (As [.bool])) (x:As [.pr (.int .u16) (.int .i64)]):rfn Tryz.prog q10k_ 6 18446744073709551616 (Ev.get q10o_) 197 qn3_ J x=qju_ x.1:=by kernel_rfl
theorem q1cj_ (x:As [.pr (.int .u16) (.int .i64)]):evT Tryz.prog q10k_ 6 18446744073709551616 (Ev.get q10o_) 197 qn3_ x=qlp_ x:=by
 rw [q5_,q19e_]
 rfl
theorem q18j_:CtOk Tryz.prog (fun _=>True) 197 ⟨qn3_,qlp_⟩:=q3_ (q0_ qmp_ q4_) q1cj_
@[reducible] def q88_:Sh:=⟨[.d (.pr (.int .u16) (.int .i64))],[],[.pr (.int .u16) (.int .i64)],[.d (.pr (.int .u16) (.int .i64))],[],0,[.pr (.int .u16) (.int .i64)]⟩
def qwl_:Env:=(cts [(197,(⟨qn3_,qlp_⟩:Ct))])
def qwz_:List (Nat×Hint):=[]
def qg9_ (l:Int×Int):Option (As [.pr (.int .u16) (.int .i64)]) :=
 Option.bind (qlp_ (l,())) fun y=>if (!y.1)=true then some ((0,0),()) else some (l,())
def q4f_ (x:As [.pr (.int .u16) (.int .i64)]):Option (As [.pr (.int .u16) (.int .i64)]):=qg9_ x.1
theorem q15m_ (J:Orc (As [.pr (.int .u16) (.int .i64)])) (x:As [.pr (.int .u16) (.int .i64)]):rfn Tryz.prog qwl_ 6 18446744073709551616 (Ev.get qwz_) 167 q88_ J x=qg9_ x.1:=by kernel_rfl
theorem q16r_ (x:As [.pr (.int .u16) (.int .i64)]):evT Tryz.prog qwl_ 6 18446744073709551616 (Ev.get qwz_) 167 q88_ x=q4f_ x:=by
 rw [q5_,q15m_]
 rfl
theorem qge_:CtOk Tryz.prog (fun _=>True) 167 ⟨q88_,q4f_⟩:=q3_ (q0_ q18j_ q4_) q16r_
@[reducible] def q9q_:Sh:=⟨[.d (.pr (.int .u16) (.int .i64))],[],[.pr (.int .u16) (.int .i64)],[.d (.bool)],[],0,[.bool]⟩
def q11h_:Env:=(cts [(167,(⟨q88_,q4f_⟩:Ct))])
def q13c_:List (Nat×Hint):=[]
def qmy_ (l:Int×Int):Option (As [.bool]) :=
 Option.bind (q4f_ (l,())) fun y=>some (eqi y.1.1 0 && (eqi y.1.2 0 && true),())
def q5h_ (x:As [.pr (.int .u16) (.int .i64)]):Option (As [.bool]):=qmy_ x.1
theorem q1ar_ (J:Orc (As [.bool])) (x:As [.pr (.int .u16) (.int .i64)]):rfn Tryz.prog q11h_ 6 18446744073709551616 (Ev.get q13c_) 113 q9q_ J x=qmy_ x.1:=by kernel_rfl
theorem q1ft_ (x:As [.pr (.int .u16) (.int .i64)]):evT Tryz.prog q11h_ 6 18446744073709551616 (Ev.get q13c_) 113 q9q_ x=q5h_ x:=by
 rw [q5_,q1ar_]
 rfl
theorem qha_:CtOk Tryz.prog (fun _=>True) 113 ⟨q9q_,q5h_⟩:=q3_ (q0_ qge_ q4_) q1ft_
@[reducible] def qai_:Sh:=⟨[.d (.pr (.int .u32) (.pr (.ar 8 .bool) (.ar 8 YTT8)))],[],[.pr (.int .u32) (.pr (.ar 8 .bool) (.ar 8 YTT8))],[.d (.int .i64)],[],0,[.int .i64]⟩
def qhj_:Env:=(cts [(2000033,Ev.bxCt)])
def qh5_:List (Nat×Hint):=[(58,⟨[],[3,7,8]⟩)]
def qbk_ (n:Int) (t7:List Bool) (t8:Int):St:={ fr:=[(3,.d (.int .i64) n),(7,.d (.ar 8 .bool) t7),(8,.d (.int .i64) t8)],nt:=16,up:=[],own:=[],nx:=0,log:=[],ln:=0 }
def qbg_ (self1:Int->List Bool->Int->Option (As [.int .i64])) (n:Int) (t7:List Bool) (t8:Int):Option (As [.int .i64]) :=
 if lt t8 8=true then need (lt t8 8) (Option.bind (at? t7 t8) fun y=>if y=true then self1 (add .i64 n 1) t7 (add .i64 t8 1) else self1 n t7 (add .i64 t8 1)) else some (n,())
def qyy_ (j1:Int->List Bool->Int->Option (As [.int .i64])) (s:Int×List Bool×List (Int×List Int)):Option (As [.int .i64]) :=
 j1 0 s.2.1 0
def qfz_ (n:Int) (t7:List Bool) (t8:Int):Option (As [.int .i64]) :=
 loopF (fun (self:(Int)×(List Bool)×(Int)->Option (As [.int .i64])) (s:(Int)×(List Bool)×(Int))=>qbg_ (fun n t7 t8=>self (n,t7,t8)) s.1 s.2.1 s.2.2) 18446744073709551616 (n,t7,t8)
def qlx_ (x:As [.pr (.int .u32) (.pr (.ar 8 .bool) (.ar 8 YTT8))]):Option (As [.int .i64]):=qyy_ qfz_ x.1
theorem q17j_ (J:Orc (As [.int .i64])) (w1:St->Option (As [.int .i64])) (n:Int) (t7:List Bool) (t8:Int):pfn Tryz.prog qhj_ 6 18446744073709551616 (Ev.get qh5_) 142 qai_ J 58 [w1] (qbk_ n t7 t8)=qbg_ (fun n t7 t8=>w1 (qbk_ n t7 t8)) n t7 t8:=by kernel_rfl
theorem q18x_ (J:Orc (As [.int .i64])) (x:As [.pr (.int .u32) (.pr (.ar 8 .bool) (.ar 8 YTT8))]):rfn Tryz.prog qhj_ 6 18446744073709551616 (Ev.get qh5_) 142 qai_ J x=qyy_ (fun n t7 t8=>J 58 [] (qbk_ n t7 t8)) x.1:=by kernel_rfl
theorem q18b_ (n:Int) (t7:List Bool) (t8:Int):jfn Tryz.prog qhj_ 6 18446744073709551616 (Ev.get qh5_) 142 qai_ 58 [] (qbk_ n t7 t8)=qfz_ n t7 t8:=by
 rw [q8_ (by decide)]
 rw [qr_ (by kernel_rfl)]
 refine qi_ (σ:=(Int)×(List Bool)×(Int)) (mk:=fun s=>qbk_ s.1 s.2.1 s.2.2) (fun w1 s=>?_) 18446744073709551616 (n,t7,t8)
 refine (q17j_ _ w1 s.1 s.2.1 s.2.2).trans ?_
 rfl
theorem q1b4_ (x:As [.pr (.int .u32) (.pr (.ar 8 .bool) (.ar 8 YTT8))]):evT Tryz.prog qhj_ 6 18446744073709551616 (Ev.get qh5_) 142 qai_ x=qlx_ x:=by
 have e1:(fun n t7 t8=>(jfn Tryz.prog qhj_ 6 18446744073709551616 (Ev.get qh5_) 142 qai_) 58 [] (qbk_ n t7 t8))=qfz_:=by funext n t7 t8; exact q18b_ n t7 t8
 rw [q5_,q18x_,e1]
 rfl
theorem q18t_:CtOk Tryz.prog (fun _=>True) 142 ⟨qai_,qlx_⟩:=q3_ (q0_ Ev.bx_ok q4_) q1b4_
@[reducible] def q96_:Sh:=⟨[.d (.pr (.sl (.int .u16)) YTT0)],[],[.pr (.sl (.int .u16)) YTT0],[.d (.sl (.int .u16))],[],0,[.sl (.int .u16)]⟩
def qff_:Env:=(cts [(2000035,Ev.bxCt),(71,(⟨qhi_,q7k_⟩:Ct)),(113,(⟨q9q_,q5h_⟩:Ct)),(142,(⟨qai_,qlx_⟩:Ct))])
def qfh_:List (Nat×Hint):=[(7,⟨[],[1,3]⟩)]
def qip_ (a:List Int×(Int×Int)×Int×Int×Int×YTT9×Int) (owner:Int):St:={ fr:=[(1,.pe (.pr (.sl (.int .u16)) YTT0) a),(3,.d (.int .u16) owner)],nt:=39,up:=[],own:=[],nx:=0,log:=[],ln:=0 }
def qi5_ (a:List Int×(Int×Int)×Int×Int×Int×YTT9×Int) (owner:Int):Option (As [.sl (.int .u16)]) :=
 Option.bind (q7k_ (a.2.2.2.1,())) fun y=>Option.bind (q7k_ (a.2.2.2.2.1,())) fun y_1=>Option.bind (qlx_ (a.2.2.2.2.2.1,())) fun y_2=>some ([owner,cvt .u16 a.2.2.1,y.1,y.2.1,y_1.1,y_1.2.1,cvt .u16 y_2.1,0],())
def qib_ (j1:List Int×(Int×Int)×Int×Int×Int×YTT9×Int->Int->Option (As [.sl (.int .u16)])) (a:List Int×(Int×Int)×Int×Int×Int×YTT9×Int):Option (As [.sl (.int .u16)]) :=
 Option.bind (q5h_ (a.2.1,())) fun y=>if y.1=true then j1 a 0 else j1 a a.2.1.1
def qd6_ (a:List Int×(Int×Int)×Int×Int×Int×YTT9×Int) (owner:Int):Option (As [.sl (.int .u16)]):=qi5_ a owner
def q7_ (x:As [.pr (.sl (.int .u16)) YTT0]):Option (As [.sl (.int .u16)]):=qib_ qd6_ x.1
theorem q15w_ (J:Orc (As [.sl (.int .u16)])) (a:List Int×(Int×Int)×Int×Int×Int×YTT9×Int) (owner:Int):pfn Tryz.prog qff_ 6 18446744073709551616 (Ev.get qfh_) 112 q96_ J 7 [] (qip_ a owner)=qi5_ a owner:=by kernel_rfl
theorem q164_ (J:Orc (As [.sl (.int .u16)])) (x:As [.pr (.sl (.int .u16)) YTT0]):rfn Tryz.prog qff_ 6 18446744073709551616 (Ev.get qfh_) 112 q96_ J x=qib_ (fun a owner=>J 7 [] (qip_ a owner)) x.1:=by kernel_rfl
theorem q16t_ (a:List Int×(Int×Int)×Int×Int×Int×YTT9×Int) (owner:Int):jfn Tryz.prog qff_ 6 18446744073709551616 (Ev.get qfh_) 112 q96_ 7 [] (qip_ a owner)=qd6_ a owner:=by
 rw [q8_ (by decide)]
 rw [q15w_]
 rfl
theorem q18z_ (x:As [.pr (.sl (.int .u16)) YTT0]):evT Tryz.prog qff_ 6 18446744073709551616 (Ev.get qfh_) 112 q96_ x=q7_ x:=by
 have e1:(fun a owner=>(jfn Tryz.prog qff_ 6 18446744073709551616 (Ev.get qfh_) 112 q96_) 7 [] (qip_ a owner))=qd6_:=by funext a owner; exact q16t_ a owner
 rw [q5_,q164_,e1]
 rfl
theorem q160_:CtOk Tryz.prog (fun _=>True) 112 ⟨q96_,q7_⟩:=q3_ (q0_ Ev.bx_ok (q0_ qyp_ (q0_ qha_ (q0_ q18t_ q4_)))) q18z_
@[reducible] def qew_:Sh:=⟨[.d (.int .i64)],[],[.int .i64],[.d (.bool)],[],0,[.bool]⟩
def qyx_:Env:=(cts [])
def qxl_:List (Nat×Hint):=[]
def qij_ (n:Int):Option (As [.bool]) :=
 if ge n 0=true then some (lt n 8,()) else some (false,())
def q9l_ (x:As [.int .i64]):Option (As [.bool]):=qij_ x.1
theorem q176_ (J:Orc (As [.bool])) (x:As [.int .i64]):rfn Tryz.prog qyx_ 6 18446744073709551616 (Ev.get qxl_) 75 qew_ J x=qij_ x.1:=by kernel_rfl
theorem q17h_ (x:As [.int .i64]):evT Tryz.prog qyx_ 6 18446744073709551616 (Ev.get qxl_) 75 qew_ x=q9l_ x:=by
 rw [q5_,q176_]
 rfl
theorem qwh_:CtOk Tryz.prog (fun _=>True) 75 ⟨qew_,q9l_⟩:=q3_ q4_ q17h_
@[reducible] def qkr_:Sh:=⟨[.d (.int .u16),.d (.int .u32),.d (.int .i64),.d YTT8],[],[.int .u16,.int .u32,.int .i64,.pr (.int .i64) (.sl (.int .u16))],[.d (.sl (.int .u16))],[],0,[.sl (.int .u16)]⟩
def qy2_:Env:=(cts [(71,(⟨qhi_,q7k_⟩:Ct)),(73,(⟨q36_,q7t_⟩:Ct))])
def qyl_:List (Nat×Hint):=[]
def qia_ (owner tx n:Int) (x:Int×List Int):Option (As [.sl (.int .u16)]) :=
 Option.bind (q7k_ (tx,())) fun y=>need (small (0 + Nat.succ (Nat.succ (Nat.succ (Nat.succ 0))))) (Option.bind (q7t_ (x,())) fun y_1=>need (small (Nat.succ (Nat.succ (Nat.succ (Nat.succ 0))) + List.length y_1.1)) (some (owner::y.1::y.2.1::cvt .u16 n::y_1.1,())))
def qfp_ (x:As [.int .u16,.int .u32,.int .i64,.pr (.int .i64) (.sl (.int .u16))]):Option (As [.sl (.int .u16)]):=qia_ x.1 x.2.1 x.2.2.1 x.2.2.2.1
theorem q173_ (J:Orc (As [.sl (.int .u16)])) (x:As [.int .u16,.int .u32,.int .i64,.pr (.int .i64) (.sl (.int .u16))]):rfn Tryz.prog qy2_ 6 18446744073709551616 (Ev.get qyl_) 77 qkr_ J x=qia_ x.1 x.2.1 x.2.2.1 x.2.2.2.1:=by kernel_rfl
theorem q17g_ (x:As [.int .u16,.int .u32,.int .i64,.pr (.int .i64) (.sl (.int .u16))]):evT Tryz.prog qy2_ 6 18446744073709551616 (Ev.get qyl_) 77 qkr_ x=qfp_ x:=by
 rw [q5_,q173_]
 rfl
theorem q174_:CtOk Tryz.prog (fun _=>True) 77 ⟨qkr_,qfp_⟩:=q3_ (q0_ qyp_ (q0_ qq3_ q4_)) q17g_
@[reducible] def qca_:Sh:=⟨[.d (.pr (.int .u32) (.pr (.ar 8 .bool) (.ar 8 YTT8))),.d (.int .u16),.d (.int .i64)],[],[.pr (.int .u32) (.pr (.ar 8 .bool) (.ar 8 YTT8)),.int .u16,.int .i64],[.d (.sl (.int .u16))],[],0,[.sl (.int .u16)]⟩
def qit_:Env:=(cts [(2000033,Ev.bxCt),(75,(⟨qew_,q9l_⟩:Ct)),(77,(⟨qkr_,qfp_⟩:Ct))])
def qja_:List (Nat×Hint):=[(6,⟨[],[1,2,3,16]⟩)]
def qnn_ (owner n:Int) (s:Int×List Bool×List (Int×List Int)) (t16:Bool):St:={ fr:=[(1,.d (.int .u16) owner),(2,.d (.int .i64) n),(3,.pe (.pr (.int .u32) (.pr (.ar 8 .bool) (.ar 8 YTT8))) s),(16,.d .bool t16)],nt:=27,up:=[],own:=[],nx:=0,log:=[],ln:=0 }
def qnm_ (owner n:Int) (s:Int×List Bool×List (Int×List Int)) (t16:Bool):Option (As [.sl (.int .u16)]) :=
 if t16=true then some ([0,0,0,0,0,0,0,0,0,0,0,0,0,0,0,0,0,0,0,0],()) else Option.bind (at? s.2.2 n) fun y=>Option.bind (qfp_ (owner,s.1,n,y,())) fun y=>some (y.1,())
def qmx_ (j1:Int->Int->Int×List Bool×List (Int×List Int)->Bool->Option (As [.sl (.int .u16)])) (s:Int×List Bool×List (Int×List Int)) (owner n:Int):Option (As [.sl (.int .u16)]) :=
 Option.bind (q9l_ (n,())) fun y=>if (!y.1)=true then j1 owner n s true else Option.bind (at? s.2.1 n) fun y=>j1 owner n s !y
def qnu_ (owner n:Int) (s:Int×List Bool×List (Int×List Int)) (t16:Bool):Option (As [.sl (.int .u16)]):=qnm_ owner n s t16
def qqy_ (x:As [.pr (.int .u32) (.pr (.ar 8 .bool) (.ar 8 YTT8)),.int .u16,.int .i64]):Option (As [.sl (.int .u16)]):=qmx_ qnu_ x.1 x.2.1 x.2.2.1
theorem q1bg_ (J:Orc (As [.sl (.int .u16)])) (owner n:Int) (s:Int×List Bool×List (Int×List Int)) (t16:Bool):pfn Tryz.prog qit_ 6 18446744073709551616 (Ev.get qja_) 114 qca_ J 6 [] (qnn_ owner n s t16)=qnm_ owner n s t16:=by kernel_rfl
theorem q1b9_ (J:Orc (As [.sl (.int .u16)])) (x:As [.pr (.int .u32) (.pr (.ar 8 .bool) (.ar 8 YTT8)),.int .u16,.int .i64]):rfn Tryz.prog qit_ 6 18446744073709551616 (Ev.get qja_) 114 qca_ J x=qmx_ (fun owner n s t16=>J 6 [] (qnn_ owner n s t16)) x.1 x.2.1 x.2.2.1:=by kernel_rfl
theorem q1a3_ (owner n:Int) (s:Int×List Bool×List (Int×List Int)) (t16:Bool):jfn Tryz.prog qit_ 6 18446744073709551616 (Ev.get qja_) 114 qca_ 6 [] (qnn_ owner n s t16)=qnu_ owner n s t16:=by
 rw [q8_ (by decide)]
 rw [q1bg_]
 rfl
theorem q1fp_ (x:As [.pr (.int .u32) (.pr (.ar 8 .bool) (.ar 8 YTT8)),.int .u16,.int .i64]):evT Tryz.prog qit_ 6 18446744073709551616 (Ev.get qja_) 114 qca_ x=qqy_ x:=by
 have e1:(fun owner n s t16=>(jfn Tryz.prog qit_ 6 18446744073709551616 (Ev.get qja_) 114 qca_) 6 [] (qnn_ owner n s t16))=qnu_:=by funext owner n s t16; exact q1a3_ owner n s t16
 rw [q5_,q1b9_,e1]
 rfl
theorem q1a0_:CtOk Tryz.prog (fun _=>True) 114 ⟨qca_,qqy_⟩:=q3_ (q0_ Ev.bx_ok (q0_ qwh_ (q0_ q174_ q4_))) q1fp_
@[reducible] def q2_:Sh:=⟨[.d (.pr (.int .u8) (.pr (.int .u8) (.pr (.pr (.sl (.int .u16)) YTT0) (.sl .bool))))],[],[.pr (.int .u8) (.pr (.int .u8) (.pr (.pr (.sl (.int .u16)) YTT0) (.sl .bool)))],[.d (.pr (.sl .bool) YTT10)],[],0,[.pr (.sl .bool) YTT10]⟩
def q63_:Env:=(cts [(2000038,Ev.bxCt),(70,(⟨q8r_,q52_⟩:Ct)),(112,(⟨q96_,q7_⟩:Ct)),(113,(⟨q9q_,q5h_⟩:Ct)),(114,(⟨qca_,qqy_⟩:Ct))])
def q67_:List (Nat×Hint):=[(3,⟨[],[1,2,3]⟩),(15,⟨[],[1,2,3]⟩),(4090,⟨[],[1,2,3,57]⟩)]
def qr0_ (s:Int×Int×YTT2×List Bool) (m:List Int) (o o_2:List Bool) (o_3:List Int):St:={ fr:=[(1,.pe (.pr (.int .u8) (.pr (.int .u8) (.pr (.pr (.sl (.int .u16)) YTT0) (.sl .bool)))) s),(2,.pb 0 0),(3,.pb 1 0)],nt:=78,up:=[],own:=[(0,.box 96 [.k (Go.Value.slice Option.none 0 0),.k (Go.Value.slice Option.none 0 0),.k (Go.Value.slice Option.none 0 0),.k (Go.Value.slice Option.none 0 0)]),(1,.box 96 [.row 2,.row 3,.row 4,.d (.sl (.int .u16)) m]),(2,.row .bool 4 o),(3,.row .bool 4 o_2),(4,.row (.int .u16) 23 o_3)],nx:=5,log:=[],ln:=0 }
def qqw_ (s:Int×Int×YTT2×List Bool) (m:List Int) (o o_2:List Bool) (o_3:List Int):St:={ fr:=[(1,.pe (.pr (.int .u8) (.pr (.int .u8) (.pr (.pr (.sl (.int .u16)) YTT0) (.sl .bool)))) s),(2,.pb 0 0),(3,.pb 1 0)],nt:=78,up:=[],own:=[(0,.box 96 [.k (Go.Value.slice Option.none 0 0),.k (Go.Value.slice Option.none 0 0),.k (Go.Value.slice Option.none 0 0),.k (Go.Value.slice Option.none 0 0)]),(1,.box 96 [.row 2,.row 3,.row 4,.d (.sl (.int .u16)) m]),(2,.row .bool 4 o),(3,.row .bool 4 o_2),(4,.row (.int .u16) 23 o_3)],nx:=5,log:=[],ln:=0 }
def qfk_ (s:Int×Int×YTT2×List Bool) (t57:Int) (m:List Int) (o o_2:List Bool) (o_3:List Int):St:={ fr:=[(1,.pe (.pr (.int .u8) (.pr (.int .u8) (.pr (.pr (.sl (.int .u16)) YTT0) (.sl .bool)))) s),(2,.pb 0 0),(3,.pb 1 0),(57,.d (.int .i64) t57)],nt:=78,up:=[],own:=[(0,.box 96 [.k (Go.Value.slice Option.none 0 0),.k (Go.Value.slice Option.none 0 0),.k (Go.Value.slice Option.none 0 0),.k (Go.Value.slice Option.none 0 0)]),(1,.box 96 [.row 2,.row 3,.row 4,.d (.sl (.int .u16)) m]),(2,.row .bool 4 o),(3,.row .bool 4 o_2),(4,.row (.int .u16) 23 o_3)],nx:=5,log:=[],ln:=0 }
def qr7_ (j2:Int×Int×YTT2×List Bool->List Int->List Bool->List Bool->List Int->Option (As [.pr (.sl .bool) YTT10])) (s:Int×Int×YTT2×List Bool) (m:List Int) (o o_2:List Bool) (o_3:List Int):Option (As [.pr (.sl .bool) YTT10]) :=
 need (le (Int.ofNat (0 + List.length o)) (Int.ofNat (List.length o))) (if le s.2.2.1.2.2.1 2=true then Option.bind (at? o_2 s.2.2.1.2.2.1) fun x=>Option.bind (at? o_2 s.2.2.1.2.2.1) fun x=>j2 s m (List.take (Int.toNat (Int.ofNat (List.length o))) s.2.2.2++List.drop (0 + List.length (List.take (Int.toNat (Int.ofNat (List.length o))) s.2.2.2)) o) (List.set o_2 (Int.toNat s.2.2.1.2.2.1) true) o_3 else j2 s m (List.take (Int.toNat (Int.ofNat (List.length o))) s.2.2.2++List.drop (0 + List.length (List.take (Int.toNat (Int.ofNat (List.length o))) s.2.2.2)) o) o_2 o_3)
def qq8_ (j3:Int×Int×YTT2×List Bool->Int->List Int->List Bool->List Bool->List Int->Option (As [.pr (.sl .bool) YTT10])) (s:Int×Int×YTT2×List Bool) (m:List Int) (o o_2:List Bool) (o_3:List Int):Option (As [.pr (.sl .bool) YTT10]) :=
 Option.bind (q5h_ (s.2.2.1.2.1,())) fun y=>Option.bind (at? o_2 4) fun x=>Option.bind (at? o_2 4) fun x=>Option.bind (q52_ (List.take 8 (List.drop 0 s.2.2.1.2.2.2.2.2.1.2.1),true,())) fun y_1=>Option.bind (at? (List.set o_2 4 !y.1) 5) fun x=>Option.bind (at? (List.set o_2 4 !y.1) 5) fun x=>need (le (Int.ofNat (List.length o_3)) (Int.ofNat (List.length o_3))) (need (le 64 (Int.ofNat (List.length o_3 + 0))) (need (le 64 (Int.ofNat (List.length o_3))) (need (le 256 (Int.ofNat (List.length (List.take 64 s.2.2.1.1++List.drop (0 + List.length (List.take 64 s.2.2.1.1)) o_3)))) (need (le (Int.ofNat (List.length (List.take 64 s.2.2.1.1++List.drop (0 + List.length (List.take 64 s.2.2.1.1)) o_3))) (Int.ofNat (List.length (List.take 64 s.2.2.1.1++List.drop (0 + List.length (List.take 64 s.2.2.1.1)) o_3)))) (need (le (256 + (Int.ofNat (List.length (List.take 64 s.2.2.1.1++List.drop (0 + List.length (List.take 64 s.2.2.1.1)) o_3)) - 256)) (Int.ofNat (List.length (List.take 64 s.2.2.1.1++List.drop (0 + List.length (List.take 64 s.2.2.1.1)) o_3)))) (j3 s 0 m o (List.set (List.set o_2 4 !y.1) 5 y_1.1) (List.take 256 (List.take 64 s.2.2.1.1++List.drop (0 + List.length (List.take 64 s.2.2.1.1)) o_3)++List.take (Int.toNat (Int.ofNat (List.length (List.take 64 s.2.2.1.1++List.drop (0 + List.length (List.take 64 s.2.2.1.1)) o_3)) - 256)) m++List.drop (256 + List.length (List.take (Int.toNat (Int.ofNat (List.length (List.take 64 s.2.2.1.1++List.drop (0 + List.length (List.take 64 s.2.2.1.1)) o_3)) - 256)) m)) (List.take 64 s.2.2.1.1++List.drop (0 + List.length (List.take 64 s.2.2.1.1)) o_3))))))))
def qf2_ (self3:Int×Int×YTT2×List Bool->Int->List Int->List Bool->List Bool->List Int->Option (As [.pr (.sl .bool) YTT10])) (s:Int×Int×YTT2×List Bool) (t57:Int) (m:List Int) (o o_2:List Bool) (o_3:List Int):Option (As [.pr (.sl .bool) YTT10]) :=
 if lt t57 8=true then need (ge (add .i64 512 (mul .i64 t57 32)) 0) (need (le (add .i64 512 (mul .i64 t57 32)) (Int.ofNat (List.length o_3))) (need (le (Int.ofNat (List.length o_3)) (Int.ofNat (List.length o_3))) (Option.bind (at? m 0) fun y=>Option.bind (qqy_ (s.2.2.1.2.2.2.2.2.1,y,t57,())) fun y=>need (le (add .i64 512 (mul .i64 t57 32) + (Int.ofNat (List.length o_3) - add .i64 512 (mul .i64 t57 32))) (Int.ofNat (List.length o_3))) (self3 s (add .i64 t57 1) m o o_2 (List.take (Int.toNat (add .i64 512 (mul .i64 t57 32))) o_3++List.take (Int.toNat (Int.ofNat (List.length o_3) - add .i64 512 (mul .i64 t57 32))) y.1++List.drop (Int.toNat (add .i64 512 (mul .i64 t57 32)) + List.length (List.take (Int.toNat (Int.ofNat (List.length o_3) - add .i64 512 (mul .i64 t57 32))) y.1)) o_3))))) else some ((o,o_2,o_3,m),())
def qrh_ (j1:Int×Int×YTT2×List Bool->List Int->List Bool->List Bool->List Int->Option (As [.pr (.sl .bool) YTT10])) (s:Int×Int×YTT2×List Bool):Option (As [.pr (.sl .bool) YTT10]) :=
 amb (eqAs q2_.rs) [amb (eqAs q2_.rs) [amb (eqAs q2_.rs) [amb (eqAs q2_.rs) [Option.bind (q7_ (s.2.2.1,())) fun y=>j1 s y.1 (List.replicate 16 false) (List.replicate 8 false) (List.replicate 756 0),Option.bind (q7_ (s.2.2.1,())) fun y=>j1 s y.1 (List.replicate 16 false) (List.replicate 8 false) (List.replicate 756 0)],amb (eqAs q2_.rs) [Option.bind (q7_ (s.2.2.1,())) fun y=>amb (eqAs q2_.rs) [j1 s y.1 (List.replicate 16 false) (List.replicate 8 false) (List.replicate 756 0),j1 s y.1 (List.replicate 16 false) (List.replicate 8 false) (List.replicate 756 0)],amb (eqAs q2_.rs) [Option.bind (q7_ (s.2.2.1,())) fun y=>j1 s y.1 (List.replicate 16 false) (List.replicate 8 false) (List.replicate 756 0),Option.bind (q7_ (s.2.2.1,())) fun y=>j1 s y.1 (List.replicate 16 false) (List.replicate 8 false) (List.replicate 756 0)]]],amb (eqAs q2_.rs) [amb (eqAs q2_.rs) [amb (eqAs q2_.rs) [Option.bind (q7_ (s.2.2.1,())) fun y=>j1 s y.1 (List.replicate 16 false) (List.replicate 8 false) (List.replicate 756 0),Option.bind (q7_ (s.2.2.1,())) fun y=>j1 s y.1 (List.replicate 16 false) (List.replicate 8 false) (List.replicate 756 0)],amb (eqAs q2_.rs) [Option.bind (q7_ (s.2.2.1,())) fun y=>amb (eqAs q2_.rs) [j1 s y.1 (List.replicate 16 false) (List.replicate 8 false) (List.replicate 756 0),j1 s y.1 (List.replicate 16 false) (List.replicate 8 false) (List.replicate 756 0)],amb (eqAs q2_.rs) [Option.bind (q7_ (s.2.2.1,())) fun y=>j1 s y.1 (List.replicate 16 false) (List.replicate 8 false) (List.replicate 756 0),Option.bind (q7_ (s.2.2.1,())) fun y=>j1 s y.1 (List.replicate 16 false) (List.replicate 8 false) (List.replicate 756 0)]]],amb (eqAs q2_.rs) [Option.bind (q7_ (s.2.2.1,())) fun y=>amb (eqAs q2_.rs) [amb (eqAs q2_.rs) [j1 s y.1 (List.replicate 16 false) (List.replicate 8 false) (List.replicate 756 0),j1 s y.1 (List.replicate 16 false) (List.replicate 8 false) (List.replicate 756 0)],amb (eqAs q2_.rs) [amb (eqAs q2_.rs) [j1 s y.1 (List.replicate 16 false) (List.replicate 8 false) (List.replicate 756 0),j1 s y.1 (List.replicate 16 false) (List.replicate 8 false) (List.replicate 756 0)],amb (eqAs q2_.rs) [j1 s y.1 (List.replicate 16 false) (List.replicate 8 false) (List.replicate 756 0),j1 s y.1 (List.replicate 16 false) (List.replicate 8 false) (List.replicate 756 0)]]],amb (eqAs q2_.rs) [amb (eqAs q2_.rs) [Option.bind (q7_ (s.2.2.1,())) fun y=>j1 s y.1 (List.replicate 16 false) (List.replicate 8 false) (List.replicate 756 0),Option.bind (q7_ (s.2.2.1,())) fun y=>j1 s y.1 (List.replicate 16 false) (List.replicate 8 false) (List.replicate 756 0)],amb (eqAs q2_.rs) [amb (eqAs q2_.rs) [Option.bind (q7_ (s.2.2.1,())) fun y=>j1 s y.1 (List.replicate 16 false) (List.replicate 8 false) (List.replicate 756 0),Option.bind (q7_ (s.2.2.1,())) fun y=>j1 s y.1 (List.replicate 16 false) (List.replicate 8 false) (List.replicate 756 0)],Option.bind (q7_ (s.2.2.1,())) fun y=>amb (eqAs q2_.rs) [j1 s y.1 (List.replicate 16 false) (List.replicate 8 false) (List.replicate 756 0),j1 s y.1 (List.replicate 16 false) (List.replicate 8 false) (List.replicate 756 0)]]]]]],amb (eqAs q2_.rs) [amb (eqAs q2_.rs) [amb (eqAs q2_.rs) [amb (eqAs q2_.rs) [Option.bind (q7_ (s.2.2.1,())) fun y=>j1 s y.1 (List.replicate 16 false) (List.replicate 8 false) (List.replicate 756 0),Option.bind (q7_ (s.2.2.1,())) fun y=>j1 s y.1 (List.replicate 16 false) (List.replicate 8 false) (List.replicate 756 0)],amb (eqAs q2_.rs) [Option.bind (q7_ (s.2.2.1,())) fun y=>amb (eqAs q2_.rs) [j1 s y.1 (List.replicate 16 false) (List.replicate 8 false) (List.replicate 756 0),j1 s y.1 (List.replicate 16 false) (List.replicate 8 false) (List.replicate 756 0)],amb (eqAs q2_.rs) [Option.bind (q7_ (s.2.2.1,())) fun y=>j1 s y.1 (List.replicate 16 false) (List.replicate 8 false) (List.replicate 756 0),Option.bind (q7_ (s.2.2.1,())) fun y=>j1 s y.1 (List.replicate 16 false) (List.replicate 8 false) (List.replicate 756 0)]]],amb (eqAs q2_.rs) [amb (eqAs q2_.rs) [amb (eqAs q2_.rs) [Option.bind (q7_ (s.2.2.1,())) fun y=>j1 s y.1 (List.replicate 16 false) (List.replicate 8 false) (List.replicate 756 0),Option.bind (q7_ (s.2.2.1,())) fun y=>j1 s y.1 (List.replicate 16 false) (List.replicate 8 false) (List.replicate 756 0)],amb (eqAs q2_.rs) [Option.bind (q7_ (s.2.2.1,())) fun y=>amb (eqAs q2_.rs) [j1 s y.1 (List.replicate 16 false) (List.replicate 8 false) (List.replicate 756 0),j1 s y.1 (List.replicate 16 false) (List.replicate 8 false) (List.replicate 756 0)],amb (eqAs q2_.rs) [Option.bind (q7_ (s.2.2.1,())) fun y=>j1 s y.1 (List.replicate 16 false) (List.replicate 8 false) (List.replicate 756 0),Option.bind (q7_ (s.2.2.1,())) fun y=>j1 s y.1 (List.replicate 16 false) (List.replicate 8 false) (List.replicate 756 0)]]],amb (eqAs q2_.rs) [Option.bind (q7_ (s.2.2.1,())) fun y=>amb (eqAs q2_.rs) [amb (eqAs q2_.rs) [j1 s y.1 (List.replicate 16 false) (List.replicate 8 false) (List.replicate 756 0),j1 s y.1 (List.replicate 16 false) (List.replicate 8 false) (List.replicate 756 0)],amb (eqAs q2_.rs) [amb (eqAs q2_.rs) [j1 s y.1 (List.replicate 16 false) (List.replicate 8 false) (List.replicate 756 0),j1 s y.1 (List.replicate 16 false) (List.replicate 8 false) (List.replicate 756 0)],amb (eqAs q2_.rs) [j1 s y.1 (List.replicate 16 false) (List.replicate 8 false) (List.replicate 756 0),j1 s y.1 (List.replicate 16 false) (List.replicate 8 false) (List.replicate 756 0)]]],amb (eqAs q2_.rs) [amb (eqAs q2_.rs) [Option.bind (q7_ (s.2.2.1,())) fun y=>j1 s y.1 (List.replicate 16 false) (List.replicate 8 false) (List.replicate 756 0),Option.bind (q7_ (s.2.2.1,())) fun y=>j1 s y.1 (List.replicate 16 false) (List.replicate 8 false) (List.replicate 756 0)],amb (eqAs q2_.rs) [amb (eqAs q2_.rs) [Option.bind (q7_ (s.2.2.1,())) fun y=>j1 s y.1 (List.replicate 16 false) (List.replicate 8 false) (List.replicate 756 0),Option.bind (q7_ (s.2.2.1,())) fun y=>j1 s y.1 (List.replicate 16 false) (List.replicate 8 false) (List.replicate 756 0)],Option.bind (q7_ (s.2.2.1,())) fun y=>amb (eqAs q2_.rs) [j1 s y.1 (List.replicate 16 false) (List.replicate 8 false) (List.replicate 756 0),j1 s y.1 (List.replicate 16 false) (List.replicate 8 false) (List.replicate 756 0)]]]]]],amb (eqAs q2_.rs) [amb (eqAs q2_.rs) [amb (eqAs q2_.rs) [amb (eqAs q2_.rs) [Option.bind (q7_ (s.2.2.1,())) fun y=>j1 s y.1 (List.replicate 16 false) (List.replicate 8 false) (List.replicate 756 0),Option.bind (q7_ (s.2.2.1,())) fun y=>j1 s y.1 (List.replicate 16 false) (List.replicate 8 false) (List.replicate 756 0)],amb (eqAs q2_.rs) [Option.bind (q7_ (s.2.2.1,())) fun y=>amb (eqAs q2_.rs) [j1 s y.1 (List.replicate 16 false) (List.replicate 8 false) (List.replicate 756 0),j1 s y.1 (List.replicate 16 false) (List.replicate 8 false) (List.replicate 756 0)],amb (eqAs q2_.rs) [Option.bind (q7_ (s.2.2.1,())) fun y=>j1 s y.1 (List.replicate 16 false) (List.replicate 8 false) (List.replicate 756 0),Option.bind (q7_ (s.2.2.1,())) fun y=>j1 s y.1 (List.replicate 16 false) (List.replicate 8 false) (List.replicate 756 0)]]],amb (eqAs q2_.rs) [amb (eqAs q2_.rs) [amb (eqAs q2_.rs) [Option.bind (q7_ (s.2.2.1,())) fun y=>j1 s y.1 (List.replicate 16 false) (List.replicate 8 false) (List.replicate 756 0),Option.bind (q7_ (s.2.2.1,())) fun y=>j1 s y.1 (List.replicate 16 false) (List.replicate 8 false) (List.replicate 756 0)],amb (eqAs q2_.rs) [Option.bind (q7_ (s.2.2.1,())) fun y=>amb (eqAs q2_.rs) [j1 s y.1 (List.replicate 16 false) (List.replicate 8 false) (List.replicate 756 0),j1 s y.1 (List.replicate 16 false) (List.replicate 8 false) (List.replicate 756 0)],amb (eqAs q2_.rs) [Option.bind (q7_ (s.2.2.1,())) fun y=>j1 s y.1 (List.replicate 16 false) (List.replicate 8 false) (List.replicate 756 0),Option.bind (q7_ (s.2.2.1,())) fun y=>j1 s y.1 (List.replicate 16 false) (List.replicate 8 false) (List.replicate 756 0)]]],amb (eqAs q2_.rs) [Option.bind (q7_ (s.2.2.1,())) fun y=>amb (eqAs q2_.rs) [amb (eqAs q2_.rs) [j1 s y.1 (List.replicate 16 false) (List.replicate 8 false) (List.replicate 756 0),j1 s y.1 (List.replicate 16 false) (List.replicate 8 false) (List.replicate 756 0)],amb (eqAs q2_.rs) [amb (eqAs q2_.rs) [j1 s y.1 (List.replicate 16 false) (List.replicate 8 false) (List.replicate 756 0),j1 s y.1 (List.replicate 16 false) (List.replicate 8 false) (List.replicate 756 0)],amb (eqAs q2_.rs) [j1 s y.1 (List.replicate 16 false) (List.replicate 8 false) (List.replicate 756 0),j1 s y.1 (List.replicate 16 false) (List.replicate 8 false) (List.replicate 756 0)]]],amb (eqAs q2_.rs) [amb (eqAs q2_.rs) [Option.bind (q7_ (s.2.2.1,())) fun y=>j1 s y.1 (List.replicate 16 false) (List.replicate 8 false) (List.replicate 756 0),Option.bind (q7_ (s.2.2.1,())) fun y=>j1 s y.1 (List.replicate 16 false) (List.replicate 8 false) (List.replicate 756 0)],amb (eqAs q2_.rs) [amb (eqAs q2_.rs) [Option.bind (q7_ (s.2.2.1,())) fun y=>j1 s y.1 (List.replicate 16 false) (List.replicate 8 false) (List.replicate 756 0),Option.bind (q7_ (s.2.2.1,())) fun y=>j1 s y.1 (List.replicate 16 false) (List.replicate 8 false) (List.replicate 756 0)],Option.bind (q7_ (s.2.2.1,())) fun y=>amb (eqAs q2_.rs) [j1 s y.1 (List.replicate 16 false) (List.replicate 8 false) (List.replicate 756 0),j1 s y.1 (List.replicate 16 false) (List.replicate 8 false) (List.replicate 756 0)]]]]]],amb (eqAs q2_.rs) [Option.bind (q7_ (s.2.2.1,())) fun y=>amb (eqAs q2_.rs) [amb (eqAs q2_.rs) [amb (eqAs q2_.rs) [j1 s y.1 (List.replicate 16 false) (List.replicate 8 false) (List.replicate 756 0),j1 s y.1 (List.replicate 16 false) (List.replicate 8 false) (List.replicate 756 0)],amb (eqAs q2_.rs) [amb (eqAs q2_.rs) [j1 s y.1 (List.replicate 16 false) (List.replicate 8 false) (List.replicate 756 0),j1 s y.1 (List.replicate 16 false) (List.replicate 8 false) (List.replicate 756 0)],amb (eqAs q2_.rs) [j1 s y.1 (List.replicate 16 false) (List.replicate 8 false) (List.replicate 756 0),j1 s y.1 (List.replicate 16 false) (List.replicate 8 false) (List.replicate 756 0)]]],amb (eqAs q2_.rs) [amb (eqAs q2_.rs) [amb (eqAs q2_.rs) [j1 s y.1 (List.replicate 16 false) (List.replicate 8 false) (List.replicate 756 0),j1 s y.1 (List.replicate 16 false) (List.replicate 8 false) (List.replicate 756 0)],amb (eqAs q2_.rs) [amb (eqAs q2_.rs) [j1 s y.1 (List.replicate 16 false) (List.replicate 8 false) (List.replicate 756 0),j1 s y.1 (List.replicate 16 false) (List.replicate 8 false) (List.replicate 756 0)],amb (eqAs q2_.rs) [j1 s y.1 (List.replicate 16 false) (List.replicate 8 false) (List.replicate 756 0),j1 s y.1 (List.replicate 16 false) (List.replicate 8 false) (List.replicate 756 0)]]],amb (eqAs q2_.rs) [amb (eqAs q2_.rs) [amb (eqAs q2_.rs) [j1 s y.1 (List.replicate 16 false) (List.replicate 8 false) (List.replicate 756 0),j1 s y.1 (List.replicate 16 false) (List.replicate 8 false) (List.replicate 756 0)],amb (eqAs q2_.rs) [amb (eqAs q2_.rs) [j1 s y.1 (List.replicate 16 false) (List.replicate 8 false) (List.replicate 756 0),j1 s y.1 (List.replicate 16 false) (List.replicate 8 false) (List.replicate 756 0)],amb (eqAs q2_.rs) [j1 s y.1 (List.replicate 16 false) (List.replicate 8 false) (List.replicate 756 0),j1 s y.1 (List.replicate 16 false) (List.replicate 8 false) (List.replicate 756 0)]]],amb (eqAs q2_.rs) [amb (eqAs q2_.rs) [j1 s y.1 (List.replicate 16 false) (List.replicate 8 false) (List.replicate 756 0),j1 s y.1 (List.replicate 16 false) (List.replicate 8 false) (List.replicate 756 0)],amb (eqAs q2_.rs) [amb (eqAs q2_.rs) [j1 s y.1 (List.replicate 16 false) (List.replicate 8 false) (List.replicate 756 0),j1 s y.1 (List.replicate 16 false) (List.replicate 8 false) (List.replicate 756 0)],amb (eqAs q2_.rs) [j1 s y.1 (List.replicate 16 false) (List.replicate 8 false) (List.replicate 756 0),j1 s y.1 (List.replicate 16 false) (List.replicate 8 false) (List.replicate 756 0)]]]]]],amb (eqAs q2_.rs) [amb (eqAs q2_.rs) [amb (eqAs q2_.rs) [Option.bind (q7_ (s.2.2.1,())) fun y=>j1 s y.1 (List.replicate 16 false) (List.replicate 8 false) (List.replicate 756 0),Option.bind (q7_ (s.2.2.1,())) fun y=>j1 s y.1 (List.replicate 16 false) (List.replicate 8 false) (List.replicate 756 0)],amb (eqAs q2_.rs) [amb (eqAs q2_.rs) [Option.bind (q7_ (s.2.2.1,())) fun y=>j1 s y.1 (List.replicate 16 false) (List.replicate 8 false) (List.replicate 756 0),Option.bind (q7_ (s.2.2.1,())) fun y=>j1 s y.1 (List.replicate 16 false) (List.replicate 8 false) (List.replicate 756 0)],Option.bind (q7_ (s.2.2.1,())) fun y=>amb (eqAs q2_.rs) [j1 s y.1 (List.replicate 16 false) (List.replicate 8 false) (List.replicate 756 0),j1 s y.1 (List.replicate 16 false) (List.replicate 8 false) (List.replicate 756 0)]]],amb (eqAs q2_.rs) [amb (eqAs q2_.rs) [amb (eqAs q2_.rs) [Option.bind (q7_ (s.2.2.1,())) fun y=>j1 s y.1 (List.replicate 16 false) (List.replicate 8 false) (List.replicate 756 0),Option.bind (q7_ (s.2.2.1,())) fun y=>j1 s y.1 (List.replicate 16 false) (List.replicate 8 false) (List.replicate 756 0)],amb (eqAs q2_.rs) [amb (eqAs q2_.rs) [Option.bind (q7_ (s.2.2.1,())) fun y=>j1 s y.1 (List.replicate 16 false) (List.replicate 8 false) (List.replicate 756 0),Option.bind (q7_ (s.2.2.1,())) fun y=>j1 s y.1 (List.replicate 16 false) (List.replicate 8 false) (List.replicate 756 0)],Option.bind (q7_ (s.2.2.1,())) fun y=>amb (eqAs q2_.rs) [j1 s y.1 (List.replicate 16 false) (List.replicate 8 false) (List.replicate 756 0),j1 s y.1 (List.replicate 16 false) (List.replicate 8 false) (List.replicate 756 0)]]],amb (eqAs q2_.rs) [amb (eqAs q2_.rs) [amb (eqAs q2_.rs) [Option.bind (q7_ (s.2.2.1,())) fun y=>j1 s y.1 (List.replicate 16 false) (List.replicate 8 false) (List.replicate 756 0),Option.bind (q7_ (s.2.2.1,())) fun y=>j1 s y.1 (List.replicate 16 false) (List.replicate 8 false) (List.replicate 756 0)],amb (eqAs q2_.rs) [amb (eqAs q2_.rs) [Option.bind (q7_ (s.2.2.1,())) fun y=>j1 s y.1 (List.replicate 16 false) (List.replicate 8 false) (List.replicate 756 0),Option.bind (q7_ (s.2.2.1,())) fun y=>j1 s y.1 (List.replicate 16 false) (List.replicate 8 false) (List.replicate 756 0)],Option.bind (q7_ (s.2.2.1,())) fun y=>amb (eqAs q2_.rs) [j1 s y.1 (List.replicate 16 false) (List.replicate 8 false) (List.replicate 756 0),j1 s y.1 (List.replicate 16 false) (List.replicate 8 false) (List.replicate 756 0)]]],Option.bind (q7_ (s.2.2.1,())) fun y=>amb (eqAs q2_.rs) [amb (eqAs q2_.rs) [j1 s y.1 (List.replicate 16 false) (List.replicate 8 false) (List.replicate 756 0),j1 s y.1 (List.replicate 16 false) (List.replicate 8 false) (List.replicate 756 0)],amb (eqAs q2_.rs) [amb (eqAs q2_.rs) [j1 s y.1 (List.replicate 16 false) (List.replicate 8 false) (List.replicate 756 0),j1 s y.1 (List.replicate 16 false) (List.replicate 8 false) (List.replicate 756 0)],amb (eqAs q2_.rs) [j1 s y.1 (List.replicate 16 false) (List.replicate 8 false) (List.replicate 756 0),j1 s y.1 (List.replicate 16 false) (List.replicate 8 false) (List.replicate 756 0)]]]]]]]]]]
def qex_ (s:Int×Int×YTT2×List Bool) (t57:Int) (m:List Int) (o o_2:List Bool) (o_3:List Int):Option (As [.pr (.sl .bool) YTT10]) :=
 loopF (fun (self:(Int×Int×YTT2×List Bool)×(Int)×(List Int)×(List Bool)×(List Bool)×(List Int)->Option (As [.pr (.sl .bool) YTT10])) (s:(Int×Int×YTT2×List Bool)×(Int)×(List Int)×(List Bool)×(List Bool)×(List Int))=>qf2_ (fun s t57 m o o_2 o_3=>self (s,t57,m,o,o_2,o_3)) s.1 s.2.1 s.2.2.1 s.2.2.2.1 s.2.2.2.2.1 s.2.2.2.2.2) 18446744073709551616 (s,t57,m,o,o_2,o_3)
def qr9_ (s:Int×Int×YTT2×List Bool) (m:List Int) (o o_2:List Bool) (o_3:List Int):Option (As [.pr (.sl .bool) YTT10]):=qq8_ (qex_) s m o o_2 o_3
def qqe_ (s:Int×Int×YTT2×List Bool) (m:List Int) (o o_2:List Bool) (o_3:List Int):Option (As [.pr (.sl .bool) YTT10]):=qr7_ (qr9_) s m o o_2 o_3
def q5c_ (x:As [.pr (.int .u8) (.pr (.int .u8) (.pr (.pr (.sl (.int .u16)) YTT0) (.sl .bool)))]):Option (As [.pr (.sl .bool) YTT10]):=qrh_ qqe_ x.1
theorem q1fg_ (J:Orc (As [.pr (.sl .bool) YTT10])) (w3:St->Option (As [.pr (.sl .bool) YTT10])) (s:Int×Int×YTT2×List Bool) (t57:Int) (m:List Int) (o o_2:List Bool) (o_3:List Int):pfn Tryz.prog q63_ 6 18446744073709551616 (Ev.get q67_) 47 q2_ J 4090 [w3] (qfk_ s t57 m o o_2 o_3)=qf2_ (fun s t57 m o o_2 o_3=>w3 (qfk_ s t57 m o o_2 o_3)) s t57 m o o_2 o_3:=by kernel_rfl
theorem q1fe_ (J:Orc (As [.pr (.sl .bool) YTT10])) (s:Int×Int×YTT2×List Bool) (m:List Int) (o o_2:List Bool) (o_3:List Int):pfn Tryz.prog q63_ 6 18446744073709551616 (Ev.get q67_) 47 q2_ J 15 [] (qqw_ s m o o_2 o_3)=qq8_ (fun s t57 m o o_2 o_3=>J 4090 [] (qfk_ s t57 m o o_2 o_3)) s m o o_2 o_3:=by kernel_rfl
theorem q1dt_ (J:Orc (As [.pr (.sl .bool) YTT10])) (s:Int×Int×YTT2×List Bool) (m:List Int) (o o_2:List Bool) (o_3:List Int):pfn Tryz.prog q63_ 6 18446744073709551616 (Ev.get q67_) 47 q2_ J 3 [] (qr0_ s m o o_2 o_3)=qr7_ (fun s m o o_2 o_3=>J 15 [] (qqw_ s m o o_2 o_3)) s m o o_2 o_3:=by kernel_rfl
theorem q1fs_ (J:Orc (As [.pr (.sl .bool) YTT10])) (x:As [.pr (.int .u8) (.pr (.int .u8) (.pr (.pr (.sl (.int .u16)) YTT0) (.sl .bool)))]):rfn Tryz.prog q63_ 6 18446744073709551616 (Ev.get q67_) 47 q2_ J x=qrh_ (fun s m o o_2 o_3=>J 3 [] (qr0_ s m o o_2 o_3)) x.1:=by kernel_rfl
theorem q1dw_ (s:Int×Int×YTT2×List Bool) (t57:Int) (m:List Int) (o o_2:List Bool) (o_3:List Int):jfn Tryz.prog q63_ 6 18446744073709551616 (Ev.get q67_) 47 q2_ 4090 [] (qfk_ s t57 m o o_2 o_3)=qex_ s t57 m o o_2 o_3:=by
 rw [q8_ (by decide)]
 rw [qr_ (by kernel_rfl)]
 refine qi_ (σ:=(Int×Int×YTT2×List Bool)×(Int)×(List Int)×(List Bool)×(List Bool)×(List Int)) (mk:=fun s=>qfk_ s.1 s.2.1 s.2.2.1 s.2.2.2.1 s.2.2.2.2.1 s.2.2.2.2.2) (fun w3 s=>?_) 18446744073709551616 (s,t57,m,o,o_2,o_3)
 refine (q1fg_ _ w3 s.1 s.2.1 s.2.2.1 s.2.2.2.1 s.2.2.2.2.1 s.2.2.2.2.2).trans ?_
 rfl
theorem q1ek_ (s:Int×Int×YTT2×List Bool) (m:List Int) (o o_2:List Bool) (o_3:List Int):jfn Tryz.prog q63_ 6 18446744073709551616 (Ev.get q67_) 47 q2_ 15 [] (qqw_ s m o o_2 o_3)=qr9_ s m o o_2 o_3:=by
 rw [q8_ (by decide)]
 have e3:(fun s t57 m o o_2 o_3=>(jfn Tryz.prog q63_ 6 18446744073709551616 (Ev.get q67_) 47 q2_) 4090 [] (qfk_ s t57 m o o_2 o_3))=qex_:=by funext s t57 m o o_2 o_3; exact q1dw_ s t57 m o o_2 o_3
 rw [q1fe_,e3]
 rfl
theorem q1di_ (s:Int×Int×YTT2×List Bool) (m:List Int) (o o_2:List Bool) (o_3:List Int):jfn Tryz.prog q63_ 6 18446744073709551616 (Ev.get q67_) 47 q2_ 3 [] (qr0_ s m o o_2 o_3)=qqe_ s m o o_2 o_3:=by
 rw [q8_ (by decide)]
 have e2:(fun s m o o_2 o_3=>(jfn Tryz.prog q63_ 6 18446744073709551616 (Ev.get q67_) 47 q2_) 15 [] (qqw_ s m o o_2 o_3))=qr9_:=by funext s m o o_2 o_3; exact q1ek_ s m o o_2 o_3
 rw [q1dt_,e2]
 rfl
theorem q1hv_ (x:As [.pr (.int .u8) (.pr (.int .u8) (.pr (.pr (.sl (.int .u16)) YTT0) (.sl .bool)))]):evT Tryz.prog q63_ 6 18446744073709551616 (Ev.get q67_) 47 q2_ x=q5c_ x:=by
 have e1:(fun s m o o_2 o_3=>(jfn Tryz.prog q63_ 6 18446744073709551616 (Ev.get q67_) 47 q2_) 3 [] (qr0_ s m o o_2 o_3))=qqe_:=by funext s m o o_2 o_3; exact q1di_ s m o o_2 o_3
 rw [q5_,q1fs_,e1]
 rfl
theorem q1dd_:CtOk Tryz.prog (fun _=>True) 47 ⟨q2_,q5c_⟩:=q3_ (q0_ Ev.bx_ok (q0_ qva_ (q0_ q160_ (q0_ qha_ (q0_ q1a0_ q4_))))) q1hv_
@[reducible] def q4d_:Sh:=⟨[.d (.pr (.int .u8) YTT4)],[],[.pr (.int .u8) YTT4],[.d (.pr (.int .u8) YTT3),.d (.bool)],[],0,[.pr (.int .u8) YTT3,.bool]⟩
def q87_:Env:=(cts [(58,(⟨q5f_,qbc_⟩:Ct))])
def q86_:List (Nat×Hint):=[(15,⟨[.rwb 4 2 4,.rwb 4 3 23],[2,4]⟩),(1967,⟨[],[1,2,4,33]⟩)]
def qcp_ (t2 t2_2 t2_3 t2_4 r r_2 r_3 r_4:Int) (o:List Bool) (o_2:List Int):St:={ fr:=[(2,.pb 0 0),(4,.pb 1 0)],nt:=40,up:=[],own:=[(0,.box 46 [.d (.int .u8) t2,.d (.int .u8) t2_2,.k (Go.Value.slice Option.none 0 0),.k (Go.Value.slice Option.none 0 0),.d (.int .u16) t2_3,.d (.int .u16) t2_4]),(1,.box 46 [.d (.int .u8) r,.d (.int .u8) r_2,.row 2,.row 3,.d (.int .u16) r_3,.d (.int .u16) r_4]),(2,.row .bool 4 o),(3,.row (.int .u16) 23 o_2)],nx:=4,log:=[],ln:=0 }
def qo2_ (t33:Bool) (a a_2 a_3 a_4:Int) (a_5:List Int) (a_6:List Bool) (t2 t2_2 t2_3 t2_4 r r_2 r_3 r_4:Int):St:={ fr:=[(1,.pb 0 0),(2,.pb 1 0),(4,.pb 2 0),(33,.d .bool t33)],nt:=40,up:=[],own:=[(0,.box 44 [.d (.int .u8) a,.d (.int .u16) a_2,.d (.int .u16) a_3,.d (.int .u16) a_4,.d (.sl (.int .u16)) a_5,.d (.sl .bool) a_6]),(1,.box 46 [.d (.int .u8) t2,.d (.int .u8) t2_2,.k (Go.Value.slice Option.none 0 0),.k (Go.Value.slice Option.none 0 0),.d (.int .u16) t2_3,.d (.int .u16) t2_4]),(2,.box 46 [.d (.int .u8) r,.d (.int .u8) r_2,.k (Go.Value.slice Option.none 0 0),.k (Go.Value.slice Option.none 0 0),.d (.int .u16) r_3,.d (.int .u16) r_4])],nx:=3,log:=[],ln:=0 }
def q10h_ (t2 t2_2 t2_3 t2_4 r r_2 r_3 r_4:Int) (o:List Bool) (o_2:List Int):Option (As [.pr (.int .u8) YTT3,.bool]) :=
 some ((r,r_2,o,o_2,r_3,r_4),true,())
def q10b_ (j1:Int->Int->Int->Int->Int->Int->Int->Int->List Bool->List Int->Option (As [.pr (.int .u8) YTT3,.bool])) (t33:Bool) (a a_2 a_3 a_4:Int) (a_5:List Int) (a_6:List Bool) (t2 t2_2 t2_3 t2_4 r r_2 r_3 r_4:Int):Option (As [.pr (.int .u8) YTT3,.bool]) :=
 if t33=true then j1 t2 t2_2 t2_3 t2_4 r r_2 r_3 a_3 [] [] else some ((0,0,[],[],0,0),false,())
def qml_ (j1:Int->Int->Int->Int->Int->Int->Int->Int->List Bool->List Int->Option (As [.pr (.int .u8) YTT3,.bool])) (j2:Bool->Int->Int->Int->Int->List Int->List Bool->Int->Int->Int->Int->Int->Int->Int->Int->Option (As [.pr (.int .u8) YTT3,.bool])) (a:Int×Int×Int×Int×List Int×List Bool):Option (As [.pr (.int .u8) YTT3,.bool]) :=
 Option.bind (qbc_ (a,())) fun y=>if (!y.1)=true then some ((0,0,[],[],0,0),false,()) else if eqi a.1 5=true then Option.bind (at? a.2.2.2.2.2 0) fun y=>j1 0 0 0 0 a.1 0 a.2.1 0 [y] [] else if eqi a.1 6=true then Option.bind (at? a.2.2.2.2.1 0) fun y=>j1 0 0 0 0 a.1 0 a.2.1 0 [] [y] else if eqi a.1 15=true then j2 true a.1 a.2.1 a.2.2.1 a.2.2.2.1 a.2.2.2.2.1 a.2.2.2.2.2 0 0 0 0 a.1 0 a.2.1 0 else j2 (eqi a.1 16) a.1 a.2.1 a.2.2.1 a.2.2.2.1 a.2.2.2.2.1 a.2.2.2.2.2 0 0 0 0 a.1 0 a.2.1 0
def qcl_ (t2 t2_2 t2_3 t2_4 r r_2 r_3 r_4:Int) (o:List Bool) (o_2:List Int):Option (As [.pr (.int .u8) YTT3,.bool]):=q10h_ t2 t2_2 t2_3 t2_4 r r_2 r_3 r_4 o o_2
def qnf_ (t33:Bool) (a a_2 a_3 a_4:Int) (a_5:List Int) (a_6:List Bool) (t2 t2_2 t2_3 t2_4 r r_2 r_3 r_4:Int):Option (As [.pr (.int .u8) YTT3,.bool]):=q10b_ (qcl_) t33 a a_2 a_3 a_4 a_5 a_6 t2 t2_2 t2_3 t2_4 r r_2 r_3 r_4
def qan_ (x:As [.pr (.int .u8) YTT4]):Option (As [.pr (.int .u8) YTT3,.bool]):=qml_ qcl_ qnf_ x.1
theorem q19y_ (J:Orc (As [.pr (.int .u8) YTT3,.bool])) (t2 t2_2 t2_3 t2_4 r r_2 r_3 r_4:Int) (o:List Bool) (o_2:List Int):pfn Tryz.prog q87_ 6 18446744073709551616 (Ev.get q86_) 68 q4d_ J 15 [] (qcp_ t2 t2_2 t2_3 t2_4 r r_2 r_3 r_4 o o_2)=q10h_ t2 t2_2 t2_3 t2_4 r r_2 r_3 r_4 o o_2:=by kernel_rfl
theorem q1ak_ (J:Orc (As [.pr (.int .u8) YTT3,.bool])) (t33:Bool) (a a_2 a_3 a_4:Int) (a_5:List Int) (a_6:List Bool) (t2 t2_2 t2_3 t2_4 r r_2 r_3 r_4:Int):pfn Tryz.prog q87_ 6 18446744073709551616 (Ev.get q86_) 68 q4d_ J 1967 [] (qo2_ t33 a a_2 a_3 a_4 a_5 a_6 t2 t2_2 t2_3 t2_4 r r_2 r_3 r_4)=q10b_ (fun t2 t2_2 t2_3 t2_4 r r_2 r_3 r_4 o o_2=>J 15 [] (qcp_ t2 t2_2 t2_3 t2_4 r r_2 r_3 r_4 o o_2)) t33 a a_2 a_3 a_4 a_5 a_6 t2 t2_2 t2_3 t2_4 r r_2 r_3 r_4:=by kernel_rfl
theorem q1a5_ (J:Orc (As [.pr (.int .u8) YTT3,.bool])) (x:As [.pr (.int .u8) YTT4]):rfn Tryz.prog q87_ 6 18446744073709551616 (Ev.get q86_) 68 q4d_ J x=qml_ (fun t2 t2_2 t2_3 t2_4 r r_2 r_3 r_4 o o_2=>J 15 [] (qcp_ t2 t2_2 t2_3 t2_4 r r_2 r_3 r_4 o o_2)) (fun t33 a a_2 a_3 a_4 a_5 a_6 t2 t2_2 t2_3 t2_4 r r_2 r_3 r_4=>J 1967 [] (qo2_ t33 a a_2 a_3 a_4 a_5 a_6 t2 t2_2 t2_3 t2_4 r r_2 r_3 r_4)) x.1:=by kernel_rfl
theorem q10d_ (t2 t2_2 t2_3 t2_4 r r_2 r_3 r_4:Int) (o:List Bool) (o_2:List Int):jfn Tryz.prog q87_ 6 18446744073709551616 (Ev.get q86_) 68 q4d_ 15 [] (qcp_ t2 t2_2 t2_3 t2_4 r r_2 r_3 r_4 o o_2)=qcl_ t2 t2_2 t2_3 t2_4 r r_2 r_3 r_4 o o_2:=by
 rw [q8_ (by decide)]
 rw [q19y_]
 rfl
theorem q1ai_ (t33:Bool) (a a_2 a_3 a_4:Int) (a_5:List Int) (a_6:List Bool) (t2 t2_2 t2_3 t2_4 r r_2 r_3 r_4:Int):jfn Tryz.prog q87_ 6 18446744073709551616 (Ev.get q86_) 68 q4d_ 1967 [] (qo2_ t33 a a_2 a_3 a_4 a_5 a_6 t2 t2_2 t2_3 t2_4 r r_2 r_3 r_4)=qnf_ t33 a a_2 a_3 a_4 a_5 a_6 t2 t2_2 t2_3 t2_4 r r_2 r_3 r_4:=by
 rw [q8_ (by decide)]
 have e1:(fun t2 t2_2 t2_3 t2_4 r r_2 r_3 r_4 o o_2=>(jfn Tryz.prog q87_ 6 18446744073709551616 (Ev.get q86_) 68 q4d_) 15 [] (qcp_ t2 t2_2 t2_3 t2_4 r r_2 r_3 r_4 o o_2))=qcl_:=by funext t2 t2_2 t2_3 t2_4 r r_2 r_3 r_4 o o_2; exact q10d_ t2 t2_2 t2_3 t2_4 r r_2 r_3 r_4 o o_2
 rw [q1ak_,e1]
 rfl
theorem q1d4_ (x:As [.pr (.int .u8) YTT4]):evT Tryz.prog q87_ 6 18446744073709551616 (Ev.get q86_) 68 q4d_ x=qan_ x:=by
 have e1:(fun t2 t2_2 t2_3 t2_4 r r_2 r_3 r_4 o o_2=>(jfn Tryz.prog q87_ 6 18446744073709551616 (Ev.get q86_) 68 q4d_) 15 [] (qcp_ t2 t2_2 t2_3 t2_4 r r_2 r_3 r_4 o o_2))=qcl_:=by funext t2 t2_2 t2_3 t2_4 r r_2 r_3 r_4 o o_2; exact q10d_ t2 t2_2 t2_3 t2_4 r r_2 r_3 r_4 o o_2
 have e2:(fun t33 a a_2 a_3 a_4 a_5 a_6 t2 t2_2 t2_3 t2_4 r r_2 r_3 r_4=>(jfn Tryz.prog q87_ 6 18446744073709551616 (Ev.get q86_) 68 q4d_) 1967 [] (qo2_ t33 a a_2 a_3 a_4 a_5 a_6 t2 t2_2 t2_3 t2_4 r r_2 r_3 r_4))=qnf_:=by funext t33 a a_2 a_3 a_4 a_5 a_6 t2 t2_2 t2_3 t2_4 r r_2 r_3 r_4; exact q1ai_ t33 a a_2 a_3 a_4 a_5 a_6 t2 t2_2 t2_3 t2_4 r r_2 r_3 r_4
 rw [q5_,q1a5_,e1,e2]
 rfl
theorem qzt_:CtOk Tryz.prog (fun _=>True) 68 ⟨q4d_,qan_⟩:=q3_ (q0_ qvu_ q4_) q1d4_
@[reducible] def qu_:Sh:=⟨[.d (.pr YTT1 (.sl .bool)),.d (.bool)],[],[.pr YTT1 (.sl .bool),.bool],[.d (.bool)],[],0,[.bool]⟩
def q1a_:Env:=(cts [])
def q1d_:List (Nat×Hint):=[(122,⟨[],[1,2,5,13,14,15,24,25,26,27,28,29,32,33,34,37,38,39,40,41,42,43,44,45,49,50]⟩),(31334,⟨[.agd 50 .bool],[1,2,7,13,14,15,51]⟩),(15666,⟨[.agd 25 (.int .i64),.agd 27 (.sl .bool),.agd 28 (.int .i64),.agd 29 .bool,.agd 33 (.int .i64),.agd 34 .bool,.agd 38 (.int .i64),.agd 40 (.sl .bool),.agd 41 (.int .i64),.agd 43 (.int .i64),.agd 44 (.int .i64),.agd 45 .bool],[1,2,7,13,14,15,46]⟩)]
def qy_ (fixed:Bool) (endV:Int) (t13:List YTT5) (t14 t15:Int) (t:List YTT5×List Bool):St:={ fr:=[(1,.d .bool fixed),(2,.pb 0 0),(5,.d (.int .i64) endV),(13,.d YTT1 t13),(14,.d (.int .i64) t14),(15,.d (.int .i64) t15)],nt:=58,up:=[],own:=[(0,.box 170 [.d YTT1 t.1,.d (.sl .bool) t.2])],nx:=1,log:=[],ln:=0 }
def q7g_ (fixed:Bool) (t13:List YTT5) (t14 t15:Int) (t46:Bool) (t:List YTT5×List Bool) (x:qj_):St:={ fr:=[(1,.d .bool fixed),(2,.pb 0 0),(7,.pb 1 0),(13,.d YTT1 t13),(14,.d (.int .i64) t14),(15,.d (.int .i64) t15),(46,.d .bool t46)],nt:=58,up:=[],own:=[(0,.box 170 [.d YTT1 t.1,.d (.sl .bool) t.2]),(1,.box 168 [.d (.int .i64) x.1,.d (.int .i64) x.2.1,.d .bool x.2.2.1,.d .bool x.2.2.2.1,.d .bool x.2.2.2.2])],nx:=2,log:=[],ln:=0 }
def q7d_ (fixed:Bool) (t13:List YTT5) (t14 t15:Int) (t51:Bool) (t:List YTT5×List Bool) (x:qj_):St:={ fr:=[(1,.d .bool fixed),(2,.pb 0 0),(7,.pb 1 0),(13,.d YTT1 t13),(14,.d (.int .i64) t14),(15,.d (.int .i64) t15),(51,.d .bool t51)],nt:=58,up:=[],own:=[(0,.box 170 [.d YTT1 t.1,.d (.sl .bool) t.2]),(1,.box 168 [.d (.int .i64) x.1,.d (.int .i64) x.2.1,.d .bool x.2.2.1,.d .bool x.2.2.2.1,.d .bool x.2.2.2.2])],nx:=2,log:=[],ln:=0 }
def q3f_ (j2:Bool->List YTT5->Int->Int->Bool->List YTT5×List Bool->qj_->Option (As [.bool])) (self1:Bool->Int->List YTT5->Int->Int->List YTT5×List Bool->Option (As [.bool])) (fixed:Bool) (endV:Int) (t13:List YTT5) (t14 t15:Int) (t:List YTT5×List Bool):Option (As [.bool]) :=
 if lt t15 t14=true then Option.bind (at? t13 t15) fun y=>if lt y.1 endV=true then j2 fixed t13 t14 t15 true t y else if gt y.1 (Int.ofNat (List.length t.2))=true then j2 fixed t13 t14 t15 true t y else if lt y.2.1 1=true then j2 fixed t13 t14 t15 true t y else j2 fixed t13 t14 t15 (gt y.2.1 (Sx.sub .i64 (Int.ofNat (List.length t.2)) y.1)) t y else some (true,())
def qap_ (j3:Bool->List YTT5->Int->Int->Bool->List YTT5×List Bool->qj_->Option (As [.bool])) (self1:Bool->Int->List YTT5->Int->Int->List YTT5×List Bool->Option (As [.bool])) (fixed:Bool) (t13:List YTT5) (t14 t15:Int) (t46:Bool) (t:List YTT5×List Bool) (x:qj_):Option (As [.bool]) :=
 if t46=true then some (false,()) else if fixed=true then j3 fixed t13 t14 t15 x.2.2.2.1 t x else j3 fixed t13 t14 t15 false t x
def qaq_ (self1:Bool->Int->List YTT5->Int->Int->List YTT5×List Bool->Option (As [.bool])) (fixed:Bool) (t13:List YTT5) (t14 t15:Int) (t51:Bool) (t:List YTT5×List Bool) (x:qj_):Option (As [.bool]) :=
 if t51=true then some (false,()) else self1 fixed (add .i64 x.1 x.2.1) t13 t14 (add .i64 t15 1) t
def q7h_ (j1:Bool->Int->List YTT5->Int->Int->List YTT5×List Bool->Option (As [.bool])) (t:List YTT5×List Bool) (fixed:Bool):Option (As [.bool]) :=
 if gt (Int.ofNat (List.length t.2)) 65536=true then some (false,()) else j1 fixed 0 t.1 (Int.ofNat (List.length t.1)) 0 t
def q4s_ (u1:Bool->Int->List YTT5->Int->Int->List YTT5×List Bool->Option (As [.bool])) (fixed:Bool) (t13:List YTT5) (t14 t15:Int) (t51:Bool) (t:List YTT5×List Bool) (x:qj_):Option (As [.bool]):=qaq_ u1 fixed t13 t14 t15 t51 t x
def q4t_ (u1:Bool->Int->List YTT5->Int->Int->List YTT5×List Bool->Option (As [.bool])) (fixed:Bool) (t13:List YTT5) (t14 t15:Int) (t46:Bool) (t:List YTT5×List Bool) (x:qj_):Option (As [.bool]):=qap_ (q4s_ u1) u1 fixed t13 t14 t15 t46 t x
def q3e_ (fixed:Bool) (endV:Int) (t13:List YTT5) (t14 t15:Int) (t:List YTT5×List Bool):Option (As [.bool]) :=
 loopF (fun (self:(Bool)×(Int)×(List YTT5)×(Int)×(Int)×(List YTT5×List Bool)->Option (As [.bool])) (s:(Bool)×(Int)×(List YTT5)×(Int)×(Int)×(List YTT5×List Bool))=>q3f_ (q4t_ (fun fixed endV t13 t14 t15 t=>self (fixed,endV,t13,t14,t15,t))) (fun fixed endV t13 t14 t15 t=>self (fixed,endV,t13,t14,t15,t)) s.1 s.2.1 s.2.2.1 s.2.2.2.1 s.2.2.2.2.1 s.2.2.2.2.2) 18446744073709551616 (fixed,endV,t13,t14,t15,t)
def q4p_ (x:As [.pr YTT1 (.sl .bool),.bool]):Option (As [.bool]):=q7h_ q3e_ x.1 x.2.1
theorem qup_ (J:Orc (As [.bool])) (w1:St->Option (As [.bool])) (fixed:Bool) (t13:List YTT5) (t14 t15:Int) (t51:Bool) (t:List YTT5×List Bool) (x:qj_):pfn Tryz.prog q1a_ 6 18446744073709551616 (Ev.get q1d_) 118 qu_ J 31334 [w1] (q7d_ fixed t13 t14 t15 t51 t x)=qaq_ (fun fixed endV t13 t14 t15 t=>w1 (qy_ fixed endV t13 t14 t15 t)) fixed t13 t14 t15 t51 t x:=by kernel_rfl
theorem quo_ (J:Orc (As [.bool])) (w1:St->Option (As [.bool])) (fixed:Bool) (t13:List YTT5) (t14 t15:Int) (t46:Bool) (t:List YTT5×List Bool) (x:qj_):pfn Tryz.prog q1a_ 6 18446744073709551616 (Ev.get q1d_) 118 qu_ J 15666 [w1] (q7g_ fixed t13 t14 t15 t46 t x)=qap_ (fun fixed t13 t14 t15 t51 t x=>J 31334 [w1] (q7d_ fixed t13 t14 t15 t51 t x)) (fun fixed endV t13 t14 t15 t=>w1 (qy_ fixed endV t13 t14 t15 t)) fixed t13 t14 t15 t46 t x:=by kernel_rfl
theorem quy_ (J:Orc (As [.bool])) (w1:St->Option (As [.bool])) (fixed:Bool) (endV:Int) (t13:List YTT5) (t14 t15:Int) (t:List YTT5×List Bool):pfn Tryz.prog q1a_ 6 18446744073709551616 (Ev.get q1d_) 118 qu_ J 122 [w1] (qy_ fixed endV t13 t14 t15 t)=q3f_ (fun fixed t13 t14 t15 t46 t x=>J 15666 [w1] (q7g_ fixed t13 t14 t15 t46 t x)) (fun fixed endV t13 t14 t15 t=>w1 (qy_ fixed endV t13 t14 t15 t)) fixed endV t13 t14 t15 t:=by kernel_rfl
theorem qv1_ (J:Orc (As [.bool])) (x:As [.pr YTT1 (.sl .bool),.bool]):rfn Tryz.prog q1a_ 6 18446744073709551616 (Ev.get q1d_) 118 qu_ J x=q7h_ (fun fixed endV t13 t14 t15 t=>J 122 [] (qy_ fixed endV t13 t14 t15 t)) x.1 x.2.1:=by kernel_rfl
theorem quq_ (w1:St->Option (As [.bool])) (fixed:Bool) (t13:List YTT5) (t14 t15:Int) (t51:Bool) (t:List YTT5×List Bool) (x:qj_):jfn Tryz.prog q1a_ 6 18446744073709551616 (Ev.get q1d_) 118 qu_ 31334 [w1] (q7d_ fixed t13 t14 t15 t51 t x)=q4s_ (fun fixed endV t13 t14 t15 t=>w1 (qy_ fixed endV t13 t14 t15 t)) fixed t13 t14 t15 t51 t x:=by
 rw [q8_ (by decide)]
 rw [qup_]
 rfl
theorem qux_ (w1:St->Option (As [.bool])) (fixed:Bool) (t13:List YTT5) (t14 t15:Int) (t46:Bool) (t:List YTT5×List Bool) (x:qj_):jfn Tryz.prog q1a_ 6 18446744073709551616 (Ev.get q1d_) 118 qu_ 15666 [w1] (q7g_ fixed t13 t14 t15 t46 t x)=q4t_ (fun fixed endV t13 t14 t15 t=>w1 (qy_ fixed endV t13 t14 t15 t)) fixed t13 t14 t15 t46 t x:=by
 rw [q8_ (by decide)]
 have e3:(fun fixed t13 t14 t15 t51 t x=>(jfn Tryz.prog q1a_ 6 18446744073709551616 (Ev.get q1d_) 118 qu_) 31334 [w1] (q7d_ fixed t13 t14 t15 t51 t x))=q4s_ (fun fixed endV t13 t14 t15 t=>w1 (qy_ fixed endV t13 t14 t15 t)):=by funext fixed t13 t14 t15 t51 t x; exact quq_ w1 fixed t13 t14 t15 t51 t x
 rw [quo_,e3]
 rfl
theorem qur_ (fixed:Bool) (endV:Int) (t13:List YTT5) (t14 t15:Int) (t:List YTT5×List Bool):jfn Tryz.prog q1a_ 6 18446744073709551616 (Ev.get q1d_) 118 qu_ 122 [] (qy_ fixed endV t13 t14 t15 t)=q3e_ fixed endV t13 t14 t15 t:=by
 rw [q8_ (by decide)]
 rw [qr_ (by kernel_rfl)]
 refine qi_ (σ:=(Bool)×(Int)×(List YTT5)×(Int)×(Int)×(List YTT5×List Bool)) (mk:=fun s=>qy_ s.1 s.2.1 s.2.2.1 s.2.2.2.1 s.2.2.2.2.1 s.2.2.2.2.2) (fun w1 s=>?_) 18446744073709551616 (fixed,endV,t13,t14,t15,t)
 have e2:(fun fixed t13 t14 t15 t46 t x=>(jfn Tryz.prog q1a_ 6 18446744073709551616 (Ev.get q1d_) 118 qu_) 15666 [w1] (q7g_ fixed t13 t14 t15 t46 t x))=q4t_ (fun fixed endV t13 t14 t15 t=>w1 (qy_ fixed endV t13 t14 t15 t)):=by funext fixed t13 t14 t15 t46 t x; exact qux_ w1 fixed t13 t14 t15 t46 t x
 refine (quy_ _ w1 s.1 s.2.1 s.2.2.1 s.2.2.2.1 s.2.2.2.2.1 s.2.2.2.2.2).trans ?_
 rw [e2]
theorem qvx_ (x:As [.pr YTT1 (.sl .bool),.bool]):evT Tryz.prog q1a_ 6 18446744073709551616 (Ev.get q1d_) 118 qu_ x=q4p_ x:=by
 have e1:(fun fixed endV t13 t14 t15 t=>(jfn Tryz.prog q1a_ 6 18446744073709551616 (Ev.get q1d_) 118 qu_) 122 [] (qy_ fixed endV t13 t14 t15 t))=q3e_:=by funext fixed endV t13 t14 t15 t; exact qur_ fixed endV t13 t14 t15 t
 rw [q5_,qv1_,e1]
 rfl
theorem quk_:CtOk Tryz.prog (fun _=>True) 118 ⟨qu_,q4p_⟩:=q3_ q4_ qvx_
end Go.Proofs.Lx
end
