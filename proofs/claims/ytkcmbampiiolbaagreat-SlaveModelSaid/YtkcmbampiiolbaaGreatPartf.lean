/- Proved in the last of these 13 parts (this is part 6): SlaveModel returns true, whatever the link, the bank, the ticks and what comes. Conditions: those of the given statement, and no others. -/
import Derived.Test.YtkcmbampiiolbaaGreatParte
import Derived.Test.YtkcmbampiiolbaaGreatProg
set_option linter.unusedVariables false
set_option linter.unusedSimpArgs false
set_option linter.unusedSectionVars false
section
open Go Go.Proofs Ev Sx
set_option maxRecDepth 100000
namespace Go.Proofs.Lx
abbrev q16_:Type:=Int×Int×Bool×Bool×Bool
@[reducible] def q1h_:Sh:=⟨[.d YTT1,.d (.int .i64),.d (.int .i64),.fn (.func 260) [] [.pb 0 0,.pb 1 0]],[.box 3 [.d (.int .i64)],.box 3 [.d (.int .i64)]],[.sl (.pr (.int .i64) YTT12),.int .i64,.int .i64,.int .i64,.int .i64],[.d (.bool)],[(0,.box 3 [.d (.int .i64)]),(1,.box 3 [.d (.int .i64)])],0,[.bool,.int .i64,.int .i64]⟩
def q1t_:Env:=(cts [(259,(⟨q35_,q1f_⟩:Ct)),(260,(⟨q34_,q13_⟩:Ct)),(261,(⟨q2e_,q73_⟩:Ct)),(264,(⟨q2q_,q19_⟩:Ct)),(265,(⟨q2r_,q10_⟩:Ct))])
def q1w_:List (Nat×Hint):=[(15,⟨[],[10]⟩),(122,⟨[],[1,2,3,9,10,19,20,21]⟩),(125342,⟨[],[1,2,3,9,10,12,14,15,19,20,21]⟩),(501369,⟨[],[1,2,3,9,10,12,14,15,19,20,21]⟩)]
def q29_ (at' many left:Int) (t19:List YTT5) (t20 t21 o o_2:Int) (met:List Bool):St:={ fr:=[(1,.d (.int .i64) at'),(2,.d (.int .i64) many),(3,.fn (.func 260) [] [.pb 0 0,.pb 1 0]),(9,.row 2),(10,.d (.int .i64) left),(19,.d YTT1 t19),(20,.d (.int .i64) t20),(21,.d (.int .i64) t21)],nt:=62,up:=[],own:=[(0,.box 3 [.d (.int .i64) o]),(1,.box 3 [.d (.int .i64) o_2]),(2,.row .bool 4 met)],nx:=3,log:=[],ln:=2 }
def qfb_ (left o o_2:Int):St:={ fr:=[(10,.d (.int .i64) left)],nt:=62,up:=[],own:=[(0,.box 3 [.d (.int .i64) o]),(1,.box 3 [.d (.int .i64) o_2])],nx:=2,log:=[],ln:=2 }
def q3z_ (at' many left to' i:Int) (t19:List YTT5) (t20 t21 o o_2:Int) (met:List Bool) (x:q16_):St:={ fr:=[(1,.d (.int .i64) at'),(2,.d (.int .i64) many),(3,.fn (.func 260) [] [.pb 0 0,.pb 1 0]),(9,.row 2),(10,.d (.int .i64) left),(12,.pb 3 0),(14,.d (.int .i64) to'),(15,.d (.int .i64) i),(19,.d YTT1 t19),(20,.d (.int .i64) t20),(21,.d (.int .i64) t21)],nt:=62,up:=[],own:=[(0,.box 3 [.d (.int .i64) o]),(1,.box 3 [.d (.int .i64) o_2]),(2,.row .bool 4 met),(3,.box 168 [.d (.int .i64) x.1,.d (.int .i64) x.2.1,.d .bool x.2.2.1,.d .bool x.2.2.2.1,.d .bool x.2.2.2.2])],nx:=4,log:=[],ln:=2 }
def qer_ (at' many left to' i:Int) (t19:List YTT5) (t20 t21 o o_2:Int) (met:List Bool) (x:q16_):St:={ fr:=[(1,.d (.int .i64) at'),(2,.d (.int .i64) many),(3,.fn (.func 260) [] [.pb 0 0,.pb 1 0]),(9,.row 2),(10,.d (.int .i64) left),(12,.pb 3 0),(14,.d (.int .i64) to'),(15,.d (.int .i64) i),(19,.d YTT1 t19),(20,.d (.int .i64) t20),(21,.d (.int .i64) t21)],nt:=62,up:=[],own:=[(0,.box 3 [.d (.int .i64) o]),(1,.box 3 [.d (.int .i64) o_2]),(2,.row .bool 4 met),(3,.box 168 [.d (.int .i64) x.1,.d (.int .i64) x.2.1,.d .bool x.2.2.1,.d .bool x.2.2.2.1,.d .bool x.2.2.2.2])],nx:=4,log:=[],ln:=2 }
def qam_ (j2:Int->Int->Int->Option (As [.bool,.int .i64,.int .i64])) (j3:Int->Int->Int->Int->Int->List YTT5->Int->Int->Int->Int->List Bool->q16_->Option (As [.bool,.int .i64,.int .i64])) (self1:Int->Int->Int->List YTT5->Int->Int->Int->Int->List Bool->Option (As [.bool,.int .i64,.int .i64])) (at' many left:Int) (t19:List YTT5) (t20 t21 o o_2:Int) (met:List Bool):Option (As [.bool,.int .i64,.int .i64]) :=
 if lt t21 t20=true then Option.bind (at? t19 t21) fun y=>if eqi left 0=true then j2 left o o_2 else Option.bind (q73_ (y,at',add .i64 at' many,())) fun y_1=>j3 at' many left y_1.2.1 y_1.1 t19 t20 t21 o o_2 met y else j2 left o o_2
def qss_ (left o o_2:Int):Option (As [.bool,.int .i64,.int .i64]) :=
 some (eqi left 0,o,o_2,())
def qa4_ (j4:Int->Int->Int->Int->Int->List YTT5->Int->Int->Int->Int->List Bool->q16_->Option (As [.bool,.int .i64,.int .i64])) (self1:Int->Int->Int->List YTT5->Int->Int->Int->Int->List Bool->Option (As [.bool,.int .i64,.int .i64])) (self3:Int->Int->Int->Int->Int->List YTT5->Int->Int->Int->Int->List Bool->q16_->Option (As [.bool,.int .i64,.int .i64])) (at' many left to' i:Int) (t19:List YTT5) (t20 t21 o o_2:Int) (met:List Bool) (x:q16_):Option (As [.bool,.int .i64,.int .i64]) :=
 if lt i to'=true then Option.bind (at? met (Sx.sub .i64 i at')) fun x_1=>Option.bind (at? met (Sx.sub .i64 i at')) fun y=>if y=true then j4 at' many left to' i t19 t20 t21 o o_2 met x else Option.bind (q13_ (x,o,o_2,())) fun y=>if (!y.1)=true then some (false,y.2.1,y.2.2.1,()) else Option.bind (at? met (Sx.sub .i64 i at')) fun x_2=>Option.bind (at? met (Sx.sub .i64 i at')) fun x_3=>j4 at' many (Sx.sub .i64 left 1) to' i t19 t20 t21 y.2.1 y.2.2.1 (List.set met (Int.toNat (Sx.sub .i64 i at')) true) x else self1 at' many left t19 t20 (add .i64 t21 1) o o_2 met
def ql9_ (self1:Int->Int->Int->List YTT5->Int->Int->Int->Int->List Bool->Option (As [.bool,.int .i64,.int .i64])) (self3:Int->Int->Int->Int->Int->List YTT5->Int->Int->Int->Int->List Bool->q16_->Option (As [.bool,.int .i64,.int .i64])) (at' many left to' i:Int) (t19:List YTT5) (t20 t21 o o_2:Int) (met:List Bool) (x:q16_):Option (As [.bool,.int .i64,.int .i64]) :=
 self3 at' many left to' (add .i64 i 1) t19 t20 t21 o o_2 met x
def qf8_ (j1:Int->Int->Int->List YTT5->Int->Int->Int->Int->List Bool->Option (As [.bool,.int .i64,.int .i64])) (areas:List YTT5) (at' many wanted areas_2:Int):Option (As [.bool,.int .i64,.int .i64]) :=
 need (ge many 0) (need (Ev.capOk many many) (need (small (Int.toNat many)) (j1 at' many many areas (Int.ofNat (List.length areas)) 0 wanted areas_2 (List.replicate (Int.toNat many) false))))
def q7z_ (left o o_2:Int):Option (As [.bool,.int .i64,.int .i64]):=qss_ left o o_2
def q65_ (u1:Int->Int->Int->List YTT5->Int->Int->Int->Int->List Bool->Option (As [.bool,.int .i64,.int .i64])) (u3:Int->Int->Int->Int->Int->List YTT5->Int->Int->Int->Int->List Bool->q16_->Option (As [.bool,.int .i64,.int .i64])) (at' many left to' i:Int) (t19:List YTT5) (t20 t21 o o_2:Int) (met:List Bool) (x:q16_):Option (As [.bool,.int .i64,.int .i64]):=ql9_ u1 u3 at' many left to' i t19 t20 t21 o o_2 met x
def q64_ (u1:Int->Int->Int->List YTT5->Int->Int->Int->Int->List Bool->Option (As [.bool,.int .i64,.int .i64])) (at' many left to' i:Int) (t19:List YTT5) (t20 t21 o o_2:Int) (met:List Bool) (x:q16_):Option (As [.bool,.int .i64,.int .i64]) :=
 loopF (fun (self:(Int)×(Int)×(Int)×(Int)×(Int)×(List YTT5)×(Int)×(Int)×(Int)×(Int)×(List Bool)×YTT5->Option (As [.bool,.int .i64,.int .i64])) (s:(Int)×(Int)×(Int)×(Int)×(Int)×(List YTT5)×(Int)×(Int)×(Int)×(Int)×(List Bool)×YTT5)=>qa4_ (q65_ u1 (fun at' many left to' i t19 t20 t21 o o_2 met x=>self (at',many,left,to',i,t19,t20,t21,o,o_2,met,x))) u1 (fun at' many left to' i t19 t20 t21 o o_2 met x=>self (at',many,left,to',i,t19,t20,t21,o,o_2,met,x)) s.1 s.2.1 s.2.2.1 s.2.2.2.1 s.2.2.2.2.1 s.2.2.2.2.2.1 s.2.2.2.2.2.2.1 s.2.2.2.2.2.2.2.1 s.2.2.2.2.2.2.2.2.1 s.2.2.2.2.2.2.2.2.2.1 s.2.2.2.2.2.2.2.2.2.2.1 s.2.2.2.2.2.2.2.2.2.2.2) 18446744073709551616 (at',many,left,to',i,t19,t20,t21,o,o_2,met,x)
def qas_ (at' many left:Int) (t19:List YTT5) (t20 t21 o o_2:Int) (met:List Bool):Option (As [.bool,.int .i64,.int .i64]) :=
 loopF (fun (self:(Int)×(Int)×(Int)×(List YTT5)×(Int)×(Int)×(Int)×(Int)×(List Bool)->Option (As [.bool,.int .i64,.int .i64])) (s:(Int)×(Int)×(Int)×(List YTT5)×(Int)×(Int)×(Int)×(Int)×(List Bool))=>qam_ (q7z_) (q64_ (fun at' many left t19 t20 t21 o o_2 met=>self (at',many,left,t19,t20,t21,o,o_2,met))) (fun at' many left t19 t20 t21 o o_2 met=>self (at',many,left,t19,t20,t21,o,o_2,met)) s.1 s.2.1 s.2.2.1 s.2.2.2.1 s.2.2.2.2.1 s.2.2.2.2.2.1 s.2.2.2.2.2.2.1 s.2.2.2.2.2.2.2.1 s.2.2.2.2.2.2.2.2) 18446744073709551616 (at',many,left,t19,t20,t21,o,o_2,met)
def qfw_ (x:As [.sl (.pr (.int .i64) YTT12),.int .i64,.int .i64,.int .i64,.int .i64]):Option (As [.bool,.int .i64,.int .i64]):=qf8_ qas_ x.1 x.2.1 x.2.2.1 x.2.2.2.1 x.2.2.2.2.1
theorem qz4_  (J left o o_2):pfn Tryz.prog q1t_ 6 18446744073709551616 (Ev.get q1w_) 258 q1h_ J 15 [] (qfb_ left o o_2)=qss_ left o o_2:=by kernel_rfl
theorem qzg_  (J w1 w3 at' many left to' i t19 t20 t21 o o_2 met x):pfn Tryz.prog q1t_ 6 18446744073709551616 (Ev.get q1w_) 258 q1h_ J 501369 [w1,w3] (qer_ at' many left to' i t19 t20 t21 o o_2 met x)=ql9_ (fun at' many left t19 t20 t21 o o_2 met=>w1 (q29_ at' many left t19 t20 t21 o o_2 met)) (fun at' many left to' i t19 t20 t21 o o_2 met x=>w3 (q3z_ at' many left to' i t19 t20 t21 o o_2 met x)) at' many left to' i t19 t20 t21 o o_2 met x:=by kernel_rfl
theorem qzi_  (J w1 w3 at' many left to' i t19 t20 t21 o o_2 met x):pfn Tryz.prog q1t_ 6 18446744073709551616 (Ev.get q1w_) 258 q1h_ J 125342 [w1,w3] (q3z_ at' many left to' i t19 t20 t21 o o_2 met x)=qa4_ (fun at' many left to' i t19 t20 t21 o o_2 met x=>J 501369 [w1,w3] (qer_ at' many left to' i t19 t20 t21 o o_2 met x)) (fun at' many left t19 t20 t21 o o_2 met=>w1 (q29_ at' many left t19 t20 t21 o o_2 met)) (fun at' many left to' i t19 t20 t21 o o_2 met x=>w3 (q3z_ at' many left to' i t19 t20 t21 o o_2 met x)) at' many left to' i t19 t20 t21 o o_2 met x:=by kernel_rfl
theorem qyo_  (J w1 at' many left t19 t20 t21 o o_2 met):pfn Tryz.prog q1t_ 6 18446744073709551616 (Ev.get q1w_) 258 q1h_ J 122 [w1] (q29_ at' many left t19 t20 t21 o o_2 met)=qam_ (fun left o o_2=>J 15 [] (qfb_ left o o_2)) (fun at' many left to' i t19 t20 t21 o o_2 met x=>J 125342 [w1] (q3z_ at' many left to' i t19 t20 t21 o o_2 met x)) (fun at' many left t19 t20 t21 o o_2 met=>w1 (q29_ at' many left t19 t20 t21 o o_2 met)) at' many left t19 t20 t21 o o_2 met:=by kernel_rfl
theorem qz1_ (J:Orc (As [.bool,.int .i64,.int .i64])) (x:As [.sl (.pr (.int .i64) YTT12),.int .i64,.int .i64,.int .i64,.int .i64]):rfn Tryz.prog q1t_ 6 18446744073709551616 (Ev.get q1w_) 258 q1h_ J x=qf8_ (fun at' many left t19 t20 t21 o o_2 met=>J 122 [] (q29_ at' many left t19 t20 t21 o o_2 met)) x.1 x.2.1 x.2.2.1 x.2.2.2.1 x.2.2.2.2.1:=by kernel_rfl
theorem qzk_  (left o o_2):jfn Tryz.prog q1t_ 6 18446744073709551616 (Ev.get q1w_) 258 q1h_ 15 [] (qfb_ left o o_2)=q7z_ left o o_2:=by
 rw [q6_ (by decide)]
 rw [qz4_]
 rfl
theorem qz9_  (w1 w3 at' many left to' i t19 t20 t21 o o_2 met x):jfn Tryz.prog q1t_ 6 18446744073709551616 (Ev.get q1w_) 258 q1h_ 501369 [w1,w3] (qer_ at' many left to' i t19 t20 t21 o o_2 met x)=q65_ (fun at' many left t19 t20 t21 o o_2 met=>w1 (q29_ at' many left t19 t20 t21 o o_2 met)) (fun at' many left to' i t19 t20 t21 o o_2 met x=>w3 (q3z_ at' many left to' i t19 t20 t21 o o_2 met x)) at' many left to' i t19 t20 t21 o o_2 met x:=by
 rw [q6_ (by decide)]
 rw [qzg_]
 rfl
theorem qyv_  (w1 at' many left to' i t19 t20 t21 o o_2 met x):jfn Tryz.prog q1t_ 6 18446744073709551616 (Ev.get q1w_) 258 q1h_ 125342 [w1] (q3z_ at' many left to' i t19 t20 t21 o o_2 met x)=q64_ (fun at' many left t19 t20 t21 o o_2 met=>w1 (q29_ at' many left t19 t20 t21 o o_2 met)) at' many left to' i t19 t20 t21 o o_2 met x:=by
 rw [q6_ (by decide)]
 rw [qo_ (by kernel_rfl)]
 refine qj_ (σ:=(Int)×(Int)×(Int)×(Int)×(Int)×(List YTT5)×(Int)×(Int)×(Int)×(Int)×(List Bool)×YTT5) (mk:=fun s=>q3z_ s.1 s.2.1 s.2.2.1 s.2.2.2.1 s.2.2.2.2.1 s.2.2.2.2.2.1 s.2.2.2.2.2.2.1 s.2.2.2.2.2.2.2.1 s.2.2.2.2.2.2.2.2.1 s.2.2.2.2.2.2.2.2.2.1 s.2.2.2.2.2.2.2.2.2.2.1 s.2.2.2.2.2.2.2.2.2.2.2) (fun w3 s=>?_) 18446744073709551616 (at',many,left,to',i,t19,t20,t21,o,o_2,met,x)
 have e4:(fun at' many left to' i t19 t20 t21 o o_2 met x=>(jfn Tryz.prog q1t_ 6 18446744073709551616 (Ev.get q1w_) 258 q1h_) 501369 [w1,w3] (qer_ at' many left to' i t19 t20 t21 o o_2 met x))=q65_ (fun at' many left t19 t20 t21 o o_2 met=>w1 (q29_ at' many left t19 t20 t21 o o_2 met)) (fun at' many left to' i t19 t20 t21 o o_2 met x=>w3 (q3z_ at' many left to' i t19 t20 t21 o o_2 met x)):=by funext at' many left to' i t19 t20 t21 o o_2 met x; exact qz9_ w1 w3 at' many left to' i t19 t20 t21 o o_2 met x
 refine (qzi_ _ w1 w3 s.1 s.2.1 s.2.2.1 s.2.2.2.1 s.2.2.2.2.1 s.2.2.2.2.2.1 s.2.2.2.2.2.2.1 s.2.2.2.2.2.2.2.1 s.2.2.2.2.2.2.2.2.1 s.2.2.2.2.2.2.2.2.2.1 s.2.2.2.2.2.2.2.2.2.2.1 s.2.2.2.2.2.2.2.2.2.2.2).trans ?_
 rw [e4]
theorem qzc_  (at' many left t19 t20 t21 o o_2 met):jfn Tryz.prog q1t_ 6 18446744073709551616 (Ev.get q1w_) 258 q1h_ 122 [] (q29_ at' many left t19 t20 t21 o o_2 met)=qas_ at' many left t19 t20 t21 o o_2 met:=by
 rw [q6_ (by decide)]
 rw [qo_ (by kernel_rfl)]
 refine qj_ (σ:=(Int)×(Int)×(Int)×(List YTT5)×(Int)×(Int)×(Int)×(Int)×(List Bool)) (mk:=fun s=>q29_ s.1 s.2.1 s.2.2.1 s.2.2.2.1 s.2.2.2.2.1 s.2.2.2.2.2.1 s.2.2.2.2.2.2.1 s.2.2.2.2.2.2.2.1 s.2.2.2.2.2.2.2.2) (fun w1 s=>?_) 18446744073709551616 (at',many,left,t19,t20,t21,o,o_2,met)
 have e2:(fun left o o_2=>(jfn Tryz.prog q1t_ 6 18446744073709551616 (Ev.get q1w_) 258 q1h_) 15 [] (qfb_ left o o_2))=q7z_:=by funext left o o_2; exact qzk_ left o o_2
 have e3:(fun at' many left to' i t19 t20 t21 o o_2 met x=>(jfn Tryz.prog q1t_ 6 18446744073709551616 (Ev.get q1w_) 258 q1h_) 125342 [w1] (q3z_ at' many left to' i t19 t20 t21 o o_2 met x))=q64_ (fun at' many left t19 t20 t21 o o_2 met=>w1 (q29_ at' many left t19 t20 t21 o o_2 met)):=by funext at' many left to' i t19 t20 t21 o o_2 met x; exact qyv_ w1 at' many left to' i t19 t20 t21 o o_2 met x
 refine (qyo_ _ w1 s.1 s.2.1 s.2.2.1 s.2.2.2.1 s.2.2.2.2.1 s.2.2.2.2.2.1 s.2.2.2.2.2.2.1 s.2.2.2.2.2.2.2.1 s.2.2.2.2.2.2.2.2).trans ?_
 rw [e2,e3]
theorem qzz_ (x:As [.sl (.pr (.int .i64) YTT12),.int .i64,.int .i64,.int .i64,.int .i64]):evT Tryz.prog q1t_ 6 18446744073709551616 (Ev.get q1w_) 258 q1h_ x=qfw_ x:=by
 have e1:(fun at' many left t19 t20 t21 o o_2 met=>(jfn Tryz.prog q1t_ 6 18446744073709551616 (Ev.get q1w_) 258 q1h_) 122 [] (q29_ at' many left t19 t20 t21 o o_2 met))=qas_:=by funext at' many left t19 t20 t21 o o_2 met; exact qzc_ at' many left t19 t20 t21 o o_2 met
 rw [qi_,qz1_,e1]
 rfl
theorem qfa_:CtOk Tryz.prog (fun _=>True) 258 ⟨q1h_,qfw_⟩:=qd_ (q0_ q30_ (q0_ q31_ (q0_ qkz_ (q0_ q2m_ (q0_ q2k_ q3_))))) qzz_
@[reducible] def q1i_:Sh:=⟨[.d YTT1,.d (.int .i64),.d (.int .i64),.fn (.func 264) [] []],[],[.sl (.pr (.int .i64) YTT12),.int .i64,.int .i64],[.d (.bool)],[],0,[.bool]⟩
def q1s_:Env:=(cts [(259,(⟨q35_,q1f_⟩:Ct)),(260,(⟨q34_,q13_⟩:Ct)),(261,(⟨q2e_,q73_⟩:Ct)),(264,(⟨q2q_,q19_⟩:Ct)),(265,(⟨q2r_,q10_⟩:Ct))])
def q1v_:List (Nat×Hint):=[(15,⟨[],[10]⟩),(122,⟨[],[1,2,3,9,10,19,20,21]⟩),(125342,⟨[],[1,2,3,9,10,12,14,15,19,20,21]⟩),(501369,⟨[],[1,2,3,9,10,12,14,15,19,20,21]⟩)]
def q2c_ (at' many left:Int) (t19:List YTT5) (t20 t21:Int) (met:List Bool):St:={ fr:=[(1,.d (.int .i64) at'),(2,.d (.int .i64) many),(3,.fn (.func 264) [] []),(9,.row 0),(10,.d (.int .i64) left),(19,.d YTT1 t19),(20,.d (.int .i64) t20),(21,.d (.int .i64) t21)],nt:=62,up:=[],own:=[(0,.row .bool 4 met)],nx:=1,log:=[],ln:=0 }
def qep_ (left:Int):St:={ fr:=[(10,.d (.int .i64) left)],nt:=62,up:=[],own:=[],nx:=0,log:=[],ln:=0 }
def q45_ (at' many left to' i:Int) (t19:List YTT5) (t20 t21:Int) (met:List Bool) (x:q16_):St:={ fr:=[(1,.d (.int .i64) at'),(2,.d (.int .i64) many),(3,.fn (.func 264) [] []),(9,.row 0),(10,.d (.int .i64) left),(12,.pb 1 0),(14,.d (.int .i64) to'),(15,.d (.int .i64) i),(19,.d YTT1 t19),(20,.d (.int .i64) t20),(21,.d (.int .i64) t21)],nt:=62,up:=[],own:=[(0,.row .bool 4 met),(1,.box 168 [.d (.int .i64) x.1,.d (.int .i64) x.2.1,.d .bool x.2.2.1,.d .bool x.2.2.2.1,.d .bool x.2.2.2.2])],nx:=2,log:=[],ln:=0 }
def qei_ (at' many left to' i:Int) (t19:List YTT5) (t20 t21:Int) (met:List Bool) (x:q16_):St:={ fr:=[(1,.d (.int .i64) at'),(2,.d (.int .i64) many),(3,.fn (.func 264) [] []),(9,.row 0),(10,.d (.int .i64) left),(12,.pb 1 0),(14,.d (.int .i64) to'),(15,.d (.int .i64) i),(19,.d YTT1 t19),(20,.d (.int .i64) t20),(21,.d (.int .i64) t21)],nt:=62,up:=[],own:=[(0,.row .bool 4 met),(1,.box 168 [.d (.int .i64) x.1,.d (.int .i64) x.2.1,.d .bool x.2.2.1,.d .bool x.2.2.2.1,.d .bool x.2.2.2.2])],nx:=2,log:=[],ln:=0 }
def qae_ (j2:Int->Option (As [.bool])) (j3:Int->Int->Int->Int->Int->List YTT5->Int->Int->List Bool->q16_->Option (As [.bool])) (self1:Int->Int->Int->List YTT5->Int->Int->List Bool->Option (As [.bool])) (at' many left:Int) (t19:List YTT5) (t20 t21:Int) (met:List Bool):Option (As [.bool]) :=
 if lt t21 t20=true then Option.bind (at? t19 t21) fun y=>if eqi left 0=true then j2 left else Option.bind (q73_ (y,at',add .i64 at' many,())) fun y_1=>j3 at' many left y_1.2.1 y_1.1 t19 t20 t21 met y else j2 left
def qs6_ (left:Int):Option (As [.bool]) :=
 some (eqi left 0,())
def qad_ (j4:Int->Int->Int->Int->Int->List YTT5->Int->Int->List Bool->q16_->Option (As [.bool])) (self1:Int->Int->Int->List YTT5->Int->Int->List Bool->Option (As [.bool])) (self3:Int->Int->Int->Int->Int->List YTT5->Int->Int->List Bool->q16_->Option (As [.bool])) (at' many left to' i:Int) (t19:List YTT5) (t20 t21:Int) (met:List Bool) (x:q16_):Option (As [.bool]) :=
 if lt i to'=true then Option.bind (at? met (Sx.sub .i64 i at')) fun x_1=>Option.bind (at? met (Sx.sub .i64 i at')) fun y=>if y=true then j4 at' many left to' i t19 t20 t21 met x else Option.bind (q19_ (x,())) fun y=>if (!y.1)=true then some (false,()) else Option.bind (at? met (Sx.sub .i64 i at')) fun x_2=>Option.bind (at? met (Sx.sub .i64 i at')) fun x_3=>j4 at' many (Sx.sub .i64 left 1) to' i t19 t20 t21 (List.set met (Int.toNat (Sx.sub .i64 i at')) true) x else self1 at' many left t19 t20 (add .i64 t21 1) met
def qle_ (self1:Int->Int->Int->List YTT5->Int->Int->List Bool->Option (As [.bool])) (self3:Int->Int->Int->Int->Int->List YTT5->Int->Int->List Bool->q16_->Option (As [.bool])) (at' many left to' i:Int) (t19:List YTT5) (t20 t21:Int) (met:List Bool) (x:q16_):Option (As [.bool]) :=
 self3 at' many left to' (add .i64 i 1) t19 t20 t21 met x
def qeg_ (j1:Int->Int->Int->List YTT5->Int->Int->List Bool->Option (As [.bool])) (areas:List YTT5) (at' many:Int):Option (As [.bool]) :=
 need (ge many 0) (need (Ev.capOk many many) (need (small (Int.toNat many)) (j1 at' many many areas (Int.ofNat (List.length areas)) 0 (List.replicate (Int.toNat many) false))))
def q82_ (left:Int):Option (As [.bool]):=qs6_ left
def q62_ (u1:Int->Int->Int->List YTT5->Int->Int->List Bool->Option (As [.bool])) (u3:Int->Int->Int->Int->Int->List YTT5->Int->Int->List Bool->q16_->Option (As [.bool])) (at' many left to' i:Int) (t19:List YTT5) (t20 t21:Int) (met:List Bool) (x:q16_):Option (As [.bool]):=qle_ u1 u3 at' many left to' i t19 t20 t21 met x
def q63_ (u1:Int->Int->Int->List YTT5->Int->Int->List Bool->Option (As [.bool])) (at' many left to' i:Int) (t19:List YTT5) (t20 t21:Int) (met:List Bool) (x:q16_):Option (As [.bool]) :=
 loopF (fun (self:(Int)×(Int)×(Int)×(Int)×(Int)×(List YTT5)×(Int)×(Int)×(List Bool)×YTT5->Option (As [.bool])) (s:(Int)×(Int)×(Int)×(Int)×(Int)×(List YTT5)×(Int)×(Int)×(List Bool)×YTT5)=>qad_ (q62_ u1 (fun at' many left to' i t19 t20 t21 met x=>self (at',many,left,to',i,t19,t20,t21,met,x))) u1 (fun at' many left to' i t19 t20 t21 met x=>self (at',many,left,to',i,t19,t20,t21,met,x)) s.1 s.2.1 s.2.2.1 s.2.2.2.1 s.2.2.2.2.1 s.2.2.2.2.2.1 s.2.2.2.2.2.2.1 s.2.2.2.2.2.2.2.1 s.2.2.2.2.2.2.2.2.1 s.2.2.2.2.2.2.2.2.2) 18446744073709551616 (at',many,left,to',i,t19,t20,t21,met,x)
def qat_ (at' many left:Int) (t19:List YTT5) (t20 t21:Int) (met:List Bool):Option (As [.bool]) :=
 loopF (fun (self:(Int)×(Int)×(Int)×(List YTT5)×(Int)×(Int)×(List Bool)->Option (As [.bool])) (s:(Int)×(Int)×(Int)×(List YTT5)×(Int)×(Int)×(List Bool))=>qae_ (q82_) (q63_ (fun at' many left t19 t20 t21 met=>self (at',many,left,t19,t20,t21,met))) (fun at' many left t19 t20 t21 met=>self (at',many,left,t19,t20,t21,met)) s.1 s.2.1 s.2.2.1 s.2.2.2.1 s.2.2.2.2.1 s.2.2.2.2.2.1 s.2.2.2.2.2.2) 18446744073709551616 (at',many,left,t19,t20,t21,met)
def qfq_ (x:As [.sl (.pr (.int .i64) YTT12),.int .i64,.int .i64]):Option (As [.bool]):=qeg_ qat_ x.1 x.2.1 x.2.2.1
theorem qyz_  (J left):pfn Tryz.prog q1s_ 6 18446744073709551616 (Ev.get q1v_) 258 q1i_ J 15 [] (qep_ left)=qs6_ left:=by kernel_rfl
theorem qyu_  (J w1 w3 at' many left to' i t19 t20 t21 met x):pfn Tryz.prog q1s_ 6 18446744073709551616 (Ev.get q1v_) 258 q1i_ J 501369 [w1,w3] (qei_ at' many left to' i t19 t20 t21 met x)=qle_ (fun at' many left t19 t20 t21 met=>w1 (q2c_ at' many left t19 t20 t21 met)) (fun at' many left to' i t19 t20 t21 met x=>w3 (q45_ at' many left to' i t19 t20 t21 met x)) at' many left to' i t19 t20 t21 met x:=by kernel_rfl
theorem qzq_  (J w1 w3 at' many left to' i t19 t20 t21 met x):pfn Tryz.prog q1s_ 6 18446744073709551616 (Ev.get q1v_) 258 q1i_ J 125342 [w1,w3] (q45_ at' many left to' i t19 t20 t21 met x)=qad_ (fun at' many left to' i t19 t20 t21 met x=>J 501369 [w1,w3] (qei_ at' many left to' i t19 t20 t21 met x)) (fun at' many left t19 t20 t21 met=>w1 (q2c_ at' many left t19 t20 t21 met)) (fun at' many left to' i t19 t20 t21 met x=>w3 (q45_ at' many left to' i t19 t20 t21 met x)) at' many left to' i t19 t20 t21 met x:=by kernel_rfl
theorem qyx_  (J w1 at' many left t19 t20 t21 met):pfn Tryz.prog q1s_ 6 18446744073709551616 (Ev.get q1v_) 258 q1i_ J 122 [w1] (q2c_ at' many left t19 t20 t21 met)=qae_ (fun left=>J 15 [] (qep_ left)) (fun at' many left to' i t19 t20 t21 met x=>J 125342 [w1] (q45_ at' many left to' i t19 t20 t21 met x)) (fun at' many left t19 t20 t21 met=>w1 (q2c_ at' many left t19 t20 t21 met)) at' many left t19 t20 t21 met:=by kernel_rfl
theorem qyy_ (J:Orc (As [.bool])) (x:As [.sl (.pr (.int .i64) YTT12),.int .i64,.int .i64]):rfn Tryz.prog q1s_ 6 18446744073709551616 (Ev.get q1v_) 258 q1i_ J x=qeg_ (fun at' many left t19 t20 t21 met=>J 122 [] (q2c_ at' many left t19 t20 t21 met)) x.1 x.2.1 x.2.2.1:=by kernel_rfl
theorem qzd_  (left):jfn Tryz.prog q1s_ 6 18446744073709551616 (Ev.get q1v_) 258 q1i_ 15 [] (qep_ left)=q82_ left:=by
 rw [q6_ (by decide)]
 rw [qyz_]
 rfl
theorem qyp_  (w1 w3 at' many left to' i t19 t20 t21 met x):jfn Tryz.prog q1s_ 6 18446744073709551616 (Ev.get q1v_) 258 q1i_ 501369 [w1,w3] (qei_ at' many left to' i t19 t20 t21 met x)=q62_ (fun at' many left t19 t20 t21 met=>w1 (q2c_ at' many left t19 t20 t21 met)) (fun at' many left to' i t19 t20 t21 met x=>w3 (q45_ at' many left to' i t19 t20 t21 met x)) at' many left to' i t19 t20 t21 met x:=by
 rw [q6_ (by decide)]
 rw [qyu_]
 rfl
theorem qyr_  (w1 at' many left to' i t19 t20 t21 met x):jfn Tryz.prog q1s_ 6 18446744073709551616 (Ev.get q1v_) 258 q1i_ 125342 [w1] (q45_ at' many left to' i t19 t20 t21 met x)=q63_ (fun at' many left t19 t20 t21 met=>w1 (q2c_ at' many left t19 t20 t21 met)) at' many left to' i t19 t20 t21 met x:=by
 rw [q6_ (by decide)]
 rw [qo_ (by kernel_rfl)]
 refine qj_ (σ:=(Int)×(Int)×(Int)×(Int)×(Int)×(List YTT5)×(Int)×(Int)×(List Bool)×YTT5) (mk:=fun s=>q45_ s.1 s.2.1 s.2.2.1 s.2.2.2.1 s.2.2.2.2.1 s.2.2.2.2.2.1 s.2.2.2.2.2.2.1 s.2.2.2.2.2.2.2.1 s.2.2.2.2.2.2.2.2.1 s.2.2.2.2.2.2.2.2.2) (fun w3 s=>?_) 18446744073709551616 (at',many,left,to',i,t19,t20,t21,met,x)
 have e4:(fun at' many left to' i t19 t20 t21 met x=>(jfn Tryz.prog q1s_ 6 18446744073709551616 (Ev.get q1v_) 258 q1i_) 501369 [w1,w3] (qei_ at' many left to' i t19 t20 t21 met x))=q62_ (fun at' many left t19 t20 t21 met=>w1 (q2c_ at' many left t19 t20 t21 met)) (fun at' many left to' i t19 t20 t21 met x=>w3 (q45_ at' many left to' i t19 t20 t21 met x)):=by funext at' many left to' i t19 t20 t21 met x; exact qyp_ w1 w3 at' many left to' i t19 t20 t21 met x
 refine (qzq_ _ w1 w3 s.1 s.2.1 s.2.2.1 s.2.2.2.1 s.2.2.2.2.1 s.2.2.2.2.2.1 s.2.2.2.2.2.2.1 s.2.2.2.2.2.2.2.1 s.2.2.2.2.2.2.2.2.1 s.2.2.2.2.2.2.2.2.2).trans ?_
 rw [e4]
theorem qz5_  (at' many left t19 t20 t21 met):jfn Tryz.prog q1s_ 6 18446744073709551616 (Ev.get q1v_) 258 q1i_ 122 [] (q2c_ at' many left t19 t20 t21 met)=qat_ at' many left t19 t20 t21 met:=by
 rw [q6_ (by decide)]
 rw [qo_ (by kernel_rfl)]
 refine qj_ (σ:=(Int)×(Int)×(Int)×(List YTT5)×(Int)×(Int)×(List Bool)) (mk:=fun s=>q2c_ s.1 s.2.1 s.2.2.1 s.2.2.2.1 s.2.2.2.2.1 s.2.2.2.2.2.1 s.2.2.2.2.2.2) (fun w1 s=>?_) 18446744073709551616 (at',many,left,t19,t20,t21,met)
 have e2:(fun left=>(jfn Tryz.prog q1s_ 6 18446744073709551616 (Ev.get q1v_) 258 q1i_) 15 [] (qep_ left))=q82_:=funext fun left=>qzd_ left
 have e3:(fun at' many left to' i t19 t20 t21 met x=>(jfn Tryz.prog q1s_ 6 18446744073709551616 (Ev.get q1v_) 258 q1i_) 125342 [w1] (q45_ at' many left to' i t19 t20 t21 met x))=q63_ (fun at' many left t19 t20 t21 met=>w1 (q2c_ at' many left t19 t20 t21 met)):=by funext at' many left to' i t19 t20 t21 met x; exact qyr_ w1 at' many left to' i t19 t20 t21 met x
 refine (qyx_ _ w1 s.1 s.2.1 s.2.2.1 s.2.2.2.1 s.2.2.2.2.1 s.2.2.2.2.2.1 s.2.2.2.2.2.2).trans ?_
 rw [e2,e3]
theorem q10b_ (x:As [.sl (.pr (.int .i64) YTT12),.int .i64,.int .i64]):evT Tryz.prog q1s_ 6 18446744073709551616 (Ev.get q1v_) 258 q1i_ x=qfq_ x:=by
 have e1:(fun at' many left t19 t20 t21 met=>(jfn Tryz.prog q1s_ 6 18446744073709551616 (Ev.get q1v_) 258 q1i_) 122 [] (q2c_ at' many left t19 t20 t21 met))=qat_:=by funext at' many left t19 t20 t21 met; exact qz5_ at' many left t19 t20 t21 met
 rw [qi_,qyy_,e1]
 rfl
theorem qfd_:CtOk Tryz.prog (fun _=>True) 258 ⟨q1i_,qfq_⟩:=qd_ (q0_ q30_ (q0_ q31_ (q0_ qkz_ (q0_ q2m_ (q0_ q2k_ q3_))))) q10b_
@[reducible] def q1j_:Sh:=⟨[.d YTT1,.d (.int .i64),.d (.int .i64),.fn (.func 265) [] [.pb 0 0,.pb 1 0]],[.box 3 [.d (.int .i64)],.box 3 [.d (.int .i64)]],[.sl (.pr (.int .i64) YTT12),.int .i64,.int .i64,.int .i64,.int .i64],[.d (.bool)],[(0,.box 3 [.d (.int .i64)]),(1,.box 3 [.d (.int .i64)])],0,[.bool,.int .i64,.int .i64]⟩
def q1u_:Env:=(cts [(259,(⟨q35_,q1f_⟩:Ct)),(260,(⟨q34_,q13_⟩:Ct)),(261,(⟨q2e_,q73_⟩:Ct)),(264,(⟨q2q_,q19_⟩:Ct)),(265,(⟨q2r_,q10_⟩:Ct))])
def q1q_:List (Nat×Hint):=[(15,⟨[],[10]⟩),(122,⟨[],[1,2,3,9,10,19,20,21]⟩),(125342,⟨[],[1,2,3,9,10,12,14,15,19,20,21]⟩),(501369,⟨[],[1,2,3,9,10,12,14,15,19,20,21]⟩)]
def q2b_ (at' many left:Int) (t19:List YTT5) (t20 t21 o o_2:Int) (met:List Bool):St:={ fr:=[(1,.d (.int .i64) at'),(2,.d (.int .i64) many),(3,.fn (.func 265) [] [.pb 0 0,.pb 1 0]),(9,.row 2),(10,.d (.int .i64) left),(19,.d YTT1 t19),(20,.d (.int .i64) t20),(21,.d (.int .i64) t21)],nt:=62,up:=[],own:=[(0,.box 3 [.d (.int .i64) o]),(1,.box 3 [.d (.int .i64) o_2]),(2,.row .bool 4 met)],nx:=3,log:=[],ln:=2 }
def qen_ (left o o_2:Int):St:={ fr:=[(10,.d (.int .i64) left)],nt:=62,up:=[],own:=[(0,.box 3 [.d (.int .i64) o]),(1,.box 3 [.d (.int .i64) o_2])],nx:=2,log:=[],ln:=2 }
def q42_ (at' many left to' i:Int) (t19:List YTT5) (t20 t21 o o_2:Int) (met:List Bool) (x:q16_):St:={ fr:=[(1,.d (.int .i64) at'),(2,.d (.int .i64) many),(3,.fn (.func 265) [] [.pb 0 0,.pb 1 0]),(9,.row 2),(10,.d (.int .i64) left),(12,.pb 3 0),(14,.d (.int .i64) to'),(15,.d (.int .i64) i),(19,.d YTT1 t19),(20,.d (.int .i64) t20),(21,.d (.int .i64) t21)],nt:=62,up:=[],own:=[(0,.box 3 [.d (.int .i64) o]),(1,.box 3 [.d (.int .i64) o_2]),(2,.row .bool 4 met),(3,.box 168 [.d (.int .i64) x.1,.d (.int .i64) x.2.1,.d .bool x.2.2.1,.d .bool x.2.2.2.1,.d .bool x.2.2.2.2])],nx:=4,log:=[],ln:=2 }
def qey_ (at' many left to' i:Int) (t19:List YTT5) (t20 t21 o o_2:Int) (met:List Bool) (x:q16_):St:={ fr:=[(1,.d (.int .i64) at'),(2,.d (.int .i64) many),(3,.fn (.func 265) [] [.pb 0 0,.pb 1 0]),(9,.row 2),(10,.d (.int .i64) left),(12,.pb 3 0),(14,.d (.int .i64) to'),(15,.d (.int .i64) i),(19,.d YTT1 t19),(20,.d (.int .i64) t20),(21,.d (.int .i64) t21)],nt:=62,up:=[],own:=[(0,.box 3 [.d (.int .i64) o]),(1,.box 3 [.d (.int .i64) o_2]),(2,.row .bool 4 met),(3,.box 168 [.d (.int .i64) x.1,.d (.int .i64) x.2.1,.d .bool x.2.2.1,.d .bool x.2.2.2.1,.d .bool x.2.2.2.2])],nx:=4,log:=[],ln:=2 }
def qa9_ (j2:Int->Int->Int->Option (As [.bool,.int .i64,.int .i64])) (j3:Int->Int->Int->Int->Int->List YTT5->Int->Int->Int->Int->List Bool->q16_->Option (As [.bool,.int .i64,.int .i64])) (self1:Int->Int->Int->List YTT5->Int->Int->Int->Int->List Bool->Option (As [.bool,.int .i64,.int .i64])) (at' many left:Int) (t19:List YTT5) (t20 t21 o o_2:Int) (met:List Bool):Option (As [.bool,.int .i64,.int .i64]) :=
 if lt t21 t20=true then Option.bind (at? t19 t21) fun y=>if eqi left 0=true then j2 left o o_2 else Option.bind (q73_ (y,at',add .i64 at' many,())) fun y_1=>j3 at' many left y_1.2.1 y_1.1 t19 t20 t21 o o_2 met y else j2 left o o_2
def qs2_ (left o o_2:Int):Option (As [.bool,.int .i64,.int .i64]) :=
 some (eqi left 0,o,o_2,())
def qa7_ (j4:Int->Int->Int->Int->Int->List YTT5->Int->Int->Int->Int->List Bool->q16_->Option (As [.bool,.int .i64,.int .i64])) (self1:Int->Int->Int->List YTT5->Int->Int->Int->Int->List Bool->Option (As [.bool,.int .i64,.int .i64])) (self3:Int->Int->Int->Int->Int->List YTT5->Int->Int->Int->Int->List Bool->q16_->Option (As [.bool,.int .i64,.int .i64])) (at' many left to' i:Int) (t19:List YTT5) (t20 t21 o o_2:Int) (met:List Bool) (x:q16_):Option (As [.bool,.int .i64,.int .i64]) :=
 if lt i to'=true then Option.bind (at? met (Sx.sub .i64 i at')) fun x_1=>Option.bind (at? met (Sx.sub .i64 i at')) fun y=>if y=true then j4 at' many left to' i t19 t20 t21 o o_2 met x else Option.bind (q10_ (x,o,o_2,())) fun y=>if (!y.1)=true then some (false,y.2.1,y.2.2.1,()) else Option.bind (at? met (Sx.sub .i64 i at')) fun x_2=>Option.bind (at? met (Sx.sub .i64 i at')) fun x_3=>j4 at' many (Sx.sub .i64 left 1) to' i t19 t20 t21 y.2.1 y.2.2.1 (List.set met (Int.toNat (Sx.sub .i64 i at')) true) x else self1 at' many left t19 t20 (add .i64 t21 1) o o_2 met
def ql6_ (self1:Int->Int->Int->List YTT5->Int->Int->Int->Int->List Bool->Option (As [.bool,.int .i64,.int .i64])) (self3:Int->Int->Int->Int->Int->List YTT5->Int->Int->Int->Int->List Bool->q16_->Option (As [.bool,.int .i64,.int .i64])) (at' many left to' i:Int) (t19:List YTT5) (t20 t21 o o_2:Int) (met:List Bool) (x:q16_):Option (As [.bool,.int .i64,.int .i64]) :=
 self3 at' many left to' (add .i64 i 1) t19 t20 t21 o o_2 met x
def qf1_ (j1:Int->Int->Int->List YTT5->Int->Int->Int->Int->List Bool->Option (As [.bool,.int .i64,.int .i64])) (areas:List YTT5) (at' many wanted areas_2:Int):Option (As [.bool,.int .i64,.int .i64]) :=
 need (ge many 0) (need (Ev.capOk many many) (need (small (Int.toNat many)) (j1 at' many many areas (Int.ofNat (List.length areas)) 0 wanted areas_2 (List.replicate (Int.toNat many) false))))
def q7x_ (left o o_2:Int):Option (As [.bool,.int .i64,.int .i64]):=qs2_ left o o_2
def q61_ (u1:Int->Int->Int->List YTT5->Int->Int->Int->Int->List Bool->Option (As [.bool,.int .i64,.int .i64])) (u3:Int->Int->Int->Int->Int->List YTT5->Int->Int->Int->Int->List Bool->q16_->Option (As [.bool,.int .i64,.int .i64])) (at' many left to' i:Int) (t19:List YTT5) (t20 t21 o o_2:Int) (met:List Bool) (x:q16_):Option (As [.bool,.int .i64,.int .i64]):=ql6_ u1 u3 at' many left to' i t19 t20 t21 o o_2 met x
def q68_ (u1:Int->Int->Int->List YTT5->Int->Int->Int->Int->List Bool->Option (As [.bool,.int .i64,.int .i64])) (at' many left to' i:Int) (t19:List YTT5) (t20 t21 o o_2:Int) (met:List Bool) (x:q16_):Option (As [.bool,.int .i64,.int .i64]) :=
 loopF (fun (self:(Int)×(Int)×(Int)×(Int)×(Int)×(List YTT5)×(Int)×(Int)×(Int)×(Int)×(List Bool)×YTT5->Option (As [.bool,.int .i64,.int .i64])) (s:(Int)×(Int)×(Int)×(Int)×(Int)×(List YTT5)×(Int)×(Int)×(Int)×(Int)×(List Bool)×YTT5)=>qa7_ (q61_ u1 (fun at' many left to' i t19 t20 t21 o o_2 met x=>self (at',many,left,to',i,t19,t20,t21,o,o_2,met,x))) u1 (fun at' many left to' i t19 t20 t21 o o_2 met x=>self (at',many,left,to',i,t19,t20,t21,o,o_2,met,x)) s.1 s.2.1 s.2.2.1 s.2.2.2.1 s.2.2.2.2.1 s.2.2.2.2.2.1 s.2.2.2.2.2.2.1 s.2.2.2.2.2.2.2.1 s.2.2.2.2.2.2.2.2.1 s.2.2.2.2.2.2.2.2.2.1 s.2.2.2.2.2.2.2.2.2.2.1 s.2.2.2.2.2.2.2.2.2.2.2) 18446744073709551616 (at',many,left,to',i,t19,t20,t21,o,o_2,met,x)
def qa6_ (at' many left:Int) (t19:List YTT5) (t20 t21 o o_2:Int) (met:List Bool):Option (As [.bool,.int .i64,.int .i64]) :=
 loopF (fun (self:(Int)×(Int)×(Int)×(List YTT5)×(Int)×(Int)×(Int)×(Int)×(List Bool)->Option (As [.bool,.int .i64,.int .i64])) (s:(Int)×(Int)×(Int)×(List YTT5)×(Int)×(Int)×(Int)×(Int)×(List Bool))=>qa9_ (q7x_) (q68_ (fun at' many left t19 t20 t21 o o_2 met=>self (at',many,left,t19,t20,t21,o,o_2,met))) (fun at' many left t19 t20 t21 o o_2 met=>self (at',many,left,t19,t20,t21,o,o_2,met)) s.1 s.2.1 s.2.2.1 s.2.2.2.1 s.2.2.2.2.1 s.2.2.2.2.2.1 s.2.2.2.2.2.2.1 s.2.2.2.2.2.2.2.1 s.2.2.2.2.2.2.2.2) 18446744073709551616 (at',many,left,t19,t20,t21,o,o_2,met)
def qfm_ (x:As [.sl (.pr (.int .i64) YTT12),.int .i64,.int .i64,.int .i64,.int .i64]):Option (As [.bool,.int .i64,.int .i64]):=qf1_ qa6_ x.1 x.2.1 x.2.2.1 x.2.2.2.1 x.2.2.2.2.1
theorem qz2_  (J left o o_2):pfn Tryz.prog q1u_ 6 18446744073709551616 (Ev.get q1q_) 258 q1j_ J 15 [] (qen_ left o o_2)=qs2_ left o o_2:=by kernel_rfl
theorem qyk_  (J w1 w3 at' many left to' i t19 t20 t21 o o_2 met x):pfn Tryz.prog q1u_ 6 18446744073709551616 (Ev.get q1q_) 258 q1j_ J 501369 [w1,w3] (qey_ at' many left to' i t19 t20 t21 o o_2 met x)=ql6_ (fun at' many left t19 t20 t21 o o_2 met=>w1 (q2b_ at' many left t19 t20 t21 o o_2 met)) (fun at' many left to' i t19 t20 t21 o o_2 met x=>w3 (q42_ at' many left to' i t19 t20 t21 o o_2 met x)) at' many left to' i t19 t20 t21 o o_2 met x:=by kernel_rfl
theorem qys_  (J w1 w3 at' many left to' i t19 t20 t21 o o_2 met x):pfn Tryz.prog q1u_ 6 18446744073709551616 (Ev.get q1q_) 258 q1j_ J 125342 [w1,w3] (q42_ at' many left to' i t19 t20 t21 o o_2 met x)=qa7_ (fun at' many left to' i t19 t20 t21 o o_2 met x=>J 501369 [w1,w3] (qey_ at' many left to' i t19 t20 t21 o o_2 met x)) (fun at' many left t19 t20 t21 o o_2 met=>w1 (q2b_ at' many left t19 t20 t21 o o_2 met)) (fun at' many left to' i t19 t20 t21 o o_2 met x=>w3 (q42_ at' many left to' i t19 t20 t21 o o_2 met x)) at' many left to' i t19 t20 t21 o o_2 met x:=by kernel_rfl
theorem qz0_  (J w1 at' many left t19 t20 t21 o o_2 met):pfn Tryz.prog q1u_ 6 18446744073709551616 (Ev.get q1q_) 258 q1j_ J 122 [w1] (q2b_ at' many left t19 t20 t21 o o_2 met)=qa9_ (fun left o o_2=>J 15 [] (qen_ left o o_2)) (fun at' many left to' i t19 t20 t21 o o_2 met x=>J 125342 [w1] (q42_ at' many left to' i t19 t20 t21 o o_2 met x)) (fun at' many left t19 t20 t21 o o_2 met=>w1 (q2b_ at' many left t19 t20 t21 o o_2 met)) at' many left t19 t20 t21 o o_2 met:=by kernel_rfl
theorem qzo_ (J:Orc (As [.bool,.int .i64,.int .i64])) (x:As [.sl (.pr (.int .i64) YTT12),.int .i64,.int .i64,.int .i64,.int .i64]):rfn Tryz.prog q1u_ 6 18446744073709551616 (Ev.get q1q_) 258 q1j_ J x=qf1_ (fun at' many left t19 t20 t21 o o_2 met=>J 122 [] (q2b_ at' many left t19 t20 t21 o o_2 met)) x.1 x.2.1 x.2.2.1 x.2.2.2.1 x.2.2.2.2.1:=by kernel_rfl
theorem qyj_  (left o o_2):jfn Tryz.prog q1u_ 6 18446744073709551616 (Ev.get q1q_) 258 q1j_ 15 [] (qen_ left o o_2)=q7x_ left o o_2:=by
 rw [q6_ (by decide)]
 rw [qz2_]
 rfl
theorem qzu_  (w1 w3 at' many left to' i t19 t20 t21 o o_2 met x):jfn Tryz.prog q1u_ 6 18446744073709551616 (Ev.get q1q_) 258 q1j_ 501369 [w1,w3] (qey_ at' many left to' i t19 t20 t21 o o_2 met x)=q61_ (fun at' many left t19 t20 t21 o o_2 met=>w1 (q2b_ at' many left t19 t20 t21 o o_2 met)) (fun at' many left to' i t19 t20 t21 o o_2 met x=>w3 (q42_ at' many left to' i t19 t20 t21 o o_2 met x)) at' many left to' i t19 t20 t21 o o_2 met x:=by
 rw [q6_ (by decide)]
 rw [qyk_]
 rfl
theorem qyt_  (w1 at' many left to' i t19 t20 t21 o o_2 met x):jfn Tryz.prog q1u_ 6 18446744073709551616 (Ev.get q1q_) 258 q1j_ 125342 [w1] (q42_ at' many left to' i t19 t20 t21 o o_2 met x)=q68_ (fun at' many left t19 t20 t21 o o_2 met=>w1 (q2b_ at' many left t19 t20 t21 o o_2 met)) at' many left to' i t19 t20 t21 o o_2 met x:=by
 rw [q6_ (by decide)]
 rw [qo_ (by kernel_rfl)]
 refine qj_ (σ:=(Int)×(Int)×(Int)×(Int)×(Int)×(List YTT5)×(Int)×(Int)×(Int)×(Int)×(List Bool)×YTT5) (mk:=fun s=>q42_ s.1 s.2.1 s.2.2.1 s.2.2.2.1 s.2.2.2.2.1 s.2.2.2.2.2.1 s.2.2.2.2.2.2.1 s.2.2.2.2.2.2.2.1 s.2.2.2.2.2.2.2.2.1 s.2.2.2.2.2.2.2.2.2.1 s.2.2.2.2.2.2.2.2.2.2.1 s.2.2.2.2.2.2.2.2.2.2.2) (fun w3 s=>?_) 18446744073709551616 (at',many,left,to',i,t19,t20,t21,o,o_2,met,x)
 have e4:(fun at' many left to' i t19 t20 t21 o o_2 met x=>(jfn Tryz.prog q1u_ 6 18446744073709551616 (Ev.get q1q_) 258 q1j_) 501369 [w1,w3] (qey_ at' many left to' i t19 t20 t21 o o_2 met x))=q61_ (fun at' many left t19 t20 t21 o o_2 met=>w1 (q2b_ at' many left t19 t20 t21 o o_2 met)) (fun at' many left to' i t19 t20 t21 o o_2 met x=>w3 (q42_ at' many left to' i t19 t20 t21 o o_2 met x)):=by funext at' many left to' i t19 t20 t21 o o_2 met x; exact qzu_ w1 w3 at' many left to' i t19 t20 t21 o o_2 met x
 refine (qys_ _ w1 w3 s.1 s.2.1 s.2.2.1 s.2.2.2.1 s.2.2.2.2.1 s.2.2.2.2.2.1 s.2.2.2.2.2.2.1 s.2.2.2.2.2.2.2.1 s.2.2.2.2.2.2.2.2.1 s.2.2.2.2.2.2.2.2.2.1 s.2.2.2.2.2.2.2.2.2.2.1 s.2.2.2.2.2.2.2.2.2.2.2).trans ?_
 rw [e4]
theorem qz8_  (at' many left t19 t20 t21 o o_2 met):jfn Tryz.prog q1u_ 6 18446744073709551616 (Ev.get q1q_) 258 q1j_ 122 [] (q2b_ at' many left t19 t20 t21 o o_2 met)=qa6_ at' many left t19 t20 t21 o o_2 met:=by
 rw [q6_ (by decide)]
 rw [qo_ (by kernel_rfl)]
 refine qj_ (σ:=(Int)×(Int)×(Int)×(List YTT5)×(Int)×(Int)×(Int)×(Int)×(List Bool)) (mk:=fun s=>q2b_ s.1 s.2.1 s.2.2.1 s.2.2.2.1 s.2.2.2.2.1 s.2.2.2.2.2.1 s.2.2.2.2.2.2.1 s.2.2.2.2.2.2.2.1 s.2.2.2.2.2.2.2.2) (fun w1 s=>?_) 18446744073709551616 (at',many,left,t19,t20,t21,o,o_2,met)
 have e2:(fun left o o_2=>(jfn Tryz.prog q1u_ 6 18446744073709551616 (Ev.get q1q_) 258 q1j_) 15 [] (qen_ left o o_2))=q7x_:=by funext left o o_2; exact qyj_ left o o_2
 have e3:(fun at' many left to' i t19 t20 t21 o o_2 met x=>(jfn Tryz.prog q1u_ 6 18446744073709551616 (Ev.get q1q_) 258 q1j_) 125342 [w1] (q42_ at' many left to' i t19 t20 t21 o o_2 met x))=q68_ (fun at' many left t19 t20 t21 o o_2 met=>w1 (q2b_ at' many left t19 t20 t21 o o_2 met)):=by funext at' many left to' i t19 t20 t21 o o_2 met x; exact qyt_ w1 at' many left to' i t19 t20 t21 o o_2 met x
 refine (qz0_ _ w1 s.1 s.2.1 s.2.2.1 s.2.2.2.1 s.2.2.2.2.1 s.2.2.2.2.2.1 s.2.2.2.2.2.2.1 s.2.2.2.2.2.2.2.1 s.2.2.2.2.2.2.2.2).trans ?_
 rw [e2,e3]
theorem q10q_ (x:As [.sl (.pr (.int .i64) YTT12),.int .i64,.int .i64,.int .i64,.int .i64]):evT Tryz.prog q1u_ 6 18446744073709551616 (Ev.get q1q_) 258 q1j_ x=qfm_ x:=by
 have e1:(fun at' many left t19 t20 t21 o o_2 met=>(jfn Tryz.prog q1u_ 6 18446744073709551616 (Ev.get q1q_) 258 q1j_) 122 [] (q2b_ at' many left t19 t20 t21 o o_2 met))=qa6_:=by funext at' many left t19 t20 t21 o o_2 met; exact qz8_ at' many left t19 t20 t21 o o_2 met
 rw [qi_,qzo_,e1]
 rfl
theorem qeh_:CtOk Tryz.prog (fun _=>True) 258 ⟨q1j_,qfm_⟩:=qd_ (q0_ q30_ (q0_ q31_ (q0_ qkz_ (q0_ q2m_ (q0_ q2k_ q3_))))) q10q_
@[reducible] def qea_:Sh:=⟨[.d (.pr YTT1 (.sl .bool)),.d (.int .i64),.d (.int .i64)],[],[.pr YTT1 (.sl .bool),.int .i64,.int .i64],[.d (.bool)],[],0,[.bool]⟩
def qov_ (t:List YTT5×List Bool) (at' many:Int):Option (As [.bool]) :=
 Option.bind (qfz_ (t.1,at',many,())) fun y=>some (y.1,())
def q2i_ (x:As [.pr YTT1 (.sl .bool),.int .i64,.int .i64]):Option (As [.bool]):=qov_ x.1 x.2.1 x.2.2.1
theorem qon_:CtOk Tryz.prog (fun _=>True) 256 ⟨qea_,q2i_⟩:=ctn (q0_ qem_ (q0_ qfa_ (q0_ qfd_ (q0_ qeh_ (q0_ q30_ q3_))))) 6 fun J x=>by kernel_rfl
@[reducible] def qec_:Sh:=⟨[.d (.pr YTT1 (.sl .bool)),.d (.int .i64),.d (.int .i64)],[],[.pr YTT1 (.sl .bool),.int .i64,.int .i64],[.d (.bool)],[],0,[.bool]⟩
def qpb_ (t:List YTT5×List Bool) (at' many:Int):Option (As [.bool]) :=
 Option.bind (qfw_ (t.1,at',many,at',many,())) fun y=>some (y.1,())
def q2h_ (x:As [.pr YTT1 (.sl .bool),.int .i64,.int .i64]):Option (As [.bool]):=qpb_ x.1 x.2.1 x.2.2.1
theorem qos_:CtOk Tryz.prog (fun _=>True) 257 ⟨qec_,q2h_⟩:=ctn (q0_ qem_ (q0_ qfa_ (q0_ qfd_ (q0_ qeh_ (q0_ q31_ q3_))))) 6 fun J x=>by kernel_rfl
@[reducible] def qcr_:Sh:=⟨[.d (.pr YTT1 (.sl (.int .u16))),.d (.int .i64),.d (.int .i64)],[],[.pr YTT1 (.sl (.int .u16)),.int .i64,.int .i64],[.d (.bool)],[],0,[.bool]⟩
def qnj_ (t:List YTT5×List Int) (at' many:Int):Option (As [.bool]) :=
 Option.bind (qfq_ (t.1,at',many,())) fun y=>some (y.1,())
def q1g_ (x:As [.pr YTT1 (.sl (.int .u16)),.int .i64,.int .i64]):Option (As [.bool]):=qnj_ x.1 x.2.1 x.2.2.1
theorem qmk_:CtOk Tryz.prog (fun _=>True) 262 ⟨qcr_,q1g_⟩:=ctn (q0_ qem_ (q0_ qfa_ (q0_ qfd_ (q0_ qeh_ (q0_ q2m_ q3_))))) 6 fun J x=>by kernel_rfl
@[reducible] def qcq_:Sh:=⟨[.d (.pr YTT1 (.sl (.int .u16))),.d (.int .i64),.d (.int .i64)],[],[.pr YTT1 (.sl (.int .u16)),.int .i64,.int .i64],[.d (.bool)],[],0,[.bool]⟩
def qny_ (t:List YTT5×List Int) (at' many:Int):Option (As [.bool]) :=
 Option.bind (qfm_ (t.1,at',many,at',many,())) fun y=>some (y.1,())
def q18_ (x:As [.pr YTT1 (.sl (.int .u16)),.int .i64,.int .i64]):Option (As [.bool]):=qny_ x.1 x.2.1 x.2.2.1
theorem qnx_:CtOk Tryz.prog (fun _=>True) 263 ⟨qcq_,q18_⟩:=ctn (q0_ qem_ (q0_ qfa_ (q0_ qfd_ (q0_ qeh_ (q0_ q2k_ q3_))))) 6 fun J x=>by kernel_rfl
@[reducible] def q3j_:Sh:=⟨[.d (.pr YTT1 (.pr YTT1 (.pr YTT1 YTT1))),.d (.pr (.int .u8) YTT4)],[],[.pr YTT1 (.pr YTT1 (.pr YTT1 YTT1)),.pr (.int .u8) YTT4],[.d (.int .u8)],[],0,[.int .u8]⟩
def q7f_:Env:=(cts [(58,(⟨q4a_,q8k_⟩:Ct)),(117,(⟨qwz_,qii_⟩:Ct)),(124,(⟨qs4_,qi4_⟩:Ct)),(126,(⟨qp8_,qaa_⟩:Ct)),(256,(⟨qea_,q2i_⟩:Ct)),(257,(⟨qec_,q2h_⟩:Ct)),(262,(⟨qcr_,q1g_⟩:Ct)),(263,(⟨qcq_,q18_⟩:Ct))])
def q7e_:List (Nat×Hint):=[(509,⟨[],[60]⟩),(125,⟨[],[3,5,6,40,55,56,57,58,59]⟩)]
def qhy_ (t40:Bool) (a:Int×Int×Int×Int×List Int×List Bool) (v:(List YTT5×List Bool)×(List YTT5×List Bool)×(List YTT5×List Int)×List YTT5×List Int) (u:Int×Int):St:={ fr:=[(3,.pb 0 0),(5,.pb 1 0),(6,.pb 2 0),(40,.d .bool t40)],nt:=61,up:=[],own:=[(0,.box 44 [.d (.int .u8) a.1,.d (.int .u16) a.2.1,.d (.int .u16) a.2.2.1,.d (.int .u16) a.2.2.2.1,.d (.sl (.int .u16)) a.2.2.2.2.1,.d (.sl .bool) a.2.2.2.2.2]),(1,.box 174 [.d YTT1 v.1.1,.d (.sl .bool) v.1.2,.d YTT1 v.2.1.1,.d (.sl .bool) v.2.1.2,.d YTT1 v.2.2.1.1,.d (.sl (.int .u16)) v.2.2.1.2,.d YTT1 v.2.2.2.1,.d (.sl (.int .u16)) v.2.2.2.2]),(2,.box 183 [.d (.int .i64) u.1,.d (.int .i64) u.2])],nx:=3,log:=[],ln:=0 }
def qix_ (t60:Bool):St:={ fr:=[(60,.d .bool t60)],nt:=61,up:=[],own:=[],nx:=0,log:=[],ln:=0 }
def qu3_ (j2:Bool->Option (As [.int .u8])) (t40:Bool) (a:Int×Int×Int×Int×List Int×List Bool) (v:(List YTT5×List Bool)×(List YTT5×List Bool)×(List YTT5×List Int)×List YTT5×List Int) (u:Int×Int):Option (As [.int .u8]) :=
 if t40=true then some (2,()) else Option.bind (qaa_ (a,())) fun y=>if eqi u.2 1=true then Option.bind (q2h_ (v.1,y.1,y.2.1,())) fun y=>j2 !y.1 else if eqi u.2 2=true then Option.bind (q2h_ (v.2.1,y.1,y.2.1,())) fun y=>j2 !y.1 else if eqi u.2 3=true then Option.bind (q18_ (v.2.2.1,y.1,y.2.1,())) fun y=>j2 !y.1 else if eqi u.2 4=true then Option.bind (q18_ (v.2.2.2,y.1,y.2.1,())) fun y=>j2 !y.1 else j2 false
def quk_ (t60:Bool):Option (As [.int .u8]) :=
 if t60=true then some (2,()) else some (0,())
def qhr_ (j1:Bool->Int×Int×Int×Int×List Int×List Bool->(List YTT5×List Bool)×(List YTT5×List Bool)×(List YTT5×List Int)×List YTT5×List Int->Int×Int->Option (As [.int .u8])) (s:List YTT5×List YTT5×List YTT5×List YTT5) (a:Int×Int×Int×Int×List Int×List Bool):Option (As [.int .u8]) :=
 Option.bind (q8k_ (a,())) fun y=>if (!y.1)=true then some (3,()) else Option.bind (qii_ (s,([],[],[],[]),())) fun y=>Option.bind (qi4_ (a.1,())) fun y_1=>if eqi y_1.1.1 1=true then Option.bind (q2i_ (y.1.1,cvt .i64 a.2.1,cvt .i64 a.2.2.1,())) fun y_2=>j1 (!y_2.1) a y.1 y_1.1 else if eqi y_1.1.1 2=true then Option.bind (q2i_ (y.1.2.1,cvt .i64 a.2.1,cvt .i64 a.2.2.1,())) fun y_2=>j1 (!y_2.1) a y.1 y_1.1 else if eqi y_1.1.1 3=true then Option.bind (q1g_ (y.1.2.2.1,cvt .i64 a.2.1,cvt .i64 a.2.2.1,())) fun y_2=>j1 (!y_2.1) a y.1 y_1.1 else if eqi y_1.1.1 4=true then Option.bind (q1g_ (y.1.2.2.2,cvt .i64 a.2.1,cvt .i64 a.2.2.1,())) fun y_2=>j1 (!y_2.1) a y.1 y_1.1 else j1 false a y.1 y_1.1
def q4x_ (t60:Bool):Option (As [.int .u8]):=quk_ t60
def q15_ (t40:Bool) (a:Int×Int×Int×Int×List Int×List Bool) (v:(List YTT5×List Bool)×(List YTT5×List Bool)×(List YTT5×List Int)×List YTT5×List Int) (u:Int×Int):Option (As [.int .u8]):=qu3_ (q4x_) t40 a v u
def q4w_ (x:As [.pr YTT1 (.pr YTT1 (.pr YTT1 YTT1)),.pr (.int .u8) YTT4]):Option (As [.int .u8]):=qhr_ q15_ x.1 x.2.1
theorem q114_  (J t60):pfn Tryz.prog q7f_ 6 18446744073709551616 (Ev.get q7e_) 54 q3j_ J 509 [] (qix_ t60)=quk_ t60:=by kernel_rfl
theorem q110_  (J t40 a v u):pfn Tryz.prog q7f_ 6 18446744073709551616 (Ev.get q7e_) 54 q3j_ J 125 [] (qhy_ t40 a v u)=qu3_ (fun t60=>J 509 [] (qix_ t60)) t40 a v u:=by kernel_rfl
theorem q121_ (J:Orc (As [.int .u8])) (x:As [.pr YTT1 (.pr YTT1 (.pr YTT1 YTT1)),.pr (.int .u8) YTT4]):rfn Tryz.prog q7f_ 6 18446744073709551616 (Ev.get q7e_) 54 q3j_ J x=qhr_ (fun t40 a v u=>J 125 [] (qhy_ t40 a v u)) x.1 x.2.1:=by kernel_rfl
theorem q12i_  (t60):jfn Tryz.prog q7f_ 6 18446744073709551616 (Ev.get q7e_) 54 q3j_ 509 [] (qix_ t60)=q4x_ t60:=by
 rw [q6_ (by decide)]
 rw [q114_]
 rfl
theorem q10y_  (t40 a v u):jfn Tryz.prog q7f_ 6 18446744073709551616 (Ev.get q7e_) 54 q3j_ 125 [] (qhy_ t40 a v u)=q15_ t40 a v u:=by
 rw [q6_ (by decide)]
 have e2:(fun t60=>(jfn Tryz.prog q7f_ 6 18446744073709551616 (Ev.get q7e_) 54 q3j_) 509 [] (qix_ t60))=q4x_:=funext fun t60=>q12i_ t60
 rw [q110_,e2]
 rfl
theorem q148_ (x:As [.pr YTT1 (.pr YTT1 (.pr YTT1 YTT1)),.pr (.int .u8) YTT4]):evT Tryz.prog q7f_ 6 18446744073709551616 (Ev.get q7e_) 54 q3j_ x=q4w_ x:=by
 have e1:(fun t40 a v u=>(jfn Tryz.prog q7f_ 6 18446744073709551616 (Ev.get q7e_) 54 q3j_) 125 [] (qhy_ t40 a v u))=q15_:=by funext t40 a v u; exact q10y_ t40 a v u
 rw [qi_,q121_,e1]
 rfl
theorem qp4_:CtOk Tryz.prog (fun _=>True) 54 ⟨q3j_,q4w_⟩:=qd_ (q0_ qnn_ (q0_ qvi_ (q0_ qvm_ (q0_ qt9_ (q0_ qon_ (q0_ qos_ (q0_ qmk_ (q0_ qnx_ q3_)))))))) q148_
@[reducible] def qqv_:Sh:=⟨[.d (.int .u8),.d (.int .u8)],[],[.int .u8,.int .u8],[.d (.pr (.int .u8) YTT3)],[],0,[.pr (.int .u8) YTT3]⟩
def q11q_ (f except:Int):Option (As [.pr (.int .u8) YTT3]) :=
 some ((rem f 128,except,[],[],0,0),())
def qk_ (x:As [.int .u8,.int .u8]):Option (As [.pr (.int .u8) YTT3]):=q11q_ x.1 x.2.1
theorem qd1_:CtOk Tryz.prog (fun _=>True) 120 ⟨qqv_,qk_⟩:=ctn q3_ 6 fun J x=>by kernel_rfl
@[reducible] def q50_:Sh:=⟨[.d (.sl .bool),.d (.bool)],[],[.sl .bool,.bool],[.d (.int .i64)],[],0,[.int .i64]⟩
def q72_:Env:=(cts [])
def q76_:List (Nat×Hint):=[(26,⟨[],[0,1,7,8]⟩)]
def q4n_ (s:List Bool) (v:Bool) (t7 t8:Int):St:={ fr:=[(0,.d (.sl .bool) s),(1,.d .bool v),(7,.d (.int .i64) t7),(8,.d (.int .i64) t8)],nt:=19,up:=[],own:=[],nx:=0,log:=[],ln:=0 }
def q4k_ (self1:List Bool->Bool->Int->Int->Option (As [.int .i64])) (s:List Bool) (v:Bool) (t7 t8:Int):Option (As [.int .i64]) :=
 if lt t8 t7=true then Option.bind (at? s t8) fun y=>if Sx.eqb v y=true then some (t8,()) else self1 s v t7 (add .i64 t8 1) else some (-1,())
def q8p_ (j1:List Bool->Bool->Int->Int->Option (As [.int .i64])) (s:List Bool) (v:Bool):Option (As [.int .i64]) :=
 j1 s v (Int.ofNat (List.length s)) 0
def q6e_ (s:List Bool) (v:Bool) (t7 t8:Int):Option (As [.int .i64]) :=
 loopF (fun (self:(List Bool)×(Bool)×(Int)×(Int)->Option (As [.int .i64])) (s:(List Bool)×(Bool)×(Int)×(Int))=>q4k_ (fun s v t7 t8=>self (s,v,t7,t8)) s.1 s.2.1 s.2.2.1 s.2.2.2) 18446744073709551616 (s,v,t7,t8)
def qby_ (x:As [.sl .bool,.bool]):Option (As [.int .i64]):=q8p_ q6e_ x.1 x.2.1
theorem qu4_  (J w1 s v t7 t8):pfn Tryz.prog q72_ 6 18446744073709551616 (Ev.get q76_) 133 q50_ J 26 [w1] (q4n_ s v t7 t8)=q4k_ (fun s v t7 t8=>w1 (q4n_ s v t7 t8)) s v t7 t8:=by kernel_rfl
theorem qul_ (J:Orc (As [.int .i64])) (x:As [.sl .bool,.bool]):rfn Tryz.prog q72_ 6 18446744073709551616 (Ev.get q76_) 133 q50_ J x=q8p_ (fun s v t7 t8=>J 26 [] (q4n_ s v t7 t8)) x.1 x.2.1:=by kernel_rfl
theorem qux_  (s v t7 t8):jfn Tryz.prog q72_ 6 18446744073709551616 (Ev.get q76_) 133 q50_ 26 [] (q4n_ s v t7 t8)=q6e_ s v t7 t8:=by
 rw [q6_ (by decide)]
 rw [qo_ (by kernel_rfl)]
 refine qj_ (σ:=(List Bool)×(Bool)×(Int)×(Int)) (mk:=fun s=>q4n_ s.1 s.2.1 s.2.2.1 s.2.2.2) (fun w1 s=>?_) 18446744073709551616 (s,v,t7,t8)
 refine (qu4_ _ w1 s.1 s.2.1 s.2.2.1 s.2.2.2).trans ?_
 rfl
theorem qv7_ (x:As [.sl .bool,.bool]):evT Tryz.prog q72_ 6 18446744073709551616 (Ev.get q76_) 133 q50_ x=qby_ x:=by
 have e1:(fun s v t7 t8=>(jfn Tryz.prog q72_ 6 18446744073709551616 (Ev.get q76_) 133 q50_) 26 [] (q4n_ s v t7 t8))=q6e_:=by funext s v t7 t8; exact qux_ s v t7 t8
 rw [qi_,qul_,e1]
 rfl
theorem qv0_:CtOk Tryz.prog (fun _=>True) 133 ⟨q50_,qby_⟩:=qd_ q3_ qv7_
@[reducible] def q7l_:Sh:=⟨[.d (.sl .bool),.d (.bool)],[],[.sl .bool,.bool],[.d (.bool)],[],0,[.bool]⟩
def qar_ (s:List Bool) (v:Bool):Option (As [.bool]) :=
 Option.bind (qby_ (s,v,())) fun y=>some (ge y.1 0,())
def q2w_ (x:As [.sl .bool,.bool]):Option (As [.bool]):=qar_ x.1 x.2.1
theorem qai_:CtOk Tryz.prog (fun _=>True) 70 ⟨q7l_,q2w_⟩:=ctn (q0_ qv0_ q3_) 6 fun J x=>by kernel_rfl
@[reducible] def qvx_:Sh:=⟨[.d (.int .u32)],[],[.int .u32],[.d (.int .u16),.d (.int .u16)],[],0,[.int .u16,.int .u16]⟩
def qp7_ (x:Int):Option (As [.int .u16,.int .u16]) :=
 some (cvt .u16 (Sx.shr .u32 x 16),cvt .u16 x,())
def q9p_ (x:As [.int .u32]):Option (As [.int .u16,.int .u16]):=qp7_ x.1
theorem quj_:CtOk Tryz.prog (fun _=>True) 71 ⟨qvx_,q9p_⟩:=ctn q3_ 6 fun J x=>by kernel_rfl
@[reducible] def qs0_:Sh:=⟨[.d (.int .u16)],[],[.int .u16],[.d (.pr (.int .u16) (.int .i64))],[],0,[.pr (.int .u16) (.int .i64)]⟩
def q14r_ (owner:Int):Option (As [.pr (.int .u16) (.int .i64)]) :=
 some ((owner,-1),())
def q97_ (x:As [.int .u16]):Option (As [.pr (.int .u16) (.int .i64)]):=q14r_ x.1
theorem qkg_:CtOk Tryz.prog (fun _=>True) 207 ⟨qs0_,q97_⟩:=ctn q3_ 6 fun J x=>by kernel_rfl
@[reducible] def q14c_:Sh:=⟨[.d (.pr (.int .u16) (.int .i64))],[],[.pr (.int .u16) (.int .i64)],[.d (.bool)],[],0,[.bool]⟩
def qp1_ (l:Int×Int):Option (As [.bool]) :=
 if eqi l.1 0=true then some (eqi l.1 0 && (eqi l.2 0 && true),()) else if ge l.2 1=true then some (true,()) else Option.bind (q97_ (l.1,())) fun y=>some (eqi l.1 y.1.1 && (eqi l.2 y.1.2 && true),())
def qtp_ (x:As [.pr (.int .u16) (.int .i64)]):Option (As [.bool]):=qp1_ x.1
theorem q12h_:CtOk Tryz.prog (fun _=>True) 197 ⟨q14c_,qtp_⟩:=ctn (q0_ qkg_ q3_) 6 fun J x=>by kernel_rfl
@[reducible] def qnl_:Sh:=⟨[.d (.pr (.int .u16) (.int .i64))],[],[.pr (.int .u16) (.int .i64)],[.d (.pr (.int .u16) (.int .i64))],[],0,[.pr (.int .u16) (.int .i64)]⟩
def qld_ (l:Int×Int):Option (As [.pr (.int .u16) (.int .i64)]) :=
 Option.bind (qtp_ (l,())) fun y=>if (!y.1)=true then some ((0,0),()) else some (l,())
def q7k_ (x:As [.pr (.int .u16) (.int .i64)]):Option (As [.pr (.int .u16) (.int .i64)]):=qld_ x.1
theorem qeu_:CtOk Tryz.prog (fun _=>True) 167 ⟨qnl_,q7k_⟩:=ctn (q0_ q12h_ q3_) 6 fun J x=>by kernel_rfl
@[reducible] def qa3_:Sh:=⟨[.d (.pr (.int .u16) (.int .i64))],[],[.pr (.int .u16) (.int .i64)],[.d (.bool)],[],0,[.bool]⟩
def qrd_ (l:Int×Int):Option (As [.bool]) :=
 Option.bind (q7k_ (l,())) fun y=>some (eqi y.1.1 0 && (eqi y.1.2 0 && true),())
def q4g_ (x:As [.pr (.int .u16) (.int .i64)]):Option (As [.bool]):=qrd_ x.1
theorem qbi_:CtOk Tryz.prog (fun _=>True) 113 ⟨qa3_,q4g_⟩:=ctn (q0_ qeu_ q3_) 6 fun J x=>by kernel_rfl
@[reducible] def q60_:Sh:=⟨[.d (.pr (.int .u32) (.pr (.ar 8 .bool) (.ar 8 YTT8)))],[],[.pr (.int .u32) (.pr (.ar 8 .bool) (.ar 8 YTT8))],[.d (.int .i64)],[],0,[.int .i64]⟩
def qff_:Env:=(cts [(2000033,Ev.bxCt)])
def qg0_:List (Nat×Hint):=[(58,⟨[],[3,7,8]⟩)]
def q9x_ (n:Int) (t7:List Bool) (t8:Int):St:={ fr:=[(3,.d (.int .i64) n),(7,.d (.ar 8 .bool) t7),(8,.d (.int .i64) t8)],nt:=16,up:=[],own:=[],nx:=0,log:=[],ln:=0 }
def q9q_ (self1:Int->List Bool->Int->Option (As [.int .i64])) (n:Int) (t7:List Bool) (t8:Int):Option (As [.int .i64]) :=
 if lt t8 8=true then need (lt t8 8) (Option.bind (at? t7 t8) fun y=>if y=true then self1 (add .i64 n 1) t7 (add .i64 t8 1) else self1 n t7 (add .i64 t8 1)) else some (n,())
def qud_ (j1:Int->List Bool->Int->Option (As [.int .i64])) (s:Int×List Bool×List (Int×List Int)):Option (As [.int .i64]) :=
 j1 0 s.2.1 0
def qdn_ (n:Int) (t7:List Bool) (t8:Int):Option (As [.int .i64]) :=
 loopF (fun (self:(Int)×(List Bool)×(Int)->Option (As [.int .i64])) (s:(Int)×(List Bool)×(Int))=>q9q_ (fun n t7 t8=>self (n,t7,t8)) s.1 s.2.1 s.2.2) 18446744073709551616 (n,t7,t8)
def q5t_ (x:As [.pr (.int .u32) (.pr (.ar 8 .bool) (.ar 8 YTT8))]):Option (As [.int .i64]):=qud_ qdn_ x.1
theorem q136_  (J w1 n t7 t8):pfn Tryz.prog qff_ 6 18446744073709551616 (Ev.get qg0_) 142 q60_ J 58 [w1] (q9x_ n t7 t8)=q9q_ (fun n t7 t8=>w1 (q9x_ n t7 t8)) n t7 t8:=by kernel_rfl
theorem q128_ (J:Orc (As [.int .i64])) (x:As [.pr (.int .u32) (.pr (.ar 8 .bool) (.ar 8 YTT8))]):rfn Tryz.prog qff_ 6 18446744073709551616 (Ev.get qg0_) 142 q60_ J x=qud_ (fun n t7 t8=>J 58 [] (q9x_ n t7 t8)) x.1:=by kernel_rfl
theorem q11z_  (n t7 t8):jfn Tryz.prog qff_ 6 18446744073709551616 (Ev.get qg0_) 142 q60_ 58 [] (q9x_ n t7 t8)=qdn_ n t7 t8:=by
 rw [q6_ (by decide)]
 rw [qo_ (by kernel_rfl)]
 refine qj_ (σ:=(Int)×(List Bool)×(Int)) (mk:=fun s=>q9x_ s.1 s.2.1 s.2.2) (fun w1 s=>?_) 18446744073709551616 (n,t7,t8)
 refine (q136_ _ w1 s.1 s.2.1 s.2.2).trans ?_
 rfl
theorem q15i_ (x:As [.pr (.int .u32) (.pr (.ar 8 .bool) (.ar 8 YTT8))]):evT Tryz.prog qff_ 6 18446744073709551616 (Ev.get qg0_) 142 q60_ x=q5t_ x:=by
 have e1:(fun n t7 t8=>(jfn Tryz.prog qff_ 6 18446744073709551616 (Ev.get qg0_) 142 q60_) 58 [] (q9x_ n t7 t8))=qdn_:=by funext n t7 t8; exact q11z_ n t7 t8
 rw [qi_,q128_,e1]
 rfl
theorem qol_:CtOk Tryz.prog (fun _=>True) 142 ⟨q60_,q5t_⟩:=qd_ (q0_ Ev.bx_ok q3_) q15i_
@[reducible] def q84_:Sh:=⟨[.d (.pr (.sl (.int .u16)) YTT0)],[],[.pr (.sl (.int .u16)) YTT0],[.d (.sl (.int .u16))],[],0,[.sl (.int .u16)]⟩
def qd7_:Env:=(cts [(2000035,Ev.bxCt),(71,(⟨qvx_,q9p_⟩:Ct)),(113,(⟨qa3_,q4g_⟩:Ct)),(142,(⟨q60_,q5t_⟩:Ct))])
def qdy_:List (Nat×Hint):=[(7,⟨[],[1,3]⟩)]
def qgl_ (a:List Int×(Int×Int)×Int×Int×Int×YTT9×Int) (owner:Int):St:={ fr:=[(1,.pe (.pr (.sl (.int .u16)) YTT0) a),(3,.d (.int .u16) owner)],nt:=39,up:=[],own:=[],nx:=0,log:=[],ln:=0 }
def qgv_ (a:List Int×(Int×Int)×Int×Int×Int×YTT9×Int) (owner:Int):Option (As [.sl (.int .u16)]) :=
 Option.bind (q9p_ (a.2.2.2.1,())) fun y=>Option.bind (q9p_ (a.2.2.2.2.1,())) fun y_1=>Option.bind (q5t_ (a.2.2.2.2.2.1,())) fun y_2=>some ([owner,cvt .u16 a.2.2.1,y.1,y.2.1,y_1.1,y_1.2.1,cvt .u16 y_2.1,0],())
def qgq_ (j1:List Int×(Int×Int)×Int×Int×Int×YTT9×Int->Int->Option (As [.sl (.int .u16)])) (a:List Int×(Int×Int)×Int×Int×Int×YTT9×Int):Option (As [.sl (.int .u16)]) :=
 Option.bind (q4g_ (a.2.1,())) fun y=>if y.1=true then j1 a 0 else j1 a a.2.1.1
def qbw_ (a:List Int×(Int×Int)×Int×Int×Int×YTT9×Int) (owner:Int):Option (As [.sl (.int .u16)]):=qgv_ a owner
def q5_ (x:As [.pr (.sl (.int .u16)) YTT0]):Option (As [.sl (.int .u16)]):=qgq_ qbw_ x.1
theorem q10k_  (J a owner):pfn Tryz.prog qd7_ 6 18446744073709551616 (Ev.get qdy_) 112 q84_ J 7 [] (qgl_ a owner)=qgv_ a owner:=by kernel_rfl
theorem q109_ (J:Orc (As [.sl (.int .u16)])) (x:As [.pr (.sl (.int .u16)) YTT0]):rfn Tryz.prog qd7_ 6 18446744073709551616 (Ev.get qdy_) 112 q84_ J x=qgq_ (fun a owner=>J 7 [] (qgl_ a owner)) x.1:=by kernel_rfl
theorem q101_  (a owner):jfn Tryz.prog qd7_ 6 18446744073709551616 (Ev.get qdy_) 112 q84_ 7 [] (qgl_ a owner)=qbw_ a owner:=by
 rw [q6_ (by decide)]
 rw [q10k_]
 rfl
theorem q11w_ (x:As [.pr (.sl (.int .u16)) YTT0]):evT Tryz.prog qd7_ 6 18446744073709551616 (Ev.get qdy_) 112 q84_ x=q5_ x:=by
 have e1:(fun a owner=>(jfn Tryz.prog qd7_ 6 18446744073709551616 (Ev.get qdy_) 112 q84_) 7 [] (qgl_ a owner))=qbw_:=by funext a owner; exact q101_ a owner
 rw [qi_,q109_,e1]
 rfl
theorem q10a_:CtOk Tryz.prog (fun _=>True) 112 ⟨q84_,q5_⟩:=qd_ (q0_ Ev.bx_ok (q0_ quj_ (q0_ qbi_ (q0_ qol_ q3_)))) q11w_
@[reducible] def qoi_:Sh:=⟨[.d (.int .i64)],[],[.int .i64],[.d (.bool)],[],0,[.bool]⟩
def qo8_ (n:Int):Option (As [.bool]) :=
 if ge n 0=true then some (lt n 8,()) else some (false,())
def qaf_ (x:As [.int .i64]):Option (As [.bool]):=qo8_ x.1
theorem qtd_:CtOk Tryz.prog (fun _=>True) 75 ⟨qoi_,qaf_⟩:=ctn q3_ 6 fun J x=>by kernel_rfl
@[reducible] def quo_:Sh:=⟨[.d (.int .u16),.d (.int .u32),.d (.int .i64),.d YTT8],[],[.int .u16,.int .u32,.int .i64,.pr (.int .i64) (.sl (.int .u16))],[.d (.sl (.int .u16))],[],0,[.sl (.int .u16)]⟩
def qma_ (owner tx n:Int) (x:Int×List Int):Option (As [.sl (.int .u16)]) :=
 Option.bind (q9p_ (tx,())) fun y=>need (small (0 + Nat.succ (Nat.succ (Nat.succ (Nat.succ 0))))) (Option.bind (q8j_ (x,())) fun y_1=>need (small (Nat.succ (Nat.succ (Nat.succ (Nat.succ 0))) + List.length y_1.1)) (some (owner::y.1::y.2.1::cvt .u16 n::y_1.1,())))
def qh0_ (x:As [.int .u16,.int .u32,.int .i64,.pr (.int .i64) (.sl (.int .u16))]):Option (As [.sl (.int .u16)]):=qma_ x.1 x.2.1 x.2.2.1 x.2.2.2.1
theorem qzv_:CtOk Tryz.prog (fun _=>True) 77 ⟨quo_,qh0_⟩:=ctn (q0_ quj_ (q0_ qmi_ q3_)) 6 fun J x=>by kernel_rfl
@[reducible] def qab_:Sh:=⟨[.d (.pr (.int .u32) (.pr (.ar 8 .bool) (.ar 8 YTT8))),.d (.int .u16),.d (.int .i64)],[],[.pr (.int .u32) (.pr (.ar 8 .bool) (.ar 8 YTT8)),.int .u16,.int .i64],[.d (.sl (.int .u16))],[],0,[.sl (.int .u16)]⟩
def qhe_:Env:=(cts [(2000033,Ev.bxCt),(75,(⟨qoi_,qaf_⟩:Ct)),(77,(⟨quo_,qh0_⟩:Ct))])
def qhb_:List (Nat×Hint):=[(6,⟨[],[1,2,3,16]⟩)]
def qkk_ (owner n:Int) (s:Int×List Bool×List (Int×List Int)) (t16:Bool):St:={ fr:=[(1,.d (.int .u16) owner),(2,.d (.int .i64) n),(3,.pe (.pr (.int .u32) (.pr (.ar 8 .bool) (.ar 8 YTT8))) s),(16,.d .bool t16)],nt:=27,up:=[],own:=[],nx:=0,log:=[],ln:=0 }
def qkw_ (owner n:Int) (s:Int×List Bool×List (Int×List Int)) (t16:Bool):Option (As [.sl (.int .u16)]) :=
 if t16=true then some ([0,0,0,0,0,0,0,0,0,0,0,0,0,0,0,0,0,0,0,0],()) else Option.bind (at? s.2.2 n) fun y=>Option.bind (qh0_ (owner,s.1,n,y,())) fun y=>some (y.1,())
def qkf_ (j1:Int->Int->Int×List Bool×List (Int×List Int)->Bool->Option (As [.sl (.int .u16)])) (s:Int×List Bool×List (Int×List Int)) (owner n:Int):Option (As [.sl (.int .u16)]) :=
 Option.bind (qaf_ (n,())) fun y=>if (!y.1)=true then j1 owner n s true else Option.bind (at? s.2.1 n) fun y=>j1 owner n s !y
def ql3_ (owner n:Int) (s:Int×List Bool×List (Int×List Int)) (t16:Bool):Option (As [.sl (.int .u16)]):=qkw_ owner n s t16
def qo3_ (x:As [.pr (.int .u32) (.pr (.ar 8 .bool) (.ar 8 YTT8)),.int .u16,.int .i64]):Option (As [.sl (.int .u16)]):=qkf_ ql3_ x.1 x.2.1 x.2.2.1
theorem q145_  (J owner n s t16):pfn Tryz.prog qhe_ 6 18446744073709551616 (Ev.get qhb_) 114 qab_ J 6 [] (qkk_ owner n s t16)=qkw_ owner n s t16:=by kernel_rfl
theorem q13n_ (J:Orc (As [.sl (.int .u16)])) (x:As [.pr (.int .u32) (.pr (.ar 8 .bool) (.ar 8 YTT8)),.int .u16,.int .i64]):rfn Tryz.prog qhe_ 6 18446744073709551616 (Ev.get qhb_) 114 qab_ J x=qkf_ (fun owner n s t16=>J 6 [] (qkk_ owner n s t16)) x.1 x.2.1 x.2.2.1:=by kernel_rfl
theorem q15h_  (owner n s t16):jfn Tryz.prog qhe_ 6 18446744073709551616 (Ev.get qhb_) 114 qab_ 6 [] (qkk_ owner n s t16)=ql3_ owner n s t16:=by
 rw [q6_ (by decide)]
 rw [q145_]
 rfl
theorem q18t_ (x:As [.pr (.int .u32) (.pr (.ar 8 .bool) (.ar 8 YTT8)),.int .u16,.int .i64]):evT Tryz.prog qhe_ 6 18446744073709551616 (Ev.get qhb_) 114 qab_ x=qo3_ x:=by
 have e1:(fun owner n s t16=>(jfn Tryz.prog qhe_ 6 18446744073709551616 (Ev.get qhb_) 114 qab_) 6 [] (qkk_ owner n s t16))=ql3_:=by funext owner n s t16; exact q15h_ owner n s t16
 rw [qi_,q13n_,e1]
 rfl
theorem q151_:CtOk Tryz.prog (fun _=>True) 114 ⟨qab_,qo3_⟩:=qd_ (q0_ Ev.bx_ok (q0_ qtd_ (q0_ qzv_ q3_))) q18t_
@[reducible] def q2_:Sh:=⟨[.d (.pr (.int .u8) (.pr (.int .u8) (.pr (.pr (.sl (.int .u16)) YTT0) (.sl .bool))))],[],[.pr (.int .u8) (.pr (.int .u8) (.pr (.pr (.sl (.int .u16)) YTT0) (.sl .bool)))],[.d (.pr (.sl .bool) YTT10)],[],0,[.pr (.sl .bool) YTT10]⟩
def q5l_:Env:=(cts [(2000038,Ev.bxCt),(70,(⟨q7l_,q2w_⟩:Ct)),(112,(⟨q84_,q5_⟩:Ct)),(113,(⟨qa3_,q4g_⟩:Ct)),(114,(⟨qab_,qo3_⟩:Ct))])
def q5j_:List (Nat×Hint):=[(3,⟨[],[1,2,3]⟩),(15,⟨[],[1,2,3]⟩),(4090,⟨[],[1,2,3,57]⟩)]
def qo6_ (s:Int×Int×YTT2×List Bool) (m:List Int) (o o_2:List Bool) (o_3:List Int):St:={ fr:=[(1,.pe (.pr (.int .u8) (.pr (.int .u8) (.pr (.pr (.sl (.int .u16)) YTT0) (.sl .bool)))) s),(2,.pb 0 0),(3,.pb 1 0)],nt:=78,up:=[],own:=[(0,.box 96 [.k (Go.Value.slice Option.none 0 0),.k (Go.Value.slice Option.none 0 0),.k (Go.Value.slice Option.none 0 0),.k (Go.Value.slice Option.none 0 0)]),(1,.box 96 [.row 2,.row 3,.row 4,.d (.sl (.int .u16)) m]),(2,.row .bool 4 o),(3,.row .bool 4 o_2),(4,.row (.int .u16) 23 o_3)],nx:=5,log:=[],ln:=0 }
def qmo_ (s:Int×Int×YTT2×List Bool) (m:List Int) (o o_2:List Bool) (o_3:List Int):St:={ fr:=[(1,.pe (.pr (.int .u8) (.pr (.int .u8) (.pr (.pr (.sl (.int .u16)) YTT0) (.sl .bool)))) s),(2,.pb 0 0),(3,.pb 1 0)],nt:=78,up:=[],own:=[(0,.box 96 [.k (Go.Value.slice Option.none 0 0),.k (Go.Value.slice Option.none 0 0),.k (Go.Value.slice Option.none 0 0),.k (Go.Value.slice Option.none 0 0)]),(1,.box 96 [.row 2,.row 3,.row 4,.d (.sl (.int .u16)) m]),(2,.row .bool 4 o),(3,.row .bool 4 o_2),(4,.row (.int .u16) 23 o_3)],nx:=5,log:=[],ln:=0 }
def qdp_ (s:Int×Int×YTT2×List Bool) (t57:Int) (m:List Int) (o o_2:List Bool) (o_3:List Int):St:={ fr:=[(1,.pe (.pr (.int .u8) (.pr (.int .u8) (.pr (.pr (.sl (.int .u16)) YTT0) (.sl .bool)))) s),(2,.pb 0 0),(3,.pb 1 0),(57,.d (.int .i64) t57)],nt:=78,up:=[],own:=[(0,.box 96 [.k (Go.Value.slice Option.none 0 0),.k (Go.Value.slice Option.none 0 0),.k (Go.Value.slice Option.none 0 0),.k (Go.Value.slice Option.none 0 0)]),(1,.box 96 [.row 2,.row 3,.row 4,.d (.sl (.int .u16)) m]),(2,.row .bool 4 o),(3,.row .bool 4 o_2),(4,.row (.int .u16) 23 o_3)],nx:=5,log:=[],ln:=0 }
def qo1_ (j2:Int×Int×YTT2×List Bool->List Int->List Bool->List Bool->List Int->Option (As [.pr (.sl .bool) YTT10])) (s:Int×Int×YTT2×List Bool) (m:List Int) (o o_2:List Bool) (o_3:List Int):Option (As [.pr (.sl .bool) YTT10]) :=
 need (le (Int.ofNat (0 + List.length o)) (Int.ofNat (List.length o))) (if le s.2.2.1.2.2.1 2=true then Option.bind (at? o_2 s.2.2.1.2.2.1) fun x=>Option.bind (at? o_2 s.2.2.1.2.2.1) fun x=>j2 s m (List.take (Int.toNat (Int.ofNat (List.length o))) s.2.2.2++List.drop (0 + List.length (List.take (Int.toNat (Int.ofNat (List.length o))) s.2.2.2)) o) (List.set o_2 (Int.toNat s.2.2.1.2.2.1) true) o_3 else j2 s m (List.take (Int.toNat (Int.ofNat (List.length o))) s.2.2.2++List.drop (0 + List.length (List.take (Int.toNat (Int.ofNat (List.length o))) s.2.2.2)) o) o_2 o_3)
def qnq_ (j3:Int×Int×YTT2×List Bool->Int->List Int->List Bool->List Bool->List Int->Option (As [.pr (.sl .bool) YTT10])) (s:Int×Int×YTT2×List Bool) (m:List Int) (o o_2:List Bool) (o_3:List Int):Option (As [.pr (.sl .bool) YTT10]) :=
 Option.bind (q4g_ (s.2.2.1.2.1,())) fun y=>Option.bind (at? o_2 4) fun x=>Option.bind (at? o_2 4) fun x=>Option.bind (q2w_ (List.take 8 (List.drop 0 s.2.2.1.2.2.2.2.2.1.2.1),true,())) fun y_1=>Option.bind (at? (List.set o_2 4 !y.1) 5) fun x=>Option.bind (at? (List.set o_2 4 !y.1) 5) fun x=>need (le (Int.ofNat (List.length o_3)) (Int.ofNat (List.length o_3))) (need (le 64 (Int.ofNat (List.length o_3 + 0))) (need (le 64 (Int.ofNat (List.length o_3))) (need (le 256 (Int.ofNat (List.length (List.take 64 s.2.2.1.1++List.drop (0 + List.length (List.take 64 s.2.2.1.1)) o_3)))) (need (le (Int.ofNat (List.length (List.take 64 s.2.2.1.1++List.drop (0 + List.length (List.take 64 s.2.2.1.1)) o_3))) (Int.ofNat (List.length (List.take 64 s.2.2.1.1++List.drop (0 + List.length (List.take 64 s.2.2.1.1)) o_3)))) (need (le (256 + (Int.ofNat (List.length (List.take 64 s.2.2.1.1++List.drop (0 + List.length (List.take 64 s.2.2.1.1)) o_3)) - 256)) (Int.ofNat (List.length (List.take 64 s.2.2.1.1++List.drop (0 + List.length (List.take 64 s.2.2.1.1)) o_3)))) (j3 s 0 m o (List.set (List.set o_2 4 !y.1) 5 y_1.1) (List.take 256 (List.take 64 s.2.2.1.1++List.drop (0 + List.length (List.take 64 s.2.2.1.1)) o_3)++List.take (Int.toNat (Int.ofNat (List.length (List.take 64 s.2.2.1.1++List.drop (0 + List.length (List.take 64 s.2.2.1.1)) o_3)) - 256)) m++List.drop (256 + List.length (List.take (Int.toNat (Int.ofNat (List.length (List.take 64 s.2.2.1.1++List.drop (0 + List.length (List.take 64 s.2.2.1.1)) o_3)) - 256)) m)) (List.take 64 s.2.2.1.1++List.drop (0 + List.length (List.take 64 s.2.2.1.1)) o_3))))))))
def qcz_ (self3:Int×Int×YTT2×List Bool->Int->List Int->List Bool->List Bool->List Int->Option (As [.pr (.sl .bool) YTT10])) (s:Int×Int×YTT2×List Bool) (t57:Int) (m:List Int) (o o_2:List Bool) (o_3:List Int):Option (As [.pr (.sl .bool) YTT10]) :=
 if lt t57 8=true then need (ge (add .i64 512 (mul .i64 t57 32)) 0) (need (le (add .i64 512 (mul .i64 t57 32)) (Int.ofNat (List.length o_3))) (need (le (Int.ofNat (List.length o_3)) (Int.ofNat (List.length o_3))) (Option.bind (at? m 0) fun y=>Option.bind (qo3_ (s.2.2.1.2.2.2.2.2.1,y,t57,())) fun y=>need (le (add .i64 512 (mul .i64 t57 32) + (Int.ofNat (List.length o_3) - add .i64 512 (mul .i64 t57 32))) (Int.ofNat (List.length o_3))) (self3 s (add .i64 t57 1) m o o_2 (List.take (Int.toNat (add .i64 512 (mul .i64 t57 32))) o_3++List.take (Int.toNat (Int.ofNat (List.length o_3) - add .i64 512 (mul .i64 t57 32))) y.1++List.drop (Int.toNat (add .i64 512 (mul .i64 t57 32)) + List.length (List.take (Int.toNat (Int.ofNat (List.length o_3) - add .i64 512 (mul .i64 t57 32))) y.1)) o_3))))) else some ((o,o_2,o_3,m),())
def qmq_ (j1:Int×Int×YTT2×List Bool->List Int->List Bool->List Bool->List Int->Option (As [.pr (.sl .bool) YTT10])) (s:Int×Int×YTT2×List Bool):Option (As [.pr (.sl .bool) YTT10]) :=
 amb (eqAs q2_.rs) [amb (eqAs q2_.rs) [amb (eqAs q2_.rs) [amb (eqAs q2_.rs) [Option.bind (q5_ (s.2.2.1,())) fun y=>j1 s y.1 (List.replicate 16 false) (List.replicate 8 false) (List.replicate 756 0),Option.bind (q5_ (s.2.2.1,())) fun y=>j1 s y.1 (List.replicate 16 false) (List.replicate 8 false) (List.replicate 756 0)],amb (eqAs q2_.rs) [Option.bind (q5_ (s.2.2.1,())) fun y=>amb (eqAs q2_.rs) [j1 s y.1 (List.replicate 16 false) (List.replicate 8 false) (List.replicate 756 0),j1 s y.1 (List.replicate 16 false) (List.replicate 8 false) (List.replicate 756 0)],amb (eqAs q2_.rs) [Option.bind (q5_ (s.2.2.1,())) fun y=>j1 s y.1 (List.replicate 16 false) (List.replicate 8 false) (List.replicate 756 0),Option.bind (q5_ (s.2.2.1,())) fun y=>j1 s y.1 (List.replicate 16 false) (List.replicate 8 false) (List.replicate 756 0)]]],amb (eqAs q2_.rs) [amb (eqAs q2_.rs) [amb (eqAs q2_.rs) [Option.bind (q5_ (s.2.2.1,())) fun y=>j1 s y.1 (List.replicate 16 false) (List.replicate 8 false) (List.replicate 756 0),Option.bind (q5_ (s.2.2.1,())) fun y=>j1 s y.1 (List.replicate 16 false) (List.replicate 8 false) (List.replicate 756 0)],amb (eqAs q2_.rs) [Option.bind (q5_ (s.2.2.1,())) fun y=>amb (eqAs q2_.rs) [j1 s y.1 (List.replicate 16 false) (List.replicate 8 false) (List.replicate 756 0),j1 s y.1 (List.replicate 16 false) (List.replicate 8 false) (List.replicate 756 0)],amb (eqAs q2_.rs) [Option.bind (q5_ (s.2.2.1,())) fun y=>j1 s y.1 (List.replicate 16 false) (List.replicate 8 false) (List.replicate 756 0),Option.bind (q5_ (s.2.2.1,())) fun y=>j1 s y.1 (List.replicate 16 false) (List.replicate 8 false) (List.replicate 756 0)]]],amb (eqAs q2_.rs) [Option.bind (q5_ (s.2.2.1,())) fun y=>amb (eqAs q2_.rs) [amb (eqAs q2_.rs) [j1 s y.1 (List.replicate 16 false) (List.replicate 8 false) (List.replicate 756 0),j1 s y.1 (List.replicate 16 false) (List.replicate 8 false) (List.replicate 756 0)],amb (eqAs q2_.rs) [amb (eqAs q2_.rs) [j1 s y.1 (List.replicate 16 false) (List.replicate 8 false) (List.replicate 756 0),j1 s y.1 (List.replicate 16 false) (List.replicate 8 false) (List.replicate 756 0)],amb (eqAs q2_.rs) [j1 s y.1 (List.replicate 16 false) (List.replicate 8 false) (List.replicate 756 0),j1 s y.1 (List.replicate 16 false) (List.replicate 8 false) (List.replicate 756 0)]]],amb (eqAs q2_.rs) [amb (eqAs q2_.rs) [Option.bind (q5_ (s.2.2.1,())) fun y=>j1 s y.1 (List.replicate 16 false) (List.replicate 8 false) (List.replicate 756 0),Option.bind (q5_ (s.2.2.1,())) fun y=>j1 s y.1 (List.replicate 16 false) (List.replicate 8 false) (List.replicate 756 0)],amb (eqAs q2_.rs) [amb (eqAs q2_.rs) [Option.bind (q5_ (s.2.2.1,())) fun y=>j1 s y.1 (List.replicate 16 false) (List.replicate 8 false) (List.replicate 756 0),Option.bind (q5_ (s.2.2.1,())) fun y=>j1 s y.1 (List.replicate 16 false) (List.replicate 8 false) (List.replicate 756 0)],Option.bind (q5_ (s.2.2.1,())) fun y=>amb (eqAs q2_.rs) [j1 s y.1 (List.replicate 16 false) (List.replicate 8 false) (List.replicate 756 0),j1 s y.1 (List.replicate 16 false) (List.replicate 8 false) (List.replicate 756 0)]]]]]],amb (eqAs q2_.rs) [amb (eqAs q2_.rs) [amb (eqAs q2_.rs) [amb (eqAs q2_.rs) [Option.bind (q5_ (s.2.2.1,())) fun y=>j1 s y.1 (List.replicate 16 false) (List.replicate 8 false) (List.replicate 756 0),Option.bind (q5_ (s.2.2.1,())) fun y=>j1 s y.1 (List.replicate 16 false) (List.replicate 8 false) (List.replicate 756 0)],amb (eqAs q2_.rs) [Option.bind (q5_ (s.2.2.1,())) fun y=>amb (eqAs q2_.rs) [j1 s y.1 (List.replicate 16 false) (List.replicate 8 false) (List.replicate 756 0),j1 s y.1 (List.replicate 16 false) (List.replicate 8 false) (List.replicate 756 0)],amb (eqAs q2_.rs) [Option.bind (q5_ (s.2.2.1,())) fun y=>j1 s y.1 (List.replicate 16 false) (List.replicate 8 false) (List.replicate 756 0),Option.bind (q5_ (s.2.2.1,())) fun y=>j1 s y.1 (List.replicate 16 false) (List.replicate 8 false) (List.replicate 756 0)]]],amb (eqAs q2_.rs) [amb (eqAs q2_.rs) [amb (eqAs q2_.rs) [Option.bind (q5_ (s.2.2.1,())) fun y=>j1 s y.1 (List.replicate 16 false) (List.replicate 8 false) (List.replicate 756 0),Option.bind (q5_ (s.2.2.1,())) fun y=>j1 s y.1 (List.replicate 16 false) (List.replicate 8 false) (List.replicate 756 0)],amb (eqAs q2_.rs) [Option.bind (q5_ (s.2.2.1,())) fun y=>amb (eqAs q2_.rs) [j1 s y.1 (List.replicate 16 false) (List.replicate 8 false) (List.replicate 756 0),j1 s y.1 (List.replicate 16 false) (List.replicate 8 false) (List.replicate 756 0)],amb (eqAs q2_.rs) [Option.bind (q5_ (s.2.2.1,())) fun y=>j1 s y.1 (List.replicate 16 false) (List.replicate 8 false) (List.replicate 756 0),Option.bind (q5_ (s.2.2.1,())) fun y=>j1 s y.1 (List.replicate 16 false) (List.replicate 8 false) (List.replicate 756 0)]]],amb (eqAs q2_.rs) [Option.bind (q5_ (s.2.2.1,())) fun y=>amb (eqAs q2_.rs) [amb (eqAs q2_.rs) [j1 s y.1 (List.replicate 16 false) (List.replicate 8 false) (List.replicate 756 0),j1 s y.1 (List.replicate 16 false) (List.replicate 8 false) (List.replicate 756 0)],amb (eqAs q2_.rs) [amb (eqAs q2_.rs) [j1 s y.1 (List.replicate 16 false) (List.replicate 8 false) (List.replicate 756 0),j1 s y.1 (List.replicate 16 false) (List.replicate 8 false) (List.replicate 756 0)],amb (eqAs q2_.rs) [j1 s y.1 (List.replicate 16 false) (List.replicate 8 false) (List.replicate 756 0),j1 s y.1 (List.replicate 16 false) (List.replicate 8 false) (List.replicate 756 0)]]],amb (eqAs q2_.rs) [amb (eqAs q2_.rs) [Option.bind (q5_ (s.2.2.1,())) fun y=>j1 s y.1 (List.replicate 16 false) (List.replicate 8 false) (List.replicate 756 0),Option.bind (q5_ (s.2.2.1,())) fun y=>j1 s y.1 (List.replicate 16 false) (List.replicate 8 false) (List.replicate 756 0)],amb (eqAs q2_.rs) [amb (eqAs q2_.rs) [Option.bind (q5_ (s.2.2.1,())) fun y=>j1 s y.1 (List.replicate 16 false) (List.replicate 8 false) (List.replicate 756 0),Option.bind (q5_ (s.2.2.1,())) fun y=>j1 s y.1 (List.replicate 16 false) (List.replicate 8 false) (List.replicate 756 0)],Option.bind (q5_ (s.2.2.1,())) fun y=>amb (eqAs q2_.rs) [j1 s y.1 (List.replicate 16 false) (List.replicate 8 false) (List.replicate 756 0),j1 s y.1 (List.replicate 16 false) (List.replicate 8 false) (List.replicate 756 0)]]]]]],amb (eqAs q2_.rs) [amb (eqAs q2_.rs) [amb (eqAs q2_.rs) [amb (eqAs q2_.rs) [Option.bind (q5_ (s.2.2.1,())) fun y=>j1 s y.1 (List.replicate 16 false) (List.replicate 8 false) (List.replicate 756 0),Option.bind (q5_ (s.2.2.1,())) fun y=>j1 s y.1 (List.replicate 16 false) (List.replicate 8 false) (List.replicate 756 0)],amb (eqAs q2_.rs) [Option.bind (q5_ (s.2.2.1,())) fun y=>amb (eqAs q2_.rs) [j1 s y.1 (List.replicate 16 false) (List.replicate 8 false) (List.replicate 756 0),j1 s y.1 (List.replicate 16 false) (List.replicate 8 false) (List.replicate 756 0)],amb (eqAs q2_.rs) [Option.bind (q5_ (s.2.2.1,())) fun y=>j1 s y.1 (List.replicate 16 false) (List.replicate 8 false) (List.replicate 756 0),Option.bind (q5_ (s.2.2.1,())) fun y=>j1 s y.1 (List.replicate 16 false) (List.replicate 8 false) (List.replicate 756 0)]]],amb (eqAs q2_.rs) [amb (eqAs q2_.rs) [amb (eqAs q2_.rs) [Option.bind (q5_ (s.2.2.1,())) fun y=>j1 s y.1 (List.replicate 16 false) (List.replicate 8 false) (List.replicate 756 0),Option.bind (q5_ (s.2.2.1,())) fun y=>j1 s y.1 (List.replicate 16 false) (List.replicate 8 false) (List.replicate 756 0)],amb (eqAs q2_.rs) [Option.bind (q5_ (s.2.2.1,())) fun y=>amb (eqAs q2_.rs) [j1 s y.1 (List.replicate 16 false) (List.replicate 8 false) (List.replicate 756 0),j1 s y.1 (List.replicate 16 false) (List.replicate 8 false) (List.replicate 756 0)],amb (eqAs q2_.rs) [Option.bind (q5_ (s.2.2.1,())) fun y=>j1 s y.1 (List.replicate 16 false) (List.replicate 8 false) (List.replicate 756 0),Option.bind (q5_ (s.2.2.1,())) fun y=>j1 s y.1 (List.replicate 16 false) (List.replicate 8 false) (List.replicate 756 0)]]],amb (eqAs q2_.rs) [Option.bind (q5_ (s.2.2.1,())) fun y=>amb (eqAs q2_.rs) [amb (eqAs q2_.rs) [j1 s y.1 (List.replicate 16 false) (List.replicate 8 false) (List.replicate 756 0),j1 s y.1 (List.replicate 16 false) (List.replicate 8 false) (List.replicate 756 0)],amb (eqAs q2_.rs) [amb (eqAs q2_.rs) [j1 s y.1 (List.replicate 16 false) (List.replicate 8 false) (List.replicate 756 0),j1 s y.1 (List.replicate 16 false) (List.replicate 8 false) (List.replicate 756 0)],amb (eqAs q2_.rs) [j1 s y.1 (List.replicate 16 false) (List.replicate 8 false) (List.replicate 756 0),j1 s y.1 (List.replicate 16 false) (List.replicate 8 false) (List.replicate 756 0)]]],amb (eqAs q2_.rs) [amb (eqAs q2_.rs) [Option.bind (q5_ (s.2.2.1,())) fun y=>j1 s y.1 (List.replicate 16 false) (List.replicate 8 false) (List.replicate 756 0),Option.bind (q5_ (s.2.2.1,())) fun y=>j1 s y.1 (List.replicate 16 false) (List.replicate 8 false) (List.replicate 756 0)],amb (eqAs q2_.rs) [amb (eqAs q2_.rs) [Option.bind (q5_ (s.2.2.1,())) fun y=>j1 s y.1 (List.replicate 16 false) (List.replicate 8 false) (List.replicate 756 0),Option.bind (q5_ (s.2.2.1,())) fun y=>j1 s y.1 (List.replicate 16 false) (List.replicate 8 false) (List.replicate 756 0)],Option.bind (q5_ (s.2.2.1,())) fun y=>amb (eqAs q2_.rs) [j1 s y.1 (List.replicate 16 false) (List.replicate 8 false) (List.replicate 756 0),j1 s y.1 (List.replicate 16 false) (List.replicate 8 false) (List.replicate 756 0)]]]]]],amb (eqAs q2_.rs) [Option.bind (q5_ (s.2.2.1,())) fun y=>amb (eqAs q2_.rs) [amb (eqAs q2_.rs) [amb (eqAs q2_.rs) [j1 s y.1 (List.replicate 16 false) (List.replicate 8 false) (List.replicate 756 0),j1 s y.1 (List.replicate 16 false) (List.replicate 8 false) (List.replicate 756 0)],amb (eqAs q2_.rs) [amb (eqAs q2_.rs) [j1 s y.1 (List.replicate 16 false) (List.replicate 8 false) (List.replicate 756 0),j1 s y.1 (List.replicate 16 false) (List.replicate 8 false) (List.replicate 756 0)],amb (eqAs q2_.rs) [j1 s y.1 (List.replicate 16 false) (List.replicate 8 false) (List.replicate 756 0),j1 s y.1 (List.replicate 16 false) (List.replicate 8 false) (List.replicate 756 0)]]],amb (eqAs q2_.rs) [amb (eqAs q2_.rs) [amb (eqAs q2_.rs) [j1 s y.1 (List.replicate 16 false) (List.replicate 8 false) (List.replicate 756 0),j1 s y.1 (List.replicate 16 false) (List.replicate 8 false) (List.replicate 756 0)],amb (eqAs q2_.rs) [amb (eqAs q2_.rs) [j1 s y.1 (List.replicate 16 false) (List.replicate 8 false) (List.replicate 756 0),j1 s y.1 (List.replicate 16 false) (List.replicate 8 false) (List.replicate 756 0)],amb (eqAs q2_.rs) [j1 s y.1 (List.replicate 16 false) (List.replicate 8 false) (List.replicate 756 0),j1 s y.1 (List.replicate 16 false) (List.replicate 8 false) (List.replicate 756 0)]]],amb (eqAs q2_.rs) [amb (eqAs q2_.rs) [amb (eqAs q2_.rs) [j1 s y.1 (List.replicate 16 false) (List.replicate 8 false) (List.replicate 756 0),j1 s y.1 (List.replicate 16 false) (List.replicate 8 false) (List.replicate 756 0)],amb (eqAs q2_.rs) [amb (eqAs q2_.rs) [j1 s y.1 (List.replicate 16 false) (List.replicate 8 false) (List.replicate 756 0),j1 s y.1 (List.replicate 16 false) (List.replicate 8 false) (List.replicate 756 0)],amb (eqAs q2_.rs) [j1 s y.1 (List.replicate 16 false) (List.replicate 8 false) (List.replicate 756 0),j1 s y.1 (List.replicate 16 false) (List.replicate 8 false) (List.replicate 756 0)]]],amb (eqAs q2_.rs) [amb (eqAs q2_.rs) [j1 s y.1 (List.replicate 16 false) (List.replicate 8 false) (List.replicate 756 0),j1 s y.1 (List.replicate 16 false) (List.replicate 8 false) (List.replicate 756 0)],amb (eqAs q2_.rs) [amb (eqAs q2_.rs) [j1 s y.1 (List.replicate 16 false) (List.replicate 8 false) (List.replicate 756 0),j1 s y.1 (List.replicate 16 false) (List.replicate 8 false) (List.replicate 756 0)],amb (eqAs q2_.rs) [j1 s y.1 (List.replicate 16 false) (List.replicate 8 false) (List.replicate 756 0),j1 s y.1 (List.replicate 16 false) (List.replicate 8 false) (List.replicate 756 0)]]]]]],amb (eqAs q2_.rs) [amb (eqAs q2_.rs) [amb (eqAs q2_.rs) [Option.bind (q5_ (s.2.2.1,())) fun y=>j1 s y.1 (List.replicate 16 false) (List.replicate 8 false) (List.replicate 756 0),Option.bind (q5_ (s.2.2.1,())) fun y=>j1 s y.1 (List.replicate 16 false) (List.replicate 8 false) (List.replicate 756 0)],amb (eqAs q2_.rs) [amb (eqAs q2_.rs) [Option.bind (q5_ (s.2.2.1,())) fun y=>j1 s y.1 (List.replicate 16 false) (List.replicate 8 false) (List.replicate 756 0),Option.bind (q5_ (s.2.2.1,())) fun y=>j1 s y.1 (List.replicate 16 false) (List.replicate 8 false) (List.replicate 756 0)],Option.bind (q5_ (s.2.2.1,())) fun y=>amb (eqAs q2_.rs) [j1 s y.1 (List.replicate 16 false) (List.replicate 8 false) (List.replicate 756 0),j1 s y.1 (List.replicate 16 false) (List.replicate 8 false) (List.replicate 756 0)]]],amb (eqAs q2_.rs) [amb (eqAs q2_.rs) [amb (eqAs q2_.rs) [Option.bind (q5_ (s.2.2.1,())) fun y=>j1 s y.1 (List.replicate 16 false) (List.replicate 8 false) (List.replicate 756 0),Option.bind (q5_ (s.2.2.1,())) fun y=>j1 s y.1 (List.replicate 16 false) (List.replicate 8 false) (List.replicate 756 0)],amb (eqAs q2_.rs) [amb (eqAs q2_.rs) [Option.bind (q5_ (s.2.2.1,())) fun y=>j1 s y.1 (List.replicate 16 false) (List.replicate 8 false) (List.replicate 756 0),Option.bind (q5_ (s.2.2.1,())) fun y=>j1 s y.1 (List.replicate 16 false) (List.replicate 8 false) (List.replicate 756 0)],Option.bind (q5_ (s.2.2.1,())) fun y=>amb (eqAs q2_.rs) [j1 s y.1 (List.replicate 16 false) (List.replicate 8 false) (List.replicate 756 0),j1 s y.1 (List.replicate 16 false) (List.replicate 8 false) (List.replicate 756 0)]]],amb (eqAs q2_.rs) [amb (eqAs q2_.rs) [amb (eqAs q2_.rs) [Option.bind (q5_ (s.2.2.1,())) fun y=>j1 s y.1 (List.replicate 16 false) (List.replicate 8 false) (List.replicate 756 0),Option.bind (q5_ (s.2.2.1,())) fun y=>j1 s y.1 (List.replicate 16 false) (List.replicate 8 false) (List.replicate 756 0)],amb (eqAs q2_.rs) [amb (eqAs q2_.rs) [Option.bind (q5_ (s.2.2.1,())) fun y=>j1 s y.1 (List.replicate 16 false) (List.replicate 8 false) (List.replicate 756 0),Option.bind (q5_ (s.2.2.1,())) fun y=>j1 s y.1 (List.replicate 16 false) (List.replicate 8 false) (List.replicate 756 0)],Option.bind (q5_ (s.2.2.1,())) fun y=>amb (eqAs q2_.rs) [j1 s y.1 (List.replicate 16 false) (List.replicate 8 false) (List.replicate 756 0),j1 s y.1 (List.replicate 16 false) (List.replicate 8 false) (List.replicate 756 0)]]],Option.bind (q5_ (s.2.2.1,())) fun y=>amb (eqAs q2_.rs) [amb (eqAs q2_.rs) [j1 s y.1 (List.replicate 16 false) (List.replicate 8 false) (List.replicate 756 0),j1 s y.1 (List.replicate 16 false) (List.replicate 8 false) (List.replicate 756 0)],amb (eqAs q2_.rs) [amb (eqAs q2_.rs) [j1 s y.1 (List.replicate 16 false) (List.replicate 8 false) (List.replicate 756 0),j1 s y.1 (List.replicate 16 false) (List.replicate 8 false) (List.replicate 756 0)],amb (eqAs q2_.rs) [j1 s y.1 (List.replicate 16 false) (List.replicate 8 false) (List.replicate 756 0),j1 s y.1 (List.replicate 16 false) (List.replicate 8 false) (List.replicate 756 0)]]]]]]]]]]
def qdg_ (s:Int×Int×YTT2×List Bool) (t57:Int) (m:List Int) (o o_2:List Bool) (o_3:List Int):Option (As [.pr (.sl .bool) YTT10]) :=
 loopF (fun (self:(Int×Int×YTT2×List Bool)×(Int)×(List Int)×(List Bool)×(List Bool)×(List Int)->Option (As [.pr (.sl .bool) YTT10])) (s:(Int×Int×YTT2×List Bool)×(Int)×(List Int)×(List Bool)×(List Bool)×(List Int))=>qcz_ (fun s t57 m o o_2 o_3=>self (s,t57,m,o,o_2,o_3)) s.1 s.2.1 s.2.2.1 s.2.2.2.1 s.2.2.2.2.1 s.2.2.2.2.2) 18446744073709551616 (s,t57,m,o,o_2,o_3)
def qna_ (s:Int×Int×YTT2×List Bool) (m:List Int) (o o_2:List Bool) (o_3:List Int):Option (As [.pr (.sl .bool) YTT10]):=qnq_ (qdg_) s m o o_2 o_3
def qm7_ (s:Int×Int×YTT2×List Bool) (m:List Int) (o o_2:List Bool) (o_3:List Int):Option (As [.pr (.sl .bool) YTT10]):=qo1_ (qna_) s m o o_2 o_3
def q3t_ (x:As [.pr (.int .u8) (.pr (.int .u8) (.pr (.pr (.sl (.int .u16)) YTT0) (.sl .bool)))]):Option (As [.pr (.sl .bool) YTT10]):=qmq_ qm7_ x.1
theorem q17k_  (J w3 s t57 m o o_2 o_3):pfn Tryz.prog q5l_ 6 18446744073709551616 (Ev.get q5j_) 47 q2_ J 4090 [w3] (qdp_ s t57 m o o_2 o_3)=qcz_ (fun s t57 m o o_2 o_3=>w3 (qdp_ s t57 m o o_2 o_3)) s t57 m o o_2 o_3:=by kernel_rfl
theorem q189_  (J s m o o_2 o_3):pfn Tryz.prog q5l_ 6 18446744073709551616 (Ev.get q5j_) 47 q2_ J 15 [] (qmo_ s m o o_2 o_3)=qnq_ (fun s t57 m o o_2 o_3=>J 4090 [] (qdp_ s t57 m o o_2 o_3)) s m o o_2 o_3:=by kernel_rfl
theorem q18l_  (J s m o o_2 o_3):pfn Tryz.prog q5l_ 6 18446744073709551616 (Ev.get q5j_) 47 q2_ J 3 [] (qo6_ s m o o_2 o_3)=qo1_ (fun s m o o_2 o_3=>J 15 [] (qmo_ s m o o_2 o_3)) s m o o_2 o_3:=by kernel_rfl
theorem q18w_ (J:Orc (As [.pr (.sl .bool) YTT10])) (x:As [.pr (.int .u8) (.pr (.int .u8) (.pr (.pr (.sl (.int .u16)) YTT0) (.sl .bool)))]):rfn Tryz.prog q5l_ 6 18446744073709551616 (Ev.get q5j_) 47 q2_ J x=qmq_ (fun s m o o_2 o_3=>J 3 [] (qo6_ s m o o_2 o_3)) x.1:=by kernel_rfl
theorem q18m_  (s t57 m o o_2 o_3):jfn Tryz.prog q5l_ 6 18446744073709551616 (Ev.get q5j_) 47 q2_ 4090 [] (qdp_ s t57 m o o_2 o_3)=qdg_ s t57 m o o_2 o_3:=by
 rw [q6_ (by decide)]
 rw [qo_ (by kernel_rfl)]
 refine qj_ (σ:=(Int×Int×YTT2×List Bool)×(Int)×(List Int)×(List Bool)×(List Bool)×(List Int)) (mk:=fun s=>qdp_ s.1 s.2.1 s.2.2.1 s.2.2.2.1 s.2.2.2.2.1 s.2.2.2.2.2) (fun w3 s=>?_) 18446744073709551616 (s,t57,m,o,o_2,o_3)
 refine (q17k_ _ w3 s.1 s.2.1 s.2.2.1 s.2.2.2.1 s.2.2.2.2.1 s.2.2.2.2.2).trans ?_
 rfl
theorem q17n_  (s m o o_2 o_3):jfn Tryz.prog q5l_ 6 18446744073709551616 (Ev.get q5j_) 47 q2_ 15 [] (qmo_ s m o o_2 o_3)=qna_ s m o o_2 o_3:=by
 rw [q6_ (by decide)]
 have e3:(fun s t57 m o o_2 o_3=>(jfn Tryz.prog q5l_ 6 18446744073709551616 (Ev.get q5j_) 47 q2_) 4090 [] (qdp_ s t57 m o o_2 o_3))=qdg_:=by funext s t57 m o o_2 o_3; exact q18m_ s t57 m o o_2 o_3
 rw [q189_,e3]
 rfl
theorem q18i_  (s m o o_2 o_3):jfn Tryz.prog q5l_ 6 18446744073709551616 (Ev.get q5j_) 47 q2_ 3 [] (qo6_ s m o o_2 o_3)=qm7_ s m o o_2 o_3:=by
 rw [q6_ (by decide)]
 have e2:(fun s m o o_2 o_3=>(jfn Tryz.prog q5l_ 6 18446744073709551616 (Ev.get q5j_) 47 q2_) 15 [] (qmo_ s m o o_2 o_3))=qna_:=by funext s m o o_2 o_3; exact q17n_ s m o o_2 o_3
 rw [q18l_,e2]
 rfl
theorem q19a_ (x:As [.pr (.int .u8) (.pr (.int .u8) (.pr (.pr (.sl (.int .u16)) YTT0) (.sl .bool)))]):evT Tryz.prog q5l_ 6 18446744073709551616 (Ev.get q5j_) 47 q2_ x=q3t_ x:=by
 have e1:(fun s m o o_2 o_3=>(jfn Tryz.prog q5l_ 6 18446744073709551616 (Ev.get q5j_) 47 q2_) 3 [] (qo6_ s m o o_2 o_3))=qm7_:=by funext s m o o_2 o_3; exact q18i_ s m o o_2 o_3
 rw [qi_,q18w_,e1]
 rfl
theorem qxe_:CtOk Tryz.prog (fun _=>True) 47 ⟨q2_,q3t_⟩:=qd_ (q0_ Ev.bx_ok (q0_ qai_ (q0_ q10a_ (q0_ qbi_ (q0_ q151_ q3_))))) q19a_
@[reducible] def q3n_:Sh:=⟨[.d (.pr (.int .u8) YTT4)],[],[.pr (.int .u8) YTT4],[.d (.pr (.int .u8) YTT3),.d (.bool)],[],0,[.pr (.int .u8) YTT3,.bool]⟩
def q6v_:Env:=(cts [(58,(⟨q4a_,q8k_⟩:Ct))])
def q79_:List (Nat×Hint):=[(15,⟨[.rwb 4 2 4,.rwb 4 3 23],[2,4]⟩),(1967,⟨[],[1,2,4,33]⟩)]
def qbe_ (t2 t2_2 t2_3 t2_4 r r_2 r_3 r_4:Int) (o:List Bool) (o_2:List Int):St:={ fr:=[(2,.pb 0 0),(4,.pb 1 0)],nt:=40,up:=[],own:=[(0,.box 46 [.d (.int .u8) t2,.d (.int .u8) t2_2,.k (Go.Value.slice Option.none 0 0),.k (Go.Value.slice Option.none 0 0),.d (.int .u16) t2_3,.d (.int .u16) t2_4]),(1,.box 46 [.d (.int .u8) r,.d (.int .u8) r_2,.row 2,.row 3,.d (.int .u16) r_3,.d (.int .u16) r_4]),(2,.row .bool 4 o),(3,.row (.int .u16) 23 o_2)],nx:=4,log:=[],ln:=0 }
def qk6_ (t33:Bool) (a a_2 a_3 a_4:Int) (a_5:List Int) (a_6:List Bool) (t2 t2_2 t2_3 t2_4 r r_2 r_3 r_4:Int):St:={ fr:=[(1,.pb 0 0),(2,.pb 1 0),(4,.pb 2 0),(33,.d .bool t33)],nt:=40,up:=[],own:=[(0,.box 44 [.d (.int .u8) a,.d (.int .u16) a_2,.d (.int .u16) a_3,.d (.int .u16) a_4,.d (.sl (.int .u16)) a_5,.d (.sl .bool) a_6]),(1,.box 46 [.d (.int .u8) t2,.d (.int .u8) t2_2,.k (Go.Value.slice Option.none 0 0),.k (Go.Value.slice Option.none 0 0),.d (.int .u16) t2_3,.d (.int .u16) t2_4]),(2,.box 46 [.d (.int .u8) r,.d (.int .u8) r_2,.k (Go.Value.slice Option.none 0 0),.k (Go.Value.slice Option.none 0 0),.d (.int .u16) r_3,.d (.int .u16) r_4])],nx:=3,log:=[],ln:=0 }
def qvo_ (t2 t2_2 t2_3 t2_4 r r_2 r_3 r_4:Int) (o:List Bool) (o_2:List Int):Option (As [.pr (.int .u8) YTT3,.bool]) :=
 some ((r,r_2,o,o_2,r_3,r_4),true,())
def qvg_ (j1:Int->Int->Int->Int->Int->Int->Int->Int->List Bool->List Int->Option (As [.pr (.int .u8) YTT3,.bool])) (t33:Bool) (a a_2 a_3 a_4:Int) (a_5:List Int) (a_6:List Bool) (t2 t2_2 t2_3 t2_4 r r_2 r_3 r_4:Int):Option (As [.pr (.int .u8) YTT3,.bool]) :=
 if t33=true then j1 t2 t2_2 t2_3 t2_4 r r_2 r_3 a_3 [] [] else some ((0,0,[],[],0,0),false,())
def qbh_ (j1:Int->Int->Int->Int->Int->Int->Int->Int->List Bool->List Int->Option (As [.pr (.int .u8) YTT3,.bool])) (j2:Bool->Int->Int->Int->Int->List Int->List Bool->Int->Int->Int->Int->Int->Int->Int->Int->Option (As [.pr (.int .u8) YTT3,.bool])) (a:Int×Int×Int×Int×List Int×List Bool):Option (As [.pr (.int .u8) YTT3,.bool]) :=
 Option.bind (q8k_ (a,())) fun y=>if (!y.1)=true then some ((0,0,[],[],0,0),false,()) else if eqi a.1 5=true then Option.bind (at? a.2.2.2.2.2 0) fun y=>j1 0 0 0 0 a.1 0 a.2.1 0 [y] [] else if eqi a.1 6=true then Option.bind (at? a.2.2.2.2.1 0) fun y=>j1 0 0 0 0 a.1 0 a.2.1 0 [] [y] else if eqi a.1 15=true then j2 true a.1 a.2.1 a.2.2.1 a.2.2.2.1 a.2.2.2.2.1 a.2.2.2.2.2 0 0 0 0 a.1 0 a.2.1 0 else j2 (eqi a.1 16) a.1 a.2.1 a.2.2.1 a.2.2.2.1 a.2.2.2.2.1 a.2.2.2.2.2 0 0 0 0 a.1 0 a.2.1 0
def q8z_ (t2 t2_2 t2_3 t2_4 r r_2 r_3 r_4:Int) (o:List Bool) (o_2:List Int):Option (As [.pr (.int .u8) YTT3,.bool]):=qvo_ t2 t2_2 t2_3 t2_4 r r_2 r_3 r_4 o o_2
def qg2_ (t33:Bool) (a a_2 a_3 a_4:Int) (a_5:List Int) (a_6:List Bool) (t2 t2_2 t2_3 t2_4 r r_2 r_3 r_4:Int):Option (As [.pr (.int .u8) YTT3,.bool]):=qvg_ (q8z_) t33 a a_2 a_3 a_4 a_5 a_6 t2 t2_2 t2_3 t2_4 r r_2 r_3 r_4
def q5y_ (x:As [.pr (.int .u8) YTT4]):Option (As [.pr (.int .u8) YTT3,.bool]):=qbh_ q8z_ qg2_ x.1
theorem q155_  (J t2 t2_2 t2_3 t2_4 r r_2 r_3 r_4 o o_2):pfn Tryz.prog q6v_ 6 18446744073709551616 (Ev.get q79_) 68 q3n_ J 15 [] (qbe_ t2 t2_2 t2_3 t2_4 r r_2 r_3 r_4 o o_2)=qvo_ t2 t2_2 t2_3 t2_4 r r_2 r_3 r_4 o o_2:=by kernel_rfl
theorem q149_  (J t33 a a_2 a_3 a_4 a_5 a_6 t2 t2_2 t2_3 t2_4 r r_2 r_3 r_4):pfn Tryz.prog q6v_ 6 18446744073709551616 (Ev.get q79_) 68 q3n_ J 1967 [] (qk6_ t33 a a_2 a_3 a_4 a_5 a_6 t2 t2_2 t2_3 t2_4 r r_2 r_3 r_4)=qvg_ (fun t2 t2_2 t2_3 t2_4 r r_2 r_3 r_4 o o_2=>J 15 [] (qbe_ t2 t2_2 t2_3 t2_4 r r_2 r_3 r_4 o o_2)) t33 a a_2 a_3 a_4 a_5 a_6 t2 t2_2 t2_3 t2_4 r r_2 r_3 r_4:=by kernel_rfl
theorem q140_ (J:Orc (As [.pr (.int .u8) YTT3,.bool])) (x:As [.pr (.int .u8) YTT4]):rfn Tryz.prog q6v_ 6 18446744073709551616 (Ev.get q79_) 68 q3n_ J x=qbh_ (fun t2 t2_2 t2_3 t2_4 r r_2 r_3 r_4 o o_2=>J 15 [] (qbe_ t2 t2_2 t2_3 t2_4 r r_2 r_3 r_4 o o_2)) (fun t33 a a_2 a_3 a_4 a_5 a_6 t2 t2_2 t2_3 t2_4 r r_2 r_3 r_4=>J 1967 [] (qk6_ t33 a a_2 a_3 a_4 a_5 a_6 t2 t2_2 t2_3 t2_4 r r_2 r_3 r_4)) x.1:=by kernel_rfl
theorem qvy_  (t2 t2_2 t2_3 t2_4 r r_2 r_3 r_4 o o_2):jfn Tryz.prog q6v_ 6 18446744073709551616 (Ev.get q79_) 68 q3n_ 15 [] (qbe_ t2 t2_2 t2_3 t2_4 r r_2 r_3 r_4 o o_2)=q8z_ t2 t2_2 t2_3 t2_4 r r_2 r_3 r_4 o o_2:=by
 rw [q6_ (by decide)]
 rw [q155_]
 rfl
theorem q13s_  (t33 a a_2 a_3 a_4 a_5 a_6 t2 t2_2 t2_3 t2_4 r r_2 r_3 r_4):jfn Tryz.prog q6v_ 6 18446744073709551616 (Ev.get q79_) 68 q3n_ 1967 [] (qk6_ t33 a a_2 a_3 a_4 a_5 a_6 t2 t2_2 t2_3 t2_4 r r_2 r_3 r_4)=qg2_ t33 a a_2 a_3 a_4 a_5 a_6 t2 t2_2 t2_3 t2_4 r r_2 r_3 r_4:=by
 rw [q6_ (by decide)]
 have e1:(fun t2 t2_2 t2_3 t2_4 r r_2 r_3 r_4 o o_2=>(jfn Tryz.prog q6v_ 6 18446744073709551616 (Ev.get q79_) 68 q3n_) 15 [] (qbe_ t2 t2_2 t2_3 t2_4 r r_2 r_3 r_4 o o_2))=q8z_:=by funext t2 t2_2 t2_3 t2_4 r r_2 r_3 r_4 o o_2; exact qvy_ t2 t2_2 t2_3 t2_4 r r_2 r_3 r_4 o o_2
 rw [q149_,e1]
 rfl
theorem q175_ (x:As [.pr (.int .u8) YTT4]):evT Tryz.prog q6v_ 6 18446744073709551616 (Ev.get q79_) 68 q3n_ x=q5y_ x:=by
 have e1:(fun t2 t2_2 t2_3 t2_4 r r_2 r_3 r_4 o o_2=>(jfn Tryz.prog q6v_ 6 18446744073709551616 (Ev.get q79_) 68 q3n_) 15 [] (qbe_ t2 t2_2 t2_3 t2_4 r r_2 r_3 r_4 o o_2))=q8z_:=by funext t2 t2_2 t2_3 t2_4 r r_2 r_3 r_4 o o_2; exact qvy_ t2 t2_2 t2_3 t2_4 r r_2 r_3 r_4 o o_2
 have e2:(fun t33 a a_2 a_3 a_4 a_5 a_6 t2 t2_2 t2_3 t2_4 r r_2 r_3 r_4=>(jfn Tryz.prog q6v_ 6 18446744073709551616 (Ev.get q79_) 68 q3n_) 1967 [] (qk6_ t33 a a_2 a_3 a_4 a_5 a_6 t2 t2_2 t2_3 t2_4 r r_2 r_3 r_4))=qg2_:=by funext t33 a a_2 a_3 a_4 a_5 a_6 t2 t2_2 t2_3 t2_4 r r_2 r_3 r_4; exact q13s_ t33 a a_2 a_3 a_4 a_5 a_6 t2 t2_2 t2_3 t2_4 r r_2 r_3 r_4
 rw [qi_,q140_,e1,e2]
 rfl
theorem qra_:CtOk Tryz.prog (fun _=>True) 68 ⟨q3n_,q5y_⟩:=qd_ (q0_ qnn_ q3_) q175_
@[reducible] def qy_:Sh:=⟨[.d (.pr YTT1 (.sl .bool)),.d (.bool)],[],[.pr YTT1 (.sl .bool),.bool],[.d (.bool)],[],0,[.bool]⟩
def q11_:Env:=(cts [])
def q12_:List (Nat×Hint):=[(122,⟨[],[1,2,5,13,14,15,24,25,26,27,28,29,32,33,34,37,38,39,40,41,42,43,44,45,49,50]⟩),(31334,⟨[.agd 50 .bool],[1,2,7,13,14,15,51]⟩),(15666,⟨[.agd 25 (.int .i64),.agd 27 (.sl .bool),.agd 28 (.int .i64),.agd 29 .bool,.agd 33 (.int .i64),.agd 34 .bool,.agd 38 (.int .i64),.agd 40 (.sl .bool),.agd 41 (.int .i64),.agd 43 (.int .i64),.agd 44 (.int .i64),.agd 45 .bool],[1,2,7,13,14,15,46]⟩)]
def qu_ (fixed:Bool) (endV:Int) (t13:List YTT5) (t14 t15:Int) (t:List YTT5×List Bool):St:={ fr:=[(1,.d .bool fixed),(2,.pb 0 0),(5,.d (.int .i64) endV),(13,.d YTT1 t13),(14,.d (.int .i64) t14),(15,.d (.int .i64) t15)],nt:=58,up:=[],own:=[(0,.box 170 [.d YTT1 t.1,.d (.sl .bool) t.2])],nx:=1,log:=[],ln:=0 }
def q6m_ (fixed:Bool) (t13:List YTT5) (t14 t15:Int) (t46:Bool) (t:List YTT5×List Bool) (x:q16_):St:={ fr:=[(1,.d .bool fixed),(2,.pb 0 0),(7,.pb 1 0),(13,.d YTT1 t13),(14,.d (.int .i64) t14),(15,.d (.int .i64) t15),(46,.d .bool t46)],nt:=58,up:=[],own:=[(0,.box 170 [.d YTT1 t.1,.d (.sl .bool) t.2]),(1,.box 168 [.d (.int .i64) x.1,.d (.int .i64) x.2.1,.d .bool x.2.2.1,.d .bool x.2.2.2.1,.d .bool x.2.2.2.2])],nx:=2,log:=[],ln:=0 }
def q6l_ (fixed:Bool) (t13:List YTT5) (t14 t15:Int) (t51:Bool) (t:List YTT5×List Bool) (x:q16_):St:={ fr:=[(1,.d .bool fixed),(2,.pb 0 0),(7,.pb 1 0),(13,.d YTT1 t13),(14,.d (.int .i64) t14),(15,.d (.int .i64) t15),(51,.d .bool t51)],nt:=58,up:=[],own:=[(0,.box 170 [.d YTT1 t.1,.d (.sl .bool) t.2]),(1,.box 168 [.d (.int .i64) x.1,.d (.int .i64) x.2.1,.d .bool x.2.2.1,.d .bool x.2.2.2.1,.d .bool x.2.2.2.2])],nx:=2,log:=[],ln:=0 }
def q3b_ (j2:Bool->List YTT5->Int->Int->Bool->List YTT5×List Bool->q16_->Option (As [.bool])) (self1:Bool->Int->List YTT5->Int->Int->List YTT5×List Bool->Option (As [.bool])) (fixed:Bool) (endV:Int) (t13:List YTT5) (t14 t15:Int) (t:List YTT5×List Bool):Option (As [.bool]) :=
 if lt t15 t14=true then Option.bind (at? t13 t15) fun y=>if lt y.1 endV=true then j2 fixed t13 t14 t15 true t y else if gt y.1 (Int.ofNat (List.length t.2))=true then j2 fixed t13 t14 t15 true t y else if lt y.2.1 1=true then j2 fixed t13 t14 t15 true t y else j2 fixed t13 t14 t15 (gt y.2.1 (Sx.sub .i64 (Int.ofNat (List.length t.2)) y.1)) t y else some (true,())
def q98_ (j3:Bool->List YTT5->Int->Int->Bool->List YTT5×List Bool->q16_->Option (As [.bool])) (self1:Bool->Int->List YTT5->Int->Int->List YTT5×List Bool->Option (As [.bool])) (fixed:Bool) (t13:List YTT5) (t14 t15:Int) (t46:Bool) (t:List YTT5×List Bool) (x:q16_):Option (As [.bool]) :=
 if t46=true then some (false,()) else if fixed=true then j3 fixed t13 t14 t15 x.2.2.2.1 t x else j3 fixed t13 t14 t15 false t x
def q94_ (self1:Bool->Int->List YTT5->Int->Int->List YTT5×List Bool->Option (As [.bool])) (fixed:Bool) (t13:List YTT5) (t14 t15:Int) (t51:Bool) (t:List YTT5×List Bool) (x:q16_):Option (As [.bool]) :=
 if t51=true then some (false,()) else self1 fixed (add .i64 x.1 x.2.1) t13 t14 (add .i64 t15 1) t
def q6k_ (j1:Bool->Int->List YTT5->Int->Int->List YTT5×List Bool->Option (As [.bool])) (t:List YTT5×List Bool) (fixed:Bool):Option (As [.bool]) :=
 if gt (Int.ofNat (List.length t.2)) 65536=true then some (false,()) else j1 fixed 0 t.1 (Int.ofNat (List.length t.1)) 0 t
def q4f_ (u1:Bool->Int->List YTT5->Int->Int->List YTT5×List Bool->Option (As [.bool])) (fixed:Bool) (t13:List YTT5) (t14 t15:Int) (t51:Bool) (t:List YTT5×List Bool) (x:q16_):Option (As [.bool]):=q94_ u1 fixed t13 t14 t15 t51 t x
def q4h_ (u1:Bool->Int->List YTT5->Int->Int->List YTT5×List Bool->Option (As [.bool])) (fixed:Bool) (t13:List YTT5) (t14 t15:Int) (t46:Bool) (t:List YTT5×List Bool) (x:q16_):Option (As [.bool]):=q98_ (q4f_ u1) u1 fixed t13 t14 t15 t46 t x
def q3a_ (fixed:Bool) (endV:Int) (t13:List YTT5) (t14 t15:Int) (t:List YTT5×List Bool):Option (As [.bool]) :=
 loopF (fun (self:(Bool)×(Int)×(List YTT5)×(Int)×(Int)×(List YTT5×List Bool)->Option (As [.bool])) (s:(Bool)×(Int)×(List YTT5)×(Int)×(Int)×(List YTT5×List Bool))=>q3b_ (q4h_ (fun fixed endV t13 t14 t15 t=>self (fixed,endV,t13,t14,t15,t))) (fun fixed endV t13 t14 t15 t=>self (fixed,endV,t13,t14,t15,t)) s.1 s.2.1 s.2.2.1 s.2.2.2.1 s.2.2.2.2.1 s.2.2.2.2.2) 18446744073709551616 (fixed,endV,t13,t14,t15,t)
def q5q_ (x:As [.pr YTT1 (.sl .bool),.bool]):Option (As [.bool]):=q6k_ q3a_ x.1 x.2.1
theorem qrq_  (J w1 fixed t13 t14 t15 t51 t x):pfn Tryz.prog q11_ 6 18446744073709551616 (Ev.get q12_) 118 qy_ J 31334 [w1] (q6l_ fixed t13 t14 t15 t51 t x)=q94_ (fun fixed endV t13 t14 t15 t=>w1 (qu_ fixed endV t13 t14 t15 t)) fixed t13 t14 t15 t51 t x:=by kernel_rfl
theorem qrx_  (J w1 fixed t13 t14 t15 t46 t x):pfn Tryz.prog q11_ 6 18446744073709551616 (Ev.get q12_) 118 qy_ J 15666 [w1] (q6m_ fixed t13 t14 t15 t46 t x)=q98_ (fun fixed t13 t14 t15 t51 t x=>J 31334 [w1] (q6l_ fixed t13 t14 t15 t51 t x)) (fun fixed endV t13 t14 t15 t=>w1 (qu_ fixed endV t13 t14 t15 t)) fixed t13 t14 t15 t46 t x:=by kernel_rfl
theorem qrk_  (J w1 fixed endV t13 t14 t15 t):pfn Tryz.prog q11_ 6 18446744073709551616 (Ev.get q12_) 118 qy_ J 122 [w1] (qu_ fixed endV t13 t14 t15 t)=q3b_ (fun fixed t13 t14 t15 t46 t x=>J 15666 [w1] (q6m_ fixed t13 t14 t15 t46 t x)) (fun fixed endV t13 t14 t15 t=>w1 (qu_ fixed endV t13 t14 t15 t)) fixed endV t13 t14 t15 t:=by kernel_rfl
theorem qru_ (J:Orc (As [.bool])) (x:As [.pr YTT1 (.sl .bool),.bool]):rfn Tryz.prog q11_ 6 18446744073709551616 (Ev.get q12_) 118 qy_ J x=q6k_ (fun fixed endV t13 t14 t15 t=>J 122 [] (qu_ fixed endV t13 t14 t15 t)) x.1 x.2.1:=by kernel_rfl
theorem qri_  (w1 fixed t13 t14 t15 t51 t x):jfn Tryz.prog q11_ 6 18446744073709551616 (Ev.get q12_) 118 qy_ 31334 [w1] (q6l_ fixed t13 t14 t15 t51 t x)=q4f_ (fun fixed endV t13 t14 t15 t=>w1 (qu_ fixed endV t13 t14 t15 t)) fixed t13 t14 t15 t51 t x:=by
 rw [q6_ (by decide)]
 rw [qrq_]
 rfl
theorem qrj_  (w1 fixed t13 t14 t15 t46 t x):jfn Tryz.prog q11_ 6 18446744073709551616 (Ev.get q12_) 118 qy_ 15666 [w1] (q6m_ fixed t13 t14 t15 t46 t x)=q4h_ (fun fixed endV t13 t14 t15 t=>w1 (qu_ fixed endV t13 t14 t15 t)) fixed t13 t14 t15 t46 t x:=by
 rw [q6_ (by decide)]
 have e3:(fun fixed t13 t14 t15 t51 t x=>(jfn Tryz.prog q11_ 6 18446744073709551616 (Ev.get q12_) 118 qy_) 31334 [w1] (q6l_ fixed t13 t14 t15 t51 t x))=q4f_ (fun fixed endV t13 t14 t15 t=>w1 (qu_ fixed endV t13 t14 t15 t)):=by funext fixed t13 t14 t15 t51 t x; exact qri_ w1 fixed t13 t14 t15 t51 t x
 rw [qrx_,e3]
 rfl
theorem qrt_  (fixed endV t13 t14 t15 t):jfn Tryz.prog q11_ 6 18446744073709551616 (Ev.get q12_) 118 qy_ 122 [] (qu_ fixed endV t13 t14 t15 t)=q3a_ fixed endV t13 t14 t15 t:=by
 rw [q6_ (by decide)]
 rw [qo_ (by kernel_rfl)]
 refine qj_ (σ:=(Bool)×(Int)×(List YTT5)×(Int)×(Int)×(List YTT5×List Bool)) (mk:=fun s=>qu_ s.1 s.2.1 s.2.2.1 s.2.2.2.1 s.2.2.2.2.1 s.2.2.2.2.2) (fun w1 s=>?_) 18446744073709551616 (fixed,endV,t13,t14,t15,t)
 have e2:(fun fixed t13 t14 t15 t46 t x=>(jfn Tryz.prog q11_ 6 18446744073709551616 (Ev.get q12_) 118 qy_) 15666 [w1] (q6m_ fixed t13 t14 t15 t46 t x))=q4h_ (fun fixed endV t13 t14 t15 t=>w1 (qu_ fixed endV t13 t14 t15 t)):=by funext fixed t13 t14 t15 t46 t x; exact qrj_ w1 fixed t13 t14 t15 t46 t x
 refine (qrk_ _ w1 s.1 s.2.1 s.2.2.1 s.2.2.2.1 s.2.2.2.2.1 s.2.2.2.2.2).trans ?_
 rw [e2]
theorem qsv_ (x:As [.pr YTT1 (.sl .bool),.bool]):evT Tryz.prog q11_ 6 18446744073709551616 (Ev.get q12_) 118 qy_ x=q5q_ x:=by
 have e1:(fun fixed endV t13 t14 t15 t=>(jfn Tryz.prog q11_ 6 18446744073709551616 (Ev.get q12_) 118 qy_) 122 [] (qu_ fixed endV t13 t14 t15 t))=q3a_:=by funext fixed endV t13 t14 t15 t; exact qrt_ fixed endV t13 t14 t15 t
 rw [qi_,qru_,e1]
 rfl
theorem qrw_:CtOk Tryz.prog (fun _=>True) 118 ⟨qy_,q5q_⟩:=qd_ q3_ qsv_
end Go.Proofs.Lx
end
