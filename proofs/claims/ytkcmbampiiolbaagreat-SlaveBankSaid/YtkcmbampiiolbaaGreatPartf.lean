/- Proved in the last of these 13 parts (this is part 6): SlaveBank returns true, whatever the link, the bank, the ticks and what comes. Conditions: those of the given statement, and no others. -/
import Derived.Test.YtkcmbampiiolbaaGreatParte
import Derived.Test.YtkcmbampiiolbaaGreatProg
set_option linter.unusedVariables false
set_option linter.unusedSimpArgs false
set_option linter.unusedSectionVars false
section
open Go Go.Proofs Ev Sx
set_option maxRecDepth 100000
namespace Go.Proofs.Lx
abbrev q18_:Type:=Int×Int×Bool×Bool×Bool
@[reducible] def q1i_:Sh:=⟨[.d YTT1,.d (.int .i64),.d (.int .i64),.fn (.func 260) [] [.pb 0 0,.pb 1 0]],[.box 3 [.d (.int .i64)],.box 3 [.d (.int .i64)]],[.sl (.pr (.int .i64) YTT12),.int .i64,.int .i64,.int .i64,.int .i64],[.d (.bool)],[(0,.box 3 [.d (.int .i64)]),(1,.box 3 [.d (.int .i64)])],0,[.bool,.int .i64,.int .i64]⟩
def q1o_:Env:=(cts [(259,(⟨q35_,q1e_⟩:Ct)),(260,(⟨q33_,q16_⟩:Ct)),(261,(⟨q2b_,q72_⟩:Ct)),(264,(⟨q2l_,q19_⟩:Ct)),(265,(⟨q2m_,q11_⟩:Ct))])
def q1q_:List (Nat×Hint):=[(15,⟨[],[10]⟩),(122,⟨[],[1,2,3,9,10,19,20,21]⟩),(125342,⟨[],[1,2,3,9,10,12,14,15,19,20,21]⟩),(501369,⟨[],[1,2,3,9,10,12,14,15,19,20,21]⟩)]
def q2a_ (at' many left:Int) (t19:List YTT5) (t20 t21 o o_2:Int) (met:List Bool):St:={ fr:=[(1,.d (.int .i64) at'),(2,.d (.int .i64) many),(3,.fn (.func 260) [] [.pb 0 0,.pb 1 0]),(9,.row 2),(10,.d (.int .i64) left),(19,.d YTT1 t19),(20,.d (.int .i64) t20),(21,.d (.int .i64) t21)],nt:=62,up:=[],own:=[(0,.box 3 [.d (.int .i64) o]),(1,.box 3 [.d (.int .i64) o_2]),(2,.row .bool 4 met)],nx:=3,log:=[],ln:=2 }
def qft_ (left o o_2:Int):St:={ fr:=[(10,.d (.int .i64) left)],nt:=62,up:=[],own:=[(0,.box 3 [.d (.int .i64) o]),(1,.box 3 [.d (.int .i64) o_2])],nx:=2,log:=[],ln:=2 }
def q3t_ (at' many left to' i:Int) (t19:List YTT5) (t20 t21 o o_2:Int) (met:List Bool) (x:q18_):St:={ fr:=[(1,.d (.int .i64) at'),(2,.d (.int .i64) many),(3,.fn (.func 260) [] [.pb 0 0,.pb 1 0]),(9,.row 2),(10,.d (.int .i64) left),(12,.pb 3 0),(14,.d (.int .i64) to'),(15,.d (.int .i64) i),(19,.d YTT1 t19),(20,.d (.int .i64) t20),(21,.d (.int .i64) t21)],nt:=62,up:=[],own:=[(0,.box 3 [.d (.int .i64) o]),(1,.box 3 [.d (.int .i64) o_2]),(2,.row .bool 4 met),(3,.box 168 [.d (.int .i64) x.1,.d (.int .i64) x.2.1,.d .bool x.2.2.1,.d .bool x.2.2.2.1,.d .bool x.2.2.2.2])],nx:=4,log:=[],ln:=2 }
def qfr_ (at' many left to' i:Int) (t19:List YTT5) (t20 t21 o o_2:Int) (met:List Bool) (x:q18_):St:={ fr:=[(1,.d (.int .i64) at'),(2,.d (.int .i64) many),(3,.fn (.func 260) [] [.pb 0 0,.pb 1 0]),(9,.row 2),(10,.d (.int .i64) left),(12,.pb 3 0),(14,.d (.int .i64) to'),(15,.d (.int .i64) i),(19,.d YTT1 t19),(20,.d (.int .i64) t20),(21,.d (.int .i64) t21)],nt:=62,up:=[],own:=[(0,.box 3 [.d (.int .i64) o]),(1,.box 3 [.d (.int .i64) o_2]),(2,.row .bool 4 met),(3,.box 168 [.d (.int .i64) x.1,.d (.int .i64) x.2.1,.d .bool x.2.2.1,.d .bool x.2.2.2.1,.d .bool x.2.2.2.2])],nx:=4,log:=[],ln:=2 }
def qba_ (j2:Int->Int->Int->Option (As [.bool,.int .i64,.int .i64])) (j3:Int->Int->Int->Int->Int->List YTT5->Int->Int->Int->Int->List Bool->q18_->Option (As [.bool,.int .i64,.int .i64])) (self1:Int->Int->Int->List YTT5->Int->Int->Int->Int->List Bool->Option (As [.bool,.int .i64,.int .i64])) (at' many left:Int) (t19:List YTT5) (t20 t21 o o_2:Int) (met:List Bool):Option (As [.bool,.int .i64,.int .i64]) :=
 if lt t21 t20=true then Option.bind (at? t19 t21) fun y=>if eqi left 0=true then j2 left o o_2 else Option.bind (q72_ (y,at',add .i64 at' many,())) fun y_1=>j3 at' many left y_1.2.1 y_1.1 t19 t20 t21 o o_2 met y else j2 left o o_2
def qsi_ (left o o_2:Int):Option (As [.bool,.int .i64,.int .i64]) :=
 some (eqi left 0,o,o_2,())
def qb8_ (j4:Int->Int->Int->Int->Int->List YTT5->Int->Int->Int->Int->List Bool->q18_->Option (As [.bool,.int .i64,.int .i64])) (self1:Int->Int->Int->List YTT5->Int->Int->Int->Int->List Bool->Option (As [.bool,.int .i64,.int .i64])) (self3:Int->Int->Int->Int->Int->List YTT5->Int->Int->Int->Int->List Bool->q18_->Option (As [.bool,.int .i64,.int .i64])) (at' many left to' i:Int) (t19:List YTT5) (t20 t21 o o_2:Int) (met:List Bool) (x:q18_):Option (As [.bool,.int .i64,.int .i64]) :=
 if lt i to'=true then Option.bind (at? met (Sx.sub .i64 i at')) fun x_1=>Option.bind (at? met (Sx.sub .i64 i at')) fun y=>if y=true then j4 at' many left to' i t19 t20 t21 o o_2 met x else Option.bind (q16_ (x,o,o_2,())) fun y=>if (!y.1)=true then some (false,y.2.1,y.2.2.1,()) else Option.bind (at? met (Sx.sub .i64 i at')) fun x_2=>Option.bind (at? met (Sx.sub .i64 i at')) fun x_3=>j4 at' many (Sx.sub .i64 left 1) to' i t19 t20 t21 y.2.1 y.2.2.1 (List.set met (Int.toNat (Sx.sub .i64 i at')) true) x else self1 at' many left t19 t20 (add .i64 t21 1) o o_2 met
def qls_ (self1:Int->Int->Int->List YTT5->Int->Int->Int->Int->List Bool->Option (As [.bool,.int .i64,.int .i64])) (self3:Int->Int->Int->Int->Int->List YTT5->Int->Int->Int->Int->List Bool->q18_->Option (As [.bool,.int .i64,.int .i64])) (at' many left to' i:Int) (t19:List YTT5) (t20 t21 o o_2:Int) (met:List Bool) (x:q18_):Option (As [.bool,.int .i64,.int .i64]) :=
 self3 at' many left to' (add .i64 i 1) t19 t20 t21 o o_2 met x
def qfa_ (j1:Int->Int->Int->List YTT5->Int->Int->Int->Int->List Bool->Option (As [.bool,.int .i64,.int .i64])) (areas:List YTT5) (at' many wanted areas_2:Int):Option (As [.bool,.int .i64,.int .i64]) :=
 need (ge many 0) (need (Ev.capOk many many) (need (small (Int.toNat many)) (j1 at' many many areas (Int.ofNat (List.length areas)) 0 wanted areas_2 (List.replicate (Int.toNat many) false))))
def q87_ (left o o_2:Int):Option (As [.bool,.int .i64,.int .i64]):=qsi_ left o o_2
def q5z_ (u1:Int->Int->Int->List YTT5->Int->Int->Int->Int->List Bool->Option (As [.bool,.int .i64,.int .i64])) (u3:Int->Int->Int->Int->Int->List YTT5->Int->Int->Int->Int->List Bool->q18_->Option (As [.bool,.int .i64,.int .i64])) (at' many left to' i:Int) (t19:List YTT5) (t20 t21 o o_2:Int) (met:List Bool) (x:q18_):Option (As [.bool,.int .i64,.int .i64]):=qls_ u1 u3 at' many left to' i t19 t20 t21 o o_2 met x
def q5t_ (u1:Int->Int->Int->List YTT5->Int->Int->Int->Int->List Bool->Option (As [.bool,.int .i64,.int .i64])) (at' many left to' i:Int) (t19:List YTT5) (t20 t21 o o_2:Int) (met:List Bool) (x:q18_):Option (As [.bool,.int .i64,.int .i64]) :=
 loopF (fun (self:(Int)×(Int)×(Int)×(Int)×(Int)×(List YTT5)×(Int)×(Int)×(Int)×(Int)×(List Bool)×YTT5->Option (As [.bool,.int .i64,.int .i64])) (s:(Int)×(Int)×(Int)×(Int)×(Int)×(List YTT5)×(Int)×(Int)×(Int)×(Int)×(List Bool)×YTT5)=>qb8_ (q5z_ u1 (fun at' many left to' i t19 t20 t21 o o_2 met x=>self (at',many,left,to',i,t19,t20,t21,o,o_2,met,x))) u1 (fun at' many left to' i t19 t20 t21 o o_2 met x=>self (at',many,left,to',i,t19,t20,t21,o,o_2,met,x)) s.1 s.2.1 s.2.2.1 s.2.2.2.1 s.2.2.2.2.1 s.2.2.2.2.2.1 s.2.2.2.2.2.2.1 s.2.2.2.2.2.2.2.1 s.2.2.2.2.2.2.2.2.1 s.2.2.2.2.2.2.2.2.2.1 s.2.2.2.2.2.2.2.2.2.2.1 s.2.2.2.2.2.2.2.2.2.2.2) 18446744073709551616 (at',many,left,to',i,t19,t20,t21,o,o_2,met,x)
def qb2_ (at' many left:Int) (t19:List YTT5) (t20 t21 o o_2:Int) (met:List Bool):Option (As [.bool,.int .i64,.int .i64]) :=
 loopF (fun (self:(Int)×(Int)×(Int)×(List YTT5)×(Int)×(Int)×(Int)×(Int)×(List Bool)->Option (As [.bool,.int .i64,.int .i64])) (s:(Int)×(Int)×(Int)×(List YTT5)×(Int)×(Int)×(Int)×(Int)×(List Bool))=>qba_ (q87_) (q5t_ (fun at' many left t19 t20 t21 o o_2 met=>self (at',many,left,t19,t20,t21,o,o_2,met))) (fun at' many left t19 t20 t21 o o_2 met=>self (at',many,left,t19,t20,t21,o,o_2,met)) s.1 s.2.1 s.2.2.1 s.2.2.2.1 s.2.2.2.2.1 s.2.2.2.2.2.1 s.2.2.2.2.2.2.1 s.2.2.2.2.2.2.2.1 s.2.2.2.2.2.2.2.2) 18446744073709551616 (at',many,left,t19,t20,t21,o,o_2,met)
def qgd_ (x:As [.sl (.pr (.int .i64) YTT12),.int .i64,.int .i64,.int .i64,.int .i64]):Option (As [.bool,.int .i64,.int .i64]):=qfa_ qb2_ x.1 x.2.1 x.2.2.1 x.2.2.2.1 x.2.2.2.2.1
theorem qzf_  (J left o o_2):pfn Tryz.prog q1o_ 6 18446744073709551616 (Ev.get q1q_) 258 q1i_ J 15 [] (qft_ left o o_2)=qsi_ left o o_2:=by kernel_rfl
theorem qyk_  (J w1 w3 at' many left to' i t19 t20 t21 o o_2 met x):pfn Tryz.prog q1o_ 6 18446744073709551616 (Ev.get q1q_) 258 q1i_ J 501369 [w1,w3] (qfr_ at' many left to' i t19 t20 t21 o o_2 met x)=qls_ (fun at' many left t19 t20 t21 o o_2 met=>w1 (q2a_ at' many left t19 t20 t21 o o_2 met)) (fun at' many left to' i t19 t20 t21 o o_2 met x=>w3 (q3t_ at' many left to' i t19 t20 t21 o o_2 met x)) at' many left to' i t19 t20 t21 o o_2 met x:=by kernel_rfl
theorem qzd_  (J w1 w3 at' many left to' i t19 t20 t21 o o_2 met x):pfn Tryz.prog q1o_ 6 18446744073709551616 (Ev.get q1q_) 258 q1i_ J 125342 [w1,w3] (q3t_ at' many left to' i t19 t20 t21 o o_2 met x)=qb8_ (fun at' many left to' i t19 t20 t21 o o_2 met x=>J 501369 [w1,w3] (qfr_ at' many left to' i t19 t20 t21 o o_2 met x)) (fun at' many left t19 t20 t21 o o_2 met=>w1 (q2a_ at' many left t19 t20 t21 o o_2 met)) (fun at' many left to' i t19 t20 t21 o o_2 met x=>w3 (q3t_ at' many left to' i t19 t20 t21 o o_2 met x)) at' many left to' i t19 t20 t21 o o_2 met x:=by kernel_rfl
theorem qz3_  (J w1 at' many left t19 t20 t21 o o_2 met):pfn Tryz.prog q1o_ 6 18446744073709551616 (Ev.get q1q_) 258 q1i_ J 122 [w1] (q2a_ at' many left t19 t20 t21 o o_2 met)=qba_ (fun left o o_2=>J 15 [] (qft_ left o o_2)) (fun at' many left to' i t19 t20 t21 o o_2 met x=>J 125342 [w1] (q3t_ at' many left to' i t19 t20 t21 o o_2 met x)) (fun at' many left t19 t20 t21 o o_2 met=>w1 (q2a_ at' many left t19 t20 t21 o o_2 met)) at' many left t19 t20 t21 o o_2 met:=by kernel_rfl
theorem qz6_ (J:Orc (As [.bool,.int .i64,.int .i64])) (x:As [.sl (.pr (.int .i64) YTT12),.int .i64,.int .i64,.int .i64,.int .i64]):rfn Tryz.prog q1o_ 6 18446744073709551616 (Ev.get q1q_) 258 q1i_ J x=qfa_ (fun at' many left t19 t20 t21 o o_2 met=>J 122 [] (q2a_ at' many left t19 t20 t21 o o_2 met)) x.1 x.2.1 x.2.2.1 x.2.2.2.1 x.2.2.2.2.1:=by kernel_rfl
theorem qzo_  (left o o_2):jfn Tryz.prog q1o_ 6 18446744073709551616 (Ev.get q1q_) 258 q1i_ 15 [] (qft_ left o o_2)=q87_ left o o_2:=by
 rw [q6_ (by decide)]
 rw [qzf_]
 rfl
theorem qz0_  (w1 w3 at' many left to' i t19 t20 t21 o o_2 met x):jfn Tryz.prog q1o_ 6 18446744073709551616 (Ev.get q1q_) 258 q1i_ 501369 [w1,w3] (qfr_ at' many left to' i t19 t20 t21 o o_2 met x)=q5z_ (fun at' many left t19 t20 t21 o o_2 met=>w1 (q2a_ at' many left t19 t20 t21 o o_2 met)) (fun at' many left to' i t19 t20 t21 o o_2 met x=>w3 (q3t_ at' many left to' i t19 t20 t21 o o_2 met x)) at' many left to' i t19 t20 t21 o o_2 met x:=by
 rw [q6_ (by decide)]
 rw [qyk_]
 rfl
theorem qzm_  (w1 at' many left to' i t19 t20 t21 o o_2 met x):jfn Tryz.prog q1o_ 6 18446744073709551616 (Ev.get q1q_) 258 q1i_ 125342 [w1] (q3t_ at' many left to' i t19 t20 t21 o o_2 met x)=q5t_ (fun at' many left t19 t20 t21 o o_2 met=>w1 (q2a_ at' many left t19 t20 t21 o o_2 met)) at' many left to' i t19 t20 t21 o o_2 met x:=by
 rw [q6_ (by decide)]
 rw [qn_ (by kernel_rfl)]
 refine qh_ (σ:=(Int)×(Int)×(Int)×(Int)×(Int)×(List YTT5)×(Int)×(Int)×(Int)×(Int)×(List Bool)×YTT5) (mk:=fun s=>q3t_ s.1 s.2.1 s.2.2.1 s.2.2.2.1 s.2.2.2.2.1 s.2.2.2.2.2.1 s.2.2.2.2.2.2.1 s.2.2.2.2.2.2.2.1 s.2.2.2.2.2.2.2.2.1 s.2.2.2.2.2.2.2.2.2.1 s.2.2.2.2.2.2.2.2.2.2.1 s.2.2.2.2.2.2.2.2.2.2.2) (fun w3 s=>?_) 18446744073709551616 (at',many,left,to',i,t19,t20,t21,o,o_2,met,x)
 have e4:(fun at' many left to' i t19 t20 t21 o o_2 met x=>(jfn Tryz.prog q1o_ 6 18446744073709551616 (Ev.get q1q_) 258 q1i_) 501369 [w1,w3] (qfr_ at' many left to' i t19 t20 t21 o o_2 met x))=q5z_ (fun at' many left t19 t20 t21 o o_2 met=>w1 (q2a_ at' many left t19 t20 t21 o o_2 met)) (fun at' many left to' i t19 t20 t21 o o_2 met x=>w3 (q3t_ at' many left to' i t19 t20 t21 o o_2 met x)):=by funext at' many left to' i t19 t20 t21 o o_2 met x; exact qz0_ w1 w3 at' many left to' i t19 t20 t21 o o_2 met x
 refine (qzd_ _ w1 w3 s.1 s.2.1 s.2.2.1 s.2.2.2.1 s.2.2.2.2.1 s.2.2.2.2.2.1 s.2.2.2.2.2.2.1 s.2.2.2.2.2.2.2.1 s.2.2.2.2.2.2.2.2.1 s.2.2.2.2.2.2.2.2.2.1 s.2.2.2.2.2.2.2.2.2.2.1 s.2.2.2.2.2.2.2.2.2.2.2).trans ?_
 rw [e4]
theorem qzu_  (at' many left t19 t20 t21 o o_2 met):jfn Tryz.prog q1o_ 6 18446744073709551616 (Ev.get q1q_) 258 q1i_ 122 [] (q2a_ at' many left t19 t20 t21 o o_2 met)=qb2_ at' many left t19 t20 t21 o o_2 met:=by
 rw [q6_ (by decide)]
 rw [qn_ (by kernel_rfl)]
 refine qh_ (σ:=(Int)×(Int)×(Int)×(List YTT5)×(Int)×(Int)×(Int)×(Int)×(List Bool)) (mk:=fun s=>q2a_ s.1 s.2.1 s.2.2.1 s.2.2.2.1 s.2.2.2.2.1 s.2.2.2.2.2.1 s.2.2.2.2.2.2.1 s.2.2.2.2.2.2.2.1 s.2.2.2.2.2.2.2.2) (fun w1 s=>?_) 18446744073709551616 (at',many,left,t19,t20,t21,o,o_2,met)
 have e2:(fun left o o_2=>(jfn Tryz.prog q1o_ 6 18446744073709551616 (Ev.get q1q_) 258 q1i_) 15 [] (qft_ left o o_2))=q87_:=by funext left o o_2; exact qzo_ left o o_2
 have e3:(fun at' many left to' i t19 t20 t21 o o_2 met x=>(jfn Tryz.prog q1o_ 6 18446744073709551616 (Ev.get q1q_) 258 q1i_) 125342 [w1] (q3t_ at' many left to' i t19 t20 t21 o o_2 met x))=q5t_ (fun at' many left t19 t20 t21 o o_2 met=>w1 (q2a_ at' many left t19 t20 t21 o o_2 met)):=by funext at' many left to' i t19 t20 t21 o o_2 met x; exact qzm_ w1 at' many left to' i t19 t20 t21 o o_2 met x
 refine (qz3_ _ w1 s.1 s.2.1 s.2.2.1 s.2.2.2.1 s.2.2.2.2.1 s.2.2.2.2.2.1 s.2.2.2.2.2.2.1 s.2.2.2.2.2.2.2.1 s.2.2.2.2.2.2.2.2).trans ?_
 rw [e2,e3]
theorem q10h_ (x:As [.sl (.pr (.int .i64) YTT12),.int .i64,.int .i64,.int .i64,.int .i64]):evT Tryz.prog q1o_ 6 18446744073709551616 (Ev.get q1q_) 258 q1i_ x=qgd_ x:=by
 have e1:(fun at' many left t19 t20 t21 o o_2 met=>(jfn Tryz.prog q1o_ 6 18446744073709551616 (Ev.get q1q_) 258 q1i_) 122 [] (q2a_ at' many left t19 t20 t21 o o_2 met))=qb2_:=by funext at' many left t19 t20 t21 o o_2 met; exact qzu_ at' many left t19 t20 t21 o o_2 met
 rw [qi_,qz6_,e1]
 rfl
theorem qfp_:CtOk Tryz.prog (fun _=>True) 258 ⟨q1i_,qgd_⟩:=qc_ (q0_ q2u_ (q0_ q2v_ (q0_ qkl_ (q0_ q2h_ (q0_ q2g_ q3_))))) q10h_
@[reducible] def q1k_:Sh:=⟨[.d YTT1,.d (.int .i64),.d (.int .i64),.fn (.func 264) [] []],[],[.sl (.pr (.int .i64) YTT12),.int .i64,.int .i64],[.d (.bool)],[],0,[.bool]⟩
def q1p_:Env:=(cts [(259,(⟨q35_,q1e_⟩:Ct)),(260,(⟨q33_,q16_⟩:Ct)),(261,(⟨q2b_,q72_⟩:Ct)),(264,(⟨q2l_,q19_⟩:Ct)),(265,(⟨q2m_,q11_⟩:Ct))])
def q1t_:List (Nat×Hint):=[(15,⟨[],[10]⟩),(122,⟨[],[1,2,3,9,10,19,20,21]⟩),(125342,⟨[],[1,2,3,9,10,12,14,15,19,20,21]⟩),(501369,⟨[],[1,2,3,9,10,12,14,15,19,20,21]⟩)]
def q29_ (at' many left:Int) (t19:List YTT5) (t20 t21:Int) (met:List Bool):St:={ fr:=[(1,.d (.int .i64) at'),(2,.d (.int .i64) many),(3,.fn (.func 264) [] []),(9,.row 0),(10,.d (.int .i64) left),(19,.d YTT1 t19),(20,.d (.int .i64) t20),(21,.d (.int .i64) t21)],nt:=62,up:=[],own:=[(0,.row .bool 4 met)],nx:=1,log:=[],ln:=0 }
def qfc_ (left:Int):St:={ fr:=[(10,.d (.int .i64) left)],nt:=62,up:=[],own:=[],nx:=0,log:=[],ln:=0 }
def q3w_ (at' many left to' i:Int) (t19:List YTT5) (t20 t21:Int) (met:List Bool) (x:q18_):St:={ fr:=[(1,.d (.int .i64) at'),(2,.d (.int .i64) many),(3,.fn (.func 264) [] []),(9,.row 0),(10,.d (.int .i64) left),(12,.pb 1 0),(14,.d (.int .i64) to'),(15,.d (.int .i64) i),(19,.d YTT1 t19),(20,.d (.int .i64) t20),(21,.d (.int .i64) t21)],nt:=62,up:=[],own:=[(0,.row .bool 4 met),(1,.box 168 [.d (.int .i64) x.1,.d (.int .i64) x.2.1,.d .bool x.2.2.1,.d .bool x.2.2.2.1,.d .bool x.2.2.2.2])],nx:=2,log:=[],ln:=0 }
def qg3_ (at' many left to' i:Int) (t19:List YTT5) (t20 t21:Int) (met:List Bool) (x:q18_):St:={ fr:=[(1,.d (.int .i64) at'),(2,.d (.int .i64) many),(3,.fn (.func 264) [] []),(9,.row 0),(10,.d (.int .i64) left),(12,.pb 1 0),(14,.d (.int .i64) to'),(15,.d (.int .i64) i),(19,.d YTT1 t19),(20,.d (.int .i64) t20),(21,.d (.int .i64) t21)],nt:=62,up:=[],own:=[(0,.row .bool 4 met),(1,.box 168 [.d (.int .i64) x.1,.d (.int .i64) x.2.1,.d .bool x.2.2.1,.d .bool x.2.2.2.1,.d .bool x.2.2.2.2])],nx:=2,log:=[],ln:=0 }
def qav_ (j2:Int->Option (As [.bool])) (j3:Int->Int->Int->Int->Int->List YTT5->Int->Int->List Bool->q18_->Option (As [.bool])) (self1:Int->Int->Int->List YTT5->Int->Int->List Bool->Option (As [.bool])) (at' many left:Int) (t19:List YTT5) (t20 t21:Int) (met:List Bool):Option (As [.bool]) :=
 if lt t21 t20=true then Option.bind (at? t19 t21) fun y=>if eqi left 0=true then j2 left else Option.bind (q72_ (y,at',add .i64 at' many,())) fun y_1=>j3 at' many left y_1.2.1 y_1.1 t19 t20 t21 met y else j2 left
def qs9_ (left:Int):Option (As [.bool]) :=
 some (eqi left 0,())
def qal_ (j4:Int->Int->Int->Int->Int->List YTT5->Int->Int->List Bool->q18_->Option (As [.bool])) (self1:Int->Int->Int->List YTT5->Int->Int->List Bool->Option (As [.bool])) (self3:Int->Int->Int->Int->Int->List YTT5->Int->Int->List Bool->q18_->Option (As [.bool])) (at' many left to' i:Int) (t19:List YTT5) (t20 t21:Int) (met:List Bool) (x:q18_):Option (As [.bool]) :=
 if lt i to'=true then Option.bind (at? met (Sx.sub .i64 i at')) fun x_1=>Option.bind (at? met (Sx.sub .i64 i at')) fun y=>if y=true then j4 at' many left to' i t19 t20 t21 met x else Option.bind (q19_ (x,())) fun y=>if (!y.1)=true then some (false,()) else Option.bind (at? met (Sx.sub .i64 i at')) fun x_2=>Option.bind (at? met (Sx.sub .i64 i at')) fun x_3=>j4 at' many (Sx.sub .i64 left 1) to' i t19 t20 t21 (List.set met (Int.toNat (Sx.sub .i64 i at')) true) x else self1 at' many left t19 t20 (add .i64 t21 1) met
def qln_ (self1:Int->Int->Int->List YTT5->Int->Int->List Bool->Option (As [.bool])) (self3:Int->Int->Int->Int->Int->List YTT5->Int->Int->List Bool->q18_->Option (As [.bool])) (at' many left to' i:Int) (t19:List YTT5) (t20 t21:Int) (met:List Bool) (x:q18_):Option (As [.bool]) :=
 self3 at' many left to' (add .i64 i 1) t19 t20 t21 met x
def qfb_ (j1:Int->Int->Int->List YTT5->Int->Int->List Bool->Option (As [.bool])) (areas:List YTT5) (at' many:Int):Option (As [.bool]) :=
 need (ge many 0) (need (Ev.capOk many many) (need (small (Int.toNat many)) (j1 at' many many areas (Int.ofNat (List.length areas)) 0 (List.replicate (Int.toNat many) false))))
def q80_ (left:Int):Option (As [.bool]):=qs9_ left
def q5y_ (u1:Int->Int->Int->List YTT5->Int->Int->List Bool->Option (As [.bool])) (u3:Int->Int->Int->Int->Int->List YTT5->Int->Int->List Bool->q18_->Option (As [.bool])) (at' many left to' i:Int) (t19:List YTT5) (t20 t21:Int) (met:List Bool) (x:q18_):Option (As [.bool]):=qln_ u1 u3 at' many left to' i t19 t20 t21 met x
def q5w_ (u1:Int->Int->Int->List YTT5->Int->Int->List Bool->Option (As [.bool])) (at' many left to' i:Int) (t19:List YTT5) (t20 t21:Int) (met:List Bool) (x:q18_):Option (As [.bool]) :=
 loopF (fun (self:(Int)×(Int)×(Int)×(Int)×(Int)×(List YTT5)×(Int)×(Int)×(List Bool)×YTT5->Option (As [.bool])) (s:(Int)×(Int)×(Int)×(Int)×(Int)×(List YTT5)×(Int)×(Int)×(List Bool)×YTT5)=>qal_ (q5y_ u1 (fun at' many left to' i t19 t20 t21 met x=>self (at',many,left,to',i,t19,t20,t21,met,x))) u1 (fun at' many left to' i t19 t20 t21 met x=>self (at',many,left,to',i,t19,t20,t21,met,x)) s.1 s.2.1 s.2.2.1 s.2.2.2.1 s.2.2.2.2.1 s.2.2.2.2.2.1 s.2.2.2.2.2.2.1 s.2.2.2.2.2.2.2.1 s.2.2.2.2.2.2.2.2.1 s.2.2.2.2.2.2.2.2.2) 18446744073709551616 (at',many,left,to',i,t19,t20,t21,met,x)
def qbc_ (at' many left:Int) (t19:List YTT5) (t20 t21:Int) (met:List Bool):Option (As [.bool]) :=
 loopF (fun (self:(Int)×(Int)×(Int)×(List YTT5)×(Int)×(Int)×(List Bool)->Option (As [.bool])) (s:(Int)×(Int)×(Int)×(List YTT5)×(Int)×(Int)×(List Bool))=>qav_ (q80_) (q5w_ (fun at' many left t19 t20 t21 met=>self (at',many,left,t19,t20,t21,met))) (fun at' many left t19 t20 t21 met=>self (at',many,left,t19,t20,t21,met)) s.1 s.2.1 s.2.2.1 s.2.2.2.1 s.2.2.2.2.1 s.2.2.2.2.2.1 s.2.2.2.2.2.2) 18446744073709551616 (at',many,left,t19,t20,t21,met)
def qgo_ (x:As [.sl (.pr (.int .i64) YTT12),.int .i64,.int .i64]):Option (As [.bool]):=qfb_ qbc_ x.1 x.2.1 x.2.2.1
theorem qys_  (J left):pfn Tryz.prog q1p_ 6 18446744073709551616 (Ev.get q1t_) 258 q1k_ J 15 [] (qfc_ left)=qs9_ left:=by kernel_rfl
theorem qzq_  (J w1 w3 at' many left to' i t19 t20 t21 met x):pfn Tryz.prog q1p_ 6 18446744073709551616 (Ev.get q1t_) 258 q1k_ J 501369 [w1,w3] (qg3_ at' many left to' i t19 t20 t21 met x)=qln_ (fun at' many left t19 t20 t21 met=>w1 (q29_ at' many left t19 t20 t21 met)) (fun at' many left to' i t19 t20 t21 met x=>w3 (q3w_ at' many left to' i t19 t20 t21 met x)) at' many left to' i t19 t20 t21 met x:=by kernel_rfl
theorem qyl_  (J w1 w3 at' many left to' i t19 t20 t21 met x):pfn Tryz.prog q1p_ 6 18446744073709551616 (Ev.get q1t_) 258 q1k_ J 125342 [w1,w3] (q3w_ at' many left to' i t19 t20 t21 met x)=qal_ (fun at' many left to' i t19 t20 t21 met x=>J 501369 [w1,w3] (qg3_ at' many left to' i t19 t20 t21 met x)) (fun at' many left t19 t20 t21 met=>w1 (q29_ at' many left t19 t20 t21 met)) (fun at' many left to' i t19 t20 t21 met x=>w3 (q3w_ at' many left to' i t19 t20 t21 met x)) at' many left to' i t19 t20 t21 met x:=by kernel_rfl
theorem qyw_  (J w1 at' many left t19 t20 t21 met):pfn Tryz.prog q1p_ 6 18446744073709551616 (Ev.get q1t_) 258 q1k_ J 122 [w1] (q29_ at' many left t19 t20 t21 met)=qav_ (fun left=>J 15 [] (qfc_ left)) (fun at' many left to' i t19 t20 t21 met x=>J 125342 [w1] (q3w_ at' many left to' i t19 t20 t21 met x)) (fun at' many left t19 t20 t21 met=>w1 (q29_ at' many left t19 t20 t21 met)) at' many left t19 t20 t21 met:=by kernel_rfl
theorem qyu_ (J:Orc (As [.bool])) (x:As [.sl (.pr (.int .i64) YTT12),.int .i64,.int .i64]):rfn Tryz.prog q1p_ 6 18446744073709551616 (Ev.get q1t_) 258 q1k_ J x=qfb_ (fun at' many left t19 t20 t21 met=>J 122 [] (q29_ at' many left t19 t20 t21 met)) x.1 x.2.1 x.2.2.1:=by kernel_rfl
theorem qyi_  (left):jfn Tryz.prog q1p_ 6 18446744073709551616 (Ev.get q1t_) 258 q1k_ 15 [] (qfc_ left)=q80_ left:=by
 rw [q6_ (by decide)]
 rw [qys_]
 rfl
theorem qza_  (w1 w3 at' many left to' i t19 t20 t21 met x):jfn Tryz.prog q1p_ 6 18446744073709551616 (Ev.get q1t_) 258 q1k_ 501369 [w1,w3] (qg3_ at' many left to' i t19 t20 t21 met x)=q5y_ (fun at' many left t19 t20 t21 met=>w1 (q29_ at' many left t19 t20 t21 met)) (fun at' many left to' i t19 t20 t21 met x=>w3 (q3w_ at' many left to' i t19 t20 t21 met x)) at' many left to' i t19 t20 t21 met x:=by
 rw [q6_ (by decide)]
 rw [qzq_]
 rfl
theorem qze_  (w1 at' many left to' i t19 t20 t21 met x):jfn Tryz.prog q1p_ 6 18446744073709551616 (Ev.get q1t_) 258 q1k_ 125342 [w1] (q3w_ at' many left to' i t19 t20 t21 met x)=q5w_ (fun at' many left t19 t20 t21 met=>w1 (q29_ at' many left t19 t20 t21 met)) at' many left to' i t19 t20 t21 met x:=by
 rw [q6_ (by decide)]
 rw [qn_ (by kernel_rfl)]
 refine qh_ (σ:=(Int)×(Int)×(Int)×(Int)×(Int)×(List YTT5)×(Int)×(Int)×(List Bool)×YTT5) (mk:=fun s=>q3w_ s.1 s.2.1 s.2.2.1 s.2.2.2.1 s.2.2.2.2.1 s.2.2.2.2.2.1 s.2.2.2.2.2.2.1 s.2.2.2.2.2.2.2.1 s.2.2.2.2.2.2.2.2.1 s.2.2.2.2.2.2.2.2.2) (fun w3 s=>?_) 18446744073709551616 (at',many,left,to',i,t19,t20,t21,met,x)
 have e4:(fun at' many left to' i t19 t20 t21 met x=>(jfn Tryz.prog q1p_ 6 18446744073709551616 (Ev.get q1t_) 258 q1k_) 501369 [w1,w3] (qg3_ at' many left to' i t19 t20 t21 met x))=q5y_ (fun at' many left t19 t20 t21 met=>w1 (q29_ at' many left t19 t20 t21 met)) (fun at' many left to' i t19 t20 t21 met x=>w3 (q3w_ at' many left to' i t19 t20 t21 met x)):=by funext at' many left to' i t19 t20 t21 met x; exact qza_ w1 w3 at' many left to' i t19 t20 t21 met x
 refine (qyl_ _ w1 w3 s.1 s.2.1 s.2.2.1 s.2.2.2.1 s.2.2.2.2.1 s.2.2.2.2.2.1 s.2.2.2.2.2.2.1 s.2.2.2.2.2.2.2.1 s.2.2.2.2.2.2.2.2.1 s.2.2.2.2.2.2.2.2.2).trans ?_
 rw [e4]
theorem qyp_  (at' many left t19 t20 t21 met):jfn Tryz.prog q1p_ 6 18446744073709551616 (Ev.get q1t_) 258 q1k_ 122 [] (q29_ at' many left t19 t20 t21 met)=qbc_ at' many left t19 t20 t21 met:=by
 rw [q6_ (by decide)]
 rw [qn_ (by kernel_rfl)]
 refine qh_ (σ:=(Int)×(Int)×(Int)×(List YTT5)×(Int)×(Int)×(List Bool)) (mk:=fun s=>q29_ s.1 s.2.1 s.2.2.1 s.2.2.2.1 s.2.2.2.2.1 s.2.2.2.2.2.1 s.2.2.2.2.2.2) (fun w1 s=>?_) 18446744073709551616 (at',many,left,t19,t20,t21,met)
 have e2:(fun left=>(jfn Tryz.prog q1p_ 6 18446744073709551616 (Ev.get q1t_) 258 q1k_) 15 [] (qfc_ left))=q80_:=funext fun left=>qyi_ left
 have e3:(fun at' many left to' i t19 t20 t21 met x=>(jfn Tryz.prog q1p_ 6 18446744073709551616 (Ev.get q1t_) 258 q1k_) 125342 [w1] (q3w_ at' many left to' i t19 t20 t21 met x))=q5w_ (fun at' many left t19 t20 t21 met=>w1 (q29_ at' many left t19 t20 t21 met)):=by funext at' many left to' i t19 t20 t21 met x; exact qze_ w1 at' many left to' i t19 t20 t21 met x
 refine (qyw_ _ w1 s.1 s.2.1 s.2.2.1 s.2.2.2.1 s.2.2.2.2.1 s.2.2.2.2.2.1 s.2.2.2.2.2.2).trans ?_
 rw [e2,e3]
theorem q101_ (x:As [.sl (.pr (.int .i64) YTT12),.int .i64,.int .i64]):evT Tryz.prog q1p_ 6 18446744073709551616 (Ev.get q1t_) 258 q1k_ x=qgo_ x:=by
 have e1:(fun at' many left t19 t20 t21 met=>(jfn Tryz.prog q1p_ 6 18446744073709551616 (Ev.get q1t_) 258 q1k_) 122 [] (q29_ at' many left t19 t20 t21 met))=qbc_:=by funext at' many left t19 t20 t21 met; exact qyp_ at' many left t19 t20 t21 met
 rw [qi_,qyu_,e1]
 rfl
theorem qfk_:CtOk Tryz.prog (fun _=>True) 258 ⟨q1k_,qgo_⟩:=qc_ (q0_ q2u_ (q0_ q2v_ (q0_ qkl_ (q0_ q2h_ (q0_ q2g_ q3_))))) q101_
@[reducible] def q1j_:Sh:=⟨[.d YTT1,.d (.int .i64),.d (.int .i64),.fn (.func 265) [] [.pb 0 0,.pb 1 0]],[.box 3 [.d (.int .i64)],.box 3 [.d (.int .i64)]],[.sl (.pr (.int .i64) YTT12),.int .i64,.int .i64,.int .i64,.int .i64],[.d (.bool)],[(0,.box 3 [.d (.int .i64)]),(1,.box 3 [.d (.int .i64)])],0,[.bool,.int .i64,.int .i64]⟩
def q1n_:Env:=(cts [(259,(⟨q35_,q1e_⟩:Ct)),(260,(⟨q33_,q16_⟩:Ct)),(261,(⟨q2b_,q72_⟩:Ct)),(264,(⟨q2l_,q19_⟩:Ct)),(265,(⟨q2m_,q11_⟩:Ct))])
def q1u_:List (Nat×Hint):=[(15,⟨[],[10]⟩),(122,⟨[],[1,2,3,9,10,19,20,21]⟩),(125342,⟨[],[1,2,3,9,10,12,14,15,19,20,21]⟩),(501369,⟨[],[1,2,3,9,10,12,14,15,19,20,21]⟩)]
def q28_ (at' many left:Int) (t19:List YTT5) (t20 t21 o o_2:Int) (met:List Bool):St:={ fr:=[(1,.d (.int .i64) at'),(2,.d (.int .i64) many),(3,.fn (.func 265) [] [.pb 0 0,.pb 1 0]),(9,.row 2),(10,.d (.int .i64) left),(19,.d YTT1 t19),(20,.d (.int .i64) t20),(21,.d (.int .i64) t21)],nt:=62,up:=[],own:=[(0,.box 3 [.d (.int .i64) o]),(1,.box 3 [.d (.int .i64) o_2]),(2,.row .bool 4 met)],nx:=3,log:=[],ln:=2 }
def qg4_ (left o o_2:Int):St:={ fr:=[(10,.d (.int .i64) left)],nt:=62,up:=[],own:=[(0,.box 3 [.d (.int .i64) o]),(1,.box 3 [.d (.int .i64) o_2])],nx:=2,log:=[],ln:=2 }
def q3x_ (at' many left to' i:Int) (t19:List YTT5) (t20 t21 o o_2:Int) (met:List Bool) (x:q18_):St:={ fr:=[(1,.d (.int .i64) at'),(2,.d (.int .i64) many),(3,.fn (.func 265) [] [.pb 0 0,.pb 1 0]),(9,.row 2),(10,.d (.int .i64) left),(12,.pb 3 0),(14,.d (.int .i64) to'),(15,.d (.int .i64) i),(19,.d YTT1 t19),(20,.d (.int .i64) t20),(21,.d (.int .i64) t21)],nt:=62,up:=[],own:=[(0,.box 3 [.d (.int .i64) o]),(1,.box 3 [.d (.int .i64) o_2]),(2,.row .bool 4 met),(3,.box 168 [.d (.int .i64) x.1,.d (.int .i64) x.2.1,.d .bool x.2.2.1,.d .bool x.2.2.2.1,.d .bool x.2.2.2.2])],nx:=4,log:=[],ln:=2 }
def qf1_ (at' many left to' i:Int) (t19:List YTT5) (t20 t21 o o_2:Int) (met:List Bool) (x:q18_):St:={ fr:=[(1,.d (.int .i64) at'),(2,.d (.int .i64) many),(3,.fn (.func 265) [] [.pb 0 0,.pb 1 0]),(9,.row 2),(10,.d (.int .i64) left),(12,.pb 3 0),(14,.d (.int .i64) to'),(15,.d (.int .i64) i),(19,.d YTT1 t19),(20,.d (.int .i64) t20),(21,.d (.int .i64) t21)],nt:=62,up:=[],own:=[(0,.box 3 [.d (.int .i64) o]),(1,.box 3 [.d (.int .i64) o_2]),(2,.row .bool 4 met),(3,.box 168 [.d (.int .i64) x.1,.d (.int .i64) x.2.1,.d .bool x.2.2.1,.d .bool x.2.2.2.1,.d .bool x.2.2.2.2])],nx:=4,log:=[],ln:=2 }
def qb7_ (j2:Int->Int->Int->Option (As [.bool,.int .i64,.int .i64])) (j3:Int->Int->Int->Int->Int->List YTT5->Int->Int->Int->Int->List Bool->q18_->Option (As [.bool,.int .i64,.int .i64])) (self1:Int->Int->Int->List YTT5->Int->Int->Int->Int->List Bool->Option (As [.bool,.int .i64,.int .i64])) (at' many left:Int) (t19:List YTT5) (t20 t21 o o_2:Int) (met:List Bool):Option (As [.bool,.int .i64,.int .i64]) :=
 if lt t21 t20=true then Option.bind (at? t19 t21) fun y=>if eqi left 0=true then j2 left o o_2 else Option.bind (q72_ (y,at',add .i64 at' many,())) fun y_1=>j3 at' many left y_1.2.1 y_1.1 t19 t20 t21 o o_2 met y else j2 left o o_2
def qsa_ (left o o_2:Int):Option (As [.bool,.int .i64,.int .i64]) :=
 some (eqi left 0,o,o_2,())
def qaw_ (j4:Int->Int->Int->Int->Int->List YTT5->Int->Int->Int->Int->List Bool->q18_->Option (As [.bool,.int .i64,.int .i64])) (self1:Int->Int->Int->List YTT5->Int->Int->Int->Int->List Bool->Option (As [.bool,.int .i64,.int .i64])) (self3:Int->Int->Int->Int->Int->List YTT5->Int->Int->Int->Int->List Bool->q18_->Option (As [.bool,.int .i64,.int .i64])) (at' many left to' i:Int) (t19:List YTT5) (t20 t21 o o_2:Int) (met:List Bool) (x:q18_):Option (As [.bool,.int .i64,.int .i64]) :=
 if lt i to'=true then Option.bind (at? met (Sx.sub .i64 i at')) fun x_1=>Option.bind (at? met (Sx.sub .i64 i at')) fun y=>if y=true then j4 at' many left to' i t19 t20 t21 o o_2 met x else Option.bind (q11_ (x,o,o_2,())) fun y=>if (!y.1)=true then some (false,y.2.1,y.2.2.1,()) else Option.bind (at? met (Sx.sub .i64 i at')) fun x_2=>Option.bind (at? met (Sx.sub .i64 i at')) fun x_3=>j4 at' many (Sx.sub .i64 left 1) to' i t19 t20 t21 y.2.1 y.2.2.1 (List.set met (Int.toNat (Sx.sub .i64 i at')) true) x else self1 at' many left t19 t20 (add .i64 t21 1) o o_2 met
def qll_ (self1:Int->Int->Int->List YTT5->Int->Int->Int->Int->List Bool->Option (As [.bool,.int .i64,.int .i64])) (self3:Int->Int->Int->Int->Int->List YTT5->Int->Int->Int->Int->List Bool->q18_->Option (As [.bool,.int .i64,.int .i64])) (at' many left to' i:Int) (t19:List YTT5) (t20 t21 o o_2:Int) (met:List Bool) (x:q18_):Option (As [.bool,.int .i64,.int .i64]) :=
 self3 at' many left to' (add .i64 i 1) t19 t20 t21 o o_2 met x
def qf4_ (j1:Int->Int->Int->List YTT5->Int->Int->Int->Int->List Bool->Option (As [.bool,.int .i64,.int .i64])) (areas:List YTT5) (at' many wanted areas_2:Int):Option (As [.bool,.int .i64,.int .i64]) :=
 need (ge many 0) (need (Ev.capOk many many) (need (small (Int.toNat many)) (j1 at' many many areas (Int.ofNat (List.length areas)) 0 wanted areas_2 (List.replicate (Int.toNat many) false))))
def q86_ (left o o_2:Int):Option (As [.bool,.int .i64,.int .i64]):=qsa_ left o o_2
def q5x_ (u1:Int->Int->Int->List YTT5->Int->Int->Int->Int->List Bool->Option (As [.bool,.int .i64,.int .i64])) (u3:Int->Int->Int->Int->Int->List YTT5->Int->Int->Int->Int->List Bool->q18_->Option (As [.bool,.int .i64,.int .i64])) (at' many left to' i:Int) (t19:List YTT5) (t20 t21 o o_2:Int) (met:List Bool) (x:q18_):Option (As [.bool,.int .i64,.int .i64]):=qll_ u1 u3 at' many left to' i t19 t20 t21 o o_2 met x
def q60_ (u1:Int->Int->Int->List YTT5->Int->Int->Int->Int->List Bool->Option (As [.bool,.int .i64,.int .i64])) (at' many left to' i:Int) (t19:List YTT5) (t20 t21 o o_2:Int) (met:List Bool) (x:q18_):Option (As [.bool,.int .i64,.int .i64]) :=
 loopF (fun (self:(Int)×(Int)×(Int)×(Int)×(Int)×(List YTT5)×(Int)×(Int)×(Int)×(Int)×(List Bool)×YTT5->Option (As [.bool,.int .i64,.int .i64])) (s:(Int)×(Int)×(Int)×(Int)×(Int)×(List YTT5)×(Int)×(Int)×(Int)×(Int)×(List Bool)×YTT5)=>qaw_ (q5x_ u1 (fun at' many left to' i t19 t20 t21 o o_2 met x=>self (at',many,left,to',i,t19,t20,t21,o,o_2,met,x))) u1 (fun at' many left to' i t19 t20 t21 o o_2 met x=>self (at',many,left,to',i,t19,t20,t21,o,o_2,met,x)) s.1 s.2.1 s.2.2.1 s.2.2.2.1 s.2.2.2.2.1 s.2.2.2.2.2.1 s.2.2.2.2.2.2.1 s.2.2.2.2.2.2.2.1 s.2.2.2.2.2.2.2.2.1 s.2.2.2.2.2.2.2.2.2.1 s.2.2.2.2.2.2.2.2.2.2.1 s.2.2.2.2.2.2.2.2.2.2.2) 18446744073709551616 (at',many,left,to',i,t19,t20,t21,o,o_2,met,x)
def qau_ (at' many left:Int) (t19:List YTT5) (t20 t21 o o_2:Int) (met:List Bool):Option (As [.bool,.int .i64,.int .i64]) :=
 loopF (fun (self:(Int)×(Int)×(Int)×(List YTT5)×(Int)×(Int)×(Int)×(Int)×(List Bool)->Option (As [.bool,.int .i64,.int .i64])) (s:(Int)×(Int)×(Int)×(List YTT5)×(Int)×(Int)×(Int)×(Int)×(List Bool))=>qb7_ (q86_) (q60_ (fun at' many left t19 t20 t21 o o_2 met=>self (at',many,left,t19,t20,t21,o,o_2,met))) (fun at' many left t19 t20 t21 o o_2 met=>self (at',many,left,t19,t20,t21,o,o_2,met)) s.1 s.2.1 s.2.2.1 s.2.2.2.1 s.2.2.2.2.1 s.2.2.2.2.2.1 s.2.2.2.2.2.2.1 s.2.2.2.2.2.2.2.1 s.2.2.2.2.2.2.2.2) 18446744073709551616 (at',many,left,t19,t20,t21,o,o_2,met)
def qgn_ (x:As [.sl (.pr (.int .i64) YTT12),.int .i64,.int .i64,.int .i64,.int .i64]):Option (As [.bool,.int .i64,.int .i64]):=qf4_ qau_ x.1 x.2.1 x.2.2.1 x.2.2.2.1 x.2.2.2.2.1
theorem qyz_  (J left o o_2):pfn Tryz.prog q1n_ 6 18446744073709551616 (Ev.get q1u_) 258 q1j_ J 15 [] (qg4_ left o o_2)=qsa_ left o o_2:=by kernel_rfl
theorem qzr_  (J w1 w3 at' many left to' i t19 t20 t21 o o_2 met x):pfn Tryz.prog q1n_ 6 18446744073709551616 (Ev.get q1u_) 258 q1j_ J 501369 [w1,w3] (qf1_ at' many left to' i t19 t20 t21 o o_2 met x)=qll_ (fun at' many left t19 t20 t21 o o_2 met=>w1 (q28_ at' many left t19 t20 t21 o o_2 met)) (fun at' many left to' i t19 t20 t21 o o_2 met x=>w3 (q3x_ at' many left to' i t19 t20 t21 o o_2 met x)) at' many left to' i t19 t20 t21 o o_2 met x:=by kernel_rfl
theorem qz1_  (J w1 w3 at' many left to' i t19 t20 t21 o o_2 met x):pfn Tryz.prog q1n_ 6 18446744073709551616 (Ev.get q1u_) 258 q1j_ J 125342 [w1,w3] (q3x_ at' many left to' i t19 t20 t21 o o_2 met x)=qaw_ (fun at' many left to' i t19 t20 t21 o o_2 met x=>J 501369 [w1,w3] (qf1_ at' many left to' i t19 t20 t21 o o_2 met x)) (fun at' many left t19 t20 t21 o o_2 met=>w1 (q28_ at' many left t19 t20 t21 o o_2 met)) (fun at' many left to' i t19 t20 t21 o o_2 met x=>w3 (q3x_ at' many left to' i t19 t20 t21 o o_2 met x)) at' many left to' i t19 t20 t21 o o_2 met x:=by kernel_rfl
theorem qyj_  (J w1 at' many left t19 t20 t21 o o_2 met):pfn Tryz.prog q1n_ 6 18446744073709551616 (Ev.get q1u_) 258 q1j_ J 122 [w1] (q28_ at' many left t19 t20 t21 o o_2 met)=qb7_ (fun left o o_2=>J 15 [] (qg4_ left o o_2)) (fun at' many left to' i t19 t20 t21 o o_2 met x=>J 125342 [w1] (q3x_ at' many left to' i t19 t20 t21 o o_2 met x)) (fun at' many left t19 t20 t21 o o_2 met=>w1 (q28_ at' many left t19 t20 t21 o o_2 met)) at' many left t19 t20 t21 o o_2 met:=by kernel_rfl
theorem qzh_ (J:Orc (As [.bool,.int .i64,.int .i64])) (x:As [.sl (.pr (.int .i64) YTT12),.int .i64,.int .i64,.int .i64,.int .i64]):rfn Tryz.prog q1n_ 6 18446744073709551616 (Ev.get q1u_) 258 q1j_ J x=qf4_ (fun at' many left t19 t20 t21 o o_2 met=>J 122 [] (q28_ at' many left t19 t20 t21 o o_2 met)) x.1 x.2.1 x.2.2.1 x.2.2.2.1 x.2.2.2.2.1:=by kernel_rfl
theorem qz7_  (left o o_2):jfn Tryz.prog q1n_ 6 18446744073709551616 (Ev.get q1u_) 258 q1j_ 15 [] (qg4_ left o o_2)=q86_ left o o_2:=by
 rw [q6_ (by decide)]
 rw [qyz_]
 rfl
theorem qz9_  (w1 w3 at' many left to' i t19 t20 t21 o o_2 met x):jfn Tryz.prog q1n_ 6 18446744073709551616 (Ev.get q1u_) 258 q1j_ 501369 [w1,w3] (qf1_ at' many left to' i t19 t20 t21 o o_2 met x)=q5x_ (fun at' many left t19 t20 t21 o o_2 met=>w1 (q28_ at' many left t19 t20 t21 o o_2 met)) (fun at' many left to' i t19 t20 t21 o o_2 met x=>w3 (q3x_ at' many left to' i t19 t20 t21 o o_2 met x)) at' many left to' i t19 t20 t21 o o_2 met x:=by
 rw [q6_ (by decide)]
 rw [qzr_]
 rfl
theorem qzv_  (w1 at' many left to' i t19 t20 t21 o o_2 met x):jfn Tryz.prog q1n_ 6 18446744073709551616 (Ev.get q1u_) 258 q1j_ 125342 [w1] (q3x_ at' many left to' i t19 t20 t21 o o_2 met x)=q60_ (fun at' many left t19 t20 t21 o o_2 met=>w1 (q28_ at' many left t19 t20 t21 o o_2 met)) at' many left to' i t19 t20 t21 o o_2 met x:=by
 rw [q6_ (by decide)]
 rw [qn_ (by kernel_rfl)]
 refine qh_ (σ:=(Int)×(Int)×(Int)×(Int)×(Int)×(List YTT5)×(Int)×(Int)×(Int)×(Int)×(List Bool)×YTT5) (mk:=fun s=>q3x_ s.1 s.2.1 s.2.2.1 s.2.2.2.1 s.2.2.2.2.1 s.2.2.2.2.2.1 s.2.2.2.2.2.2.1 s.2.2.2.2.2.2.2.1 s.2.2.2.2.2.2.2.2.1 s.2.2.2.2.2.2.2.2.2.1 s.2.2.2.2.2.2.2.2.2.2.1 s.2.2.2.2.2.2.2.2.2.2.2) (fun w3 s=>?_) 18446744073709551616 (at',many,left,to',i,t19,t20,t21,o,o_2,met,x)
 have e4:(fun at' many left to' i t19 t20 t21 o o_2 met x=>(jfn Tryz.prog q1n_ 6 18446744073709551616 (Ev.get q1u_) 258 q1j_) 501369 [w1,w3] (qf1_ at' many left to' i t19 t20 t21 o o_2 met x))=q5x_ (fun at' many left t19 t20 t21 o o_2 met=>w1 (q28_ at' many left t19 t20 t21 o o_2 met)) (fun at' many left to' i t19 t20 t21 o o_2 met x=>w3 (q3x_ at' many left to' i t19 t20 t21 o o_2 met x)):=by funext at' many left to' i t19 t20 t21 o o_2 met x; exact qz9_ w1 w3 at' many left to' i t19 t20 t21 o o_2 met x
 refine (qz1_ _ w1 w3 s.1 s.2.1 s.2.2.1 s.2.2.2.1 s.2.2.2.2.1 s.2.2.2.2.2.1 s.2.2.2.2.2.2.1 s.2.2.2.2.2.2.2.1 s.2.2.2.2.2.2.2.2.1 s.2.2.2.2.2.2.2.2.2.1 s.2.2.2.2.2.2.2.2.2.2.1 s.2.2.2.2.2.2.2.2.2.2.2).trans ?_
 rw [e4]
theorem qyx_  (at' many left t19 t20 t21 o o_2 met):jfn Tryz.prog q1n_ 6 18446744073709551616 (Ev.get q1u_) 258 q1j_ 122 [] (q28_ at' many left t19 t20 t21 o o_2 met)=qau_ at' many left t19 t20 t21 o o_2 met:=by
 rw [q6_ (by decide)]
 rw [qn_ (by kernel_rfl)]
 refine qh_ (σ:=(Int)×(Int)×(Int)×(List YTT5)×(Int)×(Int)×(Int)×(Int)×(List Bool)) (mk:=fun s=>q28_ s.1 s.2.1 s.2.2.1 s.2.2.2.1 s.2.2.2.2.1 s.2.2.2.2.2.1 s.2.2.2.2.2.2.1 s.2.2.2.2.2.2.2.1 s.2.2.2.2.2.2.2.2) (fun w1 s=>?_) 18446744073709551616 (at',many,left,t19,t20,t21,o,o_2,met)
 have e2:(fun left o o_2=>(jfn Tryz.prog q1n_ 6 18446744073709551616 (Ev.get q1u_) 258 q1j_) 15 [] (qg4_ left o o_2))=q86_:=by funext left o o_2; exact qz7_ left o o_2
 have e3:(fun at' many left to' i t19 t20 t21 o o_2 met x=>(jfn Tryz.prog q1n_ 6 18446744073709551616 (Ev.get q1u_) 258 q1j_) 125342 [w1] (q3x_ at' many left to' i t19 t20 t21 o o_2 met x))=q60_ (fun at' many left t19 t20 t21 o o_2 met=>w1 (q28_ at' many left t19 t20 t21 o o_2 met)):=by funext at' many left to' i t19 t20 t21 o o_2 met x; exact qzv_ w1 at' many left to' i t19 t20 t21 o o_2 met x
 refine (qyj_ _ w1 s.1 s.2.1 s.2.2.1 s.2.2.2.1 s.2.2.2.2.1 s.2.2.2.2.2.1 s.2.2.2.2.2.2.1 s.2.2.2.2.2.2.2.1 s.2.2.2.2.2.2.2.2).trans ?_
 rw [e2,e3]
theorem q10x_ (x:As [.sl (.pr (.int .i64) YTT12),.int .i64,.int .i64,.int .i64,.int .i64]):evT Tryz.prog q1n_ 6 18446744073709551616 (Ev.get q1u_) 258 q1j_ x=qgn_ x:=by
 have e1:(fun at' many left t19 t20 t21 o o_2 met=>(jfn Tryz.prog q1n_ 6 18446744073709551616 (Ev.get q1u_) 258 q1j_) 122 [] (q28_ at' many left t19 t20 t21 o o_2 met))=qau_:=by funext at' many left t19 t20 t21 o o_2 met; exact qyx_ at' many left t19 t20 t21 o o_2 met
 rw [qi_,qzh_,e1]
 rfl
theorem qfn_:CtOk Tryz.prog (fun _=>True) 258 ⟨q1j_,qgn_⟩:=qc_ (q0_ q2u_ (q0_ q2v_ (q0_ qkl_ (q0_ q2h_ (q0_ q2g_ q3_))))) q10x_
@[reducible] def qey_:Sh:=⟨[.d (.pr YTT1 (.sl .bool)),.d (.int .i64),.d (.int .i64)],[],[.pr YTT1 (.sl .bool),.int .i64,.int .i64],[.d (.bool)],[],0,[.bool]⟩
def qop_ (t:List YTT5×List Bool) (at' many:Int):Option (As [.bool]) :=
 Option.bind (qgj_ (t.1,at',many,())) fun y=>some (y.1,())
def q2e_ (x:As [.pr YTT1 (.sl .bool),.int .i64,.int .i64]):Option (As [.bool]):=qop_ x.1 x.2.1 x.2.2.1
theorem qoz_:CtOk Tryz.prog (fun _=>True) 256 ⟨qey_,q2e_⟩:=ctn (q0_ qfi_ (q0_ qfp_ (q0_ qfk_ (q0_ qfn_ (q0_ q2u_ q3_))))) 6 fun J x=>by kernel_rfl
@[reducible] def qex_:Sh:=⟨[.d (.pr YTT1 (.sl .bool)),.d (.int .i64),.d (.int .i64)],[],[.pr YTT1 (.sl .bool),.int .i64,.int .i64],[.d (.bool)],[],0,[.bool]⟩
def qp0_ (t:List YTT5×List Bool) (at' many:Int):Option (As [.bool]) :=
 Option.bind (qgd_ (t.1,at',many,at',many,())) fun y=>some (y.1,())
def q2f_ (x:As [.pr YTT1 (.sl .bool),.int .i64,.int .i64]):Option (As [.bool]):=qp0_ x.1 x.2.1 x.2.2.1
theorem qor_:CtOk Tryz.prog (fun _=>True) 257 ⟨qex_,q2f_⟩:=ctn (q0_ qfi_ (q0_ qfp_ (q0_ qfk_ (q0_ qfn_ (q0_ q2v_ q3_))))) 6 fun J x=>by kernel_rfl
@[reducible] def qdc_:Sh:=⟨[.d (.pr YTT1 (.sl (.int .u16))),.d (.int .i64),.d (.int .i64)],[],[.pr YTT1 (.sl (.int .u16)),.int .i64,.int .i64],[.d (.bool)],[],0,[.bool]⟩
def qo4_ (t:List YTT5×List Int) (at' many:Int):Option (As [.bool]) :=
 Option.bind (qgo_ (t.1,at',many,())) fun y=>some (y.1,())
def q1g_ (x:As [.pr YTT1 (.sl (.int .u16)),.int .i64,.int .i64]):Option (As [.bool]):=qo4_ x.1 x.2.1 x.2.2.1
theorem qmo_:CtOk Tryz.prog (fun _=>True) 262 ⟨qdc_,q1g_⟩:=ctn (q0_ qfi_ (q0_ qfp_ (q0_ qfk_ (q0_ qfn_ (q0_ q2h_ q3_))))) 6 fun J x=>by kernel_rfl
@[reducible] def qdb_:Sh:=⟨[.d (.pr YTT1 (.sl (.int .u16))),.d (.int .i64),.d (.int .i64)],[],[.pr YTT1 (.sl (.int .u16)),.int .i64,.int .i64],[.d (.bool)],[],0,[.bool]⟩
def qny_ (t:List YTT5×List Int) (at' many:Int):Option (As [.bool]) :=
 Option.bind (qgn_ (t.1,at',many,at',many,())) fun y=>some (y.1,())
def q1a_ (x:As [.pr YTT1 (.sl (.int .u16)),.int .i64,.int .i64]):Option (As [.bool]):=qny_ x.1 x.2.1 x.2.2.1
theorem qm7_:CtOk Tryz.prog (fun _=>True) 263 ⟨qdb_,q1a_⟩:=ctn (q0_ qfi_ (q0_ qfp_ (q0_ qfk_ (q0_ qfn_ (q0_ q2g_ q3_))))) 6 fun J x=>by kernel_rfl
@[reducible] def q3y_:Sh:=⟨[.d (.pr YTT1 (.pr YTT1 (.pr YTT1 YTT1))),.d (.pr (.int .u8) YTT4)],[],[.pr YTT1 (.pr YTT1 (.pr YTT1 YTT1)),.pr (.int .u8) YTT4],[.d (.int .u8)],[],0,[.int .u8]⟩
def q7n_:Env:=(cts [(58,(⟨q4v_,q9p_⟩:Ct)),(117,(⟨qw4_,qja_⟩:Ct)),(124,(⟨qs2_,qil_⟩:Ct)),(126,(⟨qov_,qap_⟩:Ct)),(256,(⟨qey_,q2e_⟩:Ct)),(257,(⟨qex_,q2f_⟩:Ct)),(262,(⟨qdc_,q1g_⟩:Ct)),(263,(⟨qdb_,q1a_⟩:Ct))])
def q7r_:List (Nat×Hint):=[(509,⟨[],[60]⟩),(125,⟨[],[3,5,6,40,55,56,57,58,59]⟩)]
def qiv_ (t40:Bool) (a:Int×Int×Int×Int×List Int×List Bool) (v:(List YTT5×List Bool)×(List YTT5×List Bool)×(List YTT5×List Int)×List YTT5×List Int) (u:Int×Int):St:={ fr:=[(3,.pb 0 0),(5,.pb 1 0),(6,.pb 2 0),(40,.d .bool t40)],nt:=61,up:=[],own:=[(0,.box 44 [.d (.int .u8) a.1,.d (.int .u16) a.2.1,.d (.int .u16) a.2.2.1,.d (.int .u16) a.2.2.2.1,.d (.sl (.int .u16)) a.2.2.2.2.1,.d (.sl .bool) a.2.2.2.2.2]),(1,.box 174 [.d YTT1 v.1.1,.d (.sl .bool) v.1.2,.d YTT1 v.2.1.1,.d (.sl .bool) v.2.1.2,.d YTT1 v.2.2.1.1,.d (.sl (.int .u16)) v.2.2.1.2,.d YTT1 v.2.2.2.1,.d (.sl (.int .u16)) v.2.2.2.2]),(2,.box 183 [.d (.int .i64) u.1,.d (.int .i64) u.2])],nx:=3,log:=[],ln:=0 }
def qir_ (t60:Bool):St:={ fr:=[(60,.d .bool t60)],nt:=61,up:=[],own:=[],nx:=0,log:=[],ln:=0 }
def qu3_ (j2:Bool->Option (As [.int .u8])) (t40:Bool) (a:Int×Int×Int×Int×List Int×List Bool) (v:(List YTT5×List Bool)×(List YTT5×List Bool)×(List YTT5×List Int)×List YTT5×List Int) (u:Int×Int):Option (As [.int .u8]) :=
 if t40=true then some (2,()) else Option.bind (qap_ (a,())) fun y=>if eqi u.2 1=true then Option.bind (q2f_ (v.1,y.1,y.2.1,())) fun y=>j2 !y.1 else if eqi u.2 2=true then Option.bind (q2f_ (v.2.1,y.1,y.2.1,())) fun y=>j2 !y.1 else if eqi u.2 3=true then Option.bind (q1a_ (v.2.2.1,y.1,y.2.1,())) fun y=>j2 !y.1 else if eqi u.2 4=true then Option.bind (q1a_ (v.2.2.2,y.1,y.2.1,())) fun y=>j2 !y.1 else j2 false
def qti_ (t60:Bool):Option (As [.int .u8]) :=
 if t60=true then some (2,()) else some (0,())
def qiy_ (j1:Bool->Int×Int×Int×Int×List Int×List Bool->(List YTT5×List Bool)×(List YTT5×List Bool)×(List YTT5×List Int)×List YTT5×List Int->Int×Int->Option (As [.int .u8])) (s:List YTT5×List YTT5×List YTT5×List YTT5) (a:Int×Int×Int×Int×List Int×List Bool):Option (As [.int .u8]) :=
 Option.bind (q9p_ (a,())) fun y=>if (!y.1)=true then some (3,()) else Option.bind (qja_ (s,([],[],[],[]),())) fun y=>Option.bind (qil_ (a.1,())) fun y_1=>if eqi y_1.1.1 1=true then Option.bind (q2e_ (y.1.1,cvt .i64 a.2.1,cvt .i64 a.2.2.1,())) fun y_2=>j1 (!y_2.1) a y.1 y_1.1 else if eqi y_1.1.1 2=true then Option.bind (q2e_ (y.1.2.1,cvt .i64 a.2.1,cvt .i64 a.2.2.1,())) fun y_2=>j1 (!y_2.1) a y.1 y_1.1 else if eqi y_1.1.1 3=true then Option.bind (q1g_ (y.1.2.2.1,cvt .i64 a.2.1,cvt .i64 a.2.2.1,())) fun y_2=>j1 (!y_2.1) a y.1 y_1.1 else if eqi y_1.1.1 4=true then Option.bind (q1g_ (y.1.2.2.2,cvt .i64 a.2.1,cvt .i64 a.2.2.1,())) fun y_2=>j1 (!y_2.1) a y.1 y_1.1 else j1 false a y.1 y_1.1
def q4y_ (t60:Bool):Option (As [.int .u8]):=qti_ t60
def q17_ (t40:Bool) (a:Int×Int×Int×Int×List Int×List Bool) (v:(List YTT5×List Bool)×(List YTT5×List Bool)×(List YTT5×List Int)×List YTT5×List Int) (u:Int×Int):Option (As [.int .u8]):=qu3_ (q4y_) t40 a v u
def q9u_ (x:As [.pr YTT1 (.pr YTT1 (.pr YTT1 YTT1)),.pr (.int .u8) YTT4]):Option (As [.int .u8]):=qiy_ q17_ x.1 x.2.1
theorem q12y_  (J t60):pfn Tryz.prog q7n_ 6 18446744073709551616 (Ev.get q7r_) 54 q3y_ J 509 [] (qir_ t60)=qti_ t60:=by kernel_rfl
theorem q11m_  (J t40 a v u):pfn Tryz.prog q7n_ 6 18446744073709551616 (Ev.get q7r_) 54 q3y_ J 125 [] (qiv_ t40 a v u)=qu3_ (fun t60=>J 509 [] (qir_ t60)) t40 a v u:=by kernel_rfl
theorem q11x_ (J:Orc (As [.int .u8])) (x:As [.pr YTT1 (.pr YTT1 (.pr YTT1 YTT1)),.pr (.int .u8) YTT4]):rfn Tryz.prog q7n_ 6 18446744073709551616 (Ev.get q7r_) 54 q3y_ J x=qiy_ (fun t40 a v u=>J 125 [] (qiv_ t40 a v u)) x.1 x.2.1:=by kernel_rfl
theorem q12e_  (t60):jfn Tryz.prog q7n_ 6 18446744073709551616 (Ev.get q7r_) 54 q3y_ 509 [] (qir_ t60)=q4y_ t60:=by
 rw [q6_ (by decide)]
 rw [q12y_]
 rfl
theorem q135_  (t40 a v u):jfn Tryz.prog q7n_ 6 18446744073709551616 (Ev.get q7r_) 54 q3y_ 125 [] (qiv_ t40 a v u)=q17_ t40 a v u:=by
 rw [q6_ (by decide)]
 have e2:(fun t60=>(jfn Tryz.prog q7n_ 6 18446744073709551616 (Ev.get q7r_) 54 q3y_) 509 [] (qir_ t60))=q4y_:=funext fun t60=>q12e_ t60
 rw [q11m_,e2]
 rfl
theorem q14r_ (x:As [.pr YTT1 (.pr YTT1 (.pr YTT1 YTT1)),.pr (.int .u8) YTT4]):evT Tryz.prog q7n_ 6 18446744073709551616 (Ev.get q7r_) 54 q3y_ x=q9u_ x:=by
 have e1:(fun t40 a v u=>(jfn Tryz.prog q7n_ 6 18446744073709551616 (Ev.get q7r_) 54 q3y_) 125 [] (qiv_ t40 a v u))=q17_:=by funext t40 a v u; exact q135_ t40 a v u
 rw [qi_,q11x_,e1]
 rfl
theorem qtv_:CtOk Tryz.prog (fun _=>True) 54 ⟨q3y_,q9u_⟩:=qc_ (q0_ qs6_ (q0_ qv3_ (q0_ qv5_ (q0_ qss_ (q0_ qoz_ (q0_ qor_ (q0_ qmo_ (q0_ qm7_ q3_)))))))) q14r_
@[reducible] def qqj_:Sh:=⟨[.d (.int .u8),.d (.int .u8)],[],[.int .u8,.int .u8],[.d (.pr (.int .u8) YTT3)],[],0,[.pr (.int .u8) YTT3]⟩
def q11w_ (f except:Int):Option (As [.pr (.int .u8) YTT3]) :=
 some ((rem f 128,except,[],[],0,0),())
def ql_ (x:As [.int .u8,.int .u8]):Option (As [.pr (.int .u8) YTT3]):=q11w_ x.1 x.2.1
theorem qj6_:CtOk Tryz.prog (fun _=>True) 120 ⟨qqj_,ql_⟩:=ctn q3_ 6 fun J x=>by kernel_rfl
@[reducible] def q4w_:Sh:=⟨[.d (.sl .bool),.d (.bool)],[],[.sl .bool,.bool],[.d (.int .i64)],[],0,[.int .i64]⟩
def q78_:Env:=(cts [])
def q74_:List (Nat×Hint):=[(26,⟨[],[0,1,7,8]⟩)]
def q4h_ (s:List Bool) (v:Bool) (t7 t8:Int):St:={ fr:=[(0,.d (.sl .bool) s),(1,.d .bool v),(7,.d (.int .i64) t7),(8,.d (.int .i64) t8)],nt:=19,up:=[],own:=[],nx:=0,log:=[],ln:=0 }
def q4l_ (self1:List Bool->Bool->Int->Int->Option (As [.int .i64])) (s:List Bool) (v:Bool) (t7 t8:Int):Option (As [.int .i64]) :=
 if lt t8 t7=true then Option.bind (at? s t8) fun y=>if Sx.eqb v y=true then some (t8,()) else self1 s v t7 (add .i64 t8 1) else some (-1,())
def q90_ (j1:List Bool->Bool->Int->Int->Option (As [.int .i64])) (s:List Bool) (v:Bool):Option (As [.int .i64]) :=
 j1 s v (Int.ofNat (List.length s)) 0
def q6f_ (s:List Bool) (v:Bool) (t7 t8:Int):Option (As [.int .i64]) :=
 loopF (fun (self:(List Bool)×(Bool)×(Int)×(Int)->Option (As [.int .i64])) (s:(List Bool)×(Bool)×(Int)×(Int))=>q4l_ (fun s v t7 t8=>self (s,v,t7,t8)) s.1 s.2.1 s.2.2.1 s.2.2.2) 18446744073709551616 (s,v,t7,t8)
def qck_ (x:As [.sl .bool,.bool]):Option (As [.int .i64]):=q90_ q6f_ x.1 x.2.1
theorem qty_  (J w1 s v t7 t8):pfn Tryz.prog q78_ 6 18446744073709551616 (Ev.get q74_) 133 q4w_ J 26 [w1] (q4h_ s v t7 t8)=q4l_ (fun s v t7 t8=>w1 (q4h_ s v t7 t8)) s v t7 t8:=by kernel_rfl
theorem qto_ (J:Orc (As [.int .i64])) (x:As [.sl .bool,.bool]):rfn Tryz.prog q78_ 6 18446744073709551616 (Ev.get q74_) 133 q4w_ J x=q90_ (fun s v t7 t8=>J 26 [] (q4h_ s v t7 t8)) x.1 x.2.1:=by kernel_rfl
theorem qu8_  (s v t7 t8):jfn Tryz.prog q78_ 6 18446744073709551616 (Ev.get q74_) 133 q4w_ 26 [] (q4h_ s v t7 t8)=q6f_ s v t7 t8:=by
 rw [q6_ (by decide)]
 rw [qn_ (by kernel_rfl)]
 refine qh_ (σ:=(List Bool)×(Bool)×(Int)×(Int)) (mk:=fun s=>q4h_ s.1 s.2.1 s.2.2.1 s.2.2.2) (fun w1 s=>?_) 18446744073709551616 (s,v,t7,t8)
 refine (qty_ _ w1 s.1 s.2.1 s.2.2.1 s.2.2.2).trans ?_
 rfl
theorem qup_ (x:As [.sl .bool,.bool]):evT Tryz.prog q78_ 6 18446744073709551616 (Ev.get q74_) 133 q4w_ x=qck_ x:=by
 have e1:(fun s v t7 t8=>(jfn Tryz.prog q78_ 6 18446744073709551616 (Ev.get q74_) 133 q4w_) 26 [] (q4h_ s v t7 t8))=q6f_:=by funext s v t7 t8; exact qu8_ s v t7 t8
 rw [qi_,qto_,e1]
 rfl
theorem qts_:CtOk Tryz.prog (fun _=>True) 133 ⟨q4w_,qck_⟩:=qc_ q3_ qup_
@[reducible] def qjh_:Sh:=⟨[.d (.sl .bool),.d (.bool)],[],[.sl .bool,.bool],[.d (.bool)],[],0,[.bool]⟩
def qax_ (s:List Bool) (v:Bool):Option (As [.bool]) :=
 Option.bind (qck_ (s,v,())) fun y=>some (ge y.1 0,())
def q66_ (x:As [.sl .bool,.bool]):Option (As [.bool]):=qax_ x.1 x.2.1
theorem qs3_:CtOk Tryz.prog (fun _=>True) 70 ⟨qjh_,q66_⟩:=ctn (q0_ qts_ q3_) 6 fun J x=>by kernel_rfl
@[reducible] def qux_:Sh:=⟨[.d (.int .u32)],[],[.int .u32],[.d (.int .u16),.d (.int .u16)],[],0,[.int .u16,.int .u16]⟩
def qow_ (x:Int):Option (As [.int .u16,.int .u16]) :=
 some (cvt .u16 (Sx.shr .u32 x 16),cvt .u16 x,())
def qaa_ (x:As [.int .u32]):Option (As [.int .u16,.int .u16]):=qow_ x.1
theorem quc_:CtOk Tryz.prog (fun _=>True) 71 ⟨qux_,qaa_⟩:=ctn q3_ 6 fun J x=>by kernel_rfl
@[reducible] def qrl_:Sh:=⟨[.d (.int .u16)],[],[.int .u16],[.d (.pr (.int .u16) (.int .i64))],[],0,[.pr (.int .u16) (.int .i64)]⟩
def q15a_ (owner:Int):Option (As [.pr (.int .u16) (.int .i64)]) :=
 some ((owner,-1),())
def q9l_ (x:As [.int .u16]):Option (As [.pr (.int .u16) (.int .i64)]):=q15a_ x.1
theorem qko_:CtOk Tryz.prog (fun _=>True) 207 ⟨qrl_,q9l_⟩:=ctn q3_ 6 fun J x=>by kernel_rfl
@[reducible] def q14c_:Sh:=⟨[.d (.pr (.int .u16) (.int .i64))],[],[.pr (.int .u16) (.int .i64)],[.d (.bool)],[],0,[.bool]⟩
def qos_ (l:Int×Int):Option (As [.bool]) :=
 if eqi l.1 0=true then some (eqi l.1 0 && (eqi l.2 0 && true),()) else if ge l.2 1=true then some (true,()) else Option.bind (q9l_ (l.1,())) fun y=>some (eqi l.1 y.1.1 && (eqi l.2 y.1.2 && true),())
def qtc_ (x:As [.pr (.int .u16) (.int .i64)]):Option (As [.bool]):=qos_ x.1
theorem q136_:CtOk Tryz.prog (fun _=>True) 197 ⟨q14c_,qtc_⟩:=ctn (q0_ qko_ q3_) 6 fun J x=>by kernel_rfl
@[reducible] def qmc_:Sh:=⟨[.d (.pr (.int .u16) (.int .i64))],[],[.pr (.int .u16) (.int .i64)],[.d (.pr (.int .u16) (.int .i64))],[],0,[.pr (.int .u16) (.int .i64)]⟩
def qlp_ (l:Int×Int):Option (As [.pr (.int .u16) (.int .i64)]) :=
 Option.bind (qtc_ (l,())) fun y=>if (!y.1)=true then some ((0,0),()) else some (l,())
def q7p_ (x:As [.pr (.int .u16) (.int .i64)]):Option (As [.pr (.int .u16) (.int .i64)]):=qlp_ x.1
theorem qfy_:CtOk Tryz.prog (fun _=>True) 167 ⟨qmc_,q7p_⟩:=ctn (q0_ q136_ q3_) 6 fun J x=>by kernel_rfl
@[reducible] def qea_:Sh:=⟨[.d (.pr (.int .u16) (.int .i64))],[],[.pr (.int .u16) (.int .i64)],[.d (.bool)],[],0,[.bool]⟩
def qqp_ (l:Int×Int):Option (As [.bool]) :=
 Option.bind (q7p_ (l,())) fun y=>some (eqi y.1.1 0 && (eqi y.1.2 0 && true),())
def q5p_ (x:As [.pr (.int .u16) (.int .i64)]):Option (As [.bool]):=qqp_ x.1
theorem qgr_:CtOk Tryz.prog (fun _=>True) 113 ⟨qea_,q5p_⟩:=ctn (q0_ qfy_ q3_) 6 fun J x=>by kernel_rfl
@[reducible] def q95_:Sh:=⟨[.d (.pr (.int .u32) (.pr (.ar 8 .bool) (.ar 8 YTT8)))],[],[.pr (.int .u32) (.pr (.ar 8 .bool) (.ar 8 YTT8))],[.d (.int .i64)],[],0,[.int .i64]⟩
def qgk_:Env:=(cts [(2000033,Ev.bxCt)])
def qgq_:List (Nat×Hint):=[(58,⟨[],[3,7,8]⟩)]
def qac_ (n:Int) (t7:List Bool) (t8:Int):St:={ fr:=[(3,.d (.int .i64) n),(7,.d (.ar 8 .bool) t7),(8,.d (.int .i64) t8)],nt:=16,up:=[],own:=[],nx:=0,log:=[],ln:=0 }
def qab_ (self1:Int->List Bool->Int->Option (As [.int .i64])) (n:Int) (t7:List Bool) (t8:Int):Option (As [.int .i64]) :=
 if lt t8 8=true then need (lt t8 8) (Option.bind (at? t7 t8) fun y=>if y=true then self1 (add .i64 n 1) t7 (add .i64 t8 1) else self1 n t7 (add .i64 t8 1)) else some (n,())
def que_ (j1:Int->List Bool->Int->Option (As [.int .i64])) (s:Int×List Bool×List (Int×List Int)):Option (As [.int .i64]) :=
 j1 0 s.2.1 0
def qdr_ (n:Int) (t7:List Bool) (t8:Int):Option (As [.int .i64]) :=
 loopF (fun (self:(Int)×(List Bool)×(Int)->Option (As [.int .i64])) (s:(Int)×(List Bool)×(Int))=>qab_ (fun n t7 t8=>self (n,t7,t8)) s.1 s.2.1 s.2.2) 18446744073709551616 (n,t7,t8)
def qjo_ (x:As [.pr (.int .u32) (.pr (.ar 8 .bool) (.ar 8 YTT8))]):Option (As [.int .i64]):=que_ qdr_ x.1
theorem q115_  (J w1 n t7 t8):pfn Tryz.prog qgk_ 6 18446744073709551616 (Ev.get qgq_) 142 q95_ J 58 [w1] (qac_ n t7 t8)=qab_ (fun n t7 t8=>w1 (qac_ n t7 t8)) n t7 t8:=by kernel_rfl
theorem q12f_ (J:Orc (As [.int .i64])) (x:As [.pr (.int .u32) (.pr (.ar 8 .bool) (.ar 8 YTT8))]):rfn Tryz.prog qgk_ 6 18446744073709551616 (Ev.get qgq_) 142 q95_ J x=que_ (fun n t7 t8=>J 58 [] (qac_ n t7 t8)) x.1:=by kernel_rfl
theorem q12j_  (n t7 t8):jfn Tryz.prog qgk_ 6 18446744073709551616 (Ev.get qgq_) 142 q95_ 58 [] (qac_ n t7 t8)=qdr_ n t7 t8:=by
 rw [q6_ (by decide)]
 rw [qn_ (by kernel_rfl)]
 refine qh_ (σ:=(Int)×(List Bool)×(Int)) (mk:=fun s=>qac_ s.1 s.2.1 s.2.2) (fun w1 s=>?_) 18446744073709551616 (n,t7,t8)
 refine (q115_ _ w1 s.1 s.2.1 s.2.2).trans ?_
 rfl
theorem q14j_ (x:As [.pr (.int .u32) (.pr (.ar 8 .bool) (.ar 8 YTT8))]):evT Tryz.prog qgk_ 6 18446744073709551616 (Ev.get qgq_) 142 q95_ x=qjo_ x:=by
 have e1:(fun n t7 t8=>(jfn Tryz.prog qgk_ 6 18446744073709551616 (Ev.get qgq_) 142 q95_) 58 [] (qac_ n t7 t8))=qdr_:=by funext n t7 t8; exact q12j_ n t7 t8
 rw [qi_,q12f_,e1]
 rfl
theorem q127_:CtOk Tryz.prog (fun _=>True) 142 ⟨q95_,qjo_⟩:=qc_ (q0_ Ev.bx_ok q3_) q14j_
@[reducible] def q7y_:Sh:=⟨[.d (.pr (.sl (.int .u16)) YTT0)],[],[.pr (.sl (.int .u16)) YTT0],[.d (.sl (.int .u16))],[],0,[.sl (.int .u16)]⟩
def qdw_:Env:=(cts [(2000035,Ev.bxCt),(71,(⟨qux_,qaa_⟩:Ct)),(113,(⟨qea_,q5p_⟩:Ct)),(142,(⟨q95_,qjo_⟩:Ct))])
def qet_:List (Nat×Hint):=[(7,⟨[],[1,3]⟩)]
def qhi_ (a:List Int×(Int×Int)×Int×Int×Int×YTT9×Int) (owner:Int):St:={ fr:=[(1,.pe (.pr (.sl (.int .u16)) YTT0) a),(3,.d (.int .u16) owner)],nt:=39,up:=[],own:=[],nx:=0,log:=[],ln:=0 }
def qhe_ (a:List Int×(Int×Int)×Int×Int×Int×YTT9×Int) (owner:Int):Option (As [.sl (.int .u16)]) :=
 Option.bind (qaa_ (a.2.2.2.1,())) fun y=>Option.bind (qaa_ (a.2.2.2.2.1,())) fun y_1=>Option.bind (qjo_ (a.2.2.2.2.2.1,())) fun y_2=>some ([owner,cvt .u16 a.2.2.1,y.1,y.2.1,y_1.1,y_1.2.1,cvt .u16 y_2.1,0],())
def qha_ (j1:List Int×(Int×Int)×Int×Int×Int×YTT9×Int->Int->Option (As [.sl (.int .u16)])) (a:List Int×(Int×Int)×Int×Int×Int×YTT9×Int):Option (As [.sl (.int .u16)]) :=
 Option.bind (q5p_ (a.2.1,())) fun y=>if y.1=true then j1 a 0 else j1 a a.2.1.1
def qc8_ (a:List Int×(Int×Int)×Int×Int×Int×YTT9×Int) (owner:Int):Option (As [.sl (.int .u16)]):=qhe_ a owner
def q5_ (x:As [.pr (.sl (.int .u16)) YTT0]):Option (As [.sl (.int .u16)]):=qha_ qc8_ x.1
theorem q106_  (J a owner):pfn Tryz.prog qdw_ 6 18446744073709551616 (Ev.get qet_) 112 q7y_ J 7 [] (qhi_ a owner)=qhe_ a owner:=by kernel_rfl
theorem qzx_ (J:Orc (As [.sl (.int .u16)])) (x:As [.pr (.sl (.int .u16)) YTT0]):rfn Tryz.prog qdw_ 6 18446744073709551616 (Ev.get qet_) 112 q7y_ J x=qha_ (fun a owner=>J 7 [] (qhi_ a owner)) x.1:=by kernel_rfl
theorem q105_  (a owner):jfn Tryz.prog qdw_ 6 18446744073709551616 (Ev.get qet_) 112 q7y_ 7 [] (qhi_ a owner)=qc8_ a owner:=by
 rw [q6_ (by decide)]
 rw [q106_]
 rfl
theorem q12n_ (x:As [.pr (.sl (.int .u16)) YTT0]):evT Tryz.prog qdw_ 6 18446744073709551616 (Ev.get qet_) 112 q7y_ x=q5_ x:=by
 have e1:(fun a owner=>(jfn Tryz.prog qdw_ 6 18446744073709551616 (Ev.get qet_) 112 q7y_) 7 [] (qhi_ a owner))=qc8_:=by funext a owner; exact q105_ a owner
 rw [qi_,qzx_,e1]
 rfl
theorem q10p_:CtOk Tryz.prog (fun _=>True) 112 ⟨q7y_,q5_⟩:=qc_ (q0_ Ev.bx_ok (q0_ quc_ (q0_ qgr_ (q0_ q127_ q3_)))) q12n_
@[reducible] def qou_:Sh:=⟨[.d (.int .i64)],[],[.int .i64],[.d (.bool)],[],0,[.bool]⟩
def qne_ (n:Int):Option (As [.bool]) :=
 if ge n 0=true then some (lt n 8,()) else some (false,())
def qb6_ (x:As [.int .i64]):Option (As [.bool]):=qne_ x.1
theorem qt0_:CtOk Tryz.prog (fun _=>True) 75 ⟨qou_,qb6_⟩:=ctn q3_ 6 fun J x=>by kernel_rfl
@[reducible] def qu9_:Sh:=⟨[.d (.int .u16),.d (.int .u32),.d (.int .i64),.d YTT8],[],[.int .u16,.int .u32,.int .i64,.pr (.int .i64) (.sl (.int .u16))],[.d (.sl (.int .u16))],[],0,[.sl (.int .u16)]⟩
def qmi_ (owner tx n:Int) (x:Int×List Int):Option (As [.sl (.int .u16)]) :=
 Option.bind (qaa_ (tx,())) fun y=>need (small (0 + Nat.succ (Nat.succ (Nat.succ (Nat.succ 0))))) (Option.bind (q8s_ (x,())) fun y_1=>need (small (Nat.succ (Nat.succ (Nat.succ (Nat.succ 0))) + List.length y_1.1)) (some (owner::y.1::y.2.1::cvt .u16 n::y_1.1,())))
def qhp_ (x:As [.int .u16,.int .u32,.int .i64,.pr (.int .i64) (.sl (.int .u16))]):Option (As [.sl (.int .u16)]):=qmi_ x.1 x.2.1 x.2.2.1 x.2.2.2.1
theorem q10t_:CtOk Tryz.prog (fun _=>True) 77 ⟨qu9_,qhp_⟩:=ctn (q0_ quc_ (q0_ qm4_ q3_)) 6 fun J x=>by kernel_rfl
@[reducible] def qaq_:Sh:=⟨[.d (.pr (.int .u32) (.pr (.ar 8 .bool) (.ar 8 YTT8))),.d (.int .u16),.d (.int .i64)],[],[.pr (.int .u32) (.pr (.ar 8 .bool) (.ar 8 YTT8)),.int .u16,.int .i64],[.d (.sl (.int .u16))],[],0,[.sl (.int .u16)]⟩
def qhu_:Env:=(cts [(2000033,Ev.bxCt),(75,(⟨qou_,qb6_⟩:Ct)),(77,(⟨qu9_,qhp_⟩:Ct))])
def qia_:List (Nat×Hint):=[(6,⟨[],[1,2,3,16]⟩)]
def qlk_ (owner n:Int) (s:Int×List Bool×List (Int×List Int)) (t16:Bool):St:={ fr:=[(1,.d (.int .u16) owner),(2,.d (.int .i64) n),(3,.pe (.pr (.int .u32) (.pr (.ar 8 .bool) (.ar 8 YTT8))) s),(16,.d .bool t16)],nt:=27,up:=[],own:=[],nx:=0,log:=[],ln:=0 }
def qkc_ (owner n:Int) (s:Int×List Bool×List (Int×List Int)) (t16:Bool):Option (As [.sl (.int .u16)]) :=
 if t16=true then some ([0,0,0,0,0,0,0,0,0,0,0,0,0,0,0,0,0,0,0,0],()) else Option.bind (at? s.2.2 n) fun y=>Option.bind (qhp_ (owner,s.1,n,y,())) fun y=>some (y.1,())
def ql5_ (j1:Int->Int->Int×List Bool×List (Int×List Int)->Bool->Option (As [.sl (.int .u16)])) (s:Int×List Bool×List (Int×List Int)) (owner n:Int):Option (As [.sl (.int .u16)]) :=
 Option.bind (qb6_ (n,())) fun y=>if (!y.1)=true then j1 owner n s true else Option.bind (at? s.2.1 n) fun y=>j1 owner n s !y
def qkp_ (owner n:Int) (s:Int×List Bool×List (Int×List Int)) (t16:Bool):Option (As [.sl (.int .u16)]):=qkc_ owner n s t16
def qnb_ (x:As [.pr (.int .u32) (.pr (.ar 8 .bool) (.ar 8 YTT8)),.int .u16,.int .i64]):Option (As [.sl (.int .u16)]):=ql5_ qkp_ x.1 x.2.1 x.2.2.1
theorem q14f_  (J owner n s t16):pfn Tryz.prog qhu_ 6 18446744073709551616 (Ev.get qia_) 114 qaq_ J 6 [] (qlk_ owner n s t16)=qkc_ owner n s t16:=by kernel_rfl
theorem q142_ (J:Orc (As [.sl (.int .u16)])) (x:As [.pr (.int .u32) (.pr (.ar 8 .bool) (.ar 8 YTT8)),.int .u16,.int .i64]):rfn Tryz.prog qhu_ 6 18446744073709551616 (Ev.get qia_) 114 qaq_ J x=ql5_ (fun owner n s t16=>J 6 [] (qlk_ owner n s t16)) x.1 x.2.1 x.2.2.1:=by kernel_rfl
theorem q13z_  (owner n s t16):jfn Tryz.prog qhu_ 6 18446744073709551616 (Ev.get qia_) 114 qaq_ 6 [] (qlk_ owner n s t16)=qkp_ owner n s t16:=by
 rw [q6_ (by decide)]
 rw [q14f_]
 rfl
theorem q173_ (x:As [.pr (.int .u32) (.pr (.ar 8 .bool) (.ar 8 YTT8)),.int .u16,.int .i64]):evT Tryz.prog qhu_ 6 18446744073709551616 (Ev.get qia_) 114 qaq_ x=qnb_ x:=by
 have e1:(fun owner n s t16=>(jfn Tryz.prog qhu_ 6 18446744073709551616 (Ev.get qia_) 114 qaq_) 6 [] (qlk_ owner n s t16))=qkp_:=by funext owner n s t16; exact q13z_ owner n s t16
 rw [qi_,q142_,e1]
 rfl
theorem q14i_:CtOk Tryz.prog (fun _=>True) 114 ⟨qaq_,qnb_⟩:=qc_ (q0_ Ev.bx_ok (q0_ qt0_ (q0_ q10t_ q3_))) q173_
@[reducible] def q2_:Sh:=⟨[.d (.pr (.int .u8) (.pr (.int .u8) (.pr (.pr (.sl (.int .u16)) YTT0) (.sl .bool))))],[],[.pr (.int .u8) (.pr (.int .u8) (.pr (.pr (.sl (.int .u16)) YTT0) (.sl .bool)))],[.d (.pr (.sl .bool) YTT10)],[],0,[.pr (.sl .bool) YTT10]⟩
def q5c_:Env:=(cts [(2000038,Ev.bxCt),(70,(⟨qjh_,q66_⟩:Ct)),(112,(⟨q7y_,q5_⟩:Ct)),(113,(⟨qea_,q5p_⟩:Ct)),(114,(⟨qaq_,qnb_⟩:Ct))])
def q5j_:List (Nat×Hint):=[(3,⟨[],[1,2,3]⟩),(15,⟨[],[1,2,3]⟩),(4090,⟨[],[1,2,3,57]⟩)]
def qo0_ (s:Int×Int×YTT2×List Bool) (m:List Int) (o o_2:List Bool) (o_3:List Int):St:={ fr:=[(1,.pe (.pr (.int .u8) (.pr (.int .u8) (.pr (.pr (.sl (.int .u16)) YTT0) (.sl .bool)))) s),(2,.pb 0 0),(3,.pb 1 0)],nt:=78,up:=[],own:=[(0,.box 96 [.k (Go.Value.slice Option.none 0 0),.k (Go.Value.slice Option.none 0 0),.k (Go.Value.slice Option.none 0 0),.k (Go.Value.slice Option.none 0 0)]),(1,.box 96 [.row 2,.row 3,.row 4,.d (.sl (.int .u16)) m]),(2,.row .bool 4 o),(3,.row .bool 4 o_2),(4,.row (.int .u16) 23 o_3)],nx:=5,log:=[],ln:=0 }
def qn3_ (s:Int×Int×YTT2×List Bool) (m:List Int) (o o_2:List Bool) (o_3:List Int):St:={ fr:=[(1,.pe (.pr (.int .u8) (.pr (.int .u8) (.pr (.pr (.sl (.int .u16)) YTT0) (.sl .bool)))) s),(2,.pb 0 0),(3,.pb 1 0)],nt:=78,up:=[],own:=[(0,.box 96 [.k (Go.Value.slice Option.none 0 0),.k (Go.Value.slice Option.none 0 0),.k (Go.Value.slice Option.none 0 0),.k (Go.Value.slice Option.none 0 0)]),(1,.box 96 [.row 2,.row 3,.row 4,.d (.sl (.int .u16)) m]),(2,.row .bool 4 o),(3,.row .bool 4 o_2),(4,.row (.int .u16) 23 o_3)],nx:=5,log:=[],ln:=0 }
def qeu_ (s:Int×Int×YTT2×List Bool) (t57:Int) (m:List Int) (o o_2:List Bool) (o_3:List Int):St:={ fr:=[(1,.pe (.pr (.int .u8) (.pr (.int .u8) (.pr (.pr (.sl (.int .u16)) YTT0) (.sl .bool)))) s),(2,.pb 0 0),(3,.pb 1 0),(57,.d (.int .i64) t57)],nt:=78,up:=[],own:=[(0,.box 96 [.k (Go.Value.slice Option.none 0 0),.k (Go.Value.slice Option.none 0 0),.k (Go.Value.slice Option.none 0 0),.k (Go.Value.slice Option.none 0 0)]),(1,.box 96 [.row 2,.row 3,.row 4,.d (.sl (.int .u16)) m]),(2,.row .bool 4 o),(3,.row .bool 4 o_2),(4,.row (.int .u16) 23 o_3)],nx:=5,log:=[],ln:=0 }
def qms_ (j2:Int×Int×YTT2×List Bool->List Int->List Bool->List Bool->List Int->Option (As [.pr (.sl .bool) YTT10])) (s:Int×Int×YTT2×List Bool) (m:List Int) (o o_2:List Bool) (o_3:List Int):Option (As [.pr (.sl .bool) YTT10]) :=
 need (le (Int.ofNat (0 + List.length o)) (Int.ofNat (List.length o))) (if le s.2.2.1.2.2.1 2=true then Option.bind (at? o_2 s.2.2.1.2.2.1) fun x=>Option.bind (at? o_2 s.2.2.1.2.2.1) fun x=>j2 s m (List.take (Int.toNat (Int.ofNat (List.length o))) s.2.2.2++List.drop (0 + List.length (List.take (Int.toNat (Int.ofNat (List.length o))) s.2.2.2)) o) (List.set o_2 (Int.toNat s.2.2.1.2.2.1) true) o_3 else j2 s m (List.take (Int.toNat (Int.ofNat (List.length o))) s.2.2.2++List.drop (0 + List.length (List.take (Int.toNat (Int.ofNat (List.length o))) s.2.2.2)) o) o_2 o_3)
def qn4_ (j3:Int×Int×YTT2×List Bool->Int->List Int->List Bool->List Bool->List Int->Option (As [.pr (.sl .bool) YTT10])) (s:Int×Int×YTT2×List Bool) (m:List Int) (o o_2:List Bool) (o_3:List Int):Option (As [.pr (.sl .bool) YTT10]) :=
 Option.bind (q5p_ (s.2.2.1.2.1,())) fun y=>Option.bind (at? o_2 4) fun x=>Option.bind (at? o_2 4) fun x=>Option.bind (q66_ (List.take 8 (List.drop 0 s.2.2.1.2.2.2.2.2.1.2.1),true,())) fun y_1=>Option.bind (at? (List.set o_2 4 !y.1) 5) fun x=>Option.bind (at? (List.set o_2 4 !y.1) 5) fun x=>need (le (Int.ofNat (List.length o_3)) (Int.ofNat (List.length o_3))) (need (le 64 (Int.ofNat (List.length o_3 + 0))) (need (le 64 (Int.ofNat (List.length o_3))) (need (le 256 (Int.ofNat (List.length (List.take 64 s.2.2.1.1++List.drop (0 + List.length (List.take 64 s.2.2.1.1)) o_3)))) (need (le (Int.ofNat (List.length (List.take 64 s.2.2.1.1++List.drop (0 + List.length (List.take 64 s.2.2.1.1)) o_3))) (Int.ofNat (List.length (List.take 64 s.2.2.1.1++List.drop (0 + List.length (List.take 64 s.2.2.1.1)) o_3)))) (need (le (256 + (Int.ofNat (List.length (List.take 64 s.2.2.1.1++List.drop (0 + List.length (List.take 64 s.2.2.1.1)) o_3)) - 256)) (Int.ofNat (List.length (List.take 64 s.2.2.1.1++List.drop (0 + List.length (List.take 64 s.2.2.1.1)) o_3)))) (j3 s 0 m o (List.set (List.set o_2 4 !y.1) 5 y_1.1) (List.take 256 (List.take 64 s.2.2.1.1++List.drop (0 + List.length (List.take 64 s.2.2.1.1)) o_3)++List.take (Int.toNat (Int.ofNat (List.length (List.take 64 s.2.2.1.1++List.drop (0 + List.length (List.take 64 s.2.2.1.1)) o_3)) - 256)) m++List.drop (256 + List.length (List.take (Int.toNat (Int.ofNat (List.length (List.take 64 s.2.2.1.1++List.drop (0 + List.length (List.take 64 s.2.2.1.1)) o_3)) - 256)) m)) (List.take 64 s.2.2.1.1++List.drop (0 + List.length (List.take 64 s.2.2.1.1)) o_3))))))))
def qe9_ (self3:Int×Int×YTT2×List Bool->Int->List Int->List Bool->List Bool->List Int->Option (As [.pr (.sl .bool) YTT10])) (s:Int×Int×YTT2×List Bool) (t57:Int) (m:List Int) (o o_2:List Bool) (o_3:List Int):Option (As [.pr (.sl .bool) YTT10]) :=
 if lt t57 8=true then need (ge (add .i64 512 (mul .i64 t57 32)) 0) (need (le (add .i64 512 (mul .i64 t57 32)) (Int.ofNat (List.length o_3))) (need (le (Int.ofNat (List.length o_3)) (Int.ofNat (List.length o_3))) (Option.bind (at? m 0) fun y=>Option.bind (qnb_ (s.2.2.1.2.2.2.2.2.1,y,t57,())) fun y=>need (le (add .i64 512 (mul .i64 t57 32) + (Int.ofNat (List.length o_3) - add .i64 512 (mul .i64 t57 32))) (Int.ofNat (List.length o_3))) (self3 s (add .i64 t57 1) m o o_2 (List.take (Int.toNat (add .i64 512 (mul .i64 t57 32))) o_3++List.take (Int.toNat (Int.ofNat (List.length o_3) - add .i64 512 (mul .i64 t57 32))) y.1++List.drop (Int.toNat (add .i64 512 (mul .i64 t57 32)) + List.length (List.take (Int.toNat (Int.ofNat (List.length o_3) - add .i64 512 (mul .i64 t57 32))) y.1)) o_3))))) else some ((o,o_2,o_3,m),())
def qn6_ (j1:Int×Int×YTT2×List Bool->List Int->List Bool->List Bool->List Int->Option (As [.pr (.sl .bool) YTT10])) (s:Int×Int×YTT2×List Bool):Option (As [.pr (.sl .bool) YTT10]) :=
 amb (eqAs q2_.rs) [amb (eqAs q2_.rs) [amb (eqAs q2_.rs) [amb (eqAs q2_.rs) [Option.bind (q5_ (s.2.2.1,())) fun y=>j1 s y.1 (List.replicate 16 false) (List.replicate 8 false) (List.replicate 756 0),Option.bind (q5_ (s.2.2.1,())) fun y=>j1 s y.1 (List.replicate 16 false) (List.replicate 8 false) (List.replicate 756 0)],amb (eqAs q2_.rs) [Option.bind (q5_ (s.2.2.1,())) fun y=>amb (eqAs q2_.rs) [j1 s y.1 (List.replicate 16 false) (List.replicate 8 false) (List.replicate 756 0),j1 s y.1 (List.replicate 16 false) (List.replicate 8 false) (List.replicate 756 0)],amb (eqAs q2_.rs) [Option.bind (q5_ (s.2.2.1,())) fun y=>j1 s y.1 (List.replicate 16 false) (List.replicate 8 false) (List.replicate 756 0),Option.bind (q5_ (s.2.2.1,())) fun y=>j1 s y.1 (List.replicate 16 false) (List.replicate 8 false) (List.replicate 756 0)]]],amb (eqAs q2_.rs) [amb (eqAs q2_.rs) [amb (eqAs q2_.rs) [Option.bind (q5_ (s.2.2.1,())) fun y=>j1 s y.1 (List.replicate 16 false) (List.replicate 8 false) (List.replicate 756 0),Option.bind (q5_ (s.2.2.1,())) fun y=>j1 s y.1 (List.replicate 16 false) (List.replicate 8 false) (List.replicate 756 0)],amb (eqAs q2_.rs) [Option.bind (q5_ (s.2.2.1,())) fun y=>amb (eqAs q2_.rs) [j1 s y.1 (List.replicate 16 false) (List.replicate 8 false) (List.replicate 756 0),j1 s y.1 (List.replicate 16 false) (List.replicate 8 false) (List.replicate 756 0)],amb (eqAs q2_.rs) [Option.bind (q5_ (s.2.2.1,())) fun y=>j1 s y.1 (List.replicate 16 false) (List.replicate 8 false) (List.replicate 756 0),Option.bind (q5_ (s.2.2.1,())) fun y=>j1 s y.1 (List.replicate 16 false) (List.replicate 8 false) (List.replicate 756 0)]]],amb (eqAs q2_.rs) [Option.bind (q5_ (s.2.2.1,())) fun y=>amb (eqAs q2_.rs) [amb (eqAs q2_.rs) [j1 s y.1 (List.replicate 16 false) (List.replicate 8 false) (List.replicate 756 0),j1 s y.1 (List.replicate 16 false) (List.replicate 8 false) (List.replicate 756 0)],amb (eqAs q2_.rs) [amb (eqAs q2_.rs) [j1 s y.1 (List.replicate 16 false) (List.replicate 8 false) (List.replicate 756 0),j1 s y.1 (List.replicate 16 false) (List.replicate 8 false) (List.replicate 756 0)],amb (eqAs q2_.rs) [j1 s y.1 (List.replicate 16 false) (List.replicate 8 false) (List.replicate 756 0),j1 s y.1 (List.replicate 16 false) (List.replicate 8 false) (List.replicate 756 0)]]],amb (eqAs q2_.rs) [amb (eqAs q2_.rs) [Option.bind (q5_ (s.2.2.1,())) fun y=>j1 s y.1 (List.replicate 16 false) (List.replicate 8 false) (List.replicate 756 0),Option.bind (q5_ (s.2.2.1,())) fun y=>j1 s y.1 (List.replicate 16 false) (List.replicate 8 false) (List.replicate 756 0)],amb (eqAs q2_.rs) [amb (eqAs q2_.rs) [Option.bind (q5_ (s.2.2.1,())) fun y=>j1 s y.1 (List.replicate 16 false) (List.replicate 8 false) (List.replicate 756 0),Option.bind (q5_ (s.2.2.1,())) fun y=>j1 s y.1 (List.replicate 16 false) (List.replicate 8 false) (List.replicate 756 0)],Option.bind (q5_ (s.2.2.1,())) fun y=>amb (eqAs q2_.rs) [j1 s y.1 (List.replicate 16 false) (List.replicate 8 false) (List.replicate 756 0),j1 s y.1 (List.replicate 16 false) (List.replicate 8 false) (List.replicate 756 0)]]]]]],amb (eqAs q2_.rs) [amb (eqAs q2_.rs) [amb (eqAs q2_.rs) [amb (eqAs q2_.rs) [Option.bind (q5_ (s.2.2.1,())) fun y=>j1 s y.1 (List.replicate 16 false) (List.replicate 8 false) (List.replicate 756 0),Option.bind (q5_ (s.2.2.1,())) fun y=>j1 s y.1 (List.replicate 16 false) (List.replicate 8 false) (List.replicate 756 0)],amb (eqAs q2_.rs) [Option.bind (q5_ (s.2.2.1,())) fun y=>amb (eqAs q2_.rs) [j1 s y.1 (List.replicate 16 false) (List.replicate 8 false) (List.replicate 756 0),j1 s y.1 (List.replicate 16 false) (List.replicate 8 false) (List.replicate 756 0)],amb (eqAs q2_.rs) [Option.bind (q5_ (s.2.2.1,())) fun y=>j1 s y.1 (List.replicate 16 false) (List.replicate 8 false) (List.replicate 756 0),Option.bind (q5_ (s.2.2.1,())) fun y=>j1 s y.1 (List.replicate 16 false) (List.replicate 8 false) (List.replicate 756 0)]]],amb (eqAs q2_.rs) [amb (eqAs q2_.rs) [amb (eqAs q2_.rs) [Option.bind (q5_ (s.2.2.1,())) fun y=>j1 s y.1 (List.replicate 16 false) (List.replicate 8 false) (List.replicate 756 0),Option.bind (q5_ (s.2.2.1,())) fun y=>j1 s y.1 (List.replicate 16 false) (List.replicate 8 false) (List.replicate 756 0)],amb (eqAs q2_.rs) [Option.bind (q5_ (s.2.2.1,())) fun y=>amb (eqAs q2_.rs) [j1 s y.1 (List.replicate 16 false) (List.replicate 8 false) (List.replicate 756 0),j1 s y.1 (List.replicate 16 false) (List.replicate 8 false) (List.replicate 756 0)],amb (eqAs q2_.rs) [Option.bind (q5_ (s.2.2.1,())) fun y=>j1 s y.1 (List.replicate 16 false) (List.replicate 8 false) (List.replicate 756 0),Option.bind (q5_ (s.2.2.1,())) fun y=>j1 s y.1 (List.replicate 16 false) (List.replicate 8 false) (List.replicate 756 0)]]],amb (eqAs q2_.rs) [Option.bind (q5_ (s.2.2.1,())) fun y=>amb (eqAs q2_.rs) [amb (eqAs q2_.rs) [j1 s y.1 (List.replicate 16 false) (List.replicate 8 false) (List.replicate 756 0),j1 s y.1 (List.replicate 16 false) (List.replicate 8 false) (List.replicate 756 0)],amb (eqAs q2_.rs) [amb (eqAs q2_.rs) [j1 s y.1 (List.replicate 16 false) (List.replicate 8 false) (List.replicate 756 0),j1 s y.1 (List.replicate 16 false) (List.replicate 8 false) (List.replicate 756 0)],amb (eqAs q2_.rs) [j1 s y.1 (List.replicate 16 false) (List.replicate 8 false) (List.replicate 756 0),j1 s y.1 (List.replicate 16 false) (List.replicate 8 false) (List.replicate 756 0)]]],amb (eqAs q2_.rs) [amb (eqAs q2_.rs) [Option.bind (q5_ (s.2.2.1,())) fun y=>j1 s y.1 (List.replicate 16 false) (List.replicate 8 false) (List.replicate 756 0),Option.bind (q5_ (s.2.2.1,())) fun y=>j1 s y.1 (List.replicate 16 false) (List.replicate 8 false) (List.replicate 756 0)],amb (eqAs q2_.rs) [amb (eqAs q2_.rs) [Option.bind (q5_ (s.2.2.1,())) fun y=>j1 s y.1 (List.replicate 16 false) (List.replicate 8 false) (List.replicate 756 0),Option.bind (q5_ (s.2.2.1,())) fun y=>j1 s y.1 (List.replicate 16 false) (List.replicate 8 false) (List.replicate 756 0)],Option.bind (q5_ (s.2.2.1,())) fun y=>amb (eqAs q2_.rs) [j1 s y.1 (List.replicate 16 false) (List.replicate 8 false) (List.replicate 756 0),j1 s y.1 (List.replicate 16 false) (List.replicate 8 false) (List.replicate 756 0)]]]]]],amb (eqAs q2_.rs) [amb (eqAs q2_.rs) [amb (eqAs q2_.rs) [amb (eqAs q2_.rs) [Option.bind (q5_ (s.2.2.1,())) fun y=>j1 s y.1 (List.replicate 16 false) (List.replicate 8 false) (List.replicate 756 0),Option.bind (q5_ (s.2.2.1,())) fun y=>j1 s y.1 (List.replicate 16 false) (List.replicate 8 false) (List.replicate 756 0)],amb (eqAs q2_.rs) [Option.bind (q5_ (s.2.2.1,())) fun y=>amb (eqAs q2_.rs) [j1 s y.1 (List.replicate 16 false) (List.replicate 8 false) (List.replicate 756 0),j1 s y.1 (List.replicate 16 false) (List.replicate 8 false) (List.replicate 756 0)],amb (eqAs q2_.rs) [Option.bind (q5_ (s.2.2.1,())) fun y=>j1 s y.1 (List.replicate 16 false) (List.replicate 8 false) (List.replicate 756 0),Option.bind (q5_ (s.2.2.1,())) fun y=>j1 s y.1 (List.replicate 16 false) (List.replicate 8 false) (List.replicate 756 0)]]],amb (eqAs q2_.rs) [amb (eqAs q2_.rs) [amb (eqAs q2_.rs) [Option.bind (q5_ (s.2.2.1,())) fun y=>j1 s y.1 (List.replicate 16 false) (List.replicate 8 false) (List.replicate 756 0),Option.bind (q5_ (s.2.2.1,())) fun y=>j1 s y.1 (List.replicate 16 false) (List.replicate 8 false) (List.replicate 756 0)],amb (eqAs q2_.rs) [Option.bind (q5_ (s.2.2.1,())) fun y=>amb (eqAs q2_.rs) [j1 s y.1 (List.replicate 16 false) (List.replicate 8 false) (List.replicate 756 0),j1 s y.1 (List.replicate 16 false) (List.replicate 8 false) (List.replicate 756 0)],amb (eqAs q2_.rs) [Option.bind (q5_ (s.2.2.1,())) fun y=>j1 s y.1 (List.replicate 16 false) (List.replicate 8 false) (List.replicate 756 0),Option.bind (q5_ (s.2.2.1,())) fun y=>j1 s y.1 (List.replicate 16 false) (List.replicate 8 false) (List.replicate 756 0)]]],amb (eqAs q2_.rs) [Option.bind (q5_ (s.2.2.1,())) fun y=>amb (eqAs q2_.rs) [amb (eqAs q2_.rs) [j1 s y.1 (List.replicate 16 false) (List.replicate 8 false) (List.replicate 756 0),j1 s y.1 (List.replicate 16 false) (List.replicate 8 false) (List.replicate 756 0)],amb (eqAs q2_.rs) [amb (eqAs q2_.rs) [j1 s y.1 (List.replicate 16 false) (List.replicate 8 false) (List.replicate 756 0),j1 s y.1 (List.replicate 16 false) (List.replicate 8 false) (List.replicate 756 0)],amb (eqAs q2_.rs) [j1 s y.1 (List.replicate 16 false) (List.replicate 8 false) (List.replicate 756 0),j1 s y.1 (List.replicate 16 false) (List.replicate 8 false) (List.replicate 756 0)]]],amb (eqAs q2_.rs) [amb (eqAs q2_.rs) [Option.bind (q5_ (s.2.2.1,())) fun y=>j1 s y.1 (List.replicate 16 false) (List.replicate 8 false) (List.replicate 756 0),Option.bind (q5_ (s.2.2.1,())) fun y=>j1 s y.1 (List.replicate 16 false) (List.replicate 8 false) (List.replicate 756 0)],amb (eqAs q2_.rs) [amb (eqAs q2_.rs) [Option.bind (q5_ (s.2.2.1,())) fun y=>j1 s y.1 (List.replicate 16 false) (List.replicate 8 false) (List.replicate 756 0),Option.bind (q5_ (s.2.2.1,())) fun y=>j1 s y.1 (List.replicate 16 false) (List.replicate 8 false) (List.replicate 756 0)],Option.bind (q5_ (s.2.2.1,())) fun y=>amb (eqAs q2_.rs) [j1 s y.1 (List.replicate 16 false) (List.replicate 8 false) (List.replicate 756 0),j1 s y.1 (List.replicate 16 false) (List.replicate 8 false) (List.replicate 756 0)]]]]]],amb (eqAs q2_.rs) [Option.bind (q5_ (s.2.2.1,())) fun y=>amb (eqAs q2_.rs) [amb (eqAs q2_.rs) [amb (eqAs q2_.rs) [j1 s y.1 (List.replicate 16 false) (List.replicate 8 false) (List.replicate 756 0),j1 s y.1 (List.replicate 16 false) (List.replicate 8 false) (List.replicate 756 0)],amb (eqAs q2_.rs) [amb (eqAs q2_.rs) [j1 s y.1 (List.replicate 16 false) (List.replicate 8 false) (List.replicate 756 0),j1 s y.1 (List.replicate 16 false) (List.replicate 8 false) (List.replicate 756 0)],amb (eqAs q2_.rs) [j1 s y.1 (List.replicate 16 false) (List.replicate 8 false) (List.replicate 756 0),j1 s y.1 (List.replicate 16 false) (List.replicate 8 false) (List.replicate 756 0)]]],amb (eqAs q2_.rs) [amb (eqAs q2_.rs) [amb (eqAs q2_.rs) [j1 s y.1 (List.replicate 16 false) (List.replicate 8 false) (List.replicate 756 0),j1 s y.1 (List.replicate 16 false) (List.replicate 8 false) (List.replicate 756 0)],amb (eqAs q2_.rs) [amb (eqAs q2_.rs) [j1 s y.1 (List.replicate 16 false) (List.replicate 8 false) (List.replicate 756 0),j1 s y.1 (List.replicate 16 false) (List.replicate 8 false) (List.replicate 756 0)],amb (eqAs q2_.rs) [j1 s y.1 (List.replicate 16 false) (List.replicate 8 false) (List.replicate 756 0),j1 s y.1 (List.replicate 16 false) (List.replicate 8 false) (List.replicate 756 0)]]],amb (eqAs q2_.rs) [amb (eqAs q2_.rs) [amb (eqAs q2_.rs) [j1 s y.1 (List.replicate 16 false) (List.replicate 8 false) (List.replicate 756 0),j1 s y.1 (List.replicate 16 false) (List.replicate 8 false) (List.replicate 756 0)],amb (eqAs q2_.rs) [amb (eqAs q2_.rs) [j1 s y.1 (List.replicate 16 false) (List.replicate 8 false) (List.replicate 756 0),j1 s y.1 (List.replicate 16 false) (List.replicate 8 false) (List.replicate 756 0)],amb (eqAs q2_.rs) [j1 s y.1 (List.replicate 16 false) (List.replicate 8 false) (List.replicate 756 0),j1 s y.1 (List.replicate 16 false) (List.replicate 8 false) (List.replicate 756 0)]]],amb (eqAs q2_.rs) [amb (eqAs q2_.rs) [j1 s y.1 (List.replicate 16 false) (List.replicate 8 false) (List.replicate 756 0),j1 s y.1 (List.replicate 16 false) (List.replicate 8 false) (List.replicate 756 0)],amb (eqAs q2_.rs) [amb (eqAs q2_.rs) [j1 s y.1 (List.replicate 16 false) (List.replicate 8 false) (List.replicate 756 0),j1 s y.1 (List.replicate 16 false) (List.replicate 8 false) (List.replicate 756 0)],amb (eqAs q2_.rs) [j1 s y.1 (List.replicate 16 false) (List.replicate 8 false) (List.replicate 756 0),j1 s y.1 (List.replicate 16 false) (List.replicate 8 false) (List.replicate 756 0)]]]]]],amb (eqAs q2_.rs) [amb (eqAs q2_.rs) [amb (eqAs q2_.rs) [Option.bind (q5_ (s.2.2.1,())) fun y=>j1 s y.1 (List.replicate 16 false) (List.replicate 8 false) (List.replicate 756 0),Option.bind (q5_ (s.2.2.1,())) fun y=>j1 s y.1 (List.replicate 16 false) (List.replicate 8 false) (List.replicate 756 0)],amb (eqAs q2_.rs) [amb (eqAs q2_.rs) [Option.bind (q5_ (s.2.2.1,())) fun y=>j1 s y.1 (List.replicate 16 false) (List.replicate 8 false) (List.replicate 756 0),Option.bind (q5_ (s.2.2.1,())) fun y=>j1 s y.1 (List.replicate 16 false) (List.replicate 8 false) (List.replicate 756 0)],Option.bind (q5_ (s.2.2.1,())) fun y=>amb (eqAs q2_.rs) [j1 s y.1 (List.replicate 16 false) (List.replicate 8 false) (List.replicate 756 0),j1 s y.1 (List.replicate 16 false) (List.replicate 8 false) (List.replicate 756 0)]]],amb (eqAs q2_.rs) [amb (eqAs q2_.rs) [amb (eqAs q2_.rs) [Option.bind (q5_ (s.2.2.1,())) fun y=>j1 s y.1 (List.replicate 16 false) (List.replicate 8 false) (List.replicate 756 0),Option.bind (q5_ (s.2.2.1,())) fun y=>j1 s y.1 (List.replicate 16 false) (List.replicate 8 false) (List.replicate 756 0)],amb (eqAs q2_.rs) [amb (eqAs q2_.rs) [Option.bind (q5_ (s.2.2.1,())) fun y=>j1 s y.1 (List.replicate 16 false) (List.replicate 8 false) (List.replicate 756 0),Option.bind (q5_ (s.2.2.1,())) fun y=>j1 s y.1 (List.replicate 16 false) (List.replicate 8 false) (List.replicate 756 0)],Option.bind (q5_ (s.2.2.1,())) fun y=>amb (eqAs q2_.rs) [j1 s y.1 (List.replicate 16 false) (List.replicate 8 false) (List.replicate 756 0),j1 s y.1 (List.replicate 16 false) (List.replicate 8 false) (List.replicate 756 0)]]],amb (eqAs q2_.rs) [amb (eqAs q2_.rs) [amb (eqAs q2_.rs) [Option.bind (q5_ (s.2.2.1,())) fun y=>j1 s y.1 (List.replicate 16 false) (List.replicate 8 false) (List.replicate 756 0),Option.bind (q5_ (s.2.2.1,())) fun y=>j1 s y.1 (List.replicate 16 false) (List.replicate 8 false) (List.replicate 756 0)],amb (eqAs q2_.rs) [amb (eqAs q2_.rs) [Option.bind (q5_ (s.2.2.1,())) fun y=>j1 s y.1 (List.replicate 16 false) (List.replicate 8 false) (List.replicate 756 0),Option.bind (q5_ (s.2.2.1,())) fun y=>j1 s y.1 (List.replicate 16 false) (List.replicate 8 false) (List.replicate 756 0)],Option.bind (q5_ (s.2.2.1,())) fun y=>amb (eqAs q2_.rs) [j1 s y.1 (List.replicate 16 false) (List.replicate 8 false) (List.replicate 756 0),j1 s y.1 (List.replicate 16 false) (List.replicate 8 false) (List.replicate 756 0)]]],Option.bind (q5_ (s.2.2.1,())) fun y=>amb (eqAs q2_.rs) [amb (eqAs q2_.rs) [j1 s y.1 (List.replicate 16 false) (List.replicate 8 false) (List.replicate 756 0),j1 s y.1 (List.replicate 16 false) (List.replicate 8 false) (List.replicate 756 0)],amb (eqAs q2_.rs) [amb (eqAs q2_.rs) [j1 s y.1 (List.replicate 16 false) (List.replicate 8 false) (List.replicate 756 0),j1 s y.1 (List.replicate 16 false) (List.replicate 8 false) (List.replicate 756 0)],amb (eqAs q2_.rs) [j1 s y.1 (List.replicate 16 false) (List.replicate 8 false) (List.replicate 756 0),j1 s y.1 (List.replicate 16 false) (List.replicate 8 false) (List.replicate 756 0)]]]]]]]]]]
def qds_ (s:Int×Int×YTT2×List Bool) (t57:Int) (m:List Int) (o o_2:List Bool) (o_3:List Int):Option (As [.pr (.sl .bool) YTT10]) :=
 loopF (fun (self:(Int×Int×YTT2×List Bool)×(Int)×(List Int)×(List Bool)×(List Bool)×(List Int)->Option (As [.pr (.sl .bool) YTT10])) (s:(Int×Int×YTT2×List Bool)×(Int)×(List Int)×(List Bool)×(List Bool)×(List Int))=>qe9_ (fun s t57 m o o_2 o_3=>self (s,t57,m,o,o_2,o_3)) s.1 s.2.1 s.2.2.1 s.2.2.2.1 s.2.2.2.2.1 s.2.2.2.2.2) 18446744073709551616 (s,t57,m,o,o_2,o_3)
def qnh_ (s:Int×Int×YTT2×List Bool) (m:List Int) (o o_2:List Bool) (o_3:List Int):Option (As [.pr (.sl .bool) YTT10]):=qn4_ (qds_) s m o o_2 o_3
def qmv_ (s:Int×Int×YTT2×List Bool) (m:List Int) (o o_2:List Bool) (o_3:List Int):Option (As [.pr (.sl .bool) YTT10]):=qms_ (qnh_) s m o o_2 o_3
def q4r_ (x:As [.pr (.int .u8) (.pr (.int .u8) (.pr (.pr (.sl (.int .u16)) YTT0) (.sl .bool)))]):Option (As [.pr (.sl .bool) YTT10]):=qn6_ qmv_ x.1
theorem q16i_  (J w3 s t57 m o o_2 o_3):pfn Tryz.prog q5c_ 6 18446744073709551616 (Ev.get q5j_) 47 q2_ J 4090 [w3] (qeu_ s t57 m o o_2 o_3)=qe9_ (fun s t57 m o o_2 o_3=>w3 (qeu_ s t57 m o o_2 o_3)) s t57 m o o_2 o_3:=by kernel_rfl
theorem q16b_  (J s m o o_2 o_3):pfn Tryz.prog q5c_ 6 18446744073709551616 (Ev.get q5j_) 47 q2_ J 15 [] (qn3_ s m o o_2 o_3)=qn4_ (fun s t57 m o o_2 o_3=>J 4090 [] (qeu_ s t57 m o o_2 o_3)) s m o o_2 o_3:=by kernel_rfl
theorem q169_  (J s m o o_2 o_3):pfn Tryz.prog q5c_ 6 18446744073709551616 (Ev.get q5j_) 47 q2_ J 3 [] (qo0_ s m o o_2 o_3)=qms_ (fun s m o o_2 o_3=>J 15 [] (qn3_ s m o o_2 o_3)) s m o o_2 o_3:=by kernel_rfl
theorem q183_ (J:Orc (As [.pr (.sl .bool) YTT10])) (x:As [.pr (.int .u8) (.pr (.int .u8) (.pr (.pr (.sl (.int .u16)) YTT0) (.sl .bool)))]):rfn Tryz.prog q5c_ 6 18446744073709551616 (Ev.get q5j_) 47 q2_ J x=qn6_ (fun s m o o_2 o_3=>J 3 [] (qo0_ s m o o_2 o_3)) x.1:=by kernel_rfl
theorem q15r_  (s t57 m o o_2 o_3):jfn Tryz.prog q5c_ 6 18446744073709551616 (Ev.get q5j_) 47 q2_ 4090 [] (qeu_ s t57 m o o_2 o_3)=qds_ s t57 m o o_2 o_3:=by
 rw [q6_ (by decide)]
 rw [qn_ (by kernel_rfl)]
 refine qh_ (σ:=(Int×Int×YTT2×List Bool)×(Int)×(List Int)×(List Bool)×(List Bool)×(List Int)) (mk:=fun s=>qeu_ s.1 s.2.1 s.2.2.1 s.2.2.2.1 s.2.2.2.2.1 s.2.2.2.2.2) (fun w3 s=>?_) 18446744073709551616 (s,t57,m,o,o_2,o_3)
 refine (q16i_ _ w3 s.1 s.2.1 s.2.2.1 s.2.2.2.1 s.2.2.2.2.1 s.2.2.2.2.2).trans ?_
 rfl
theorem q16p_  (s m o o_2 o_3):jfn Tryz.prog q5c_ 6 18446744073709551616 (Ev.get q5j_) 47 q2_ 15 [] (qn3_ s m o o_2 o_3)=qnh_ s m o o_2 o_3:=by
 rw [q6_ (by decide)]
 have e3:(fun s t57 m o o_2 o_3=>(jfn Tryz.prog q5c_ 6 18446744073709551616 (Ev.get q5j_) 47 q2_) 4090 [] (qeu_ s t57 m o o_2 o_3))=qds_:=by funext s t57 m o o_2 o_3; exact q15r_ s t57 m o o_2 o_3
 rw [q16b_,e3]
 rfl
theorem q15y_  (s m o o_2 o_3):jfn Tryz.prog q5c_ 6 18446744073709551616 (Ev.get q5j_) 47 q2_ 3 [] (qo0_ s m o o_2 o_3)=qmv_ s m o o_2 o_3:=by
 rw [q6_ (by decide)]
 have e2:(fun s m o o_2 o_3=>(jfn Tryz.prog q5c_ 6 18446744073709551616 (Ev.get q5j_) 47 q2_) 15 [] (qn3_ s m o o_2 o_3))=qnh_:=by funext s m o o_2 o_3; exact q16p_ s m o o_2 o_3
 rw [q169_,e2]
 rfl
theorem q19s_ (x:As [.pr (.int .u8) (.pr (.int .u8) (.pr (.pr (.sl (.int .u16)) YTT0) (.sl .bool)))]):evT Tryz.prog q5c_ 6 18446744073709551616 (Ev.get q5j_) 47 q2_ x=q4r_ x:=by
 have e1:(fun s m o o_2 o_3=>(jfn Tryz.prog q5c_ 6 18446744073709551616 (Ev.get q5j_) 47 q2_) 3 [] (qo0_ s m o o_2 o_3))=qmv_:=by funext s m o o_2 o_3; exact q15y_ s m o o_2 o_3
 rw [qi_,q183_,e1]
 rfl
theorem q18m_:CtOk Tryz.prog (fun _=>True) 47 ⟨q2_,q4r_⟩:=qc_ (q0_ Ev.bx_ok (q0_ qs3_ (q0_ q10p_ (q0_ qgr_ (q0_ q14i_ q3_))))) q19s_
@[reducible] def q43_:Sh:=⟨[.d (.pr (.int .u8) YTT4)],[],[.pr (.int .u8) YTT4],[.d (.pr (.int .u8) YTT3),.d (.bool)],[],0,[.pr (.int .u8) YTT3,.bool]⟩
def q77_:Env:=(cts [(58,(⟨q4v_,q9p_⟩:Ct))])
def q70_:List (Nat×Hint):=[(15,⟨[.rwb 4 2 4,.rwb 4 3 23],[2,4]⟩),(1967,⟨[],[1,2,4,33]⟩)]
def qbr_ (t2 t2_2 t2_3 t2_4 r r_2 r_3 r_4:Int) (o:List Bool) (o_2:List Int):St:={ fr:=[(2,.pb 0 0),(4,.pb 1 0)],nt:=40,up:=[],own:=[(0,.box 46 [.d (.int .u8) t2,.d (.int .u8) t2_2,.k (Go.Value.slice Option.none 0 0),.k (Go.Value.slice Option.none 0 0),.d (.int .u16) t2_3,.d (.int .u16) t2_4]),(1,.box 46 [.d (.int .u8) r,.d (.int .u8) r_2,.row 2,.row 3,.d (.int .u16) r_3,.d (.int .u16) r_4]),(2,.row .bool 4 o),(3,.row (.int .u16) 23 o_2)],nx:=4,log:=[],ln:=0 }
def qlc_ (t33:Bool) (a a_2 a_3 a_4:Int) (a_5:List Int) (a_6:List Bool) (t2 t2_2 t2_3 t2_4 r r_2 r_3 r_4:Int):St:={ fr:=[(1,.pb 0 0),(2,.pb 1 0),(4,.pb 2 0),(33,.d .bool t33)],nt:=40,up:=[],own:=[(0,.box 44 [.d (.int .u8) a,.d (.int .u16) a_2,.d (.int .u16) a_3,.d (.int .u16) a_4,.d (.sl (.int .u16)) a_5,.d (.sl .bool) a_6]),(1,.box 46 [.d (.int .u8) t2,.d (.int .u8) t2_2,.k (Go.Value.slice Option.none 0 0),.k (Go.Value.slice Option.none 0 0),.d (.int .u16) t2_3,.d (.int .u16) t2_4]),(2,.box 46 [.d (.int .u8) r,.d (.int .u8) r_2,.k (Go.Value.slice Option.none 0 0),.k (Go.Value.slice Option.none 0 0),.d (.int .u16) r_3,.d (.int .u16) r_4])],nx:=3,log:=[],ln:=0 }
def qvc_ (t2 t2_2 t2_3 t2_4 r r_2 r_3 r_4:Int) (o:List Bool) (o_2:List Int):Option (As [.pr (.int .u8) YTT3,.bool]) :=
 some ((r,r_2,o,o_2,r_3,r_4),true,())
def qv2_ (j1:Int->Int->Int->Int->Int->Int->Int->Int->List Bool->List Int->Option (As [.pr (.int .u8) YTT3,.bool])) (t33:Bool) (a a_2 a_3 a_4:Int) (a_5:List Int) (a_6:List Bool) (t2 t2_2 t2_3 t2_4 r r_2 r_3 r_4:Int):Option (As [.pr (.int .u8) YTT3,.bool]) :=
 if t33=true then j1 t2 t2_2 t2_3 t2_4 r r_2 r_3 a_3 [] [] else some ((0,0,[],[],0,0),false,())
def qkk_ (j1:Int->Int->Int->Int->Int->Int->Int->Int->List Bool->List Int->Option (As [.pr (.int .u8) YTT3,.bool])) (j2:Bool->Int->Int->Int->Int->List Int->List Bool->Int->Int->Int->Int->Int->Int->Int->Int->Option (As [.pr (.int .u8) YTT3,.bool])) (a:Int×Int×Int×Int×List Int×List Bool):Option (As [.pr (.int .u8) YTT3,.bool]) :=
 Option.bind (q9p_ (a,())) fun y=>if (!y.1)=true then some ((0,0,[],[],0,0),false,()) else if eqi a.1 5=true then Option.bind (at? a.2.2.2.2.2 0) fun y=>j1 0 0 0 0 a.1 0 a.2.1 0 [y] [] else if eqi a.1 6=true then Option.bind (at? a.2.2.2.2.1 0) fun y=>j1 0 0 0 0 a.1 0 a.2.1 0 [] [y] else if eqi a.1 15=true then j2 true a.1 a.2.1 a.2.2.1 a.2.2.2.1 a.2.2.2.2.1 a.2.2.2.2.2 0 0 0 0 a.1 0 a.2.1 0 else j2 (eqi a.1 16) a.1 a.2.1 a.2.2.1 a.2.2.2.1 a.2.2.2.2.1 a.2.2.2.2.2 0 0 0 0 a.1 0 a.2.1 0
def qbv_ (t2 t2_2 t2_3 t2_4 r r_2 r_3 r_4:Int) (o:List Bool) (o_2:List Int):Option (As [.pr (.int .u8) YTT3,.bool]):=qvc_ t2 t2_2 t2_3 t2_4 r r_2 r_3 r_4 o o_2
def qkw_ (t33:Bool) (a a_2 a_3 a_4:Int) (a_5:List Int) (a_6:List Bool) (t2 t2_2 t2_3 t2_4 r r_2 r_3 r_4:Int):Option (As [.pr (.int .u8) YTT3,.bool]):=qv2_ (qbv_) t33 a a_2 a_3 a_4 a_5 a_6 t2 t2_2 t2_3 t2_4 r r_2 r_3 r_4
def q9g_ (x:As [.pr (.int .u8) YTT4]):Option (As [.pr (.int .u8) YTT3,.bool]):=qkk_ qbv_ qkw_ x.1
theorem q14g_  (J t2 t2_2 t2_3 t2_4 r r_2 r_3 r_4 o o_2):pfn Tryz.prog q77_ 6 18446744073709551616 (Ev.get q70_) 68 q43_ J 15 [] (qbr_ t2 t2_2 t2_3 t2_4 r r_2 r_3 r_4 o o_2)=qvc_ t2 t2_2 t2_3 t2_4 r r_2 r_3 r_4 o o_2:=by kernel_rfl
theorem q13v_  (J t33 a a_2 a_3 a_4 a_5 a_6 t2 t2_2 t2_3 t2_4 r r_2 r_3 r_4):pfn Tryz.prog q77_ 6 18446744073709551616 (Ev.get q70_) 68 q43_ J 1967 [] (qlc_ t33 a a_2 a_3 a_4 a_5 a_6 t2 t2_2 t2_3 t2_4 r r_2 r_3 r_4)=qv2_ (fun t2 t2_2 t2_3 t2_4 r r_2 r_3 r_4 o o_2=>J 15 [] (qbr_ t2 t2_2 t2_3 t2_4 r r_2 r_3 r_4 o o_2)) t33 a a_2 a_3 a_4 a_5 a_6 t2 t2_2 t2_3 t2_4 r r_2 r_3 r_4:=by kernel_rfl
theorem q14b_ (J:Orc (As [.pr (.int .u8) YTT3,.bool])) (x:As [.pr (.int .u8) YTT4]):rfn Tryz.prog q77_ 6 18446744073709551616 (Ev.get q70_) 68 q43_ J x=qkk_ (fun t2 t2_2 t2_3 t2_4 r r_2 r_3 r_4 o o_2=>J 15 [] (qbr_ t2 t2_2 t2_3 t2_4 r r_2 r_3 r_4 o o_2)) (fun t33 a a_2 a_3 a_4 a_5 a_6 t2 t2_2 t2_3 t2_4 r r_2 r_3 r_4=>J 1967 [] (qlc_ t33 a a_2 a_3 a_4 a_5 a_6 t2 t2_2 t2_3 t2_4 r r_2 r_3 r_4)) x.1:=by kernel_rfl
theorem qvb_  (t2 t2_2 t2_3 t2_4 r r_2 r_3 r_4 o o_2):jfn Tryz.prog q77_ 6 18446744073709551616 (Ev.get q70_) 68 q43_ 15 [] (qbr_ t2 t2_2 t2_3 t2_4 r r_2 r_3 r_4 o o_2)=qbv_ t2 t2_2 t2_3 t2_4 r r_2 r_3 r_4 o o_2:=by
 rw [q6_ (by decide)]
 rw [q14g_]
 rfl
theorem q13y_  (t33 a a_2 a_3 a_4 a_5 a_6 t2 t2_2 t2_3 t2_4 r r_2 r_3 r_4):jfn Tryz.prog q77_ 6 18446744073709551616 (Ev.get q70_) 68 q43_ 1967 [] (qlc_ t33 a a_2 a_3 a_4 a_5 a_6 t2 t2_2 t2_3 t2_4 r r_2 r_3 r_4)=qkw_ t33 a a_2 a_3 a_4 a_5 a_6 t2 t2_2 t2_3 t2_4 r r_2 r_3 r_4:=by
 rw [q6_ (by decide)]
 have e1:(fun t2 t2_2 t2_3 t2_4 r r_2 r_3 r_4 o o_2=>(jfn Tryz.prog q77_ 6 18446744073709551616 (Ev.get q70_) 68 q43_) 15 [] (qbr_ t2 t2_2 t2_3 t2_4 r r_2 r_3 r_4 o o_2))=qbv_:=by funext t2 t2_2 t2_3 t2_4 r r_2 r_3 r_4 o o_2; exact qvb_ t2 t2_2 t2_3 t2_4 r r_2 r_3 r_4 o o_2
 rw [q13v_,e1]
 rfl
theorem q17z_ (x:As [.pr (.int .u8) YTT4]):evT Tryz.prog q77_ 6 18446744073709551616 (Ev.get q70_) 68 q43_ x=q9g_ x:=by
 have e1:(fun t2 t2_2 t2_3 t2_4 r r_2 r_3 r_4 o o_2=>(jfn Tryz.prog q77_ 6 18446744073709551616 (Ev.get q70_) 68 q43_) 15 [] (qbr_ t2 t2_2 t2_3 t2_4 r r_2 r_3 r_4 o o_2))=qbv_:=by funext t2 t2_2 t2_3 t2_4 r r_2 r_3 r_4 o o_2; exact qvb_ t2 t2_2 t2_3 t2_4 r r_2 r_3 r_4 o o_2
 have e2:(fun t33 a a_2 a_3 a_4 a_5 a_6 t2 t2_2 t2_3 t2_4 r r_2 r_3 r_4=>(jfn Tryz.prog q77_ 6 18446744073709551616 (Ev.get q70_) 68 q43_) 1967 [] (qlc_ t33 a a_2 a_3 a_4 a_5 a_6 t2 t2_2 t2_3 t2_4 r r_2 r_3 r_4))=qkw_:=by funext t33 a a_2 a_3 a_4 a_5 a_6 t2 t2_2 t2_3 t2_4 r r_2 r_3 r_4; exact q13y_ t33 a a_2 a_3 a_4 a_5 a_6 t2 t2_2 t2_3 t2_4 r r_2 r_3 r_4
 rw [qi_,q14b_,e1,e2]
 rfl
theorem quw_:CtOk Tryz.prog (fun _=>True) 68 ⟨q43_,q9g_⟩:=qc_ (q0_ qs6_ q3_) q17z_
@[reducible] def q10_:Sh:=⟨[.d (.pr YTT1 (.sl .bool)),.d (.bool)],[],[.pr YTT1 (.sl .bool),.bool],[.d (.bool)],[],0,[.bool]⟩
def q13_:Env:=(cts [])
def q14_:List (Nat×Hint):=[(122,⟨[],[1,2,5,13,14,15,24,25,26,27,28,29,32,33,34,37,38,39,40,41,42,43,44,45,49,50]⟩),(31334,⟨[.agd 50 .bool],[1,2,7,13,14,15,51]⟩),(15666,⟨[.agd 25 (.int .i64),.agd 27 (.sl .bool),.agd 28 (.int .i64),.agd 29 .bool,.agd 33 (.int .i64),.agd 34 .bool,.agd 38 (.int .i64),.agd 40 (.sl .bool),.agd 41 (.int .i64),.agd 43 (.int .i64),.agd 44 (.int .i64),.agd 45 .bool],[1,2,7,13,14,15,46]⟩)]
def qv_ (fixed:Bool) (endV:Int) (t13:List YTT5) (t14 t15:Int) (t:List YTT5×List Bool):St:={ fr:=[(1,.d .bool fixed),(2,.pb 0 0),(5,.d (.int .i64) endV),(13,.d YTT1 t13),(14,.d (.int .i64) t14),(15,.d (.int .i64) t15)],nt:=58,up:=[],own:=[(0,.box 170 [.d YTT1 t.1,.d (.sl .bool) t.2])],nx:=1,log:=[],ln:=0 }
def q6p_ (fixed:Bool) (t13:List YTT5) (t14 t15:Int) (t46:Bool) (t:List YTT5×List Bool) (x:q18_):St:={ fr:=[(1,.d .bool fixed),(2,.pb 0 0),(7,.pb 1 0),(13,.d YTT1 t13),(14,.d (.int .i64) t14),(15,.d (.int .i64) t15),(46,.d .bool t46)],nt:=58,up:=[],own:=[(0,.box 170 [.d YTT1 t.1,.d (.sl .bool) t.2]),(1,.box 168 [.d (.int .i64) x.1,.d (.int .i64) x.2.1,.d .bool x.2.2.1,.d .bool x.2.2.2.1,.d .bool x.2.2.2.2])],nx:=2,log:=[],ln:=0 }
def q6q_ (fixed:Bool) (t13:List YTT5) (t14 t15:Int) (t51:Bool) (t:List YTT5×List Bool) (x:q18_):St:={ fr:=[(1,.d .bool fixed),(2,.pb 0 0),(7,.pb 1 0),(13,.d YTT1 t13),(14,.d (.int .i64) t14),(15,.d (.int .i64) t15),(51,.d .bool t51)],nt:=58,up:=[],own:=[(0,.box 170 [.d YTT1 t.1,.d (.sl .bool) t.2]),(1,.box 168 [.d (.int .i64) x.1,.d (.int .i64) x.2.1,.d .bool x.2.2.1,.d .bool x.2.2.2.1,.d .bool x.2.2.2.2])],nx:=2,log:=[],ln:=0 }
def q3b_ (j2:Bool->List YTT5->Int->Int->Bool->List YTT5×List Bool->q18_->Option (As [.bool])) (self1:Bool->Int->List YTT5->Int->Int->List YTT5×List Bool->Option (As [.bool])) (fixed:Bool) (endV:Int) (t13:List YTT5) (t14 t15:Int) (t:List YTT5×List Bool):Option (As [.bool]) :=
 if lt t15 t14=true then Option.bind (at? t13 t15) fun y=>if lt y.1 endV=true then j2 fixed t13 t14 t15 true t y else if gt y.1 (Int.ofNat (List.length t.2))=true then j2 fixed t13 t14 t15 true t y else if lt y.2.1 1=true then j2 fixed t13 t14 t15 true t y else j2 fixed t13 t14 t15 (gt y.2.1 (Sx.sub .i64 (Int.ofNat (List.length t.2)) y.1)) t y else some (true,())
def q9m_ (j3:Bool->List YTT5->Int->Int->Bool->List YTT5×List Bool->q18_->Option (As [.bool])) (self1:Bool->Int->List YTT5->Int->Int->List YTT5×List Bool->Option (As [.bool])) (fixed:Bool) (t13:List YTT5) (t14 t15:Int) (t46:Bool) (t:List YTT5×List Bool) (x:q18_):Option (As [.bool]) :=
 if t46=true then some (false,()) else if fixed=true then j3 fixed t13 t14 t15 x.2.2.2.1 t x else j3 fixed t13 t14 t15 false t x
def q9i_ (self1:Bool->Int->List YTT5->Int->Int->List YTT5×List Bool->Option (As [.bool])) (fixed:Bool) (t13:List YTT5) (t14 t15:Int) (t51:Bool) (t:List YTT5×List Bool) (x:q18_):Option (As [.bool]) :=
 if t51=true then some (false,()) else self1 fixed (add .i64 x.1 x.2.1) t13 t14 (add .i64 t15 1) t
def q6r_ (j1:Bool->Int->List YTT5->Int->Int->List YTT5×List Bool->Option (As [.bool])) (t:List YTT5×List Bool) (fixed:Bool):Option (As [.bool]) :=
 if gt (Int.ofNat (List.length t.2)) 65536=true then some (false,()) else j1 fixed 0 t.1 (Int.ofNat (List.length t.1)) 0 t
def q4d_ (u1:Bool->Int->List YTT5->Int->Int->List YTT5×List Bool->Option (As [.bool])) (fixed:Bool) (t13:List YTT5) (t14 t15:Int) (t51:Bool) (t:List YTT5×List Bool) (x:q18_):Option (As [.bool]):=q9i_ u1 fixed t13 t14 t15 t51 t x
def q4f_ (u1:Bool->Int->List YTT5->Int->Int->List YTT5×List Bool->Option (As [.bool])) (fixed:Bool) (t13:List YTT5) (t14 t15:Int) (t46:Bool) (t:List YTT5×List Bool) (x:q18_):Option (As [.bool]):=q9m_ (q4d_ u1) u1 fixed t13 t14 t15 t46 t x
def q39_ (fixed:Bool) (endV:Int) (t13:List YTT5) (t14 t15:Int) (t:List YTT5×List Bool):Option (As [.bool]) :=
 loopF (fun (self:(Bool)×(Int)×(List YTT5)×(Int)×(Int)×(List YTT5×List Bool)->Option (As [.bool])) (s:(Bool)×(Int)×(List YTT5)×(Int)×(Int)×(List YTT5×List Bool))=>q3b_ (q4f_ (fun fixed endV t13 t14 t15 t=>self (fixed,endV,t13,t14,t15,t))) (fun fixed endV t13 t14 t15 t=>self (fixed,endV,t13,t14,t15,t)) s.1 s.2.1 s.2.2.1 s.2.2.2.1 s.2.2.2.2.1 s.2.2.2.2.2) 18446744073709551616 (fixed,endV,t13,t14,t15,t)
def q5f_ (x:As [.pr YTT1 (.sl .bool),.bool]):Option (As [.bool]):=q6r_ q39_ x.1 x.2.1
theorem qrh_  (J w1 fixed t13 t14 t15 t51 t x):pfn Tryz.prog q13_ 6 18446744073709551616 (Ev.get q14_) 118 q10_ J 31334 [w1] (q6q_ fixed t13 t14 t15 t51 t x)=q9i_ (fun fixed endV t13 t14 t15 t=>w1 (qv_ fixed endV t13 t14 t15 t)) fixed t13 t14 t15 t51 t x:=by kernel_rfl
theorem qr6_  (J w1 fixed t13 t14 t15 t46 t x):pfn Tryz.prog q13_ 6 18446744073709551616 (Ev.get q14_) 118 q10_ J 15666 [w1] (q6p_ fixed t13 t14 t15 t46 t x)=q9m_ (fun fixed t13 t14 t15 t51 t x=>J 31334 [w1] (q6q_ fixed t13 t14 t15 t51 t x)) (fun fixed endV t13 t14 t15 t=>w1 (qv_ fixed endV t13 t14 t15 t)) fixed t13 t14 t15 t46 t x:=by kernel_rfl
theorem qri_  (J w1 fixed endV t13 t14 t15 t):pfn Tryz.prog q13_ 6 18446744073709551616 (Ev.get q14_) 118 q10_ J 122 [w1] (qv_ fixed endV t13 t14 t15 t)=q3b_ (fun fixed t13 t14 t15 t46 t x=>J 15666 [w1] (q6p_ fixed t13 t14 t15 t46 t x)) (fun fixed endV t13 t14 t15 t=>w1 (qv_ fixed endV t13 t14 t15 t)) fixed endV t13 t14 t15 t:=by kernel_rfl
theorem qre_ (J:Orc (As [.bool])) (x:As [.pr YTT1 (.sl .bool),.bool]):rfn Tryz.prog q13_ 6 18446744073709551616 (Ev.get q14_) 118 q10_ J x=q6r_ (fun fixed endV t13 t14 t15 t=>J 122 [] (qv_ fixed endV t13 t14 t15 t)) x.1 x.2.1:=by kernel_rfl
theorem qr7_  (w1 fixed t13 t14 t15 t51 t x):jfn Tryz.prog q13_ 6 18446744073709551616 (Ev.get q14_) 118 q10_ 31334 [w1] (q6q_ fixed t13 t14 t15 t51 t x)=q4d_ (fun fixed endV t13 t14 t15 t=>w1 (qv_ fixed endV t13 t14 t15 t)) fixed t13 t14 t15 t51 t x:=by
 rw [q6_ (by decide)]
 rw [qrh_]
 rfl
theorem qra_  (w1 fixed t13 t14 t15 t46 t x):jfn Tryz.prog q13_ 6 18446744073709551616 (Ev.get q14_) 118 q10_ 15666 [w1] (q6p_ fixed t13 t14 t15 t46 t x)=q4f_ (fun fixed endV t13 t14 t15 t=>w1 (qv_ fixed endV t13 t14 t15 t)) fixed t13 t14 t15 t46 t x:=by
 rw [q6_ (by decide)]
 have e3:(fun fixed t13 t14 t15 t51 t x=>(jfn Tryz.prog q13_ 6 18446744073709551616 (Ev.get q14_) 118 q10_) 31334 [w1] (q6q_ fixed t13 t14 t15 t51 t x))=q4d_ (fun fixed endV t13 t14 t15 t=>w1 (qv_ fixed endV t13 t14 t15 t)):=by funext fixed t13 t14 t15 t51 t x; exact qr7_ w1 fixed t13 t14 t15 t51 t x
 rw [qr6_,e3]
 rfl
theorem qr3_  (fixed endV t13 t14 t15 t):jfn Tryz.prog q13_ 6 18446744073709551616 (Ev.get q14_) 118 q10_ 122 [] (qv_ fixed endV t13 t14 t15 t)=q39_ fixed endV t13 t14 t15 t:=by
 rw [q6_ (by decide)]
 rw [qn_ (by kernel_rfl)]
 refine qh_ (σ:=(Bool)×(Int)×(List YTT5)×(Int)×(Int)×(List YTT5×List Bool)) (mk:=fun s=>qv_ s.1 s.2.1 s.2.2.1 s.2.2.2.1 s.2.2.2.2.1 s.2.2.2.2.2) (fun w1 s=>?_) 18446744073709551616 (fixed,endV,t13,t14,t15,t)
 have e2:(fun fixed t13 t14 t15 t46 t x=>(jfn Tryz.prog q13_ 6 18446744073709551616 (Ev.get q14_) 118 q10_) 15666 [w1] (q6p_ fixed t13 t14 t15 t46 t x))=q4f_ (fun fixed endV t13 t14 t15 t=>w1 (qv_ fixed endV t13 t14 t15 t)):=by funext fixed t13 t14 t15 t46 t x; exact qra_ w1 fixed t13 t14 t15 t46 t x
 refine (qri_ _ w1 s.1 s.2.1 s.2.2.1 s.2.2.2.1 s.2.2.2.2.1 s.2.2.2.2.2).trans ?_
 rw [e2]
theorem qrn_ (x:As [.pr YTT1 (.sl .bool),.bool]):evT Tryz.prog q13_ 6 18446744073709551616 (Ev.get q14_) 118 q10_ x=q5f_ x:=by
 have e1:(fun fixed endV t13 t14 t15 t=>(jfn Tryz.prog q13_ 6 18446744073709551616 (Ev.get q14_) 118 q10_) 122 [] (qv_ fixed endV t13 t14 t15 t))=q39_:=by funext fixed endV t13 t14 t15 t; exact qr3_ fixed endV t13 t14 t15 t
 rw [qi_,qre_,e1]
 rfl
theorem qr8_:CtOk Tryz.prog (fun _=>True) 118 ⟨q10_,q5f_⟩:=qc_ q3_ qrn_
end Go.Proofs.Lx
end
