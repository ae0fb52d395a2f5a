/- Proved in the last of these 13 parts (this is part 7): SlaveStages returns true, whatever the link, the bank, the owner, the transaction and the blocks. Conditions: those of the given statement, and no others. -/
import Derived.Test.YtkcmbampiiolbaaGreatParte
import Derived.Test.YtkcmbampiiolbaaGreatPartf
import Derived.Test.YtkcmbampiiolbaaGreatProg
set_option linter.unusedVariables false
set_option linter.unusedSimpArgs false
set_option linter.unusedSectionVars false
section
open Go Go.Proofs Ev Sx
set_option maxRecDepth 100000
namespace Go.Proofs.Lx
abbrev YaA2q0:Type:=Int×Int×Bool×Bool×Bool
@[reducible] def q9_:Sh:=⟨[.d YTT1,.d (.int .i64),.d (.int .i64),.fn (.func 260) [] [.pb 0 0,.pb 1 0]],[.box 3 [.d (.int .i64)],.box 3 [.d (.int .i64)]],[.sl (.pr (.int .i64) YTT12),.int .i64,.int .i64,.int .i64,.int .i64],[.d (.bool)],[(0,.box 3 [.d (.int .i64)]),(1,.box 3 [.d (.int .i64)])],0,[.bool,.int .i64,.int .i64]⟩
def qq_:Env:=(cts [(259,(⟨qi_,model_table_bool_readable_z1⟩:Ct)),(260,(⟨qj_,model_table_bool_writable_z1⟩:Ct)),(261,(⟨q10_,model_meet⟩:Ct)),(264,(⟨qc_,model_table_uint16_readable_z1⟩:Ct)),(265,(⟨qd_,model_table_uint16_writable_z1⟩:Ct))])
def qr_:List (Nat×Hint):=[(15,⟨[],[10]⟩),(122,⟨[],[1,2,3,9,10,19,20,21]⟩),(125342,⟨[],[1,2,3,9,10,12,14,15,19,20,21]⟩),(501369,⟨[],[1,2,3,9,10,12,14,15,19,20,21]⟩)]
def qy_ (at' many left:Int) (t19:List YTT5) (t20 t21 o o_2:Int) (met:List Bool):St:={ fr:=[(1,.d (.int .i64) at'),(2,.d (.int .i64) many),(3,.fn (.func 260) [] [.pb 0 0,.pb 1 0]),(9,.row 2),(10,.d (.int .i64) left),(19,.d YTT1 t19),(20,.d (.int .i64) t20),(21,.d (.int .i64) t21)],nt:=62,up:=[],own:=[(0,.box 3 [.d (.int .i64) o]),(1,.box 3 [.d (.int .i64) o_2]),(2,.row .bool 4 met)],nx:=3,log:=[],ln:=2 }
def q8a_ (left o o_2:Int):St:={ fr:=[(10,.d (.int .i64) left)],nt:=62,up:=[],own:=[(0,.box 3 [.d (.int .i64) o]),(1,.box 3 [.d (.int .i64) o_2])],nx:=2,log:=[],ln:=2 }
def q1v_ (at' many left to' i:Int) (t19:List YTT5) (t20 t21 o o_2:Int) (met:List Bool) (x:YaA2q0):St:={ fr:=[(1,.d (.int .i64) at'),(2,.d (.int .i64) many),(3,.fn (.func 260) [] [.pb 0 0,.pb 1 0]),(9,.row 2),(10,.d (.int .i64) left),(12,.pb 3 0),(14,.d (.int .i64) to'),(15,.d (.int .i64) i),(19,.d YTT1 t19),(20,.d (.int .i64) t20),(21,.d (.int .i64) t21)],nt:=62,up:=[],own:=[(0,.box 3 [.d (.int .i64) o]),(1,.box 3 [.d (.int .i64) o_2]),(2,.row .bool 4 met),(3,.box 168 [.d (.int .i64) x.1,.d (.int .i64) x.2.1,.d .bool x.2.2.1,.d .bool x.2.2.2.1,.d .bool x.2.2.2.2])],nx:=4,log:=[],ln:=2 }
def q7z_ (at' many left to' i:Int) (t19:List YTT5) (t20 t21 o o_2:Int) (met:List Bool) (x:YaA2q0):St:={ fr:=[(1,.d (.int .i64) at'),(2,.d (.int .i64) many),(3,.fn (.func 260) [] [.pb 0 0,.pb 1 0]),(9,.row 2),(10,.d (.int .i64) left),(12,.pb 3 0),(14,.d (.int .i64) to'),(15,.d (.int .i64) i),(19,.d YTT1 t19),(20,.d (.int .i64) t20),(21,.d (.int .i64) t21)],nt:=62,up:=[],own:=[(0,.box 3 [.d (.int .i64) o]),(1,.box 3 [.d (.int .i64) o_2]),(2,.row .bool 4 met),(3,.box 168 [.d (.int .i64) x.1,.d (.int .i64) x.2.1,.d .bool x.2.2.1,.d .bool x.2.2.2.1,.d .bool x.2.2.2.2])],nx:=4,log:=[],ln:=2 }
def q6d_ (j2:Int->Int->Int->Option (As [.bool,.int .i64,.int .i64])) (j3:Int->Int->Int->Int->Int->List YTT5->Int->Int->Int->Int->List Bool->YaA2q0->Option (As [.bool,.int .i64,.int .i64])) (self1:Int->Int->Int->List YTT5->Int->Int->Int->Int->List Bool->Option (As [.bool,.int .i64,.int .i64])) (at' many left:Int) (t19:List YTT5) (t20 t21 o o_2:Int) (met:List Bool):Option (As [.bool,.int .i64,.int .i64]) :=
 if lt t21 t20=true then Option.bind (at? t19 t21) fun y=>if eqi left 0=true then j2 left o o_2 else Option.bind (model_meet (y,at',add .i64 at' many,())) fun y_1=>j3 at' many left y_1.2.1 y_1.1 t19 t20 t21 o o_2 met y else j2 left o o_2
def qez_ (left o o_2:Int):Option (As [.bool,.int .i64,.int .i64]) :=
 some (eqi left 0,o,o_2,())
def q67_ (j4:Int->Int->Int->Int->Int->List YTT5->Int->Int->Int->Int->List Bool->YaA2q0->Option (As [.bool,.int .i64,.int .i64])) (self1:Int->Int->Int->List YTT5->Int->Int->Int->Int->List Bool->Option (As [.bool,.int .i64,.int .i64])) (self3:Int->Int->Int->Int->Int->List YTT5->Int->Int->Int->Int->List Bool->YaA2q0->Option (As [.bool,.int .i64,.int .i64])) (at' many left to' i:Int) (t19:List YTT5) (t20 t21 o o_2:Int) (met:List Bool) (x:YaA2q0):Option (As [.bool,.int .i64,.int .i64]) :=
 if lt i to'=true then Option.bind (at? met (Sx.sub .i64 i at')) fun x_1=>Option.bind (at? met (Sx.sub .i64 i at')) fun y=>if y=true then j4 at' many left to' i t19 t20 t21 o o_2 met x else Option.bind (model_table_bool_writable_z1 (x,o,o_2,())) fun y=>if (!y.1)=true then some (false,y.2.1,y.2.2.1,()) else Option.bind (at? met (Sx.sub .i64 i at')) fun x_2=>Option.bind (at? met (Sx.sub .i64 i at')) fun x_3=>j4 at' many (Sx.sub .i64 left 1) to' i t19 t20 t21 y.2.1 y.2.2.1 (List.set met (Int.toNat (Sx.sub .i64 i at')) true) x else self1 at' many left t19 t20 (add .i64 t21 1) o o_2 met
def qbn_ (self1:Int->Int->Int->List YTT5->Int->Int->Int->Int->List Bool->Option (As [.bool,.int .i64,.int .i64])) (self3:Int->Int->Int->Int->Int->List YTT5->Int->Int->Int->Int->List Bool->YaA2q0->Option (As [.bool,.int .i64,.int .i64])) (at' many left to' i:Int) (t19:List YTT5) (t20 t21 o o_2:Int) (met:List Bool) (x:YaA2q0):Option (As [.bool,.int .i64,.int .i64]) :=
 self3 at' many left to' (add .i64 i 1) t19 t20 t21 o o_2 met x
def q8d_ (j1:Int->Int->Int->List YTT5->Int->Int->Int->Int->List Bool->Option (As [.bool,.int .i64,.int .i64])) (areas:List YTT5) (at' many wanted areas_2:Int):Option (As [.bool,.int .i64,.int .i64]) :=
 need (ge many 0) (need (Ev.capOk many many) (need (small (Int.toNat many)) (j1 at' many many areas (Int.ofNat (List.length areas)) 0 wanted areas_2 (List.replicate (Int.toNat many) false))))
def q4k_ (left o o_2:Int):Option (As [.bool,.int .i64,.int .i64]):=qez_ left o o_2
def q35_ (u1:Int->Int->Int->List YTT5->Int->Int->Int->Int->List Bool->Option (As [.bool,.int .i64,.int .i64])) (u3:Int->Int->Int->Int->Int->List YTT5->Int->Int->Int->Int->List Bool->YaA2q0->Option (As [.bool,.int .i64,.int .i64])) (at' many left to' i:Int) (t19:List YTT5) (t20 t21 o o_2:Int) (met:List Bool) (x:YaA2q0):Option (As [.bool,.int .i64,.int .i64]):=qbn_ u1 u3 at' many left to' i t19 t20 t21 o o_2 met x
def q3b_ (u1:Int->Int->Int->List YTT5->Int->Int->Int->Int->List Bool->Option (As [.bool,.int .i64,.int .i64])) (at' many left to' i:Int) (t19:List YTT5) (t20 t21 o o_2:Int) (met:List Bool) (x:YaA2q0):Option (As [.bool,.int .i64,.int .i64]) :=
 loopF (fun (self:(Int)×(Int)×(Int)×(Int)×(Int)×(List YTT5)×(Int)×(Int)×(Int)×(Int)×(List Bool)×YTT5->Option (As [.bool,.int .i64,.int .i64])) (s:(Int)×(Int)×(Int)×(Int)×(Int)×(List YTT5)×(Int)×(Int)×(Int)×(Int)×(List Bool)×YTT5)=>q67_ (q35_ u1 (fun at' many left to' i t19 t20 t21 o o_2 met x=>self (at',many,left,to',i,t19,t20,t21,o,o_2,met,x))) u1 (fun at' many left to' i t19 t20 t21 o o_2 met x=>self (at',many,left,to',i,t19,t20,t21,o,o_2,met,x)) s.1 s.2.1 s.2.2.1 s.2.2.2.1 s.2.2.2.2.1 s.2.2.2.2.2.1 s.2.2.2.2.2.2.1 s.2.2.2.2.2.2.2.1 s.2.2.2.2.2.2.2.2.1 s.2.2.2.2.2.2.2.2.2.1 s.2.2.2.2.2.2.2.2.2.2.1 s.2.2.2.2.2.2.2.2.2.2.2) 18446744073709551616 (at',many,left,to',i,t19,t20,t21,o,o_2,met,x)
def q6a_ (at' many left:Int) (t19:List YTT5) (t20 t21 o o_2:Int) (met:List Bool):Option (As [.bool,.int .i64,.int .i64]) :=
 loopF (fun (self:(Int)×(Int)×(Int)×(List YTT5)×(Int)×(Int)×(Int)×(Int)×(List Bool)->Option (As [.bool,.int .i64,.int .i64])) (s:(Int)×(Int)×(Int)×(List YTT5)×(Int)×(Int)×(Int)×(Int)×(List Bool))=>q6d_ (q4k_) (q3b_ (fun at' many left t19 t20 t21 o o_2 met=>self (at',many,left,t19,t20,t21,o,o_2,met))) (fun at' many left t19 t20 t21 o o_2 met=>self (at',many,left,t19,t20,t21,o,o_2,met)) s.1 s.2.1 s.2.2.1 s.2.2.2.1 s.2.2.2.2.1 s.2.2.2.2.2.1 s.2.2.2.2.2.2.1 s.2.2.2.2.2.2.2.1 s.2.2.2.2.2.2.2.2) 18446744073709551616 (at',many,left,t19,t20,t21,o,o_2,met)
def model_each_bw (x:As [.sl (.pr (.int .i64) YTT12),.int .i64,.int .i64,.int .i64,.int .i64]):Option (As [.bool,.int .i64,.int .i64]):=q8d_ q6a_ x.1 x.2.1 x.2.2.1 x.2.2.2.1 x.2.2.2.2.1
theorem qkb_ (J:Orc (As [.bool,.int .i64,.int .i64])) (left o o_2:Int):pfn Tryz.prog qq_ 6 18446744073709551616 (Ev.get qr_) 258 q9_ J 15 [] (q8a_ left o o_2)=qez_ left o o_2:=by kernel_rfl
theorem qkh_ (J:Orc (As [.bool,.int .i64,.int .i64])) (w1 w3:St->Option (As [.bool,.int .i64,.int .i64])) (at' many left to' i:Int) (t19:List YTT5) (t20 t21 o o_2:Int) (met:List Bool) (x:YaA2q0):pfn Tryz.prog qq_ 6 18446744073709551616 (Ev.get qr_) 258 q9_ J 501369 [w1,w3] (q7z_ at' many left to' i t19 t20 t21 o o_2 met x)=qbn_ (fun at' many left t19 t20 t21 o o_2 met=>w1 (qy_ at' many left t19 t20 t21 o o_2 met)) (fun at' many left to' i t19 t20 t21 o o_2 met x=>w3 (q1v_ at' many left to' i t19 t20 t21 o o_2 met x)) at' many left to' i t19 t20 t21 o o_2 met x:=by kernel_rfl
theorem ql7_ (J:Orc (As [.bool,.int .i64,.int .i64])) (w1 w3:St->Option (As [.bool,.int .i64,.int .i64])) (at' many left to' i:Int) (t19:List YTT5) (t20 t21 o o_2:Int) (met:List Bool) (x:YaA2q0):pfn Tryz.prog qq_ 6 18446744073709551616 (Ev.get qr_) 258 q9_ J 125342 [w1,w3] (q1v_ at' many left to' i t19 t20 t21 o o_2 met x)=q67_ (fun at' many left to' i t19 t20 t21 o o_2 met x=>J 501369 [w1,w3] (q7z_ at' many left to' i t19 t20 t21 o o_2 met x)) (fun at' many left t19 t20 t21 o o_2 met=>w1 (qy_ at' many left t19 t20 t21 o o_2 met)) (fun at' many left to' i t19 t20 t21 o o_2 met x=>w3 (q1v_ at' many left to' i t19 t20 t21 o o_2 met x)) at' many left to' i t19 t20 t21 o o_2 met x:=by kernel_rfl
theorem qkf_ (J:Orc (As [.bool,.int .i64,.int .i64])) (w1:St->Option (As [.bool,.int .i64,.int .i64])) (at' many left:Int) (t19:List YTT5) (t20 t21 o o_2:Int) (met:List Bool):pfn Tryz.prog qq_ 6 18446744073709551616 (Ev.get qr_) 258 q9_ J 122 [w1] (qy_ at' many left t19 t20 t21 o o_2 met)=q6d_ (fun left o o_2=>J 15 [] (q8a_ left o o_2)) (fun at' many left to' i t19 t20 t21 o o_2 met x=>J 125342 [w1] (q1v_ at' many left to' i t19 t20 t21 o o_2 met x)) (fun at' many left t19 t20 t21 o o_2 met=>w1 (qy_ at' many left t19 t20 t21 o o_2 met)) at' many left t19 t20 t21 o o_2 met:=by kernel_rfl
theorem qkx_ (J:Orc (As [.bool,.int .i64,.int .i64])) (x:As [.sl (.pr (.int .i64) YTT12),.int .i64,.int .i64,.int .i64,.int .i64]):rfn Tryz.prog qq_ 6 18446744073709551616 (Ev.get qr_) 258 q9_ J x=q8d_ (fun at' many left t19 t20 t21 o o_2 met=>J 122 [] (qy_ at' many left t19 t20 t21 o o_2 met)) x.1 x.2.1 x.2.2.1 x.2.2.2.1 x.2.2.2.2.1:=by kernel_rfl
theorem qkg_ (left o o_2:Int):jfn Tryz.prog qq_ 6 18446744073709551616 (Ev.get qr_) 258 q9_ 15 [] (q8a_ left o o_2)=q4k_ left o o_2:=by
 rw [pfn_eq (by decide)]
 rw [qkb_]
 rfl
theorem qkc_ (w1 w3:St->Option (As [.bool,.int .i64,.int .i64])) (at' many left to' i:Int) (t19:List YTT5) (t20 t21 o o_2:Int) (met:List Bool) (x:YaA2q0):jfn Tryz.prog qq_ 6 18446744073709551616 (Ev.get qr_) 258 q9_ 501369 [w1,w3] (q7z_ at' many left to' i t19 t20 t21 o o_2 met x)=q35_ (fun at' many left t19 t20 t21 o o_2 met=>w1 (qy_ at' many left t19 t20 t21 o o_2 met)) (fun at' many left to' i t19 t20 t21 o o_2 met x=>w3 (q1v_ at' many left to' i t19 t20 t21 o o_2 met x)) at' many left to' i t19 t20 t21 o o_2 met x:=by
 rw [pfn_eq (by decide)]
 rw [qkh_]
 rfl
theorem ql5_ (w1:St->Option (As [.bool,.int .i64,.int .i64])) (at' many left to' i:Int) (t19:List YTT5) (t20 t21 o o_2:Int) (met:List Bool) (x:YaA2q0):jfn Tryz.prog qq_ 6 18446744073709551616 (Ev.get qr_) 258 q9_ 125342 [w1] (q1v_ at' many left to' i t19 t20 t21 o o_2 met x)=q3b_ (fun at' many left t19 t20 t21 o o_2 met=>w1 (qy_ at' many left t19 t20 t21 o o_2 met)) at' many left to' i t19 t20 t21 o o_2 met x:=by
 rw [pfn_eq (by decide)]
 rw [pfn_loop (by kernel_rfl)]
 refine loopF_sim (σ:=(Int)×(Int)×(Int)×(Int)×(Int)×(List YTT5)×(Int)×(Int)×(Int)×(Int)×(List Bool)×YTT5) (mk:=fun s=>q1v_ s.1 s.2.1 s.2.2.1 s.2.2.2.1 s.2.2.2.2.1 s.2.2.2.2.2.1 s.2.2.2.2.2.2.1 s.2.2.2.2.2.2.2.1 s.2.2.2.2.2.2.2.2.1 s.2.2.2.2.2.2.2.2.2.1 s.2.2.2.2.2.2.2.2.2.2.1 s.2.2.2.2.2.2.2.2.2.2.2) (fun w3 s=>?_) 18446744073709551616 (at',many,left,to',i,t19,t20,t21,o,o_2,met,x)
 have e4:(fun at' many left to' i t19 t20 t21 o o_2 met x=>(jfn Tryz.prog qq_ 6 18446744073709551616 (Ev.get qr_) 258 q9_) 501369 [w1,w3] (q7z_ at' many left to' i t19 t20 t21 o o_2 met x))=q35_ (fun at' many left t19 t20 t21 o o_2 met=>w1 (qy_ at' many left t19 t20 t21 o o_2 met)) (fun at' many left to' i t19 t20 t21 o o_2 met x=>w3 (q1v_ at' many left to' i t19 t20 t21 o o_2 met x)):=by funext at' many left to' i t19 t20 t21 o o_2 met x; exact qkc_ w1 w3 at' many left to' i t19 t20 t21 o o_2 met x
 refine (ql7_ _ w1 w3 s.1 s.2.1 s.2.2.1 s.2.2.2.1 s.2.2.2.2.1 s.2.2.2.2.2.1 s.2.2.2.2.2.2.1 s.2.2.2.2.2.2.2.1 s.2.2.2.2.2.2.2.2.1 s.2.2.2.2.2.2.2.2.2.1 s.2.2.2.2.2.2.2.2.2.2.1 s.2.2.2.2.2.2.2.2.2.2.2).trans ?_
 rw [e4]
theorem ql9_ (at' many left:Int) (t19:List YTT5) (t20 t21 o o_2:Int) (met:List Bool):jfn Tryz.prog qq_ 6 18446744073709551616 (Ev.get qr_) 258 q9_ 122 [] (qy_ at' many left t19 t20 t21 o o_2 met)=q6a_ at' many left t19 t20 t21 o o_2 met:=by
 rw [pfn_eq (by decide)]
 rw [pfn_loop (by kernel_rfl)]
 refine loopF_sim (σ:=(Int)×(Int)×(Int)×(List YTT5)×(Int)×(Int)×(Int)×(Int)×(List Bool)) (mk:=fun s=>qy_ s.1 s.2.1 s.2.2.1 s.2.2.2.1 s.2.2.2.2.1 s.2.2.2.2.2.1 s.2.2.2.2.2.2.1 s.2.2.2.2.2.2.2.1 s.2.2.2.2.2.2.2.2) (fun w1 s=>?_) 18446744073709551616 (at',many,left,t19,t20,t21,o,o_2,met)
 have e2:(fun left o o_2=>(jfn Tryz.prog qq_ 6 18446744073709551616 (Ev.get qr_) 258 q9_) 15 [] (q8a_ left o o_2))=q4k_:=by funext left o o_2; exact qkg_ left o o_2
 have e3:(fun at' many left to' i t19 t20 t21 o o_2 met x=>(jfn Tryz.prog qq_ 6 18446744073709551616 (Ev.get qr_) 258 q9_) 125342 [w1] (q1v_ at' many left to' i t19 t20 t21 o o_2 met x))=q3b_ (fun at' many left t19 t20 t21 o o_2 met=>w1 (qy_ at' many left t19 t20 t21 o o_2 met)):=by funext at' many left to' i t19 t20 t21 o o_2 met x; exact ql5_ w1 at' many left to' i t19 t20 t21 o o_2 met x
 refine (qkf_ _ w1 s.1 s.2.1 s.2.2.1 s.2.2.2.1 s.2.2.2.2.1 s.2.2.2.2.2.1 s.2.2.2.2.2.2.1 s.2.2.2.2.2.2.2.1 s.2.2.2.2.2.2.2.2).trans ?_
 rw [e2,e3]
theorem qli_ (x:As [.sl (.pr (.int .i64) YTT12),.int .i64,.int .i64,.int .i64,.int .i64]):evT Tryz.prog qq_ 6 18446744073709551616 (Ev.get qr_) 258 q9_ x=model_each_bw x:=by
 have e1:(fun at' many left t19 t20 t21 o o_2 met=>(jfn Tryz.prog qq_ 6 18446744073709551616 (Ev.get qr_) 258 q9_) 122 [] (qy_ at' many left t19 t20 t21 o o_2 met))=q6a_:=by funext at' many left t19 t20 t21 o o_2 met; exact ql9_ at' many left t19 t20 t21 o o_2 met
 rw [rfn_eq,qkx_,e1]
 rfl
theorem q8g_:CtOk Tryz.prog (fun _=>True) 258 ⟨q9_,model_each_bw⟩:=ct_of_ev (env_cons q18_ (env_cons q19_ (env_cons qbh_ (env_cons q12_ (env_cons q14_ env_nil))))) qli_
@[reducible] def q7_:Sh:=⟨[.d YTT1,.d (.int .i64),.d (.int .i64),.fn (.func 264) [] []],[],[.sl (.pr (.int .i64) YTT12),.int .i64,.int .i64],[.d (.bool)],[],0,[.bool]⟩
def qs_:Env:=(cts [(259,(⟨qi_,model_table_bool_readable_z1⟩:Ct)),(260,(⟨qj_,model_table_bool_writable_z1⟩:Ct)),(261,(⟨q10_,model_meet⟩:Ct)),(264,(⟨qc_,model_table_uint16_readable_z1⟩:Ct)),(265,(⟨qd_,model_table_uint16_writable_z1⟩:Ct))])
def qm_:List (Nat×Hint):=[(15,⟨[],[10]⟩),(122,⟨[],[1,2,3,9,10,19,20,21]⟩),(125342,⟨[],[1,2,3,9,10,12,14,15,19,20,21]⟩),(501369,⟨[],[1,2,3,9,10,12,14,15,19,20,21]⟩)]
def qw_ (at' many left:Int) (t19:List YTT5) (t20 t21:Int) (met:List Bool):St:={ fr:=[(1,.d (.int .i64) at'),(2,.d (.int .i64) many),(3,.fn (.func 264) [] []),(9,.row 0),(10,.d (.int .i64) left),(19,.d YTT1 t19),(20,.d (.int .i64) t20),(21,.d (.int .i64) t21)],nt:=62,up:=[],own:=[(0,.row .bool 4 met)],nx:=1,log:=[],ln:=0 }
def q8c_ (left:Int):St:={ fr:=[(10,.d (.int .i64) left)],nt:=62,up:=[],own:=[],nx:=0,log:=[],ln:=0 }
def q1x_ (at' many left to' i:Int) (t19:List YTT5) (t20 t21:Int) (met:List Bool) (x:YaA2q0):St:={ fr:=[(1,.d (.int .i64) at'),(2,.d (.int .i64) many),(3,.fn (.func 264) [] []),(9,.row 0),(10,.d (.int .i64) left),(12,.pb 1 0),(14,.d (.int .i64) to'),(15,.d (.int .i64) i),(19,.d YTT1 t19),(20,.d (.int .i64) t20),(21,.d (.int .i64) t21)],nt:=62,up:=[],own:=[(0,.row .bool 4 met),(1,.box 168 [.d (.int .i64) x.1,.d (.int .i64) x.2.1,.d .bool x.2.2.1,.d .bool x.2.2.2.1,.d .bool x.2.2.2.2])],nx:=2,log:=[],ln:=0 }
def q8b_ (at' many left to' i:Int) (t19:List YTT5) (t20 t21:Int) (met:List Bool) (x:YaA2q0):St:={ fr:=[(1,.d (.int .i64) at'),(2,.d (.int .i64) many),(3,.fn (.func 264) [] []),(9,.row 0),(10,.d (.int .i64) left),(12,.pb 1 0),(14,.d (.int .i64) to'),(15,.d (.int .i64) i),(19,.d YTT1 t19),(20,.d (.int .i64) t20),(21,.d (.int .i64) t21)],nt:=62,up:=[],own:=[(0,.row .bool 4 met),(1,.box 168 [.d (.int .i64) x.1,.d (.int .i64) x.2.1,.d .bool x.2.2.1,.d .bool x.2.2.2.1,.d .bool x.2.2.2.2])],nx:=2,log:=[],ln:=0 }
def q5x_ (j2:Int->Option (As [.bool])) (j3:Int->Int->Int->Int->Int->List YTT5->Int->Int->List Bool->YaA2q0->Option (As [.bool])) (self1:Int->Int->Int->List YTT5->Int->Int->List Bool->Option (As [.bool])) (at' many left:Int) (t19:List YTT5) (t20 t21:Int) (met:List Bool):Option (As [.bool]) :=
 if lt t21 t20=true then Option.bind (at? t19 t21) fun y=>if eqi left 0=true then j2 left else Option.bind (model_meet (y,at',add .i64 at' many,())) fun y_1=>j3 at' many left y_1.2.1 y_1.1 t19 t20 t21 met y else j2 left
def qfc_ (left:Int):Option (As [.bool]) :=
 some (eqi left 0,())
def q61_ (j4:Int->Int->Int->Int->Int->List YTT5->Int->Int->List Bool->YaA2q0->Option (As [.bool])) (self1:Int->Int->Int->List YTT5->Int->Int->List Bool->Option (As [.bool])) (self3:Int->Int->Int->Int->Int->List YTT5->Int->Int->List Bool->YaA2q0->Option (As [.bool])) (at' many left to' i:Int) (t19:List YTT5) (t20 t21:Int) (met:List Bool) (x:YaA2q0):Option (As [.bool]) :=
 if lt i to'=true then Option.bind (at? met (Sx.sub .i64 i at')) fun x_1=>Option.bind (at? met (Sx.sub .i64 i at')) fun y=>if y=true then j4 at' many left to' i t19 t20 t21 met x else Option.bind (model_table_uint16_readable_z1 (x,())) fun y=>if (!y.1)=true then some (false,()) else Option.bind (at? met (Sx.sub .i64 i at')) fun x_2=>Option.bind (at? met (Sx.sub .i64 i at')) fun x_3=>j4 at' many (Sx.sub .i64 left 1) to' i t19 t20 t21 (List.set met (Int.toNat (Sx.sub .i64 i at')) true) x else self1 at' many left t19 t20 (add .i64 t21 1) met
def qbk_ (self1:Int->Int->Int->List YTT5->Int->Int->List Bool->Option (As [.bool])) (self3:Int->Int->Int->Int->Int->List YTT5->Int->Int->List Bool->YaA2q0->Option (As [.bool])) (at' many left to' i:Int) (t19:List YTT5) (t20 t21:Int) (met:List Bool) (x:YaA2q0):Option (As [.bool]) :=
 self3 at' many left to' (add .i64 i 1) t19 t20 t21 met x
def q88_ (j1:Int->Int->Int->List YTT5->Int->Int->List Bool->Option (As [.bool])) (areas:List YTT5) (at' many:Int):Option (As [.bool]) :=
 need (ge many 0) (need (Ev.capOk many many) (need (small (Int.toNat many)) (j1 at' many many areas (Int.ofNat (List.length areas)) 0 (List.replicate (Int.toNat many) false))))
def q4i_ (left:Int):Option (As [.bool]):=qfc_ left
def q39_ (u1:Int->Int->Int->List YTT5->Int->Int->List Bool->Option (As [.bool])) (u3:Int->Int->Int->Int->Int->List YTT5->Int->Int->List Bool->YaA2q0->Option (As [.bool])) (at' many left to' i:Int) (t19:List YTT5) (t20 t21:Int) (met:List Bool) (x:YaA2q0):Option (As [.bool]):=qbk_ u1 u3 at' many left to' i t19 t20 t21 met x
def q37_ (u1:Int->Int->Int->List YTT5->Int->Int->List Bool->Option (As [.bool])) (at' many left to' i:Int) (t19:List YTT5) (t20 t21:Int) (met:List Bool) (x:YaA2q0):Option (As [.bool]) :=
 loopF (fun (self:(Int)×(Int)×(Int)×(Int)×(Int)×(List YTT5)×(Int)×(Int)×(List Bool)×YTT5->Option (As [.bool])) (s:(Int)×(Int)×(Int)×(Int)×(Int)×(List YTT5)×(Int)×(Int)×(List Bool)×YTT5)=>q61_ (q39_ u1 (fun at' many left to' i t19 t20 t21 met x=>self (at',many,left,to',i,t19,t20,t21,met,x))) u1 (fun at' many left to' i t19 t20 t21 met x=>self (at',many,left,to',i,t19,t20,t21,met,x)) s.1 s.2.1 s.2.2.1 s.2.2.2.1 s.2.2.2.2.1 s.2.2.2.2.2.1 s.2.2.2.2.2.2.1 s.2.2.2.2.2.2.2.1 s.2.2.2.2.2.2.2.2.1 s.2.2.2.2.2.2.2.2.2) 18446744073709551616 (at',many,left,to',i,t19,t20,t21,met,x)
def q5y_ (at' many left:Int) (t19:List YTT5) (t20 t21:Int) (met:List Bool):Option (As [.bool]) :=
 loopF (fun (self:(Int)×(Int)×(Int)×(List YTT5)×(Int)×(Int)×(List Bool)->Option (As [.bool])) (s:(Int)×(Int)×(Int)×(List YTT5)×(Int)×(Int)×(List Bool))=>q5x_ (q4i_) (q37_ (fun at' many left t19 t20 t21 met=>self (at',many,left,t19,t20,t21,met))) (fun at' many left t19 t20 t21 met=>self (at',many,left,t19,t20,t21,met)) s.1 s.2.1 s.2.2.1 s.2.2.2.1 s.2.2.2.2.1 s.2.2.2.2.2.1 s.2.2.2.2.2.2) 18446744073709551616 (at',many,left,t19,t20,t21,met)
def model_each_ur (x:As [.sl (.pr (.int .i64) YTT12),.int .i64,.int .i64]):Option (As [.bool]):=q88_ q5y_ x.1 x.2.1 x.2.2.1
theorem qk9_ (J:Orc (As [.bool])) (left:Int):pfn Tryz.prog qs_ 6 18446744073709551616 (Ev.get qm_) 258 q7_ J 15 [] (q8c_ left)=qfc_ left:=by kernel_rfl
theorem ql1_ (J:Orc (As [.bool])) (w1 w3:St->Option (As [.bool])) (at' many left to' i:Int) (t19:List YTT5) (t20 t21:Int) (met:List Bool) (x:YaA2q0):pfn Tryz.prog qs_ 6 18446744073709551616 (Ev.get qm_) 258 q7_ J 501369 [w1,w3] (q8b_ at' many left to' i t19 t20 t21 met x)=qbk_ (fun at' many left t19 t20 t21 met=>w1 (qw_ at' many left t19 t20 t21 met)) (fun at' many left to' i t19 t20 t21 met x=>w3 (q1x_ at' many left to' i t19 t20 t21 met x)) at' many left to' i t19 t20 t21 met x:=by kernel_rfl
theorem qkj_ (J:Orc (As [.bool])) (w1 w3:St->Option (As [.bool])) (at' many left to' i:Int) (t19:List YTT5) (t20 t21:Int) (met:List Bool) (x:YaA2q0):pfn Tryz.prog qs_ 6 18446744073709551616 (Ev.get qm_) 258 q7_ J 125342 [w1,w3] (q1x_ at' many left to' i t19 t20 t21 met x)=q61_ (fun at' many left to' i t19 t20 t21 met x=>J 501369 [w1,w3] (q8b_ at' many left to' i t19 t20 t21 met x)) (fun at' many left t19 t20 t21 met=>w1 (qw_ at' many left t19 t20 t21 met)) (fun at' many left to' i t19 t20 t21 met x=>w3 (q1x_ at' many left to' i t19 t20 t21 met x)) at' many left to' i t19 t20 t21 met x:=by kernel_rfl
theorem qk5_ (J:Orc (As [.bool])) (w1:St->Option (As [.bool])) (at' many left:Int) (t19:List YTT5) (t20 t21:Int) (met:List Bool):pfn Tryz.prog qs_ 6 18446744073709551616 (Ev.get qm_) 258 q7_ J 122 [w1] (qw_ at' many left t19 t20 t21 met)=q5x_ (fun left=>J 15 [] (q8c_ left)) (fun at' many left to' i t19 t20 t21 met x=>J 125342 [w1] (q1x_ at' many left to' i t19 t20 t21 met x)) (fun at' many left t19 t20 t21 met=>w1 (qw_ at' many left t19 t20 t21 met)) at' many left t19 t20 t21 met:=by kernel_rfl
theorem qkv_ (J:Orc (As [.bool])) (x:As [.sl (.pr (.int .i64) YTT12),.int .i64,.int .i64]):rfn Tryz.prog qs_ 6 18446744073709551616 (Ev.get qm_) 258 q7_ J x=q88_ (fun at' many left t19 t20 t21 met=>J 122 [] (qw_ at' many left t19 t20 t21 met)) x.1 x.2.1 x.2.2.1:=by kernel_rfl
theorem ql4_ (left:Int):jfn Tryz.prog qs_ 6 18446744073709551616 (Ev.get qm_) 258 q7_ 15 [] (q8c_ left)=q4i_ left:=by
 rw [pfn_eq (by decide)]
 rw [qk9_]
 rfl
theorem qkn_ (w1 w3:St->Option (As [.bool])) (at' many left to' i:Int) (t19:List YTT5) (t20 t21:Int) (met:List Bool) (x:YaA2q0):jfn Tryz.prog qs_ 6 18446744073709551616 (Ev.get qm_) 258 q7_ 501369 [w1,w3] (q8b_ at' many left to' i t19 t20 t21 met x)=q39_ (fun at' many left t19 t20 t21 met=>w1 (qw_ at' many left t19 t20 t21 met)) (fun at' many left to' i t19 t20 t21 met x=>w3 (q1x_ at' many left to' i t19 t20 t21 met x)) at' many left to' i t19 t20 t21 met x:=by
 rw [pfn_eq (by decide)]
 rw [ql1_]
 rfl
theorem qkr_ (w1:St->Option (As [.bool])) (at' many left to' i:Int) (t19:List YTT5) (t20 t21:Int) (met:List Bool) (x:YaA2q0):jfn Tryz.prog qs_ 6 18446744073709551616 (Ev.get qm_) 258 q7_ 125342 [w1] (q1x_ at' many left to' i t19 t20 t21 met x)=q37_ (fun at' many left t19 t20 t21 met=>w1 (qw_ at' many left t19 t20 t21 met)) at' many left to' i t19 t20 t21 met x:=by
 rw [pfn_eq (by decide)]
 rw [pfn_loop (by kernel_rfl)]
 refine loopF_sim (σ:=(Int)×(Int)×(Int)×(Int)×(Int)×(List YTT5)×(Int)×(Int)×(List Bool)×YTT5) (mk:=fun s=>q1x_ s.1 s.2.1 s.2.2.1 s.2.2.2.1 s.2.2.2.2.1 s.2.2.2.2.2.1 s.2.2.2.2.2.2.1 s.2.2.2.2.2.2.2.1 s.2.2.2.2.2.2.2.2.1 s.2.2.2.2.2.2.2.2.2) (fun w3 s=>?_) 18446744073709551616 (at',many,left,to',i,t19,t20,t21,met,x)
 have e4:(fun at' many left to' i t19 t20 t21 met x=>(jfn Tryz.prog qs_ 6 18446744073709551616 (Ev.get qm_) 258 q7_) 501369 [w1,w3] (q8b_ at' many left to' i t19 t20 t21 met x))=q39_ (fun at' many left t19 t20 t21 met=>w1 (qw_ at' many left t19 t20 t21 met)) (fun at' many left to' i t19 t20 t21 met x=>w3 (q1x_ at' many left to' i t19 t20 t21 met x)):=by funext at' many left to' i t19 t20 t21 met x; exact qkn_ w1 w3 at' many left to' i t19 t20 t21 met x
 refine (qkj_ _ w1 w3 s.1 s.2.1 s.2.2.1 s.2.2.2.1 s.2.2.2.2.1 s.2.2.2.2.2.1 s.2.2.2.2.2.2.1 s.2.2.2.2.2.2.2.1 s.2.2.2.2.2.2.2.2.1 s.2.2.2.2.2.2.2.2.2).trans ?_
 rw [e4]
theorem qk7_ (at' many left:Int) (t19:List YTT5) (t20 t21:Int) (met:List Bool):jfn Tryz.prog qs_ 6 18446744073709551616 (Ev.get qm_) 258 q7_ 122 [] (qw_ at' many left t19 t20 t21 met)=q5y_ at' many left t19 t20 t21 met:=by
 rw [pfn_eq (by decide)]
 rw [pfn_loop (by kernel_rfl)]
 refine loopF_sim (σ:=(Int)×(Int)×(Int)×(List YTT5)×(Int)×(Int)×(List Bool)) (mk:=fun s=>qw_ s.1 s.2.1 s.2.2.1 s.2.2.2.1 s.2.2.2.2.1 s.2.2.2.2.2.1 s.2.2.2.2.2.2) (fun w1 s=>?_) 18446744073709551616 (at',many,left,t19,t20,t21,met)
 have e2:(fun left=>(jfn Tryz.prog qs_ 6 18446744073709551616 (Ev.get qm_) 258 q7_) 15 [] (q8c_ left))=q4i_:=funext fun left=>ql4_ left
 have e3:(fun at' many left to' i t19 t20 t21 met x=>(jfn Tryz.prog qs_ 6 18446744073709551616 (Ev.get qm_) 258 q7_) 125342 [w1] (q1x_ at' many left to' i t19 t20 t21 met x))=q37_ (fun at' many left t19 t20 t21 met=>w1 (qw_ at' many left t19 t20 t21 met)):=by funext at' many left to' i t19 t20 t21 met x; exact qkr_ w1 at' many left to' i t19 t20 t21 met x
 refine (qk5_ _ w1 s.1 s.2.1 s.2.2.1 s.2.2.2.1 s.2.2.2.2.1 s.2.2.2.2.2.1 s.2.2.2.2.2.2).trans ?_
 rw [e2,e3]
theorem qlb_ (x:As [.sl (.pr (.int .i64) YTT12),.int .i64,.int .i64]):evT Tryz.prog qs_ 6 18446744073709551616 (Ev.get qm_) 258 q7_ x=model_each_ur x:=by
 have e1:(fun at' many left t19 t20 t21 met=>(jfn Tryz.prog qs_ 6 18446744073709551616 (Ev.get qm_) 258 q7_) 122 [] (qw_ at' many left t19 t20 t21 met))=q5y_:=by funext at' many left t19 t20 t21 met; exact qk7_ at' many left t19 t20 t21 met
 rw [rfn_eq,qkv_,e1]
 rfl
theorem q8f_:CtOk Tryz.prog (fun _=>True) 258 ⟨q7_,model_each_ur⟩:=ct_of_ev (env_cons q18_ (env_cons q19_ (env_cons qbh_ (env_cons q12_ (env_cons q14_ env_nil))))) qlb_
@[reducible] def q8_:Sh:=⟨[.d YTT1,.d (.int .i64),.d (.int .i64),.fn (.func 265) [] [.pb 0 0,.pb 1 0]],[.box 3 [.d (.int .i64)],.box 3 [.d (.int .i64)]],[.sl (.pr (.int .i64) YTT12),.int .i64,.int .i64,.int .i64,.int .i64],[.d (.bool)],[(0,.box 3 [.d (.int .i64)]),(1,.box 3 [.d (.int .i64)])],0,[.bool,.int .i64,.int .i64]⟩
def qn_:Env:=(cts [(259,(⟨qi_,model_table_bool_readable_z1⟩:Ct)),(260,(⟨qj_,model_table_bool_writable_z1⟩:Ct)),(261,(⟨q10_,model_meet⟩:Ct)),(264,(⟨qc_,model_table_uint16_readable_z1⟩:Ct)),(265,(⟨qd_,model_table_uint16_writable_z1⟩:Ct))])
def ql_:List (Nat×Hint):=[(15,⟨[],[10]⟩),(122,⟨[],[1,2,3,9,10,19,20,21]⟩),(125342,⟨[],[1,2,3,9,10,12,14,15,19,20,21]⟩),(501369,⟨[],[1,2,3,9,10,12,14,15,19,20,21]⟩)]
def qx_ (at' many left:Int) (t19:List YTT5) (t20 t21 o o_2:Int) (met:List Bool):St:={ fr:=[(1,.d (.int .i64) at'),(2,.d (.int .i64) many),(3,.fn (.func 265) [] [.pb 0 0,.pb 1 0]),(9,.row 2),(10,.d (.int .i64) left),(19,.d YTT1 t19),(20,.d (.int .i64) t20),(21,.d (.int .i64) t21)],nt:=62,up:=[],own:=[(0,.box 3 [.d (.int .i64) o]),(1,.box 3 [.d (.int .i64) o_2]),(2,.row .bool 4 met)],nx:=3,log:=[],ln:=2 }
def q86_ (left o o_2:Int):St:={ fr:=[(10,.d (.int .i64) left)],nt:=62,up:=[],own:=[(0,.box 3 [.d (.int .i64) o]),(1,.box 3 [.d (.int .i64) o_2])],nx:=2,log:=[],ln:=2 }
def q1t_ (at' many left to' i:Int) (t19:List YTT5) (t20 t21 o o_2:Int) (met:List Bool) (x:YaA2q0):St:={ fr:=[(1,.d (.int .i64) at'),(2,.d (.int .i64) many),(3,.fn (.func 265) [] [.pb 0 0,.pb 1 0]),(9,.row 2),(10,.d (.int .i64) left),(12,.pb 3 0),(14,.d (.int .i64) to'),(15,.d (.int .i64) i),(19,.d YTT1 t19),(20,.d (.int .i64) t20),(21,.d (.int .i64) t21)],nt:=62,up:=[],own:=[(0,.box 3 [.d (.int .i64) o]),(1,.box 3 [.d (.int .i64) o_2]),(2,.row .bool 4 met),(3,.box 168 [.d (.int .i64) x.1,.d (.int .i64) x.2.1,.d .bool x.2.2.1,.d .bool x.2.2.2.1,.d .bool x.2.2.2.2])],nx:=4,log:=[],ln:=2 }
def q8e_ (at' many left to' i:Int) (t19:List YTT5) (t20 t21 o o_2:Int) (met:List Bool) (x:YaA2q0):St:={ fr:=[(1,.d (.int .i64) at'),(2,.d (.int .i64) many),(3,.fn (.func 265) [] [.pb 0 0,.pb 1 0]),(9,.row 2),(10,.d (.int .i64) left),(12,.pb 3 0),(14,.d (.int .i64) to'),(15,.d (.int .i64) i),(19,.d YTT1 t19),(20,.d (.int .i64) t20),(21,.d (.int .i64) t21)],nt:=62,up:=[],own:=[(0,.box 3 [.d (.int .i64) o]),(1,.box 3 [.d (.int .i64) o_2]),(2,.row .bool 4 met),(3,.box 168 [.d (.int .i64) x.1,.d (.int .i64) x.2.1,.d .bool x.2.2.1,.d .bool x.2.2.2.1,.d .bool x.2.2.2.2])],nx:=4,log:=[],ln:=2 }
def q62_ (j2:Int->Int->Int->Option (As [.bool,.int .i64,.int .i64])) (j3:Int->Int->Int->Int->Int->List YTT5->Int->Int->Int->Int->List Bool->YaA2q0->Option (As [.bool,.int .i64,.int .i64])) (self1:Int->Int->Int->List YTT5->Int->Int->Int->Int->List Bool->Option (As [.bool,.int .i64,.int .i64])) (at' many left:Int) (t19:List YTT5) (t20 t21 o o_2:Int) (met:List Bool):Option (As [.bool,.int .i64,.int .i64]) :=
 if lt t21 t20=true then Option.bind (at? t19 t21) fun y=>if eqi left 0=true then j2 left o o_2 else Option.bind (model_meet (y,at',add .i64 at' many,())) fun y_1=>j3 at' many left y_1.2.1 y_1.1 t19 t20 t21 o o_2 met y else j2 left o o_2
def qf9_ (left o o_2:Int):Option (As [.bool,.int .i64,.int .i64]) :=
 some (eqi left 0,o,o_2,())
def q6c_ (j4:Int->Int->Int->Int->Int->List YTT5->Int->Int->Int->Int->List Bool->YaA2q0->Option (As [.bool,.int .i64,.int .i64])) (self1:Int->Int->Int->List YTT5->Int->Int->Int->Int->List Bool->Option (As [.bool,.int .i64,.int .i64])) (self3:Int->Int->Int->Int->Int->List YTT5->Int->Int->Int->Int->List Bool->YaA2q0->Option (As [.bool,.int .i64,.int .i64])) (at' many left to' i:Int) (t19:List YTT5) (t20 t21 o o_2:Int) (met:List Bool) (x:YaA2q0):Option (As [.bool,.int .i64,.int .i64]) :=
 if lt i to'=true then Option.bind (at? met (Sx.sub .i64 i at')) fun x_1=>Option.bind (at? met (Sx.sub .i64 i at')) fun y=>if y=true then j4 at' many left to' i t19 t20 t21 o o_2 met x else Option.bind (model_table_uint16_writable_z1 (x,o,o_2,())) fun y=>if (!y.1)=true then some (false,y.2.1,y.2.2.1,()) else Option.bind (at? met (Sx.sub .i64 i at')) fun x_2=>Option.bind (at? met (Sx.sub .i64 i at')) fun x_3=>j4 at' many (Sx.sub .i64 left 1) to' i t19 t20 t21 y.2.1 y.2.2.1 (List.set met (Int.toNat (Sx.sub .i64 i at')) true) x else self1 at' many left t19 t20 (add .i64 t21 1) o o_2 met
def qbp_ (self1:Int->Int->Int->List YTT5->Int->Int->Int->Int->List Bool->Option (As [.bool,.int .i64,.int .i64])) (self3:Int->Int->Int->Int->Int->List YTT5->Int->Int->Int->Int->List Bool->YaA2q0->Option (As [.bool,.int .i64,.int .i64])) (at' many left to' i:Int) (t19:List YTT5) (t20 t21 o o_2:Int) (met:List Bool) (x:YaA2q0):Option (As [.bool,.int .i64,.int .i64]) :=
 self3 at' many left to' (add .i64 i 1) t19 t20 t21 o o_2 met x
def q85_ (j1:Int->Int->Int->List YTT5->Int->Int->Int->Int->List Bool->Option (As [.bool,.int .i64,.int .i64])) (areas:List YTT5) (at' many wanted areas_2:Int):Option (As [.bool,.int .i64,.int .i64]) :=
 need (ge many 0) (need (Ev.capOk many many) (need (small (Int.toNat many)) (j1 at' many many areas (Int.ofNat (List.length areas)) 0 wanted areas_2 (List.replicate (Int.toNat many) false))))
def q4j_ (left o o_2:Int):Option (As [.bool,.int .i64,.int .i64]):=qf9_ left o o_2
def q36_ (u1:Int->Int->Int->List YTT5->Int->Int->Int->Int->List Bool->Option (As [.bool,.int .i64,.int .i64])) (u3:Int->Int->Int->Int->Int->List YTT5->Int->Int->Int->Int->List Bool->YaA2q0->Option (As [.bool,.int .i64,.int .i64])) (at' many left to' i:Int) (t19:List YTT5) (t20 t21 o o_2:Int) (met:List Bool) (x:YaA2q0):Option (As [.bool,.int .i64,.int .i64]):=qbp_ u1 u3 at' many left to' i t19 t20 t21 o o_2 met x
def q38_ (u1:Int->Int->Int->List YTT5->Int->Int->Int->Int->List Bool->Option (As [.bool,.int .i64,.int .i64])) (at' many left to' i:Int) (t19:List YTT5) (t20 t21 o o_2:Int) (met:List Bool) (x:YaA2q0):Option (As [.bool,.int .i64,.int .i64]) :=
 loopF (fun (self:(Int)×(Int)×(Int)×(Int)×(Int)×(List YTT5)×(Int)×(Int)×(Int)×(Int)×(List Bool)×YTT5->Option (As [.bool,.int .i64,.int .i64])) (s:(Int)×(Int)×(Int)×(Int)×(Int)×(List YTT5)×(Int)×(Int)×(Int)×(Int)×(List Bool)×YTT5)=>q6c_ (q36_ u1 (fun at' many left to' i t19 t20 t21 o o_2 met x=>self (at',many,left,to',i,t19,t20,t21,o,o_2,met,x))) u1 (fun at' many left to' i t19 t20 t21 o o_2 met x=>self (at',many,left,to',i,t19,t20,t21,o,o_2,met,x)) s.1 s.2.1 s.2.2.1 s.2.2.2.1 s.2.2.2.2.1 s.2.2.2.2.2.1 s.2.2.2.2.2.2.1 s.2.2.2.2.2.2.2.1 s.2.2.2.2.2.2.2.2.1 s.2.2.2.2.2.2.2.2.2.1 s.2.2.2.2.2.2.2.2.2.2.1 s.2.2.2.2.2.2.2.2.2.2.2) 18446744073709551616 (at',many,left,to',i,t19,t20,t21,o,o_2,met,x)
def q66_ (at' many left:Int) (t19:List YTT5) (t20 t21 o o_2:Int) (met:List Bool):Option (As [.bool,.int .i64,.int .i64]) :=
 loopF (fun (self:(Int)×(Int)×(Int)×(List YTT5)×(Int)×(Int)×(Int)×(Int)×(List Bool)->Option (As [.bool,.int .i64,.int .i64])) (s:(Int)×(Int)×(Int)×(List YTT5)×(Int)×(Int)×(Int)×(Int)×(List Bool))=>q62_ (q4j_) (q38_ (fun at' many left t19 t20 t21 o o_2 met=>self (at',many,left,t19,t20,t21,o,o_2,met))) (fun at' many left t19 t20 t21 o o_2 met=>self (at',many,left,t19,t20,t21,o,o_2,met)) s.1 s.2.1 s.2.2.1 s.2.2.2.1 s.2.2.2.2.1 s.2.2.2.2.2.1 s.2.2.2.2.2.2.1 s.2.2.2.2.2.2.2.1 s.2.2.2.2.2.2.2.2) 18446744073709551616 (at',many,left,t19,t20,t21,o,o_2,met)
def model_each_uw (x:As [.sl (.pr (.int .i64) YTT12),.int .i64,.int .i64,.int .i64,.int .i64]):Option (As [.bool,.int .i64,.int .i64]):=q85_ q66_ x.1 x.2.1 x.2.2.1 x.2.2.2.1 x.2.2.2.2.1
theorem qkd_ (J:Orc (As [.bool,.int .i64,.int .i64])) (left o o_2:Int):pfn Tryz.prog qn_ 6 18446744073709551616 (Ev.get ql_) 258 q8_ J 15 [] (q86_ left o o_2)=qf9_ left o o_2:=by kernel_rfl
theorem qks_ (J:Orc (As [.bool,.int .i64,.int .i64])) (w1 w3:St->Option (As [.bool,.int .i64,.int .i64])) (at' many left to' i:Int) (t19:List YTT5) (t20 t21 o o_2:Int) (met:List Bool) (x:YaA2q0):pfn Tryz.prog qn_ 6 18446744073709551616 (Ev.get ql_) 258 q8_ J 501369 [w1,w3] (q8e_ at' many left to' i t19 t20 t21 o o_2 met x)=qbp_ (fun at' many left t19 t20 t21 o o_2 met=>w1 (qx_ at' many left t19 t20 t21 o o_2 met)) (fun at' many left to' i t19 t20 t21 o o_2 met x=>w3 (q1t_ at' many left to' i t19 t20 t21 o o_2 met x)) at' many left to' i t19 t20 t21 o o_2 met x:=by kernel_rfl
theorem ql8_ (J:Orc (As [.bool,.int .i64,.int .i64])) (w1 w3:St->Option (As [.bool,.int .i64,.int .i64])) (at' many left to' i:Int) (t19:List YTT5) (t20 t21 o o_2:Int) (met:List Bool) (x:YaA2q0):pfn Tryz.prog qn_ 6 18446744073709551616 (Ev.get ql_) 258 q8_ J 125342 [w1,w3] (q1t_ at' many left to' i t19 t20 t21 o o_2 met x)=q6c_ (fun at' many left to' i t19 t20 t21 o o_2 met x=>J 501369 [w1,w3] (q8e_ at' many left to' i t19 t20 t21 o o_2 met x)) (fun at' many left t19 t20 t21 o o_2 met=>w1 (qx_ at' many left t19 t20 t21 o o_2 met)) (fun at' many left to' i t19 t20 t21 o o_2 met x=>w3 (q1t_ at' many left to' i t19 t20 t21 o o_2 met x)) at' many left to' i t19 t20 t21 o o_2 met x:=by kernel_rfl
theorem qko_ (J:Orc (As [.bool,.int .i64,.int .i64])) (w1:St->Option (As [.bool,.int .i64,.int .i64])) (at' many left:Int) (t19:List YTT5) (t20 t21 o o_2:Int) (met:List Bool):pfn Tryz.prog qn_ 6 18446744073709551616 (Ev.get ql_) 258 q8_ J 122 [w1] (qx_ at' many left t19 t20 t21 o o_2 met)=q62_ (fun left o o_2=>J 15 [] (q86_ left o o_2)) (fun at' many left to' i t19 t20 t21 o o_2 met x=>J 125342 [w1] (q1t_ at' many left to' i t19 t20 t21 o o_2 met x)) (fun at' many left t19 t20 t21 o o_2 met=>w1 (qx_ at' many left t19 t20 t21 o o_2 met)) at' many left t19 t20 t21 o o_2 met:=by kernel_rfl
theorem qkm_ (J:Orc (As [.bool,.int .i64,.int .i64])) (x:As [.sl (.pr (.int .i64) YTT12),.int .i64,.int .i64,.int .i64,.int .i64]):rfn Tryz.prog qn_ 6 18446744073709551616 (Ev.get ql_) 258 q8_ J x=q85_ (fun at' many left t19 t20 t21 o o_2 met=>J 122 [] (qx_ at' many left t19 t20 t21 o o_2 met)) x.1 x.2.1 x.2.2.1 x.2.2.2.1 x.2.2.2.2.1:=by kernel_rfl
theorem qkp_ (left o o_2:Int):jfn Tryz.prog qn_ 6 18446744073709551616 (Ev.get ql_) 258 q8_ 15 [] (q86_ left o o_2)=q4j_ left o o_2:=by
 rw [pfn_eq (by decide)]
 rw [qkd_]
 rfl
theorem qla_ (w1 w3:St->Option (As [.bool,.int .i64,.int .i64])) (at' many left to' i:Int) (t19:List YTT5) (t20 t21 o o_2:Int) (met:List Bool) (x:YaA2q0):jfn Tryz.prog qn_ 6 18446744073709551616 (Ev.get ql_) 258 q8_ 501369 [w1,w3] (q8e_ at' many left to' i t19 t20 t21 o o_2 met x)=q36_ (fun at' many left t19 t20 t21 o o_2 met=>w1 (qx_ at' many left t19 t20 t21 o o_2 met)) (fun at' many left to' i t19 t20 t21 o o_2 met x=>w3 (q1t_ at' many left to' i t19 t20 t21 o o_2 met x)) at' many left to' i t19 t20 t21 o o_2 met x:=by
 rw [pfn_eq (by decide)]
 rw [qks_]
 rfl
theorem qke_ (w1:St->Option (As [.bool,.int .i64,.int .i64])) (at' many left to' i:Int) (t19:List YTT5) (t20 t21 o o_2:Int) (met:List Bool) (x:YaA2q0):jfn Tryz.prog qn_ 6 18446744073709551616 (Ev.get ql_) 258 q8_ 125342 [w1] (q1t_ at' many left to' i t19 t20 t21 o o_2 met x)=q38_ (fun at' many left t19 t20 t21 o o_2 met=>w1 (qx_ at' many left t19 t20 t21 o o_2 met)) at' many left to' i t19 t20 t21 o o_2 met x:=by
 rw [pfn_eq (by decide)]
 rw [pfn_loop (by kernel_rfl)]
 refine loopF_sim (σ:=(Int)×(Int)×(Int)×(Int)×(Int)×(List YTT5)×(Int)×(Int)×(Int)×(Int)×(List Bool)×YTT5) (mk:=fun s=>q1t_ s.1 s.2.1 s.2.2.1 s.2.2.2.1 s.2.2.2.2.1 s.2.2.2.2.2.1 s.2.2.2.2.2.2.1 s.2.2.2.2.2.2.2.1 s.2.2.2.2.2.2.2.2.1 s.2.2.2.2.2.2.2.2.2.1 s.2.2.2.2.2.2.2.2.2.2.1 s.2.2.2.2.2.2.2.2.2.2.2) (fun w3 s=>?_) 18446744073709551616 (at',many,left,to',i,t19,t20,t21,o,o_2,met,x)
 have e4:(fun at' many left to' i t19 t20 t21 o o_2 met x=>(jfn Tryz.prog qn_ 6 18446744073709551616 (Ev.get ql_) 258 q8_) 501369 [w1,w3] (q8e_ at' many left to' i t19 t20 t21 o o_2 met x))=q36_ (fun at' many left t19 t20 t21 o o_2 met=>w1 (qx_ at' many left t19 t20 t21 o o_2 met)) (fun at' many left to' i t19 t20 t21 o o_2 met x=>w3 (q1t_ at' many left to' i t19 t20 t21 o o_2 met x)):=by funext at' many left to' i t19 t20 t21 o o_2 met x; exact qla_ w1 w3 at' many left to' i t19 t20 t21 o o_2 met x
 refine (ql8_ _ w1 w3 s.1 s.2.1 s.2.2.1 s.2.2.2.1 s.2.2.2.2.1 s.2.2.2.2.2.1 s.2.2.2.2.2.2.1 s.2.2.2.2.2.2.2.1 s.2.2.2.2.2.2.2.2.1 s.2.2.2.2.2.2.2.2.2.1 s.2.2.2.2.2.2.2.2.2.2.1 s.2.2.2.2.2.2.2.2.2.2.2).trans ?_
 rw [e4]
theorem qk6_ (at' many left:Int) (t19:List YTT5) (t20 t21 o o_2:Int) (met:List Bool):jfn Tryz.prog qn_ 6 18446744073709551616 (Ev.get ql_) 258 q8_ 122 [] (qx_ at' many left t19 t20 t21 o o_2 met)=q66_ at' many left t19 t20 t21 o o_2 met:=by
 rw [pfn_eq (by decide)]
 rw [pfn_loop (by kernel_rfl)]
 refine loopF_sim (σ:=(Int)×(Int)×(Int)×(List YTT5)×(Int)×(Int)×(Int)×(Int)×(List Bool)) (mk:=fun s=>qx_ s.1 s.2.1 s.2.2.1 s.2.2.2.1 s.2.2.2.2.1 s.2.2.2.2.2.1 s.2.2.2.2.2.2.1 s.2.2.2.2.2.2.2.1 s.2.2.2.2.2.2.2.2) (fun w1 s=>?_) 18446744073709551616 (at',many,left,t19,t20,t21,o,o_2,met)
 have e2:(fun left o o_2=>(jfn Tryz.prog qn_ 6 18446744073709551616 (Ev.get ql_) 258 q8_) 15 [] (q86_ left o o_2))=q4j_:=by funext left o o_2; exact qkp_ left o o_2
 have e3:(fun at' many left to' i t19 t20 t21 o o_2 met x=>(jfn Tryz.prog qn_ 6 18446744073709551616 (Ev.get ql_) 258 q8_) 125342 [w1] (q1t_ at' many left to' i t19 t20 t21 o o_2 met x))=q38_ (fun at' many left t19 t20 t21 o o_2 met=>w1 (qx_ at' many left t19 t20 t21 o o_2 met)):=by funext at' many left to' i t19 t20 t21 o o_2 met x; exact qke_ w1 at' many left to' i t19 t20 t21 o o_2 met x
 refine (qko_ _ w1 s.1 s.2.1 s.2.2.1 s.2.2.2.1 s.2.2.2.2.1 s.2.2.2.2.2.1 s.2.2.2.2.2.2.1 s.2.2.2.2.2.2.2.1 s.2.2.2.2.2.2.2.2).trans ?_
 rw [e2,e3]
theorem qld_ (x:As [.sl (.pr (.int .i64) YTT12),.int .i64,.int .i64,.int .i64,.int .i64]):evT Tryz.prog qn_ 6 18446744073709551616 (Ev.get ql_) 258 q8_ x=model_each_uw x:=by
 have e1:(fun at' many left t19 t20 t21 o o_2 met=>(jfn Tryz.prog qn_ 6 18446744073709551616 (Ev.get ql_) 258 q8_) 122 [] (qx_ at' many left t19 t20 t21 o o_2 met))=q66_:=by funext at' many left t19 t20 t21 o o_2 met; exact qk6_ at' many left t19 t20 t21 o o_2 met
 rw [rfn_eq,qkm_,e1]
 rfl
theorem q80_:CtOk Tryz.prog (fun _=>True) 258 ⟨q8_,model_each_uw⟩:=ct_of_ev (env_cons q18_ (env_cons q19_ (env_cons qbh_ (env_cons q12_ (env_cons q14_ env_nil))))) qld_
@[reducible] def q2v_:Sh:=⟨[.d (.pr YTT1 (.sl .bool)),.d (.int .i64),.d (.int .i64)],[],[.pr YTT1 (.sl .bool),.int .i64,.int .i64],[.d (.bool)],[],0,[.bool]⟩
def q7v_:Env:=(cts [(258,(⟨qa_,model_each_br⟩:Ct)),(258,(⟨q9_,model_each_bw⟩:Ct)),(258,(⟨q7_,model_each_ur⟩:Ct)),(258,(⟨q8_,model_each_uw⟩:Ct)),(259,(⟨qi_,model_table_bool_readable_z1⟩:Ct))])
def q7w_:List (Nat×Hint):=[]
def q7r_ (t:List YTT5×List Bool) (at' many:Int):Option (As [.bool]) :=
 Option.bind (model_each_br (t.1,at',many,())) fun y=>some (y.1,())
def model_table_bool_readable (x:As [.pr YTT1 (.sl .bool),.int .i64,.int .i64]):Option (As [.bool]):=q7r_ x.1 x.2.1 x.2.2.1
theorem qdf_ (J:Orc (As [.bool])) (x:As [.pr YTT1 (.sl .bool),.int .i64,.int .i64]):rfn Tryz.prog q7v_ 6 18446744073709551616 (Ev.get q7w_) 256 q2v_ J x=q7r_ x.1 x.2.1 x.2.2.1:=by kernel_rfl
theorem qe0_ (x:As [.pr YTT1 (.sl .bool),.int .i64,.int .i64]):evT Tryz.prog q7v_ 6 18446744073709551616 (Ev.get q7w_) 256 q2v_ x=model_table_bool_readable x:=by
 rw [rfn_eq,qdf_]
 rfl
theorem qdg_:CtOk Tryz.prog (fun _=>True) 256 ⟨q2v_,model_table_bool_readable⟩:=ct_of_ev (env_cons q89_ (env_cons q8g_ (env_cons q8f_ (env_cons q80_ (env_cons q18_ env_nil))))) qe0_
@[reducible] def q2s_:Sh:=⟨[.d (.pr YTT1 (.sl .bool)),.d (.int .i64),.d (.int .i64)],[],[.pr YTT1 (.sl .bool),.int .i64,.int .i64],[.d (.bool)],[],0,[.bool]⟩
def q7u_:Env:=(cts [(258,(⟨qa_,model_each_br⟩:Ct)),(258,(⟨q9_,model_each_bw⟩:Ct)),(258,(⟨q7_,model_each_ur⟩:Ct)),(258,(⟨q8_,model_each_uw⟩:Ct)),(260,(⟨qj_,model_table_bool_writable_z1⟩:Ct))])
def q7t_:List (Nat×Hint):=[]
def q7n_ (t:List YTT5×List Bool) (at' many:Int):Option (As [.bool]) :=
 Option.bind (model_each_bw (t.1,at',many,at',many,())) fun y=>some (y.1,())
def model_table_bool_writable (x:As [.pr YTT1 (.sl .bool),.int .i64,.int .i64]):Option (As [.bool]):=q7n_ x.1 x.2.1 x.2.2.1
theorem qdh_ (J:Orc (As [.bool])) (x:As [.pr YTT1 (.sl .bool),.int .i64,.int .i64]):rfn Tryz.prog q7u_ 6 18446744073709551616 (Ev.get q7t_) 257 q2s_ J x=q7n_ x.1 x.2.1 x.2.2.1:=by kernel_rfl
theorem qec_ (x:As [.pr YTT1 (.sl .bool),.int .i64,.int .i64]):evT Tryz.prog q7u_ 6 18446744073709551616 (Ev.get q7t_) 257 q2s_ x=model_table_bool_writable x:=by
 rw [rfn_eq,qdh_]
 rfl
theorem qde_:CtOk Tryz.prog (fun _=>True) 257 ⟨q2s_,model_table_bool_writable⟩:=ct_of_ev (env_cons q89_ (env_cons q8g_ (env_cons q8f_ (env_cons q80_ (env_cons q19_ env_nil))))) qec_
@[reducible] def q2g_:Sh:=⟨[.d (.pr YTT1 (.sl (.int .u16))),.d (.int .i64),.d (.int .i64)],[],[.pr YTT1 (.sl (.int .u16)),.int .i64,.int .i64],[.d (.bool)],[],0,[.bool]⟩
def q7f_:Env:=(cts [(258,(⟨qa_,model_each_br⟩:Ct)),(258,(⟨q9_,model_each_bw⟩:Ct)),(258,(⟨q7_,model_each_ur⟩:Ct)),(258,(⟨q8_,model_each_uw⟩:Ct)),(264,(⟨qc_,model_table_uint16_readable_z1⟩:Ct))])
def q7g_:List (Nat×Hint):=[]
def q70_ (t:List YTT5×List Int) (at' many:Int):Option (As [.bool]) :=
 Option.bind (model_each_ur (t.1,at',many,())) fun y=>some (y.1,())
def model_table_uint16_readable (x:As [.pr YTT1 (.sl (.int .u16)),.int .i64,.int .i64]):Option (As [.bool]):=q70_ x.1 x.2.1 x.2.2.1
theorem qcz_ (J:Orc (As [.bool])) (x:As [.pr YTT1 (.sl (.int .u16)),.int .i64,.int .i64]):rfn Tryz.prog q7f_ 6 18446744073709551616 (Ev.get q7g_) 262 q2g_ J x=q70_ x.1 x.2.1 x.2.2.1:=by kernel_rfl
theorem qd7_ (x:As [.pr YTT1 (.sl (.int .u16)),.int .i64,.int .i64]):evT Tryz.prog q7f_ 6 18446744073709551616 (Ev.get q7g_) 262 q2g_ x=model_table_uint16_readable x:=by
 rw [rfn_eq,qcz_]
 rfl
theorem qci_:CtOk Tryz.prog (fun _=>True) 262 ⟨q2g_,model_table_uint16_readable⟩:=ct_of_ev (env_cons q89_ (env_cons q8g_ (env_cons q8f_ (env_cons q80_ (env_cons q12_ env_nil))))) qd7_
@[reducible] def q2f_:Sh:=⟨[.d (.pr YTT1 (.sl (.int .u16))),.d (.int .i64),.d (.int .i64)],[],[.pr YTT1 (.sl (.int .u16)),.int .i64,.int .i64],[.d (.bool)],[],0,[.bool]⟩
def q7h_:Env:=(cts [(258,(⟨qa_,model_each_br⟩:Ct)),(258,(⟨q9_,model_each_bw⟩:Ct)),(258,(⟨q7_,model_each_ur⟩:Ct)),(258,(⟨q8_,model_each_uw⟩:Ct)),(265,(⟨qd_,model_table_uint16_writable_z1⟩:Ct))])
def q7i_:List (Nat×Hint):=[]
def q72_ (t:List YTT5×List Int) (at' many:Int):Option (As [.bool]) :=
 Option.bind (model_each_uw (t.1,at',many,at',many,())) fun y=>some (y.1,())
def model_table_uint16_writable (x:As [.pr YTT1 (.sl (.int .u16)),.int .i64,.int .i64]):Option (As [.bool]):=q72_ x.1 x.2.1 x.2.2.1
theorem qcj_ (J:Orc (As [.bool])) (x:As [.pr YTT1 (.sl (.int .u16)),.int .i64,.int .i64]):rfn Tryz.prog q7h_ 6 18446744073709551616 (Ev.get q7i_) 263 q2f_ J x=q72_ x.1 x.2.1 x.2.2.1:=by kernel_rfl
theorem qd5_ (x:As [.pr YTT1 (.sl (.int .u16)),.int .i64,.int .i64]):evT Tryz.prog q7h_ 6 18446744073709551616 (Ev.get q7i_) 263 q2f_ x=model_table_uint16_writable x:=by
 rw [rfn_eq,qcj_]
 rfl
theorem qcy_:CtOk Tryz.prog (fun _=>True) 263 ⟨q2f_,model_table_uint16_writable⟩:=ct_of_ev (env_cons q89_ (env_cons q8g_ (env_cons q8f_ (env_cons q80_ (env_cons q14_ env_nil))))) qd5_
@[reducible] def q20_:Sh:=⟨[.d (.pr YTT1 (.pr YTT1 (.pr YTT1 YTT1))),.d (.pr (.int .u8) YTT4)],[],[.pr YTT1 (.pr YTT1 (.pr YTT1 YTT1)),.pr (.int .u8) YTT4],[.d (.int .u8)],[],0,[.int .u8]⟩
def q45_:Env:=(cts [(58,(⟨q24_,ask_Right⟩:Ct)),(117,(⟨q9f_,model_open⟩:Ct)),(124,(⟨q9a_,model_uses⟩:Ct)),(126,(⟨q7o_,model_target⟩:Ct)),(256,(⟨q2v_,model_table_bool_readable⟩:Ct)),(257,(⟨q2s_,model_table_bool_writable⟩:Ct)),(262,(⟨q2g_,model_table_uint16_readable⟩:Ct)),(263,(⟨q2f_,model_table_uint16_writable⟩:Ct))])
def q47_:List (Nat×Hint):=[(509,⟨[],[60]⟩),(125,⟨[],[3,5,6,40,55,56,57,58,59]⟩)]
def q9r_ (t40:Bool) (a:Int×Int×Int×Int×List Int×List Bool) (v:(List YTT5×List Bool)×(List YTT5×List Bool)×(List YTT5×List Int)×List YTT5×List Int) (u:Int×Int):St:={ fr:=[(3,.pb 0 0),(5,.pb 1 0),(6,.pb 2 0),(40,.d .bool t40)],nt:=61,up:=[],own:=[(0,.box 44 [.d (.int .u8) a.1,.d (.int .u16) a.2.1,.d (.int .u16) a.2.2.1,.d (.int .u16) a.2.2.2.1,.d (.sl (.int .u16)) a.2.2.2.2.1,.d (.sl .bool) a.2.2.2.2.2]),(1,.box 174 [.d YTT1 v.1.1,.d (.sl .bool) v.1.2,.d YTT1 v.2.1.1,.d (.sl .bool) v.2.1.2,.d YTT1 v.2.2.1.1,.d (.sl (.int .u16)) v.2.2.1.2,.d YTT1 v.2.2.2.1,.d (.sl (.int .u16)) v.2.2.2.2]),(2,.box 183 [.d (.int .i64) u.1,.d (.int .i64) u.2])],nx:=3,log:=[],ln:=0 }
def q9x_ (t60:Bool):St:={ fr:=[(60,.d .bool t60)],nt:=61,up:=[],own:=[],nx:=0,log:=[],ln:=0 }
def qgk_ (j2:Bool->Option (As [.int .u8])) (t40:Bool) (a:Int×Int×Int×Int×List Int×List Bool) (v:(List YTT5×List Bool)×(List YTT5×List Bool)×(List YTT5×List Int)×List YTT5×List Int) (u:Int×Int):Option (As [.int .u8]) :=
 if t40=true then some (2,()) else Option.bind (model_target (a,())) fun y=>if eqi u.2 1=true then Option.bind (model_table_bool_writable (v.1,y.1,y.2.1,())) fun y=>j2 !y.1 else if eqi u.2 2=true then Option.bind (model_table_bool_writable (v.2.1,y.1,y.2.1,())) fun y=>j2 !y.1 else if eqi u.2 3=true then Option.bind (model_table_uint16_writable (v.2.2.1,y.1,y.2.1,())) fun y=>j2 !y.1 else if eqi u.2 4=true then Option.bind (model_table_uint16_writable (v.2.2.2,y.1,y.2.1,())) fun y=>j2 !y.1 else j2 false
def qh0_ (t60:Bool):Option (As [.int .u8]) :=
 if t60=true then some (2,()) else some (0,())
def q9m_ (j1:Bool->Int×Int×Int×Int×List Int×List Bool->(List YTT5×List Bool)×(List YTT5×List Bool)×(List YTT5×List Int)×List YTT5×List Int->Int×Int->Option (As [.int .u8])) (s:List YTT5×List YTT5×List YTT5×List YTT5) (a:Int×Int×Int×Int×List Int×List Bool):Option (As [.int .u8]) :=
 Option.bind (ask_Right (a,())) fun y=>if (!y.1)=true then some (3,()) else Option.bind (model_open (s,([],[],[],[]),())) fun y=>Option.bind (model_uses (a.1,())) fun y_1=>if eqi y_1.1.1 1=true then Option.bind (model_table_bool_readable (y.1.1,cvt .i64 a.2.1,cvt .i64 a.2.2.1,())) fun y_2=>j1 (!y_2.1) a y.1 y_1.1 else if eqi y_1.1.1 2=true then Option.bind (model_table_bool_readable (y.1.2.1,cvt .i64 a.2.1,cvt .i64 a.2.2.1,())) fun y_2=>j1 (!y_2.1) a y.1 y_1.1 else if eqi y_1.1.1 3=true then Option.bind (model_table_uint16_readable (y.1.2.2.1,cvt .i64 a.2.1,cvt .i64 a.2.2.1,())) fun y_2=>j1 (!y_2.1) a y.1 y_1.1 else if eqi y_1.1.1 4=true then Option.bind (model_table_uint16_readable (y.1.2.2.2,cvt .i64 a.2.1,cvt .i64 a.2.2.1,())) fun y_2=>j1 (!y_2.1) a y.1 y_1.1 else j1 false a y.1 y_1.1
def q2m_ (t60:Bool):Option (As [.int .u8]):=qh0_ t60
def qh_ (t40:Bool) (a:Int×Int×Int×Int×List Int×List Bool) (v:(List YTT5×List Bool)×(List YTT5×List Bool)×(List YTT5×List Int)×List YTT5×List Int) (u:Int×Int):Option (As [.int .u8]):=qgk_ (q2m_) t40 a v u
def model_Check (x:As [.pr YTT1 (.pr YTT1 (.pr YTT1 YTT1)),.pr (.int .u8) YTT4]):Option (As [.int .u8]):=q9m_ qh_ x.1 x.2.1
theorem qmc_ (J:Orc (As [.int .u8])) (t60:Bool):pfn Tryz.prog q45_ 6 18446744073709551616 (Ev.get q47_) 54 q20_ J 509 [] (q9x_ t60)=qh0_ t60:=by kernel_rfl
theorem qmb_ (J:Orc (As [.int .u8])) (t40:Bool) (a:Int×Int×Int×Int×List Int×List Bool) (v:(List YTT5×List Bool)×(List YTT5×List Bool)×(List YTT5×List Int)×List YTT5×List Int) (u:Int×Int):pfn Tryz.prog q45_ 6 18446744073709551616 (Ev.get q47_) 54 q20_ J 125 [] (q9r_ t40 a v u)=qgk_ (fun t60=>J 509 [] (q9x_ t60)) t40 a v u:=by kernel_rfl
theorem qmd_ (J:Orc (As [.int .u8])) (x:As [.pr YTT1 (.pr YTT1 (.pr YTT1 YTT1)),.pr (.int .u8) YTT4]):rfn Tryz.prog q45_ 6 18446744073709551616 (Ev.get q47_) 54 q20_ J x=q9m_ (fun t40 a v u=>J 125 [] (q9r_ t40 a v u)) x.1 x.2.1:=by kernel_rfl
theorem qm3_ (t60:Bool):jfn Tryz.prog q45_ 6 18446744073709551616 (Ev.get q47_) 54 q20_ 509 [] (q9x_ t60)=q2m_ t60:=by
 rw [pfn_eq (by decide)]
 rw [qmc_]
 rfl
theorem qlr_ (t40:Bool) (a:Int×Int×Int×Int×List Int×List Bool) (v:(List YTT5×List Bool)×(List YTT5×List Bool)×(List YTT5×List Int)×List YTT5×List Int) (u:Int×Int):jfn Tryz.prog q45_ 6 18446744073709551616 (Ev.get q47_) 54 q20_ 125 [] (q9r_ t40 a v u)=qh_ t40 a v u:=by
 rw [pfn_eq (by decide)]
 have e2:(fun t60=>(jfn Tryz.prog q45_ 6 18446744073709551616 (Ev.get q47_) 54 q20_) 509 [] (q9x_ t60))=q2m_:=funext fun t60=>qm3_ t60
 rw [qmb_,e2]
 rfl
theorem qnt_ (x:As [.pr YTT1 (.pr YTT1 (.pr YTT1 YTT1)),.pr (.int .u8) YTT4]):evT Tryz.prog q45_ 6 18446744073709551616 (Ev.get q47_) 54 q20_ x=model_Check x:=by
 have e1:(fun t40 a v u=>(jfn Tryz.prog q45_ 6 18446744073709551616 (Ev.get q47_) 54 q20_) 125 [] (q9r_ t40 a v u))=qh_:=by funext t40 a v u; exact qlr_ t40 a v u
 rw [rfn_eq,qmd_,e1]
 rfl
theorem qgt_:CtOk Tryz.prog (fun _=>True) 54 ⟨q20_,model_Check⟩:=ct_of_ev (env_cons qcp_ (env_cons qic_ (env_cons qi6_ (env_cons qfv_ (env_cons qdg_ (env_cons qde_ (env_cons qci_ (env_cons qcy_ env_nil)))))))) qnt_
@[reducible] def q56_:Sh:=⟨[.d (.int .u8),.d (.int .u8)],[],[.int .u8,.int .u8],[.d (.pr (.int .u8) YTT3)],[],0,[.pr (.int .u8) YTT3]⟩
def qi2_:Env:=(cts [])
def qi4_:List (Nat×Hint):=[]
def qh2_ (f except:Int):Option (As [.pr (.int .u8) YTT3]) :=
 some ((rem f 128,except,[],[],0,0),())
def reply_Wrong (x:As [.int .u8,.int .u8]):Option (As [.pr (.int .u8) YTT3]):=qh2_ x.1 x.2.1
theorem qly_ (J:Orc (As [.pr (.int .u8) YTT3])) (x:As [.int .u8,.int .u8]):rfn Tryz.prog qi2_ 6 18446744073709551616 (Ev.get qi4_) 120 q56_ J x=qh2_ x.1 x.2.1:=by kernel_rfl
theorem qns_ (x:As [.int .u8,.int .u8]):evT Tryz.prog qi2_ 6 18446744073709551616 (Ev.get qi4_) 120 q56_ x=reply_Wrong x:=by
 rw [rfn_eq,qly_]
 rfl
theorem q9w_:CtOk Tryz.prog (fun _=>True) 120 ⟨q56_,reply_Wrong⟩:=ct_of_ev env_nil qns_
@[reducible] def q1u_:Sh:=⟨[.d (.sl .bool),.d (.bool)],[],[.sl .bool,.bool],[.d (.int .i64)],[],0,[.int .i64]⟩
def q3y_:Env:=(cts [])
def q41_:List (Nat×Hint):=[(26,⟨[],[0,1,7,8]⟩)]
def q2d_ (s:List Bool) (v:Bool) (t7 t8:Int):St:={ fr:=[(0,.d (.sl .bool) s),(1,.d .bool v),(7,.d (.int .i64) t7),(8,.d (.int .i64) t8)],nt:=19,up:=[],own:=[],nx:=0,log:=[],ln:=0 }
def q2e_ (self1:List Bool->Bool->Int->Int->Option (As [.int .i64])) (s:List Bool) (v:Bool) (t7 t8:Int):Option (As [.int .i64]) :=
 if lt t8 t7=true then Option.bind (at? s t8) fun y=>if Sx.eqb v y=true then some (t8,()) else self1 s v t7 (add .i64 t8 1) else some (-1,())
def q4z_ (j1:List Bool->Bool->Int->Int->Option (As [.int .i64])) (s:List Bool) (v:Bool):Option (As [.int .i64]) :=
 j1 s v (Int.ofNat (List.length s)) 0
def q3e_ (s:List Bool) (v:Bool) (t7 t8:Int):Option (As [.int .i64]) :=
 loopF (fun (self:(List Bool)×(Bool)×(Int)×(Int)->Option (As [.int .i64])) (s:(List Bool)×(Bool)×(Int)×(Int))=>q2e_ (fun s v t7 t8=>self (s,v,t7,t8)) s.1 s.2.1 s.2.2.1 s.2.2.2) 18446744073709551616 (s,v,t7,t8)
def slices_Index_Gbool (x:As [.sl .bool,.bool]):Option (As [.int .i64]):=q4z_ q3e_ x.1 x.2.1
theorem qgj_ (J:Orc (As [.int .i64])) (w1:St->Option (As [.int .i64])) (s:List Bool) (v:Bool) (t7 t8:Int):pfn Tryz.prog q3y_ 6 18446744073709551616 (Ev.get q41_) 133 q1u_ J 26 [w1] (q2d_ s v t7 t8)=q2e_ (fun s v t7 t8=>w1 (q2d_ s v t7 t8)) s v t7 t8:=by kernel_rfl
theorem qgg_ (J:Orc (As [.int .i64])) (x:As [.sl .bool,.bool]):rfn Tryz.prog q3y_ 6 18446744073709551616 (Ev.get q41_) 133 q1u_ J x=q4z_ (fun s v t7 t8=>J 26 [] (q2d_ s v t7 t8)) x.1 x.2.1:=by kernel_rfl
theorem qgf_ (s:List Bool) (v:Bool) (t7 t8:Int):jfn Tryz.prog q3y_ 6 18446744073709551616 (Ev.get q41_) 133 q1u_ 26 [] (q2d_ s v t7 t8)=q3e_ s v t7 t8:=by
 rw [pfn_eq (by decide)]
 rw [pfn_loop (by kernel_rfl)]
 refine loopF_sim (σ:=(List Bool)×(Bool)×(Int)×(Int)) (mk:=fun s=>q2d_ s.1 s.2.1 s.2.2.1 s.2.2.2) (fun w1 s=>?_) 18446744073709551616 (s,v,t7,t8)
 refine (qgj_ _ w1 s.1 s.2.1 s.2.2.1 s.2.2.2).trans ?_
 rfl
theorem qhq_ (x:As [.sl .bool,.bool]):evT Tryz.prog q3y_ 6 18446744073709551616 (Ev.get q41_) 133 q1u_ x=slices_Index_Gbool x:=by
 have e1:(fun s v t7 t8=>(jfn Tryz.prog q3y_ 6 18446744073709551616 (Ev.get q41_) 133 q1u_) 26 [] (q2d_ s v t7 t8))=q3e_:=by funext s v t7 t8; exact qgf_ s v t7 t8
 rw [rfn_eq,qgg_,e1]
 rfl
theorem qgp_:CtOk Tryz.prog (fun _=>True) 133 ⟨q1u_,slices_Index_Gbool⟩:=ct_of_ev env_nil qhq_
@[reducible] def q2q_:Sh:=⟨[.d (.sl .bool),.d (.bool)],[],[.sl .bool,.bool],[.d (.bool)],[],0,[.bool]⟩
def qab_:Env:=(cts [(133,(⟨q1u_,slices_Index_Gbool⟩:Ct))])
def qa5_:List (Nat×Hint):=[]
def q3z_ (s:List Bool) (v:Bool):Option (As [.bool]) :=
 Option.bind (slices_Index_Gbool (s,v,())) fun y=>some (ge y.1 0,())
def slices_Contains_Gbool (x:As [.sl .bool,.bool]):Option (As [.bool]):=q3z_ x.1 x.2.1
theorem qfe_ (J:Orc (As [.bool])) (x:As [.sl .bool,.bool]):rfn Tryz.prog qab_ 6 18446744073709551616 (Ev.get qa5_) 70 q2q_ J x=q3z_ x.1 x.2.1:=by kernel_rfl
theorem qfp_ (x:As [.sl .bool,.bool]):evT Tryz.prog qab_ 6 18446744073709551616 (Ev.get qa5_) 70 q2q_ x=slices_Contains_Gbool x:=by
 rw [rfn_eq,qfe_]
 rfl
theorem q9h_:CtOk Tryz.prog (fun _=>True) 70 ⟨q2q_,slices_Contains_Gbool⟩:=ct_of_ev (env_cons qgp_ env_nil) qfp_
@[reducible] def q6u_:Sh:=⟨[.d (.int .u32)],[],[.int .u32],[.d (.int .u16),.d (.int .u16)],[],0,[.int .u16,.int .u16]⟩
def qie_:Env:=(cts [])
def qhz_:List (Nat×Hint):=[]
def q9y_ (x:Int):Option (As [.int .u16,.int .u16]) :=
 some (cvt .u16 (Sx.shr .u32 x 16),cvt .u16 x,())
def words_Parts (x:As [.int .u32]):Option (As [.int .u16,.int .u16]):=q9y_ x.1
theorem qmh_ (J:Orc (As [.int .u16,.int .u16])) (x:As [.int .u32]):rfn Tryz.prog qie_ 6 18446744073709551616 (Ev.get qhz_) 71 q6u_ J x=q9y_ x.1:=by kernel_rfl
theorem qnz_ (x:As [.int .u32]):evT Tryz.prog qie_ 6 18446744073709551616 (Ev.get qhz_) 71 q6u_ x=words_Parts x:=by
 rw [rfn_eq,qmh_]
 rfl
theorem qdj_:CtOk Tryz.prog (fun _=>True) 71 ⟨q6u_,words_Parts⟩:=ct_of_ev env_nil qnz_
@[reducible] def lease_held_s:Sh:=⟨[.d (.int .u16)],[],[.int .u16],[.d (.pr (.int .u16) (.int .i64))],[],0,[.pr (.int .u16) (.int .i64)]⟩
def lease_held_e:Env:=(cts [])
def lease_held_h:List (Nat×Hint):=[]
def lease_held_m0 (owner:Int):Option (As [.pr (.int .u16) (.int .i64)]) :=
 some ((owner,-1),())
def lease_held (x:As [.int .u16]):Option (As [.pr (.int .u16) (.int .i64)]):=lease_held_m0 x.1
theorem lease_held_c0 (J:Orc (As [.pr (.int .u16) (.int .i64)])) (x:As [.int .u16]):rfn Tryz.prog lease_held_e 6 18446744073709551616 (Ev.get lease_held_h) 207 lease_held_s J x=lease_held_m0 x.1:=by kernel_rfl
theorem lease_held_t (x:As [.int .u16]):evT Tryz.prog lease_held_e 6 18446744073709551616 (Ev.get lease_held_h) 207 lease_held_s x=lease_held x:=by
 rw [rfn_eq,lease_held_c0]
 rfl
theorem lease_held_ok:CtOk Tryz.prog (fun _=>True) 207 ⟨lease_held_s,lease_held⟩:=ct_of_ev env_nil lease_held_t
@[reducible] def lease_Right_s:Sh:=⟨[.d (.pr (.int .u16) (.int .i64))],[],[.pr (.int .u16) (.int .i64)],[.d (.bool)],[],0,[.bool]⟩
def lease_Right_e:Env:=(cts [(207,(⟨lease_held_s,lease_held⟩:Ct))])
def lease_Right_h:List (Nat×Hint):=[]
def lease_Right_m0 (l:Int×Int):Option (As [.bool]) :=
 if eqi l.1 0=true then some (eqi l.1 0 && (eqi l.2 0 && true),()) else if ge l.2 1=true then some (true,()) else Option.bind (lease_held (l.1,())) fun y=>some (eqi l.1 y.1.1 && (eqi l.2 y.1.2 && true),())
def lease_Right (x:As [.pr (.int .u16) (.int .i64)]):Option (As [.bool]):=lease_Right_m0 x.1
theorem lease_Right_c0 (J:Orc (As [.bool])) (x:As [.pr (.int .u16) (.int .i64)]):rfn Tryz.prog lease_Right_e 6 18446744073709551616 (Ev.get lease_Right_h) 197 lease_Right_s J x=lease_Right_m0 x.1:=by kernel_rfl
theorem lease_Right_t (x:As [.pr (.int .u16) (.int .i64)]):evT Tryz.prog lease_Right_e 6 18446744073709551616 (Ev.get lease_Right_h) 197 lease_Right_s x=lease_Right x:=by
 rw [rfn_eq,lease_Right_c0]
 rfl
theorem lease_Right_ok:CtOk Tryz.prog (fun _=>True) 197 ⟨lease_Right_s,lease_Right⟩:=ct_of_ev (env_cons lease_held_ok env_nil) lease_Right_t
@[reducible] def lease_counted_s:Sh:=⟨[.d (.pr (.int .u16) (.int .i64))],[],[.pr (.int .u16) (.int .i64)],[.d (.pr (.int .u16) (.int .i64))],[],0,[.pr (.int .u16) (.int .i64)]⟩
def lease_counted_e:Env:=(cts [(197,(⟨lease_Right_s,lease_Right⟩:Ct))])
def lease_counted_h:List (Nat×Hint):=[]
def lease_counted_m0 (l:Int×Int):Option (As [.pr (.int .u16) (.int .i64)]) :=
 Option.bind (lease_Right (l,())) fun y=>if (!y.1)=true then some ((0,0),()) else some (l,())
def lease_counted (x:As [.pr (.int .u16) (.int .i64)]):Option (As [.pr (.int .u16) (.int .i64)]):=lease_counted_m0 x.1
theorem lease_counted_c0 (J:Orc (As [.pr (.int .u16) (.int .i64)])) (x:As [.pr (.int .u16) (.int .i64)]):rfn Tryz.prog lease_counted_e 6 18446744073709551616 (Ev.get lease_counted_h) 167 lease_counted_s J x=lease_counted_m0 x.1:=by kernel_rfl
theorem lease_counted_t (x:As [.pr (.int .u16) (.int .i64)]):evT Tryz.prog lease_counted_e 6 18446744073709551616 (Ev.get lease_counted_h) 167 lease_counted_s x=lease_counted x:=by
 rw [rfn_eq,lease_counted_c0]
 rfl
theorem lease_counted_ok:CtOk Tryz.prog (fun _=>True) 167 ⟨lease_counted_s,lease_counted⟩:=ct_of_ev (env_cons lease_Right_ok env_nil) lease_counted_t
@[reducible] def lease_Free_s:Sh:=⟨[.d (.pr (.int .u16) (.int .i64))],[],[.pr (.int .u16) (.int .i64)],[.d (.bool)],[],0,[.bool]⟩
def lease_Free_e:Env:=(cts [(167,(⟨lease_counted_s,lease_counted⟩:Ct))])
def lease_Free_h:List (Nat×Hint):=[]
def lease_Free_m0 (l:Int×Int):Option (As [.bool]) :=
 Option.bind (lease_counted (l,())) fun y=>some (eqi y.1.1 0 && (eqi y.1.2 0 && true),())
def lease_Free (x:As [.pr (.int .u16) (.int .i64)]):Option (As [.bool]):=lease_Free_m0 x.1
theorem lease_Free_c0 (J:Orc (As [.bool])) (x:As [.pr (.int .u16) (.int .i64)]):rfn Tryz.prog lease_Free_e 6 18446744073709551616 (Ev.get lease_Free_h) 113 lease_Free_s J x=lease_Free_m0 x.1:=by kernel_rfl
theorem lease_Free_t (x:As [.pr (.int .u16) (.int .i64)]):evT Tryz.prog lease_Free_e 6 18446744073709551616 (Ev.get lease_Free_h) 113 lease_Free_s x=lease_Free x:=by
 rw [rfn_eq,lease_Free_c0]
 rfl
theorem lease_Free_ok:CtOk Tryz.prog (fun _=>True) 113 ⟨lease_Free_s,lease_Free⟩:=ct_of_ev (env_cons lease_counted_ok env_nil) lease_Free_t
@[reducible] def agent_there_s:Sh:=⟨[.d (.pr (.int .u32) (.pr (.ar 8 .bool) (.ar 8 YTT8)))],[],[.pr (.int .u32) (.pr (.ar 8 .bool) (.ar 8 YTT8))],[.d (.int .i64)],[],0,[.int .i64]⟩
abbrev agent_there_R:=Option (As [.int .i64])
def agent_there_e:Env:=(cts [(2000033,Ev.bxCt)])
def agent_there_h:List (Nat×Hint):=[(58,⟨[],[3,7,8]⟩)]
def agent_there_k1 (n:Int) (t7:List Bool) (t8:Int):St:={ fr:=[(3,.d (.int .i64) n),(7,.d (.ar 8 .bool) t7),(8,.d (.int .i64) t8)],nt:=16,up:=[],own:=[],nx:=0,log:=[],ln:=0 }
def agent_there_m1 (self1:Int->List Bool->Int->agent_there_R) (n:Int) (t7:List Bool) (t8:Int):agent_there_R :=
 if lt t8 8=true then need (lt t8 8) (Option.bind (at? t7 t8) fun y=>if y=true then self1 (add .i64 n 1) t7 (add .i64 t8 1) else self1 n t7 (add .i64 t8 1)) else some (n,())
def agent_there_m0 (j1:Int->List Bool->Int->agent_there_R) (s:Int×List Bool×List (Int×List Int)):agent_there_R :=
 j1 0 s.2.1 0
def agent_there_K1 (n:Int) (t7:List Bool) (t8:Int):agent_there_R :=
 loopF (fun (self:(Int)×(List Bool)×(Int)->agent_there_R) (s:(Int)×(List Bool)×(Int))=>agent_there_m1 (fun n t7 t8=>self (n,t7,t8)) s.1 s.2.1 s.2.2) 18446744073709551616 (n,t7,t8)
def agent_there (x:As [.pr (.int .u32) (.pr (.ar 8 .bool) (.ar 8 YTT8))]):agent_there_R:=agent_there_m0 agent_there_K1 x.1
theorem agent_there_c1 (J:Orc (As [.int .i64])) (w1:St->agent_there_R) (n:Int) (t7:List Bool) (t8:Int):pfn Tryz.prog agent_there_e 6 18446744073709551616 (Ev.get agent_there_h) 142 agent_there_s J 58 [w1] (agent_there_k1 n t7 t8)=agent_there_m1 (fun n t7 t8=>w1 (agent_there_k1 n t7 t8)) n t7 t8:=by kernel_rfl
theorem agent_there_c0 (J:Orc (As [.int .i64])) (x:As [.pr (.int .u32) (.pr (.ar 8 .bool) (.ar 8 YTT8))]):rfn Tryz.prog agent_there_e 6 18446744073709551616 (Ev.get agent_there_h) 142 agent_there_s J x=agent_there_m0 (fun n t7 t8=>J 58 [] (agent_there_k1 n t7 t8)) x.1:=by kernel_rfl
theorem agent_there_g1 (n:Int) (t7:List Bool) (t8:Int):jfn Tryz.prog agent_there_e 6 18446744073709551616 (Ev.get agent_there_h) 142 agent_there_s 58 [] (agent_there_k1 n t7 t8)=agent_there_K1 n t7 t8:=by
 rw [pfn_eq (by decide)]
 rw [pfn_loop (by kernel_rfl)]
 refine loopF_sim (σ:=(Int)×(List Bool)×(Int)) (mk:=fun s=>agent_there_k1 s.1 s.2.1 s.2.2) (fun w1 s=>?_) 18446744073709551616 (n,t7,t8)
 refine (agent_there_c1 _ w1 s.1 s.2.1 s.2.2).trans ?_
 rfl
theorem agent_there_t (x:As [.pr (.int .u32) (.pr (.ar 8 .bool) (.ar 8 YTT8))]):evT Tryz.prog agent_there_e 6 18446744073709551616 (Ev.get agent_there_h) 142 agent_there_s x=agent_there x:=by
 have e1:(fun n t7 t8=>(jfn Tryz.prog agent_there_e 6 18446744073709551616 (Ev.get agent_there_h) 142 agent_there_s) 58 [] (agent_there_k1 n t7 t8))=agent_there_K1:=by funext n t7 t8; exact agent_there_g1 n t7 t8
 rw [rfn_eq,agent_there_c0,e1]
 rfl
theorem agent_there_ok:CtOk Tryz.prog (fun _=>True) 142 ⟨agent_there_s,agent_there⟩:=ct_of_ev (env_cons Ev.bx_ok env_nil) agent_there_t
@[reducible] def agent_Status_s:Sh:=⟨[.d (.pr (.sl (.int .u16)) YTT0)],[],[.pr (.sl (.int .u16)) YTT0],[.d (.sl (.int .u16))],[],0,[.sl (.int .u16)]⟩
abbrev agent_Status_R:=Option (As [.sl (.int .u16)])
def agent_Status_e:Env:=(cts [(2000035,Ev.bxCt),(71,(⟨q6u_,words_Parts⟩:Ct)),(113,(⟨lease_Free_s,lease_Free⟩:Ct)),(142,(⟨agent_there_s,agent_there⟩:Ct))])
def agent_Status_h:List (Nat×Hint):=[(7,⟨[],[1,3]⟩)]
def agent_Status_k1 (a:List Int×(Int×Int)×Int×Int×Int×YTT9×Int) (owner:Int):St:={ fr:=[(1,.pe (.pr (.sl (.int .u16)) YTT0) a),(3,.d (.int .u16) owner)],nt:=39,up:=[],own:=[],nx:=0,log:=[],ln:=0 }
def agent_Status_m1 (a:List Int×(Int×Int)×Int×Int×Int×YTT9×Int) (owner:Int):agent_Status_R :=
 Option.bind (words_Parts (a.2.2.2.1,())) fun y=>Option.bind (words_Parts (a.2.2.2.2.1,())) fun y_1=>Option.bind (agent_there (a.2.2.2.2.2.1,())) fun y_2=>some ([owner,cvt .u16 a.2.2.1,y.1,y.2.1,y_1.1,y_1.2.1,cvt .u16 y_2.1,0],())
def agent_Status_m0 (j1:List Int×(Int×Int)×Int×Int×Int×YTT9×Int->Int->agent_Status_R) (a:List Int×(Int×Int)×Int×Int×Int×YTT9×Int):agent_Status_R :=
 Option.bind (lease_Free (a.2.1,())) fun y=>if y.1=true then j1 a 0 else j1 a a.2.1.1
def agent_Status_K1 (a:List Int×(Int×Int)×Int×Int×Int×YTT9×Int) (owner:Int):agent_Status_R:=agent_Status_m1 a owner
def agent_Status (x:As [.pr (.sl (.int .u16)) YTT0]):agent_Status_R:=agent_Status_m0 agent_Status_K1 x.1
theorem agent_Status_c1 (J:Orc (As [.sl (.int .u16)])) (a:List Int×(Int×Int)×Int×Int×Int×YTT9×Int) (owner:Int):pfn Tryz.prog agent_Status_e 6 18446744073709551616 (Ev.get agent_Status_h) 112 agent_Status_s J 7 [] (agent_Status_k1 a owner)=agent_Status_m1 a owner:=by kernel_rfl
theorem agent_Status_c0 (J:Orc (As [.sl (.int .u16)])) (x:As [.pr (.sl (.int .u16)) YTT0]):rfn Tryz.prog agent_Status_e 6 18446744073709551616 (Ev.get agent_Status_h) 112 agent_Status_s J x=agent_Status_m0 (fun a owner=>J 7 [] (agent_Status_k1 a owner)) x.1:=by kernel_rfl
theorem agent_Status_g1 (a:List Int×(Int×Int)×Int×Int×Int×YTT9×Int) (owner:Int):jfn Tryz.prog agent_Status_e 6 18446744073709551616 (Ev.get agent_Status_h) 112 agent_Status_s 7 [] (agent_Status_k1 a owner)=agent_Status_K1 a owner:=by
 rw [pfn_eq (by decide)]
 rw [agent_Status_c1]
 rfl
theorem agent_Status_t (x:As [.pr (.sl (.int .u16)) YTT0]):evT Tryz.prog agent_Status_e 6 18446744073709551616 (Ev.get agent_Status_h) 112 agent_Status_s x=agent_Status x:=by
 have e1:(fun a owner=>(jfn Tryz.prog agent_Status_e 6 18446744073709551616 (Ev.get agent_Status_h) 112 agent_Status_s) 7 [] (agent_Status_k1 a owner))=agent_Status_K1:=by funext a owner; exact agent_Status_g1 a owner
 rw [rfn_eq,agent_Status_c0,e1]
 rfl
theorem agent_Status_ok:CtOk Tryz.prog (fun _=>True) 112 ⟨agent_Status_s,agent_Status⟩:=ct_of_ev (env_cons Ev.bx_ok (env_cons qdj_ (env_cons lease_Free_ok (env_cons agent_there_ok env_nil)))) agent_Status_t
@[reducible] def stage_number_s:Sh:=⟨[.d (.int .i64)],[],[.int .i64],[.d (.bool)],[],0,[.bool]⟩
def stage_number_e:Env:=(cts [])
def stage_number_h:List (Nat×Hint):=[]
def stage_number_m0 (n:Int):Option (As [.bool]) :=
 if ge n 0=true then some (lt n 8,()) else some (false,())
def stage_number (x:As [.int .i64]):Option (As [.bool]):=stage_number_m0 x.1
theorem stage_number_c0 (J:Orc (As [.bool])) (x:As [.int .i64]):rfn Tryz.prog stage_number_e 6 18446744073709551616 (Ev.get stage_number_h) 75 stage_number_s J x=stage_number_m0 x.1:=by kernel_rfl
theorem stage_number_t (x:As [.int .i64]):evT Tryz.prog stage_number_e 6 18446744073709551616 (Ev.get stage_number_h) 75 stage_number_s x=stage_number x:=by
 rw [rfn_eq,stage_number_c0]
 rfl
theorem stage_number_ok:CtOk Tryz.prog (fun _=>True) 75 ⟨stage_number_s,stage_number⟩:=ct_of_ev env_nil stage_number_t
@[reducible] def stage_tagged_s:Sh:=⟨[.d (.int .u16),.d (.int .u32),.d (.int .i64),.d YTT8],[],[.int .u16,.int .u32,.int .i64,.pr (.int .i64) (.sl (.int .u16))],[.d (.sl (.int .u16))],[],0,[.sl (.int .u16)]⟩
def stage_tagged_e:Env:=(cts [(71,(⟨q6u_,words_Parts⟩:Ct)),(73,(⟨stage_itself_s,stage_itself⟩:Ct))])
def stage_tagged_h:List (Nat×Hint):=[]
def stage_tagged_m0 (owner tx n:Int) (x:Int×List Int):Option (As [.sl (.int .u16)]) :=
 Option.bind (words_Parts (tx,())) fun y=>need (small (0 + Nat.succ (Nat.succ (Nat.succ (Nat.succ 0))))) (Option.bind (stage_itself (x,())) fun y_1=>need (small (Nat.succ (Nat.succ (Nat.succ (Nat.succ 0))) + List.length y_1.1)) (some (owner::y.1::y.2.1::cvt .u16 n::y_1.1,())))
def stage_tagged (x:As [.int .u16,.int .u32,.int .i64,.pr (.int .i64) (.sl (.int .u16))]):Option (As [.sl (.int .u16)]):=stage_tagged_m0 x.1 x.2.1 x.2.2.1 x.2.2.2.1
theorem stage_tagged_c0 (J:Orc (As [.sl (.int .u16)])) (x:As [.int .u16,.int .u32,.int .i64,.pr (.int .i64) (.sl (.int .u16))]):rfn Tryz.prog stage_tagged_e 6 18446744073709551616 (Ev.get stage_tagged_h) 77 stage_tagged_s J x=stage_tagged_m0 x.1 x.2.1 x.2.2.1 x.2.2.2.1:=by kernel_rfl
theorem stage_tagged_t (x:As [.int .u16,.int .u32,.int .i64,.pr (.int .i64) (.sl (.int .u16))]):evT Tryz.prog stage_tagged_e 6 18446744073709551616 (Ev.get stage_tagged_h) 77 stage_tagged_s x=stage_tagged x:=by
 rw [rfn_eq,stage_tagged_c0]
 rfl
theorem stage_tagged_ok:CtOk Tryz.prog (fun _=>True) 77 ⟨stage_tagged_s,stage_tagged⟩:=ct_of_ev (env_cons qdj_ (env_cons stage_itself_ok env_nil)) stage_tagged_t
@[reducible] def stage_Back_s:Sh:=⟨[.d (.pr (.int .u32) (.pr (.ar 8 .bool) (.ar 8 YTT8))),.d (.int .u16),.d (.int .i64)],[],[.pr (.int .u32) (.pr (.ar 8 .bool) (.ar 8 YTT8)),.int .u16,.int .i64],[.d (.sl (.int .u16))],[],0,[.sl (.int .u16)]⟩
abbrev stage_Back_R:=Option (As [.sl (.int .u16)])
def stage_Back_e:Env:=(cts [(2000033,Ev.bxCt),(75,(⟨stage_number_s,stage_number⟩:Ct)),(77,(⟨stage_tagged_s,stage_tagged⟩:Ct))])
def stage_Back_h:List (Nat×Hint):=[(6,⟨[],[1,2,3,16]⟩)]
def stage_Back_k1 (owner n:Int) (s:Int×List Bool×List (Int×List Int)) (t16:Bool):St:={ fr:=[(1,.d (.int .u16) owner),(2,.d (.int .i64) n),(3,.pe (.pr (.int .u32) (.pr (.ar 8 .bool) (.ar 8 YTT8))) s),(16,.d .bool t16)],nt:=27,up:=[],own:=[],nx:=0,log:=[],ln:=0 }
def stage_Back_m1 (owner n:Int) (s:Int×List Bool×List (Int×List Int)) (t16:Bool):stage_Back_R :=
 if t16=true then some ([0,0,0,0,0,0,0,0,0,0,0,0,0,0,0,0,0,0,0,0],()) else Option.bind (at? s.2.2 n) fun y=>Option.bind (stage_tagged (owner,s.1,n,y,())) fun y=>some (y.1,())
def stage_Back_m0 (j1:Int->Int->Int×List Bool×List (Int×List Int)->Bool->stage_Back_R) (s:Int×List Bool×List (Int×List Int)) (owner n:Int):stage_Back_R :=
 Option.bind (stage_number (n,())) fun y=>if (!y.1)=true then j1 owner n s true else Option.bind (at? s.2.1 n) fun y=>j1 owner n s !y
def stage_Back_K1 (owner n:Int) (s:Int×List Bool×List (Int×List Int)) (t16:Bool):stage_Back_R:=stage_Back_m1 owner n s t16
def stage_Back (x:As [.pr (.int .u32) (.pr (.ar 8 .bool) (.ar 8 YTT8)),.int .u16,.int .i64]):stage_Back_R:=stage_Back_m0 stage_Back_K1 x.1 x.2.1 x.2.2.1
theorem stage_Back_c1 (J:Orc (As [.sl (.int .u16)])) (owner n:Int) (s:Int×List Bool×List (Int×List Int)) (t16:Bool):pfn Tryz.prog stage_Back_e 6 18446744073709551616 (Ev.get stage_Back_h) 114 stage_Back_s J 6 [] (stage_Back_k1 owner n s t16)=stage_Back_m1 owner n s t16:=by kernel_rfl
theorem stage_Back_c0 (J:Orc (As [.sl (.int .u16)])) (x:As [.pr (.int .u32) (.pr (.ar 8 .bool) (.ar 8 YTT8)),.int .u16,.int .i64]):rfn Tryz.prog stage_Back_e 6 18446744073709551616 (Ev.get stage_Back_h) 114 stage_Back_s J x=stage_Back_m0 (fun owner n s t16=>J 6 [] (stage_Back_k1 owner n s t16)) x.1 x.2.1 x.2.2.1:=by kernel_rfl
theorem stage_Back_g1 (owner n:Int) (s:Int×List Bool×List (Int×List Int)) (t16:Bool):jfn Tryz.prog stage_Back_e 6 18446744073709551616 (Ev.get stage_Back_h) 114 stage_Back_s 6 [] (stage_Back_k1 owner n s t16)=stage_Back_K1 owner n s t16:=by
 rw [pfn_eq (by decide)]
 rw [stage_Back_c1]
 rfl
theorem stage_Back_t (x:As [.pr (.int .u32) (.pr (.ar 8 .bool) (.ar 8 YTT8)),.int .u16,.int .i64]):evT Tryz.prog stage_Back_e 6 18446744073709551616 (Ev.get stage_Back_h) 114 stage_Back_s x=stage_Back x:=by
 have e1:(fun owner n s t16=>(jfn Tryz.prog stage_Back_e 6 18446744073709551616 (Ev.get stage_Back_h) 114 stage_Back_s) 6 [] (stage_Back_k1 owner n s t16))=stage_Back_K1:=by funext owner n s t16; exact stage_Back_g1 owner n s t16
 rw [rfn_eq,stage_Back_c0,e1]
 rfl
theorem stage_Back_ok:CtOk Tryz.prog (fun _=>True) 114 ⟨stage_Back_s,stage_Back⟩:=ct_of_ev (env_cons Ev.bx_ok (env_cons stage_number_ok (env_cons stage_tagged_ok env_nil))) stage_Back_t
@[reducible] def slave_Mem_s:Sh:=⟨[.d (.pr (.int .u8) (.pr (.int .u8) (.pr (.pr (.sl (.int .u16)) YTT0) (.sl .bool))))],[],[.pr (.int .u8) (.pr (.int .u8) (.pr (.pr (.sl (.int .u16)) YTT0) (.sl .bool)))],[.d (.pr (.sl .bool) YTT10)],[],0,[.pr (.sl .bool) YTT10]⟩
abbrev slave_Mem_R:=Option (As [.pr (.sl .bool) YTT10])
def slave_Mem_e:Env:=(cts [(2000038,Ev.bxCt),(70,(⟨q2q_,slices_Contains_Gbool⟩:Ct)),(112,(⟨agent_Status_s,agent_Status⟩:Ct)),(113,(⟨lease_Free_s,lease_Free⟩:Ct)),(114,(⟨stage_Back_s,stage_Back⟩:Ct))])
def slave_Mem_h:List (Nat×Hint):=[(3,⟨[],[1,2,3]⟩),(15,⟨[],[1,2,3]⟩),(4090,⟨[],[1,2,3,57]⟩)]
def slave_Mem_k1 (s:Int×Int×YTT2×List Bool) (m:List Int) (o o_2:List Bool) (o_3:List Int):St:={ fr:=[(1,.pe (.pr (.int .u8) (.pr (.int .u8) (.pr (.pr (.sl (.int .u16)) YTT0) (.sl .bool)))) s),(2,.pb 0 0),(3,.pb 1 0)],nt:=78,up:=[],own:=[(0,.box 96 [.k (Go.Value.slice Option.none 0 0),.k (Go.Value.slice Option.none 0 0),.k (Go.Value.slice Option.none 0 0),.k (Go.Value.slice Option.none 0 0)]),(1,.box 96 [.row 2,.row 3,.row 4,.d (.sl (.int .u16)) m]),(2,.row .bool 4 o),(3,.row .bool 4 o_2),(4,.row (.int .u16) 23 o_3)],nx:=5,log:=[],ln:=0 }
def slave_Mem_k2 (s:Int×Int×YTT2×List Bool) (m:List Int) (o o_2:List Bool) (o_3:List Int):St:={ fr:=[(1,.pe (.pr (.int .u8) (.pr (.int .u8) (.pr (.pr (.sl (.int .u16)) YTT0) (.sl .bool)))) s),(2,.pb 0 0),(3,.pb 1 0)],nt:=78,up:=[],own:=[(0,.box 96 [.k (Go.Value.slice Option.none 0 0),.k (Go.Value.slice Option.none 0 0),.k (Go.Value.slice Option.none 0 0),.k (Go.Value.slice Option.none 0 0)]),(1,.box 96 [.row 2,.row 3,.row 4,.d (.sl (.int .u16)) m]),(2,.row .bool 4 o),(3,.row .bool 4 o_2),(4,.row (.int .u16) 23 o_3)],nx:=5,log:=[],ln:=0 }
def slave_Mem_k3 (s:Int×Int×YTT2×List Bool) (t57:Int) (m:List Int) (o o_2:List Bool) (o_3:List Int):St:={ fr:=[(1,.pe (.pr (.int .u8) (.pr (.int .u8) (.pr (.pr (.sl (.int .u16)) YTT0) (.sl .bool)))) s),(2,.pb 0 0),(3,.pb 1 0),(57,.d (.int .i64) t57)],nt:=78,up:=[],own:=[(0,.box 96 [.k (Go.Value.slice Option.none 0 0),.k (Go.Value.slice Option.none 0 0),.k (Go.Value.slice Option.none 0 0),.k (Go.Value.slice Option.none 0 0)]),(1,.box 96 [.row 2,.row 3,.row 4,.d (.sl (.int .u16)) m]),(2,.row .bool 4 o),(3,.row .bool 4 o_2),(4,.row (.int .u16) 23 o_3)],nx:=5,log:=[],ln:=0 }
def slave_Mem_m1 (j2:Int×Int×YTT2×List Bool->List Int->List Bool->List Bool->List Int->slave_Mem_R) (s:Int×Int×YTT2×List Bool) (m:List Int) (o o_2:List Bool) (o_3:List Int):slave_Mem_R :=
 need (le (Int.ofNat (0 + List.length o)) (Int.ofNat (List.length o))) (if le s.2.2.1.2.2.1 2=true then Option.bind (at? o_2 s.2.2.1.2.2.1) fun x=>Option.bind (at? o_2 s.2.2.1.2.2.1) fun x=>j2 s m (List.take (Int.toNat (Int.ofNat (List.length o))) s.2.2.2++List.drop (0 + List.length (List.take (Int.toNat (Int.ofNat (List.length o))) s.2.2.2)) o) (List.set o_2 (Int.toNat s.2.2.1.2.2.1) true) o_3 else j2 s m (List.take (Int.toNat (Int.ofNat (List.length o))) s.2.2.2++List.drop (0 + List.length (List.take (Int.toNat (Int.ofNat (List.length o))) s.2.2.2)) o) o_2 o_3)
def slave_Mem_m2 (j3:Int×Int×YTT2×List Bool->Int->List Int->List Bool->List Bool->List Int->slave_Mem_R) (s:Int×Int×YTT2×List Bool) (m:List Int) (o o_2:List Bool) (o_3:List Int):slave_Mem_R :=
 Option.bind (lease_Free (s.2.2.1.2.1,())) fun y=>Option.bind (at? o_2 4) fun x=>Option.bind (at? o_2 4) fun x=>Option.bind (slices_Contains_Gbool (List.take 8 (List.drop 0 s.2.2.1.2.2.2.2.2.1.2.1),true,())) fun y_1=>Option.bind (at? (List.set o_2 4 !y.1) 5) fun x=>Option.bind (at? (List.set o_2 4 !y.1) 5) fun x=>need (le (Int.ofNat (List.length o_3)) (Int.ofNat (List.length o_3))) (need (le 64 (Int.ofNat (List.length o_3 + 0))) (need (le 64 (Int.ofNat (List.length o_3))) (need (le 256 (Int.ofNat (List.length (List.take 64 s.2.2.1.1++List.drop (0 + List.length (List.take 64 s.2.2.1.1)) o_3)))) (need (le (Int.ofNat (List.length (List.take 64 s.2.2.1.1++List.drop (0 + List.length (List.take 64 s.2.2.1.1)) o_3))) (Int.ofNat (List.length (List.take 64 s.2.2.1.1++List.drop (0 + List.length (List.take 64 s.2.2.1.1)) o_3)))) (need (le (256 + (Int.ofNat (List.length (List.take 64 s.2.2.1.1++List.drop (0 + List.length (List.take 64 s.2.2.1.1)) o_3)) - 256)) (Int.ofNat (List.length (List.take 64 s.2.2.1.1++List.drop (0 + List.length (List.take 64 s.2.2.1.1)) o_3)))) (j3 s 0 m o (List.set (List.set o_2 4 !y.1) 5 y_1.1) (List.take 256 (List.take 64 s.2.2.1.1++List.drop (0 + List.length (List.take 64 s.2.2.1.1)) o_3)++List.take (Int.toNat (Int.ofNat (List.length (List.take 64 s.2.2.1.1++List.drop (0 + List.length (List.take 64 s.2.2.1.1)) o_3)) - 256)) m++List.drop (256 + List.length (List.take (Int.toNat (Int.ofNat (List.length (List.take 64 s.2.2.1.1++List.drop (0 + List.length (List.take 64 s.2.2.1.1)) o_3)) - 256)) m)) (List.take 64 s.2.2.1.1++List.drop (0 + List.length (List.take 64 s.2.2.1.1)) o_3))))))))
def slave_Mem_m3 (self3:Int×Int×YTT2×List Bool->Int->List Int->List Bool->List Bool->List Int->slave_Mem_R) (s:Int×Int×YTT2×List Bool) (t57:Int) (m:List Int) (o o_2:List Bool) (o_3:List Int):slave_Mem_R :=
 if lt t57 8=true then need (ge (add .i64 512 (mul .i64 t57 32)) 0) (need (le (add .i64 512 (mul .i64 t57 32)) (Int.ofNat (List.length o_3))) (need (le (Int.ofNat (List.length o_3)) (Int.ofNat (List.length o_3))) (Option.bind (at? m 0) fun y=>Option.bind (stage_Back (s.2.2.1.2.2.2.2.2.1,y,t57,())) fun y=>need (le (add .i64 512 (mul .i64 t57 32) + (Int.ofNat (List.length o_3) - add .i64 512 (mul .i64 t57 32))) (Int.ofNat (List.length o_3))) (self3 s (add .i64 t57 1) m o o_2 (List.take (Int.toNat (add .i64 512 (mul .i64 t57 32))) o_3++List.take (Int.toNat (Int.ofNat (List.length o_3) - add .i64 512 (mul .i64 t57 32))) y.1++List.drop (Int.toNat (add .i64 512 (mul .i64 t57 32)) + List.length (List.take (Int.toNat (Int.ofNat (List.length o_3) - add .i64 512 (mul .i64 t57 32))) y.1)) o_3))))) else some ((o,o_2,o_3,m),())
def slave_Mem_m0 (j1:Int×Int×YTT2×List Bool->List Int->List Bool->List Bool->List Int->slave_Mem_R) (s:Int×Int×YTT2×List Bool):slave_Mem_R :=
 amb (eqAs slave_Mem_s.rs) [amb (eqAs slave_Mem_s.rs) [amb (eqAs slave_Mem_s.rs) [amb (eqAs slave_Mem_s.rs) [Option.bind (agent_Status (s.2.2.1,())) fun y=>j1 s y.1 (List.replicate 16 false) (List.replicate 8 false) (List.replicate 756 0),Option.bind (agent_Status (s.2.2.1,())) fun y=>j1 s y.1 (List.replicate 16 false) (List.replicate 8 false) (List.replicate 756 0)],amb (eqAs slave_Mem_s.rs) [Option.bind (agent_Status (s.2.2.1,())) fun y=>amb (eqAs slave_Mem_s.rs) [j1 s y.1 (List.replicate 16 false) (List.replicate 8 false) (List.replicate 756 0),j1 s y.1 (List.replicate 16 false) (List.replicate 8 false) (List.replicate 756 0)],amb (eqAs slave_Mem_s.rs) [Option.bind (agent_Status (s.2.2.1,())) fun y=>j1 s y.1 (List.replicate 16 false) (List.replicate 8 false) (List.replicate 756 0),Option.bind (agent_Status (s.2.2.1,())) fun y=>j1 s y.1 (List.replicate 16 false) (List.replicate 8 false) (List.replicate 756 0)]]],amb (eqAs slave_Mem_s.rs) [amb (eqAs slave_Mem_s.rs) [amb (eqAs slave_Mem_s.rs) [Option.bind (agent_Status (s.2.2.1,())) fun y=>j1 s y.1 (List.replicate 16 false) (List.replicate 8 false) (List.replicate 756 0),Option.bind (agent_Status (s.2.2.1,())) fun y=>j1 s y.1 (List.replicate 16 false) (List.replicate 8 false) (List.replicate 756 0)],amb (eqAs slave_Mem_s.rs) [Option.bind (agent_Status (s.2.2.1,())) fun y=>amb (eqAs slave_Mem_s.rs) [j1 s y.1 (List.replicate 16 false) (List.replicate 8 false) (List.replicate 756 0),j1 s y.1 (List.replicate 16 false) (List.replicate 8 false) (List.replicate 756 0)],amb (eqAs slave_Mem_s.rs) [Option.bind (agent_Status (s.2.2.1,())) fun y=>j1 s y.1 (List.replicate 16 false) (List.replicate 8 false) (List.replicate 756 0),Option.bind (agent_Status (s.2.2.1,())) fun y=>j1 s y.1 (List.replicate 16 false) (List.replicate 8 false) (List.replicate 756 0)]]],amb (eqAs slave_Mem_s.rs) [Option.bind (agent_Status (s.2.2.1,())) fun y=>amb (eqAs slave_Mem_s.rs) [amb (eqAs slave_Mem_s.rs) [j1 s y.1 (List.replicate 16 false) (List.replicate 8 false) (List.replicate 756 0),j1 s y.1 (List.replicate 16 false) (List.replicate 8 false) (List.replicate 756 0)],amb (eqAs slave_Mem_s.rs) [amb (eqAs slave_Mem_s.rs) [j1 s y.1 (List.replicate 16 false) (List.replicate 8 false) (List.replicate 756 0),j1 s y.1 (List.replicate 16 false) (List.replicate 8 false) (List.replicate 756 0)],amb (eqAs slave_Mem_s.rs) [j1 s y.1 (List.replicate 16 false) (List.replicate 8 false) (List.replicate 756 0),j1 s y.1 (List.replicate 16 false) (List.replicate 8 false) (List.replicate 756 0)]]],amb (eqAs slave_Mem_s.rs) [amb (eqAs slave_Mem_s.rs) [Option.bind (agent_Status (s.2.2.1,())) fun y=>j1 s y.1 (List.replicate 16 false) (List.replicate 8 false) (List.replicate 756 0),Option.bind (agent_Status (s.2.2.1,())) fun y=>j1 s y.1 (List.replicate 16 false) (List.replicate 8 false) (List.replicate 756 0)],amb (eqAs slave_Mem_s.rs) [amb (eqAs slave_Mem_s.rs) [Option.bind (agent_Status (s.2.2.1,())) fun y=>j1 s y.1 (List.replicate 16 false) (List.replicate 8 false) (List.replicate 756 0),Option.bind (agent_Status (s.2.2.1,())) fun y=>j1 s y.1 (List.replicate 16 false) (List.replicate 8 false) (List.replicate 756 0)],Option.bind (agent_Status (s.2.2.1,())) fun y=>amb (eqAs slave_Mem_s.rs) [j1 s y.1 (List.replicate 16 false) (List.replicate 8 false) (List.replicate 756 0),j1 s y.1 (List.replicate 16 false) (List.replicate 8 false) (List.replicate 756 0)]]]]]],amb (eqAs slave_Mem_s.rs) [amb (eqAs slave_Mem_s.rs) [amb (eqAs slave_Mem_s.rs) [amb (eqAs slave_Mem_s.rs) [Option.bind (agent_Status (s.2.2.1,())) fun y=>j1 s y.1 (List.replicate 16 false) (List.replicate 8 false) (List.replicate 756 0),Option.bind (agent_Status (s.2.2.1,())) fun y=>j1 s y.1 (List.replicate 16 false) (List.replicate 8 false) (List.replicate 756 0)],amb (eqAs slave_Mem_s.rs) [Option.bind (agent_Status (s.2.2.1,())) fun y=>amb (eqAs slave_Mem_s.rs) [j1 s y.1 (List.replicate 16 false) (List.replicate 8 false) (List.replicate 756 0),j1 s y.1 (List.replicate 16 false) (List.replicate 8 false) (List.replicate 756 0)],amb (eqAs slave_Mem_s.rs) [Option.bind (agent_Status (s.2.2.1,())) fun y=>j1 s y.1 (List.replicate 16 false) (List.replicate 8 false) (List.replicate 756 0),Option.bind (agent_Status (s.2.2.1,())) fun y=>j1 s y.1 (List.replicate 16 false) (List.replicate 8 false) (List.replicate 756 0)]]],amb (eqAs slave_Mem_s.rs) [amb (eqAs slave_Mem_s.rs) [amb (eqAs slave_Mem_s.rs) [Option.bind (agent_Status (s.2.2.1,())) fun y=>j1 s y.1 (List.replicate 16 false) (List.replicate 8 false) (List.replicate 756 0),Option.bind (agent_Status (s.2.2.1,())) fun y=>j1 s y.1 (List.replicate 16 false) (List.replicate 8 false) (List.replicate 756 0)],amb (eqAs slave_Mem_s.rs) [Option.bind (agent_Status (s.2.2.1,())) fun y=>amb (eqAs slave_Mem_s.rs) [j1 s y.1 (List.replicate 16 false) (List.replicate 8 false) (List.replicate 756 0),j1 s y.1 (List.replicate 16 false) (List.replicate 8 false) (List.replicate 756 0)],amb (eqAs slave_Mem_s.rs) [Option.bind (agent_Status (s.2.2.1,())) fun y=>j1 s y.1 (List.replicate 16 false) (List.replicate 8 false) (List.replicate 756 0),Option.bind (agent_Status (s.2.2.1,())) fun y=>j1 s y.1 (List.replicate 16 false) (List.replicate 8 false) (List.replicate 756 0)]]],amb (eqAs slave_Mem_s.rs) [Option.bind (agent_Status (s.2.2.1,())) fun y=>amb (eqAs slave_Mem_s.rs) [amb (eqAs slave_Mem_s.rs) [j1 s y.1 (List.replicate 16 false) (List.replicate 8 false) (List.replicate 756 0),j1 s y.1 (List.replicate 16 false) (List.replicate 8 false) (List.replicate 756 0)],amb (eqAs slave_Mem_s.rs) [amb (eqAs slave_Mem_s.rs) [j1 s y.1 (List.replicate 16 false) (List.replicate 8 false) (List.replicate 756 0),j1 s y.1 (List.replicate 16 false) (List.replicate 8 false) (List.replicate 756 0)],amb (eqAs slave_Mem_s.rs) [j1 s y.1 (List.replicate 16 false) (List.replicate 8 false) (List.replicate 756 0),j1 s y.1 (List.replicate 16 false) (List.replicate 8 false) (List.replicate 756 0)]]],amb (eqAs slave_Mem_s.rs) [amb (eqAs slave_Mem_s.rs) [Option.bind (agent_Status (s.2.2.1,())) fun y=>j1 s y.1 (List.replicate 16 false) (List.replicate 8 false) (List.replicate 756 0),Option.bind (agent_Status (s.2.2.1,())) fun y=>j1 s y.1 (List.replicate 16 false) (List.replicate 8 false) (List.replicate 756 0)],amb (eqAs slave_Mem_s.rs) [amb (eqAs slave_Mem_s.rs) [Option.bind (agent_Status (s.2.2.1,())) fun y=>j1 s y.1 (List.replicate 16 false) (List.replicate 8 false) (List.replicate 756 0),Option.bind (agent_Status (s.2.2.1,())) fun y=>j1 s y.1 (List.replicate 16 false) (List.replicate 8 false) (List.replicate 756 0)],Option.bind (agent_Status (s.2.2.1,())) fun y=>amb (eqAs slave_Mem_s.rs) [j1 s y.1 (List.replicate 16 false) (List.replicate 8 false) (List.replicate 756 0),j1 s y.1 (List.replicate 16 false) (List.replicate 8 false) (List.replicate 756 0)]]]]]],amb (eqAs slave_Mem_s.rs) [amb (eqAs slave_Mem_s.rs) [amb (eqAs slave_Mem_s.rs) [amb (eqAs slave_Mem_s.rs) [Option.bind (agent_Status (s.2.2.1,())) fun y=>j1 s y.1 (List.replicate 16 false) (List.replicate 8 false) (List.replicate 756 0),Option.bind (agent_Status (s.2.2.1,())) fun y=>j1 s y.1 (List.replicate 16 false) (List.replicate 8 false) (List.replicate 756 0)],amb (eqAs slave_Mem_s.rs) [Option.bind (agent_Status (s.2.2.1,())) fun y=>amb (eqAs slave_Mem_s.rs) [j1 s y.1 (List.replicate 16 false) (List.replicate 8 false) (List.replicate 756 0),j1 s y.1 (List.replicate 16 false) (List.replicate 8 false) (List.replicate 756 0)],amb (eqAs slave_Mem_s.rs) [Option.bind (agent_Status (s.2.2.1,())) fun y=>j1 s y.1 (List.replicate 16 false) (List.replicate 8 false) (List.replicate 756 0),Option.bind (agent_Status (s.2.2.1,())) fun y=>j1 s y.1 (List.replicate 16 false) (List.replicate 8 false) (List.replicate 756 0)]]],amb (eqAs slave_Mem_s.rs) [amb (eqAs slave_Mem_s.rs) [amb (eqAs slave_Mem_s.rs) [Option.bind (agent_Status (s.2.2.1,())) fun y=>j1 s y.1 (List.replicate 16 false) (List.replicate 8 false) (List.replicate 756 0),Option.bind (agent_Status (s.2.2.1,())) fun y=>j1 s y.1 (List.replicate 16 false) (List.replicate 8 false) (List.replicate 756 0)],amb (eqAs slave_Mem_s.rs) [Option.bind (agent_Status (s.2.2.1,())) fun y=>amb (eqAs slave_Mem_s.rs) [j1 s y.1 (List.replicate 16 false) (List.replicate 8 false) (List.replicate 756 0),j1 s y.1 (List.replicate 16 false) (List.replicate 8 false) (List.replicate 756 0)],amb (eqAs slave_Mem_s.rs) [Option.bind (agent_Status (s.2.2.1,())) fun y=>j1 s y.1 (List.replicate 16 false) (List.replicate 8 false) (List.replicate 756 0),Option.bind (agent_Status (s.2.2.1,())) fun y=>j1 s y.1 (List.replicate 16 false) (List.replicate 8 false) (List.replicate 756 0)]]],amb (eqAs slave_Mem_s.rs) [Option.bind (agent_Status (s.2.2.1,())) fun y=>amb (eqAs slave_Mem_s.rs) [amb (eqAs slave_Mem_s.rs) [j1 s y.1 (List.replicate 16 false) (List.replicate 8 false) (List.replicate 756 0),j1 s y.1 (List.replicate 16 false) (List.replicate 8 false) (List.replicate 756 0)],amb (eqAs slave_Mem_s.rs) [amb (eqAs slave_Mem_s.rs) [j1 s y.1 (List.replicate 16 false) (List.replicate 8 false) (List.replicate 756 0),j1 s y.1 (List.replicate 16 false) (List.replicate 8 false) (List.replicate 756 0)],amb (eqAs slave_Mem_s.rs) [j1 s y.1 (List.replicate 16 false) (List.replicate 8 false) (List.replicate 756 0),j1 s y.1 (List.replicate 16 false) (List.replicate 8 false) (List.replicate 756 0)]]],amb (eqAs slave_Mem_s.rs) [amb (eqAs slave_Mem_s.rs) [Option.bind (agent_Status (s.2.2.1,())) fun y=>j1 s y.1 (List.replicate 16 false) (List.replicate 8 false) (List.replicate 756 0),Option.bind (agent_Status (s.2.2.1,())) fun y=>j1 s y.1 (List.replicate 16 false) (List.replicate 8 false) (List.replicate 756 0)],amb (eqAs slave_Mem_s.rs) [amb (eqAs slave_Mem_s.rs) [Option.bind (agent_Status (s.2.2.1,())) fun y=>j1 s y.1 (List.replicate 16 false) (List.replicate 8 false) (List.replicate 756 0),Option.bind (agent_Status (s.2.2.1,())) fun y=>j1 s y.1 (List.replicate 16 false) (List.replicate 8 false) (List.replicate 756 0)],Option.bind (agent_Status (s.2.2.1,())) fun y=>amb (eqAs slave_Mem_s.rs) [j1 s y.1 (List.replicate 16 false) (List.replicate 8 false) (List.replicate 756 0),j1 s y.1 (List.replicate 16 false) (List.replicate 8 false) (List.replicate 756 0)]]]]]],amb (eqAs slave_Mem_s.rs) [Option.bind (agent_Status (s.2.2.1,())) fun y=>amb (eqAs slave_Mem_s.rs) [amb (eqAs slave_Mem_s.rs) [amb (eqAs slave_Mem_s.rs) [j1 s y.1 (List.replicate 16 false) (List.replicate 8 false) (List.replicate 756 0),j1 s y.1 (List.replicate 16 false) (List.replicate 8 false) (List.replicate 756 0)],amb (eqAs slave_Mem_s.rs) [amb (eqAs slave_Mem_s.rs) [j1 s y.1 (List.replicate 16 false) (List.replicate 8 false) (List.replicate 756 0),j1 s y.1 (List.replicate 16 false) (List.replicate 8 false) (List.replicate 756 0)],amb (eqAs slave_Mem_s.rs) [j1 s y.1 (List.replicate 16 false) (List.replicate 8 false) (List.replicate 756 0),j1 s y.1 (List.replicate 16 false) (List.replicate 8 false) (List.replicate 756 0)]]],amb (eqAs slave_Mem_s.rs) [amb (eqAs slave_Mem_s.rs) [amb (eqAs slave_Mem_s.rs) [j1 s y.1 (List.replicate 16 false) (List.replicate 8 false) (List.replicate 756 0),j1 s y.1 (List.replicate 16 false) (List.replicate 8 false) (List.replicate 756 0)],amb (eqAs slave_Mem_s.rs) [amb (eqAs slave_Mem_s.rs) [j1 s y.1 (List.replicate 16 false) (List.replicate 8 false) (List.replicate 756 0),j1 s y.1 (List.replicate 16 false) (List.replicate 8 false) (List.replicate 756 0)],amb (eqAs slave_Mem_s.rs) [j1 s y.1 (List.replicate 16 false) (List.replicate 8 false) (List.replicate 756 0),j1 s y.1 (List.replicate 16 false) (List.replicate 8 false) (List.replicate 756 0)]]],amb (eqAs slave_Mem_s.rs) [amb (eqAs slave_Mem_s.rs) [amb (eqAs slave_Mem_s.rs) [j1 s y.1 (List.replicate 16 false) (List.replicate 8 false) (List.replicate 756 0),j1 s y.1 (List.replicate 16 false) (List.replicate 8 false) (List.replicate 756 0)],amb (eqAs slave_Mem_s.rs) [amb (eqAs slave_Mem_s.rs) [j1 s y.1 (List.replicate 16 false) (List.replicate 8 false) (List.replicate 756 0),j1 s y.1 (List.replicate 16 false) (List.replicate 8 false) (List.replicate 756 0)],amb (eqAs slave_Mem_s.rs) [j1 s y.1 (List.replicate 16 false) (List.replicate 8 false) (List.replicate 756 0),j1 s y.1 (List.replicate 16 false) (List.replicate 8 false) (List.replicate 756 0)]]],amb (eqAs slave_Mem_s.rs) [amb (eqAs slave_Mem_s.rs) [j1 s y.1 (List.replicate 16 false) (List.replicate 8 false) (List.replicate 756 0),j1 s y.1 (List.replicate 16 false) (List.replicate 8 false) (List.replicate 756 0)],amb (eqAs slave_Mem_s.rs) [amb (eqAs slave_Mem_s.rs) [j1 s y.1 (List.replicate 16 false) (List.replicate 8 false) (List.replicate 756 0),j1 s y.1 (List.replicate 16 false) (List.replicate 8 false) (List.replicate 756 0)],amb (eqAs slave_Mem_s.rs) [j1 s y.1 (List.replicate 16 false) (List.replicate 8 false) (List.replicate 756 0),j1 s y.1 (List.replicate 16 false) (List.replicate 8 false) (List.replicate 756 0)]]]]]],amb (eqAs slave_Mem_s.rs) [amb (eqAs slave_Mem_s.rs) [amb (eqAs slave_Mem_s.rs) [Option.bind (agent_Status (s.2.2.1,())) fun y=>j1 s y.1 (List.replicate 16 false) (List.replicate 8 false) (List.replicate 756 0),Option.bind (agent_Status (s.2.2.1,())) fun y=>j1 s y.1 (List.replicate 16 false) (List.replicate 8 false) (List.replicate 756 0)],amb (eqAs slave_Mem_s.rs) [amb (eqAs slave_Mem_s.rs) [Option.bind (agent_Status (s.2.2.1,())) fun y=>j1 s y.1 (List.replicate 16 false) (List.replicate 8 false) (List.replicate 756 0),Option.bind (agent_Status (s.2.2.1,())) fun y=>j1 s y.1 (List.replicate 16 false) (List.replicate 8 false) (List.replicate 756 0)],Option.bind (agent_Status (s.2.2.1,())) fun y=>amb (eqAs slave_Mem_s.rs) [j1 s y.1 (List.replicate 16 false) (List.replicate 8 false) (List.replicate 756 0),j1 s y.1 (List.replicate 16 false) (List.replicate 8 false) (List.replicate 756 0)]]],amb (eqAs slave_Mem_s.rs) [amb (eqAs slave_Mem_s.rs) [amb (eqAs slave_Mem_s.rs) [Option.bind (agent_Status (s.2.2.1,())) fun y=>j1 s y.1 (List.replicate 16 false) (List.replicate 8 false) (List.replicate 756 0),Option.bind (agent_Status (s.2.2.1,())) fun y=>j1 s y.1 (List.replicate 16 false) (List.replicate 8 false) (List.replicate 756 0)],amb (eqAs slave_Mem_s.rs) [amb (eqAs slave_Mem_s.rs) [Option.bind (agent_Status (s.2.2.1,())) fun y=>j1 s y.1 (List.replicate 16 false) (List.replicate 8 false) (List.replicate 756 0),Option.bind (agent_Status (s.2.2.1,())) fun y=>j1 s y.1 (List.replicate 16 false) (List.replicate 8 false) (List.replicate 756 0)],Option.bind (agent_Status (s.2.2.1,())) fun y=>amb (eqAs slave_Mem_s.rs) [j1 s y.1 (List.replicate 16 false) (List.replicate 8 false) (List.replicate 756 0),j1 s y.1 (List.replicate 16 false) (List.replicate 8 false) (List.replicate 756 0)]]],amb (eqAs slave_Mem_s.rs) [amb (eqAs slave_Mem_s.rs) [amb (eqAs slave_Mem_s.rs) [Option.bind (agent_Status (s.2.2.1,())) fun y=>j1 s y.1 (List.replicate 16 false) (List.replicate 8 false) (List.replicate 756 0),Option.bind (agent_Status (s.2.2.1,())) fun y=>j1 s y.1 (List.replicate 16 false) (List.replicate 8 false) (List.replicate 756 0)],amb (eqAs slave_Mem_s.rs) [amb (eqAs slave_Mem_s.rs) [Option.bind (agent_Status (s.2.2.1,())) fun y=>j1 s y.1 (List.replicate 16 false) (List.replicate 8 false) (List.replicate 756 0),Option.bind (agent_Status (s.2.2.1,())) fun y=>j1 s y.1 (List.replicate 16 false) (List.replicate 8 false) (List.replicate 756 0)],Option.bind (agent_Status (s.2.2.1,())) fun y=>amb (eqAs slave_Mem_s.rs) [j1 s y.1 (List.replicate 16 false) (List.replicate 8 false) (List.replicate 756 0),j1 s y.1 (List.replicate 16 false) (List.replicate 8 false) (List.replicate 756 0)]]],Option.bind (agent_Status (s.2.2.1,())) fun y=>amb (eqAs slave_Mem_s.rs) [amb (eqAs slave_Mem_s.rs) [j1 s y.1 (List.replicate 16 false) (List.replicate 8 false) (List.replicate 756 0),j1 s y.1 (List.replicate 16 false) (List.replicate 8 false) (List.replicate 756 0)],amb (eqAs slave_Mem_s.rs) [amb (eqAs slave_Mem_s.rs) [j1 s y.1 (List.replicate 16 false) (List.replicate 8 false) (List.replicate 756 0),j1 s y.1 (List.replicate 16 false) (List.replicate 8 false) (List.replicate 756 0)],amb (eqAs slave_Mem_s.rs) [j1 s y.1 (List.replicate 16 false) (List.replicate 8 false) (List.replicate 756 0),j1 s y.1 (List.replicate 16 false) (List.replicate 8 false) (List.replicate 756 0)]]]]]]]]]]
def slave_Mem_K3 (s:Int×Int×YTT2×List Bool) (t57:Int) (m:List Int) (o o_2:List Bool) (o_3:List Int):slave_Mem_R :=
 loopF (fun (self:(Int×Int×YTT2×List Bool)×(Int)×(List Int)×(List Bool)×(List Bool)×(List Int)->slave_Mem_R) (s:(Int×Int×YTT2×List Bool)×(Int)×(List Int)×(List Bool)×(List Bool)×(List Int))=>slave_Mem_m3 (fun s t57 m o o_2 o_3=>self (s,t57,m,o,o_2,o_3)) s.1 s.2.1 s.2.2.1 s.2.2.2.1 s.2.2.2.2.1 s.2.2.2.2.2) 18446744073709551616 (s,t57,m,o,o_2,o_3)
def slave_Mem_K2 (s:Int×Int×YTT2×List Bool) (m:List Int) (o o_2:List Bool) (o_3:List Int):slave_Mem_R:=slave_Mem_m2 (slave_Mem_K3) s m o o_2 o_3
def slave_Mem_K1 (s:Int×Int×YTT2×List Bool) (m:List Int) (o o_2:List Bool) (o_3:List Int):slave_Mem_R:=slave_Mem_m1 (slave_Mem_K2) s m o o_2 o_3
def slave_Mem (x:As [.pr (.int .u8) (.pr (.int .u8) (.pr (.pr (.sl (.int .u16)) YTT0) (.sl .bool)))]):slave_Mem_R:=slave_Mem_m0 slave_Mem_K1 x.1
theorem slave_Mem_c3 (J:Orc (As [.pr (.sl .bool) YTT10])) (w3:St->slave_Mem_R) (s:Int×Int×YTT2×List Bool) (t57:Int) (m:List Int) (o o_2:List Bool) (o_3:List Int):pfn Tryz.prog slave_Mem_e 6 18446744073709551616 (Ev.get slave_Mem_h) 47 slave_Mem_s J 4090 [w3] (slave_Mem_k3 s t57 m o o_2 o_3)=slave_Mem_m3 (fun s t57 m o o_2 o_3=>w3 (slave_Mem_k3 s t57 m o o_2 o_3)) s t57 m o o_2 o_3:=by kernel_rfl
theorem slave_Mem_c2 (J:Orc (As [.pr (.sl .bool) YTT10])) (s:Int×Int×YTT2×List Bool) (m:List Int) (o o_2:List Bool) (o_3:List Int):pfn Tryz.prog slave_Mem_e 6 18446744073709551616 (Ev.get slave_Mem_h) 47 slave_Mem_s J 15 [] (slave_Mem_k2 s m o o_2 o_3)=slave_Mem_m2 (fun s t57 m o o_2 o_3=>J 4090 [] (slave_Mem_k3 s t57 m o o_2 o_3)) s m o o_2 o_3:=by kernel_rfl
theorem slave_Mem_c1 (J:Orc (As [.pr (.sl .bool) YTT10])) (s:Int×Int×YTT2×List Bool) (m:List Int) (o o_2:List Bool) (o_3:List Int):pfn Tryz.prog slave_Mem_e 6 18446744073709551616 (Ev.get slave_Mem_h) 47 slave_Mem_s J 3 [] (slave_Mem_k1 s m o o_2 o_3)=slave_Mem_m1 (fun s m o o_2 o_3=>J 15 [] (slave_Mem_k2 s m o o_2 o_3)) s m o o_2 o_3:=by kernel_rfl
theorem slave_Mem_c0 (J:Orc (As [.pr (.sl .bool) YTT10])) (x:As [.pr (.int .u8) (.pr (.int .u8) (.pr (.pr (.sl (.int .u16)) YTT0) (.sl .bool)))]):rfn Tryz.prog slave_Mem_e 6 18446744073709551616 (Ev.get slave_Mem_h) 47 slave_Mem_s J x=slave_Mem_m0 (fun s m o o_2 o_3=>J 3 [] (slave_Mem_k1 s m o o_2 o_3)) x.1:=by kernel_rfl
theorem slave_Mem_g3 (s:Int×Int×YTT2×List Bool) (t57:Int) (m:List Int) (o o_2:List Bool) (o_3:List Int):jfn Tryz.prog slave_Mem_e 6 18446744073709551616 (Ev.get slave_Mem_h) 47 slave_Mem_s 4090 [] (slave_Mem_k3 s t57 m o o_2 o_3)=slave_Mem_K3 s t57 m o o_2 o_3:=by
 rw [pfn_eq (by decide)]
 rw [pfn_loop (by kernel_rfl)]
 refine loopF_sim (σ:=(Int×Int×YTT2×List Bool)×(Int)×(List Int)×(List Bool)×(List Bool)×(List Int)) (mk:=fun s=>slave_Mem_k3 s.1 s.2.1 s.2.2.1 s.2.2.2.1 s.2.2.2.2.1 s.2.2.2.2.2) (fun w3 s=>?_) 18446744073709551616 (s,t57,m,o,o_2,o_3)
 refine (slave_Mem_c3 _ w3 s.1 s.2.1 s.2.2.1 s.2.2.2.1 s.2.2.2.2.1 s.2.2.2.2.2).trans ?_
 rfl
theorem slave_Mem_g2 (s:Int×Int×YTT2×List Bool) (m:List Int) (o o_2:List Bool) (o_3:List Int):jfn Tryz.prog slave_Mem_e 6 18446744073709551616 (Ev.get slave_Mem_h) 47 slave_Mem_s 15 [] (slave_Mem_k2 s m o o_2 o_3)=slave_Mem_K2 s m o o_2 o_3:=by
 rw [pfn_eq (by decide)]
 have e3:(fun s t57 m o o_2 o_3=>(jfn Tryz.prog slave_Mem_e 6 18446744073709551616 (Ev.get slave_Mem_h) 47 slave_Mem_s) 4090 [] (slave_Mem_k3 s t57 m o o_2 o_3))=slave_Mem_K3:=by funext s t57 m o o_2 o_3; exact slave_Mem_g3 s t57 m o o_2 o_3
 rw [slave_Mem_c2,e3]
 rfl
theorem slave_Mem_g1 (s:Int×Int×YTT2×List Bool) (m:List Int) (o o_2:List Bool) (o_3:List Int):jfn Tryz.prog slave_Mem_e 6 18446744073709551616 (Ev.get slave_Mem_h) 47 slave_Mem_s 3 [] (slave_Mem_k1 s m o o_2 o_3)=slave_Mem_K1 s m o o_2 o_3:=by
 rw [pfn_eq (by decide)]
 have e2:(fun s m o o_2 o_3=>(jfn Tryz.prog slave_Mem_e 6 18446744073709551616 (Ev.get slave_Mem_h) 47 slave_Mem_s) 15 [] (slave_Mem_k2 s m o o_2 o_3))=slave_Mem_K2:=by funext s m o o_2 o_3; exact slave_Mem_g2 s m o o_2 o_3
 rw [slave_Mem_c1,e2]
 rfl
theorem slave_Mem_t (x:As [.pr (.int .u8) (.pr (.int .u8) (.pr (.pr (.sl (.int .u16)) YTT0) (.sl .bool)))]):evT Tryz.prog slave_Mem_e 6 18446744073709551616 (Ev.get slave_Mem_h) 47 slave_Mem_s x=slave_Mem x:=by
 have e1:(fun s m o o_2 o_3=>(jfn Tryz.prog slave_Mem_e 6 18446744073709551616 (Ev.get slave_Mem_h) 47 slave_Mem_s) 3 [] (slave_Mem_k1 s m o o_2 o_3))=slave_Mem_K1:=by funext s m o o_2 o_3; exact slave_Mem_g1 s m o o_2 o_3
 rw [rfn_eq,slave_Mem_c0,e1]
 rfl
theorem slave_Mem_ok:CtOk Tryz.prog (fun _=>True) 47 ⟨slave_Mem_s,slave_Mem⟩:=ct_of_ev (env_cons Ev.bx_ok (env_cons q9h_ (env_cons agent_Status_ok (env_cons lease_Free_ok (env_cons stage_Back_ok env_nil))))) slave_Mem_t
@[reducible] def q1g_:Sh:=⟨[.d (.pr (.int .u8) YTT4)],[],[.pr (.int .u8) YTT4],[.d (.pr (.int .u8) YTT3),.d (.bool)],[],0,[.pr (.int .u8) YTT3,.bool]⟩
def q40_:Env:=(cts [(58,(⟨q24_,ask_Right⟩:Ct))])
def q3u_:List (Nat×Hint):=[(15,⟨[.rwb 4 2 4,.rwb 4 3 23],[2,4]⟩),(1967,⟨[],[1,2,4,33]⟩)]
def q6x_ (t2 t2_2 t2_3 t2_4 r r_2 r_3 r_4:Int) (o:List Bool) (o_2:List Int):St:={ fr:=[(2,.pb 0 0),(4,.pb 1 0)],nt:=40,up:=[],own:=[(0,.box 46 [.d (.int .u8) t2,.d (.int .u8) t2_2,.k (Go.Value.slice Option.none 0 0),.k (Go.Value.slice Option.none 0 0),.d (.int .u16) t2_3,.d (.int .u16) t2_4]),(1,.box 46 [.d (.int .u8) r,.d (.int .u8) r_2,.row 2,.row 3,.d (.int .u16) r_3,.d (.int .u16) r_4]),(2,.row .bool 4 o),(3,.row (.int .u16) 23 o_2)],nx:=4,log:=[],ln:=0 }
def qbg_ (t33:Bool) (a a_2 a_3 a_4:Int) (a_5:List Int) (a_6:List Bool) (t2 t2_2 t2_3 t2_4 r r_2 r_3 r_4:Int):St:={ fr:=[(1,.pb 0 0),(2,.pb 1 0),(4,.pb 2 0),(33,.d .bool t33)],nt:=40,up:=[],own:=[(0,.box 44 [.d (.int .u8) a,.d (.int .u16) a_2,.d (.int .u16) a_3,.d (.int .u16) a_4,.d (.sl (.int .u16)) a_5,.d (.sl .bool) a_6]),(1,.box 46 [.d (.int .u8) t2,.d (.int .u8) t2_2,.k (Go.Value.slice Option.none 0 0),.k (Go.Value.slice Option.none 0 0),.d (.int .u16) t2_3,.d (.int .u16) t2_4]),(2,.box 46 [.d (.int .u8) r,.d (.int .u8) r_2,.k (Go.Value.slice Option.none 0 0),.k (Go.Value.slice Option.none 0 0),.d (.int .u16) r_3,.d (.int .u16) r_4])],nx:=3,log:=[],ln:=0 }
def qia_ (t2 t2_2 t2_3 t2_4 r r_2 r_3 r_4:Int) (o:List Bool) (o_2:List Int):Option (As [.pr (.int .u8) YTT3,.bool]) :=
 some ((r,r_2,o,o_2,r_3,r_4),true,())
def qi5_ (j1:Int->Int->Int->Int->Int->Int->Int->Int->List Bool->List Int->Option (As [.pr (.int .u8) YTT3,.bool])) (t33:Bool) (a a_2 a_3 a_4:Int) (a_5:List Int) (a_6:List Bool) (t2 t2_2 t2_3 t2_4 r r_2 r_3 r_4:Int):Option (As [.pr (.int .u8) YTT3,.bool]) :=
 if t33=true then j1 t2 t2_2 t2_3 t2_4 r r_2 r_3 a_3 [] [] else some ((0,0,[],[],0,0),false,())
def q6o_ (j1:Int->Int->Int->Int->Int->Int->Int->Int->List Bool->List Int->Option (As [.pr (.int .u8) YTT3,.bool])) (j2:Bool->Int->Int->Int->Int->List Int->List Bool->Int->Int->Int->Int->Int->Int->Int->Int->Option (As [.pr (.int .u8) YTT3,.bool])) (a:Int×Int×Int×Int×List Int×List Bool):Option (As [.pr (.int .u8) YTT3,.bool]) :=
 Option.bind (ask_Right (a,())) fun y=>if (!y.1)=true then some ((0,0,[],[],0,0),false,()) else if eqi a.1 5=true then Option.bind (at? a.2.2.2.2.2 0) fun y=>j1 0 0 0 0 a.1 0 a.2.1 0 [y] [] else if eqi a.1 6=true then Option.bind (at? a.2.2.2.2.1 0) fun y=>j1 0 0 0 0 a.1 0 a.2.1 0 [] [y] else if eqi a.1 15=true then j2 true a.1 a.2.1 a.2.2.1 a.2.2.2.1 a.2.2.2.2.1 a.2.2.2.2.2 0 0 0 0 a.1 0 a.2.1 0 else j2 (eqi a.1 16) a.1 a.2.1 a.2.2.1 a.2.2.2.1 a.2.2.2.2.1 a.2.2.2.2.2 0 0 0 0 a.1 0 a.2.1 0
def q5a_ (t2 t2_2 t2_3 t2_4 r r_2 r_3 r_4:Int) (o:List Bool) (o_2:List Int):Option (As [.pr (.int .u8) YTT3,.bool]):=qia_ t2 t2_2 t2_3 t2_4 r r_2 r_3 r_4 o o_2
def q8r_ (t33:Bool) (a a_2 a_3 a_4:Int) (a_5:List Int) (a_6:List Bool) (t2 t2_2 t2_3 t2_4 r r_2 r_3 r_4:Int):Option (As [.pr (.int .u8) YTT3,.bool]):=qi5_ (q5a_) t33 a a_2 a_3 a_4 a_5 a_6 t2 t2_2 t2_3 t2_4 r r_2 r_3 r_4
def reply_Echo (x:As [.pr (.int .u8) YTT4]):Option (As [.pr (.int .u8) YTT3,.bool]):=q6o_ q5a_ q8r_ x.1
theorem qmx_ (J:Orc (As [.pr (.int .u8) YTT3,.bool])) (t2 t2_2 t2_3 t2_4 r r_2 r_3 r_4:Int) (o:List Bool) (o_2:List Int):pfn Tryz.prog q40_ 6 18446744073709551616 (Ev.get q3u_) 68 q1g_ J 15 [] (q6x_ t2 t2_2 t2_3 t2_4 r r_2 r_3 r_4 o o_2)=qia_ t2 t2_2 t2_3 t2_4 r r_2 r_3 r_4 o o_2:=by kernel_rfl
theorem qnw_ (J:Orc (As [.pr (.int .u8) YTT3,.bool])) (t33:Bool) (a a_2 a_3 a_4:Int) (a_5:List Int) (a_6:List Bool) (t2 t2_2 t2_3 t2_4 r r_2 r_3 r_4:Int):pfn Tryz.prog q40_ 6 18446744073709551616 (Ev.get q3u_) 68 q1g_ J 1967 [] (qbg_ t33 a a_2 a_3 a_4 a_5 a_6 t2 t2_2 t2_3 t2_4 r r_2 r_3 r_4)=qi5_ (fun t2 t2_2 t2_3 t2_4 r r_2 r_3 r_4 o o_2=>J 15 [] (q6x_ t2 t2_2 t2_3 t2_4 r r_2 r_3 r_4 o o_2)) t33 a a_2 a_3 a_4 a_5 a_6 t2 t2_2 t2_3 t2_4 r r_2 r_3 r_4:=by kernel_rfl
theorem qny_ (J:Orc (As [.pr (.int .u8) YTT3,.bool])) (x:As [.pr (.int .u8) YTT4]):rfn Tryz.prog q40_ 6 18446744073709551616 (Ev.get q3u_) 68 q1g_ J x=q6o_ (fun t2 t2_2 t2_3 t2_4 r r_2 r_3 r_4 o o_2=>J 15 [] (q6x_ t2 t2_2 t2_3 t2_4 r r_2 r_3 r_4 o o_2)) (fun t33 a a_2 a_3 a_4 a_5 a_6 t2 t2_2 t2_3 t2_4 r r_2 r_3 r_4=>J 1967 [] (qbg_ t33 a a_2 a_3 a_4 a_5 a_6 t2 t2_2 t2_3 t2_4 r r_2 r_3 r_4)) x.1:=by kernel_rfl
theorem qhy_ (t2 t2_2 t2_3 t2_4 r r_2 r_3 r_4:Int) (o:List Bool) (o_2:List Int):jfn Tryz.prog q40_ 6 18446744073709551616 (Ev.get q3u_) 68 q1g_ 15 [] (q6x_ t2 t2_2 t2_3 t2_4 r r_2 r_3 r_4 o o_2)=q5a_ t2 t2_2 t2_3 t2_4 r r_2 r_3 r_4 o o_2:=by
 rw [pfn_eq (by decide)]
 rw [qmx_]
 rfl
theorem qn9_ (t33:Bool) (a a_2 a_3 a_4:Int) (a_5:List Int) (a_6:List Bool) (t2 t2_2 t2_3 t2_4 r r_2 r_3 r_4:Int):jfn Tryz.prog q40_ 6 18446744073709551616 (Ev.get q3u_) 68 q1g_ 1967 [] (qbg_ t33 a a_2 a_3 a_4 a_5 a_6 t2 t2_2 t2_3 t2_4 r r_2 r_3 r_4)=q8r_ t33 a a_2 a_3 a_4 a_5 a_6 t2 t2_2 t2_3 t2_4 r r_2 r_3 r_4:=by
 rw [pfn_eq (by decide)]
 have e1:(fun t2 t2_2 t2_3 t2_4 r r_2 r_3 r_4 o o_2=>(jfn Tryz.prog q40_ 6 18446744073709551616 (Ev.get q3u_) 68 q1g_) 15 [] (q6x_ t2 t2_2 t2_3 t2_4 r r_2 r_3 r_4 o o_2))=q5a_:=by funext t2 t2_2 t2_3 t2_4 r r_2 r_3 r_4 o o_2; exact qhy_ t2 t2_2 t2_3 t2_4 r r_2 r_3 r_4 o o_2
 rw [qnw_,e1]
 rfl
theorem qp3_ (x:As [.pr (.int .u8) YTT4]):evT Tryz.prog q40_ 6 18446744073709551616 (Ev.get q3u_) 68 q1g_ x=reply_Echo x:=by
 have e1:(fun t2 t2_2 t2_3 t2_4 r r_2 r_3 r_4 o o_2=>(jfn Tryz.prog q40_ 6 18446744073709551616 (Ev.get q3u_) 68 q1g_) 15 [] (q6x_ t2 t2_2 t2_3 t2_4 r r_2 r_3 r_4 o o_2))=q5a_:=by funext t2 t2_2 t2_3 t2_4 r r_2 r_3 r_4 o o_2; exact qhy_ t2 t2_2 t2_3 t2_4 r r_2 r_3 r_4 o o_2
 have e2:(fun t33 a a_2 a_3 a_4 a_5 a_6 t2 t2_2 t2_3 t2_4 r r_2 r_3 r_4=>(jfn Tryz.prog q40_ 6 18446744073709551616 (Ev.get q3u_) 68 q1g_) 1967 [] (qbg_ t33 a a_2 a_3 a_4 a_5 a_6 t2 t2_2 t2_3 t2_4 r r_2 r_3 r_4))=q8r_:=by funext t33 a a_2 a_3 a_4 a_5 a_6 t2 t2_2 t2_3 t2_4 r r_2 r_3 r_4; exact qn9_ t33 a a_2 a_3 a_4 a_5 a_6 t2 t2_2 t2_3 t2_4 r r_2 r_3 r_4
 rw [rfn_eq,qny_,e1,e2]
 rfl
theorem qeg_:CtOk Tryz.prog (fun _=>True) 68 ⟨q1g_,reply_Echo⟩:=ct_of_ev (env_cons qcp_ env_nil) qp3_
@[reducible] def q3_:Sh:=⟨[.d (.pr YTT1 (.sl .bool)),.d (.bool)],[],[.pr YTT1 (.sl .bool),.bool],[.d (.bool)],[],0,[.bool]⟩
def qe_:Env:=(cts [])
def qb_:List (Nat×Hint):=[(122,⟨[],[1,2,5,13,14,15,24,25,26,27,28,29,32,33,34,37,38,39,40,41,42,43,44,45,49,50]⟩),(31334,⟨[.agd 50 .bool],[1,2,7,13,14,15,51]⟩),(15666,⟨[.agd 25 (.int .i64),.agd 27 (.sl .bool),.agd 28 (.int .i64),.agd 29 .bool,.agd 33 (.int .i64),.agd 34 .bool,.agd 38 (.int .i64),.agd 40 (.sl .bool),.agd 41 (.int .i64),.agd 43 (.int .i64),.agd 44 (.int .i64),.agd 45 .bool],[1,2,7,13,14,15,46]⟩)]
def q4_ (fixed:Bool) (endV:Int) (t13:List YTT5) (t14 t15:Int) (t:List YTT5×List Bool):St:={ fr:=[(1,.d .bool fixed),(2,.pb 0 0),(5,.d (.int .i64) endV),(13,.d YTT1 t13),(14,.d (.int .i64) t14),(15,.d (.int .i64) t15)],nt:=58,up:=[],own:=[(0,.box 170 [.d YTT1 t.1,.d (.sl .bool) t.2])],nx:=1,log:=[],ln:=0 }
def q3g_ (fixed:Bool) (t13:List YTT5) (t14 t15:Int) (t46:Bool) (t:List YTT5×List Bool) (x:YaA2q0):St:={ fr:=[(1,.d .bool fixed),(2,.pb 0 0),(7,.pb 1 0),(13,.d YTT1 t13),(14,.d (.int .i64) t14),(15,.d (.int .i64) t15),(46,.d .bool t46)],nt:=58,up:=[],own:=[(0,.box 170 [.d YTT1 t.1,.d (.sl .bool) t.2]),(1,.box 168 [.d (.int .i64) x.1,.d (.int .i64) x.2.1,.d .bool x.2.2.1,.d .bool x.2.2.2.1,.d .bool x.2.2.2.2])],nx:=2,log:=[],ln:=0 }
def q3k_ (fixed:Bool) (t13:List YTT5) (t14 t15:Int) (t51:Bool) (t:List YTT5×List Bool) (x:YaA2q0):St:={ fr:=[(1,.d .bool fixed),(2,.pb 0 0),(7,.pb 1 0),(13,.d YTT1 t13),(14,.d (.int .i64) t14),(15,.d (.int .i64) t15),(51,.d .bool t51)],nt:=58,up:=[],own:=[(0,.box 170 [.d YTT1 t.1,.d (.sl .bool) t.2]),(1,.box 168 [.d (.int .i64) x.1,.d (.int .i64) x.2.1,.d .bool x.2.2.1,.d .bool x.2.2.2.1,.d .bool x.2.2.2.2])],nx:=2,log:=[],ln:=0 }
def q1d_ (j2:Bool->List YTT5->Int->Int->Bool->List YTT5×List Bool->YaA2q0->Option (As [.bool])) (self1:Bool->Int->List YTT5->Int->Int->List YTT5×List Bool->Option (As [.bool])) (fixed:Bool) (endV:Int) (t13:List YTT5) (t14 t15:Int) (t:List YTT5×List Bool):Option (As [.bool]) :=
 if lt t15 t14=true then Option.bind (at? t13 t15) fun y=>if lt y.1 endV=true then j2 fixed t13 t14 t15 true t y else if gt y.1 (Int.ofNat (List.length t.2))=true then j2 fixed t13 t14 t15 true t y else if lt y.2.1 1=true then j2 fixed t13 t14 t15 true t y else j2 fixed t13 t14 t15 (gt y.2.1 (Sx.sub .i64 (Int.ofNat (List.length t.2)) y.1)) t y else some (true,())
def q5e_ (j3:Bool->List YTT5->Int->Int->Bool->List YTT5×List Bool->YaA2q0->Option (As [.bool])) (self1:Bool->Int->List YTT5->Int->Int->List YTT5×List Bool->Option (As [.bool])) (fixed:Bool) (t13:List YTT5) (t14 t15:Int) (t46:Bool) (t:List YTT5×List Bool) (x:YaA2q0):Option (As [.bool]) :=
 if t46=true then some (false,()) else if fixed=true then j3 fixed t13 t14 t15 x.2.2.2.1 t x else j3 fixed t13 t14 t15 false t x
def q5f_ (self1:Bool->Int->List YTT5->Int->Int->List YTT5×List Bool->Option (As [.bool])) (fixed:Bool) (t13:List YTT5) (t14 t15:Int) (t51:Bool) (t:List YTT5×List Bool) (x:YaA2q0):Option (As [.bool]) :=
 if t51=true then some (false,()) else self1 fixed (add .i64 x.1 x.2.1) t13 t14 (add .i64 t15 1) t
def q3h_ (j1:Bool->Int->List YTT5->Int->Int->List YTT5×List Bool->Option (As [.bool])) (t:List YTT5×List Bool) (fixed:Bool):Option (As [.bool]) :=
 if gt (Int.ofNat (List.length t.2)) 65536=true then some (false,()) else j1 fixed 0 t.1 (Int.ofNat (List.length t.1)) 0 t
def q25_ (u1:Bool->Int->List YTT5->Int->Int->List YTT5×List Bool->Option (As [.bool])) (fixed:Bool) (t13:List YTT5) (t14 t15:Int) (t51:Bool) (t:List YTT5×List Bool) (x:YaA2q0):Option (As [.bool]):=q5f_ u1 fixed t13 t14 t15 t51 t x
def q26_ (u1:Bool->Int->List YTT5->Int->Int->List YTT5×List Bool->Option (As [.bool])) (fixed:Bool) (t13:List YTT5) (t14 t15:Int) (t46:Bool) (t:List YTT5×List Bool) (x:YaA2q0):Option (As [.bool]):=q5e_ (q25_ u1) u1 fixed t13 t14 t15 t46 t x
def q1c_ (fixed:Bool) (endV:Int) (t13:List YTT5) (t14 t15:Int) (t:List YTT5×List Bool):Option (As [.bool]) :=
 loopF (fun (self:(Bool)×(Int)×(List YTT5)×(Int)×(Int)×(List YTT5×List Bool)->Option (As [.bool])) (s:(Bool)×(Int)×(List YTT5)×(Int)×(Int)×(List YTT5×List Bool))=>q1d_ (q26_ (fun fixed endV t13 t14 t15 t=>self (fixed,endV,t13,t14,t15,t))) (fun fixed endV t13 t14 t15 t=>self (fixed,endV,t13,t14,t15,t)) s.1 s.2.1 s.2.2.1 s.2.2.2.1 s.2.2.2.2.1 s.2.2.2.2.2) 18446744073709551616 (fixed,endV,t13,t14,t15,t)
def model_table_bool_right (x:As [.pr YTT1 (.sl .bool),.bool]):Option (As [.bool]):=q3h_ q1c_ x.1 x.2.1
theorem qen_ (J:Orc (As [.bool])) (w1:St->Option (As [.bool])) (fixed:Bool) (t13:List YTT5) (t14 t15:Int) (t51:Bool) (t:List YTT5×List Bool) (x:YaA2q0):pfn Tryz.prog qe_ 6 18446744073709551616 (Ev.get qb_) 118 q3_ J 31334 [w1] (q3k_ fixed t13 t14 t15 t51 t x)=q5f_ (fun fixed endV t13 t14 t15 t=>w1 (q4_ fixed endV t13 t14 t15 t)) fixed t13 t14 t15 t51 t x:=by kernel_rfl
theorem qeu_ (J:Orc (As [.bool])) (w1:St->Option (As [.bool])) (fixed:Bool) (t13:List YTT5) (t14 t15:Int) (t46:Bool) (t:List YTT5×List Bool) (x:YaA2q0):pfn Tryz.prog qe_ 6 18446744073709551616 (Ev.get qb_) 118 q3_ J 15666 [w1] (q3g_ fixed t13 t14 t15 t46 t x)=q5e_ (fun fixed t13 t14 t15 t51 t x=>J 31334 [w1] (q3k_ fixed t13 t14 t15 t51 t x)) (fun fixed endV t13 t14 t15 t=>w1 (q4_ fixed endV t13 t14 t15 t)) fixed t13 t14 t15 t46 t x:=by kernel_rfl
theorem qeq_ (J:Orc (As [.bool])) (w1:St->Option (As [.bool])) (fixed:Bool) (endV:Int) (t13:List YTT5) (t14 t15:Int) (t:List YTT5×List Bool):pfn Tryz.prog qe_ 6 18446744073709551616 (Ev.get qb_) 118 q3_ J 122 [w1] (q4_ fixed endV t13 t14 t15 t)=q1d_ (fun fixed t13 t14 t15 t46 t x=>J 15666 [w1] (q3g_ fixed t13 t14 t15 t46 t x)) (fun fixed endV t13 t14 t15 t=>w1 (q4_ fixed endV t13 t14 t15 t)) fixed endV t13 t14 t15 t:=by kernel_rfl
theorem qew_ (J:Orc (As [.bool])) (x:As [.pr YTT1 (.sl .bool),.bool]):rfn Tryz.prog qe_ 6 18446744073709551616 (Ev.get qb_) 118 q3_ J x=q3h_ (fun fixed endV t13 t14 t15 t=>J 122 [] (q4_ fixed endV t13 t14 t15 t)) x.1 x.2.1:=by kernel_rfl
theorem qep_ (w1:St->Option (As [.bool])) (fixed:Bool) (t13:List YTT5) (t14 t15:Int) (t51:Bool) (t:List YTT5×List Bool) (x:YaA2q0):jfn Tryz.prog qe_ 6 18446744073709551616 (Ev.get qb_) 118 q3_ 31334 [w1] (q3k_ fixed t13 t14 t15 t51 t x)=q25_ (fun fixed endV t13 t14 t15 t=>w1 (q4_ fixed endV t13 t14 t15 t)) fixed t13 t14 t15 t51 t x:=by
 rw [pfn_eq (by decide)]
 rw [qen_]
 rfl
theorem qev_ (w1:St->Option (As [.bool])) (fixed:Bool) (t13:List YTT5) (t14 t15:Int) (t46:Bool) (t:List YTT5×List Bool) (x:YaA2q0):jfn Tryz.prog qe_ 6 18446744073709551616 (Ev.get qb_) 118 q3_ 15666 [w1] (q3g_ fixed t13 t14 t15 t46 t x)=q26_ (fun fixed endV t13 t14 t15 t=>w1 (q4_ fixed endV t13 t14 t15 t)) fixed t13 t14 t15 t46 t x:=by
 rw [pfn_eq (by decide)]
 have e3:(fun fixed t13 t14 t15 t51 t x=>(jfn Tryz.prog qe_ 6 18446744073709551616 (Ev.get qb_) 118 q3_) 31334 [w1] (q3k_ fixed t13 t14 t15 t51 t x))=q25_ (fun fixed endV t13 t14 t15 t=>w1 (q4_ fixed endV t13 t14 t15 t)):=by funext fixed t13 t14 t15 t51 t x; exact qep_ w1 fixed t13 t14 t15 t51 t x
 rw [qeu_,e3]
 rfl
theorem qes_ (fixed:Bool) (endV:Int) (t13:List YTT5) (t14 t15:Int) (t:List YTT5×List Bool):jfn Tryz.prog qe_ 6 18446744073709551616 (Ev.get qb_) 118 q3_ 122 [] (q4_ fixed endV t13 t14 t15 t)=q1c_ fixed endV t13 t14 t15 t:=by
 rw [pfn_eq (by decide)]
 rw [pfn_loop (by kernel_rfl)]
 refine loopF_sim (σ:=(Bool)×(Int)×(List YTT5)×(Int)×(Int)×(List YTT5×List Bool)) (mk:=fun s=>q4_ s.1 s.2.1 s.2.2.1 s.2.2.2.1 s.2.2.2.2.1 s.2.2.2.2.2) (fun w1 s=>?_) 18446744073709551616 (fixed,endV,t13,t14,t15,t)
 have e2:(fun fixed t13 t14 t15 t46 t x=>(jfn Tryz.prog qe_ 6 18446744073709551616 (Ev.get qb_) 118 q3_) 15666 [w1] (q3g_ fixed t13 t14 t15 t46 t x))=q26_ (fun fixed endV t13 t14 t15 t=>w1 (q4_ fixed endV t13 t14 t15 t)):=by funext fixed t13 t14 t15 t46 t x; exact qev_ w1 fixed t13 t14 t15 t46 t x
 refine (qeq_ _ w1 s.1 s.2.1 s.2.2.1 s.2.2.2.1 s.2.2.2.2.1 s.2.2.2.2.2).trans ?_
 rw [e2]
theorem qey_ (x:As [.pr YTT1 (.sl .bool),.bool]):evT Tryz.prog qe_ 6 18446744073709551616 (Ev.get qb_) 118 q3_ x=model_table_bool_right x:=by
 have e1:(fun fixed endV t13 t14 t15 t=>(jfn Tryz.prog qe_ 6 18446744073709551616 (Ev.get qb_) 118 q3_) 122 [] (q4_ fixed endV t13 t14 t15 t))=q1c_:=by funext fixed endV t13 t14 t15 t; exact qes_ fixed endV t13 t14 t15 t
 rw [rfn_eq,qew_,e1]
 rfl
theorem qeo_:CtOk Tryz.prog (fun _=>True) 118 ⟨q3_,model_table_bool_right⟩:=ct_of_ev env_nil qey_
end Go.Proofs.Lx
end
