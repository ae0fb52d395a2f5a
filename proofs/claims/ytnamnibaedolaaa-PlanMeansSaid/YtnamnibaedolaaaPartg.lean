/- Proved in the last of these 13 parts (this is part 7): PlanMeans: whatever the table, the recipe and the bank, the law returns true.. Conditions: those of the given statement, and no others. -/
import Derived.Test.YtnamnibaedolaaaParte
import Derived.Test.YtnamnibaedolaaaProg
import Derived.Test.YtnamnibaedolaaaPartf
set_option linter.unusedVariables false
set_option linter.unusedSimpArgs false
set_option linter.unusedSectionVars false
section
open Go Go.Proofs Ev Sx
set_option maxRecDepth 100000
namespace Go.Proofs.Lx
abbrev QVT0:Type:=(List UInt8×Int×Int×Bool×(Int×Int)×(Int×Int)×List UInt8)
abbrev QVT4:Type:=(List UInt8×(Int×Int)×List UInt8×Int)
abbrev QVT1:Type:=(List UInt8×Int×List QVT4)
abbrev QVT9:Ty:=(.pr (.int .i64) (.int .u8))
abbrev QVT2:Ty:=(.pr (.int .i64) (.pr (.int .i64) (.pr .bool (.pr QVT9 (.pr QVT9 .str)))))
abbrev QVT3:Ty:=(.pr (.int .u8) (.pr .str (.pr QVT9 (.int .i64))))
abbrev QVT7:Ty:=(.pr QVT9 (.pr .str (.int .i64)))
abbrev QVT5:Ty:=(.sl (.pr .str (.pr (.int .i64) (.sl (.pr .str QVT7)))))
abbrev QVT6:Type:=(Int×List UInt8×(Int×Int)×Int)
abbrev QVT8:Ty:=(.pr (.int .i64) (.int .i64))
@[reducible] def q40_:Sh:=⟨[.d (.sl (.pr .str (.sl (.pr .str QVT2)))),.d (.str)],[],[.sl (.pr .str (.sl (.pr .str QVT2))),.str],[.d (.int .i64),.d (.bool)],[],0,[.int .i64,.bool]⟩
def qas_:Env:=(cts [])
def q9y_:List (Nat×Hint):=[(26,⟨[],[1,8,9,10]⟩)]
@[reducible] def zG0:Type:=List (List UInt8×List QVT0)
def q6e_ (slave:List UInt8) (t8:zG0) (t9 t10:Int):St:=⟨[(1,dS slave),(8,.d (.sl (.pr .str (.sl (.pr .str QVT2)))) t8),(9,dI t9),(10,dI t10)],21,[],[],0,[],0⟩
@[reducible] def zG1:Type:=List UInt8->List (List UInt8×List QVT0)->Int->Int->Option (As [.int .i64,.bool])
def q4i_ (self1:zG1) (slave:List UInt8) (t8:zG0) (t9 t10:Int):Option (As [.int .i64,.bool]) :=
 if lt t10 t9=true then Option.bind (at? t8 t10) fun y=>if eqs y.1 slave=true then some (t10,true,()) else self1 slave t8 t9 (add .i64 t10 1) else some (0,false,())
def qg1_ (j1:zG1) (t:zG0) (slave:List UInt8):Option (As [.int .i64,.bool]) :=
 j1 slave t (Int.ofNat (List.length t)) 0
def q9g_ (slave:List UInt8) (t8:zG0) (t9 t10:Int):Option (As [.int .i64,.bool]) :=
 loopF (fun (self:(List UInt8)×(List (List UInt8×List QVT0))×(Int)×(Int)->Option (As [.int .i64,.bool])) (s:(List UInt8)×(List (List UInt8×List QVT0))×(Int)×(Int))=>q4i_ (fun slave t8 t9 t10=>self (slave,t8,t9,t10)) s.1 s.2.1 s.2.2.1 s.2.2.2) 18446744073709551616 (slave,t8,t9,t10)
def q1k_ (x:As [.sl (.pr .str (.sl (.pr .str QVT2))),.str]):Option (As [.int .i64,.bool]):=qg1_ q9g_ x.1 x.2.1
noncomputable abbrev valid_Find_P:=pfn Try.prog qas_ 6 18446744073709551616 (Ev.get q9y_) 27 q40_
theorem qqc_ {J w1 slave t8 t9 t10}:valid_Find_P J 26 [w1] (q6e_ slave t8 t9 t10)=q4i_ (fun slave t8 t9 t10=>w1 (q6e_ slave t8 t9 t10)) slave t8 t9 t10:=by kernel_rfl
theorem qqf_ (J:Orc (As [.int .i64,.bool])) (x:As [.sl (.pr .str (.sl (.pr .str QVT2))),.str]):rfn Try.prog qas_ 6 18446744073709551616 (Ev.get q9y_) 27 q40_ J x=qg1_ (fun slave t8 t9 t10=>J 26 [] (q6e_ slave t8 t9 t10)) x.1 x.2.1:=by kernel_rfl
noncomputable abbrev valid_Find_J:=jfn Try.prog qas_ 6 18446744073709551616 (Ev.get q9y_) 27 q40_
theorem qpt_  (slave t8 t9 t10):valid_Find_J 26 [] (q6e_ slave t8 t9 t10)=q9g_ slave t8 t9 t10:=gL (σ:=(List UInt8)×(List (List UInt8×List QVT0))×(Int)×(Int)) (mk:=fun s=>q6e_ s.1 s.2.1 s.2.2.1 s.2.2.2) (by decide) (by kernel_rfl) (fun w1 s=>qqc_) (slave,t8,t9,t10)
theorem qrz_ (x:As [.sl (.pr .str (.sl (.pr .str QVT2))),.str]):evT Try.prog qas_ 6 18446744073709551616 (Ev.get q9y_) 27 q40_ x=q1k_ x:=by
 rw [rfn_eq,qqf_]
 simp only [qpt_]
 rfl
theorem qct_:CtOk Try.prog (fun _=>True) 27 ⟨q40_,q1k_⟩:=qh_ qc_ qrz_
@[reducible] def q4k_:Sh:=⟨[.d QVT9],[],[.pr (.int .i64) (.int .u8)],[.d (.bool)],[],0,[.bool]⟩
def q5d_ (d:Int×Int):Option (As [.bool]) :=
 if ge d.1 (-1000000000000)=true then if le d.1 1000000000000=true then if le d.2 6=true then if eqi d.2 0=true then some (true,()) else some (nei (rem d.1 10) 0,()) else some (false,()) else some (false,()) else some (false,())
def qj_ (x:As [.pr (.int .i64) (.int .u8)]):Option (As [.bool]):=q5d_ x.1
theorem q5o_:CtOk Try.prog (fun _=>True) 54 ⟨q4k_,qj_⟩:=ctn qc_ 6 fun J x=>by kernel_rfl
@[reducible] def q24_:Sh:=⟨[.d (.int .i64)],[],[.int .i64],[.d (.int .i64)],[],0,[.int .i64]⟩
def q8v_:Env:=(cts [])
def q9k_:List (Nat×Hint):=[(58,⟨[],[3,4,5]⟩)]
def q5w_ (p t4 t5:Int):St:=⟨[(3,dI p),(4,dI t4),(5,dI t5)],11,[],[],0,[],0⟩
def qf0_ (self1:Int->Int->Int->Option (As [.int .i64])) (p t4 t5:Int):Option (As [.int .i64]) :=
 if lt t5 t4=true then self1 (mul .i64 p 10) t4 (add .i64 t5 1) else some (p,())
def qf6_ (j1:Int->Int->Int->Option (As [.int .i64])) (n:Int):Option (As [.int .i64]) :=
 j1 1 n 0
def qeq_ (p t4 t5:Int):Option (As [.int .i64]) :=
 loopF (fun (self:(Int)×(Int)×(Int)->Option (As [.int .i64])) (s:(Int)×(Int)×(Int))=>qf0_ (fun p t4 t5=>self (p,t4,t5)) s.1 s.2.1 s.2.2) 18446744073709551616 (p,t4,t5)
def q1x_ (x:As [.int .i64]):Option (As [.int .i64]):=qf6_ qeq_ x.1
noncomputable abbrev units_power_P:=pfn Try.prog q8v_ 6 18446744073709551616 (Ev.get q9k_) 63 q24_
theorem qku_ {J w1 p t4 t5}:units_power_P J 58 [w1] (q5w_ p t4 t5)=qf0_ (fun p t4 t5=>w1 (q5w_ p t4 t5)) p t4 t5:=by kernel_rfl
theorem qls_ (J:Orc (As [.int .i64])) (x:As [.int .i64]):rfn Try.prog q8v_ 6 18446744073709551616 (Ev.get q9k_) 63 q24_ J x=qf6_ (fun p t4 t5=>J 58 [] (q5w_ p t4 t5)) x.1:=by kernel_rfl
noncomputable abbrev units_power_J:=jfn Try.prog q8v_ 6 18446744073709551616 (Ev.get q9k_) 63 q24_
theorem qnv_  (p t4 t5):units_power_J 58 [] (q5w_ p t4 t5)=qeq_ p t4 t5:=gL (σ:=(Int)×(Int)×(Int)) (mk:=fun s=>q5w_ s.1 s.2.1 s.2.2) (by decide) (by kernel_rfl) (fun w1 s=>qku_) (p,t4,t5)
theorem qpw_ (x:As [.int .i64]):evT Try.prog q8v_ 6 18446744073709551616 (Ev.get q9k_) 63 q24_ x=q1x_ x:=by
 rw [rfn_eq,qls_]
 simp only [qnv_]
 rfl
theorem qay_:CtOk Try.prog (fun _=>True) 63 ⟨q24_,q1x_⟩:=qh_ qc_ qpw_
@[reducible] def bits_Mul64_s:Sh:=⟨[.d (.int .u64),.d (.int .u64)],[],[.int .u64,.int .u64],[.d (.int .u64),.d (.int .u64)],[],0,[.int .u64,.int .u64]⟩
def bits_Mul64_m0 (x y:Int):Option (As [.int .u64,.int .u64]) :=
 some (add .u64 (add .u64 (mul .u64 (Sx.shr .u64 x 32) (Sx.shr .u64 y 32)) (Sx.shr .u64 (add .u64 (mul .u64 (Sx.shr .u64 x 32) (Sx.band .u64 y 4294967295)) (Sx.shr .u64 (mul .u64 (Sx.band .u64 x 4294967295) (Sx.band .u64 y 4294967295)) 32)) 32)) (Sx.shr .u64 (add .u64 (Sx.band .u64 (add .u64 (mul .u64 (Sx.shr .u64 x 32) (Sx.band .u64 y 4294967295)) (Sx.shr .u64 (mul .u64 (Sx.band .u64 x 4294967295) (Sx.band .u64 y 4294967295)) 32)) 4294967295) (mul .u64 (Sx.band .u64 x 4294967295) (Sx.shr .u64 y 32))) 32),mul .u64 x y,())
def bits_Mul64 (x:As [.int .u64,.int .u64]):Option (As [.int .u64,.int .u64]):=bits_Mul64_m0 x.1 x.2.1
theorem bits_Mul64_ok:CtOk Try.prog (fun _=>True) 73 ⟨bits_Mul64_s,bits_Mul64⟩:=ctn qc_ 6 fun J x=>by kernel_rfl
@[reducible] def bits_LeadingZeros64_s:Sh:=⟨[.d (.int .u64)],[],[.int .u64],[.d (.int .i64)],[],0,[.int .i64]⟩
def q55_ (x:Int):Option (As [.int .i64]) :=
 if ge x 4294967296=true then if ge (Sx.shr .u64 x 32) 65536=true then if ge (Sx.shr .u64 (Sx.shr .u64 x 32) 16) 256=true then Option.bind (at? [0,1,2,2,3,3,3,3,4,4,4,4,4,4,4,4,5,5,5,5,5,5,5,5,5,5,5,5,5,5,5,5,6,6,6,6,6,6,6,6,6,6,6,6,6,6,6,6,6,6,6,6,6,6,6,6,6,6,6,6,6,6,6,6,7,7,7,7,7,7,7,7,7,7,7,7,7,7,7,7,7,7,7,7,7,7,7,7,7,7,7,7,7,7,7,7,7,7,7,7,7,7,7,7,7,7,7,7,7,7,7,7,7,7,7,7,7,7,7,7,7,7,7,7,7,7,7,7,8,8,8,8,8,8,8,8,8,8,8,8,8,8,8,8,8,8,8,8,8,8,8,8,8,8,8,8,8,8,8,8,8,8,8,8,8,8,8,8,8,8,8,8,8,8,8,8,8,8,8,8,8,8,8,8,8,8,8,8,8,8,8,8,8,8,8,8,8,8,8,8,8,8,8,8,8,8,8,8,8,8,8,8,8,8,8,8,8,8,8,8,8,8,8,8,8,8,8,8,8,8,8,8,8,8,8,8,8,8,8,8,8,8,8,8,8,8,8,8,8,8,8,8,8,8,8,8] (cvt .u8 (Sx.shr .u64 (Sx.shr .u64 (Sx.shr .u64 x 32) 16) 8))) fun c=>some (Sx.sub .i64 64 (add .i64 56 (cvt .i64 (Int.ofNat (UInt8.toNat c)))),()) else Option.bind (at? [0,1,2,2,3,3,3,3,4,4,4,4,4,4,4,4,5,5,5,5,5,5,5,5,5,5,5,5,5,5,5,5,6,6,6,6,6,6,6,6,6,6,6,6,6,6,6,6,6,6,6,6,6,6,6,6,6,6,6,6,6,6,6,6,7,7,7,7,7,7,7,7,7,7,7,7,7,7,7,7,7,7,7,7,7,7,7,7,7,7,7,7,7,7,7,7,7,7,7,7,7,7,7,7,7,7,7,7,7,7,7,7,7,7,7,7,7,7,7,7,7,7,7,7,7,7,7,7,8,8,8,8,8,8,8,8,8,8,8,8,8,8,8,8,8,8,8,8,8,8,8,8,8,8,8,8,8,8,8,8,8,8,8,8,8,8,8,8,8,8,8,8,8,8,8,8,8,8,8,8,8,8,8,8,8,8,8,8,8,8,8,8,8,8,8,8,8,8,8,8,8,8,8,8,8,8,8,8,8,8,8,8,8,8,8,8,8,8,8,8,8,8,8,8,8,8,8,8,8,8,8,8,8,8,8,8,8,8,8,8,8,8,8,8,8,8,8,8,8,8,8,8,8,8,8,8] (cvt .u8 (Sx.shr .u64 (Sx.shr .u64 x 32) 16))) fun c=>some (Sx.sub .i64 64 (add .i64 48 (cvt .i64 (Int.ofNat (UInt8.toNat c)))),()) else if ge (Sx.shr .u64 x 32) 256=true then Option.bind (at? [0,1,2,2,3,3,3,3,4,4,4,4,4,4,4,4,5,5,5,5,5,5,5,5,5,5,5,5,5,5,5,5,6,6,6,6,6,6,6,6,6,6,6,6,6,6,6,6,6,6,6,6,6,6,6,6,6,6,6,6,6,6,6,6,7,7,7,7,7,7,7,7,7,7,7,7,7,7,7,7,7,7,7,7,7,7,7,7,7,7,7,7,7,7,7,7,7,7,7,7,7,7,7,7,7,7,7,7,7,7,7,7,7,7,7,7,7,7,7,7,7,7,7,7,7,7,7,7,8,8,8,8,8,8,8,8,8,8,8,8,8,8,8,8,8,8,8,8,8,8,8,8,8,8,8,8,8,8,8,8,8,8,8,8,8,8,8,8,8,8,8,8,8,8,8,8,8,8,8,8,8,8,8,8,8,8,8,8,8,8,8,8,8,8,8,8,8,8,8,8,8,8,8,8,8,8,8,8,8,8,8,8,8,8,8,8,8,8,8,8,8,8,8,8,8,8,8,8,8,8,8,8,8,8,8,8,8,8,8,8,8,8,8,8,8,8,8,8,8,8,8,8,8,8,8,8] (cvt .u8 (Sx.shr .u64 (Sx.shr .u64 x 32) 8))) fun c=>some (Sx.sub .i64 64 (add .i64 40 (cvt .i64 (Int.ofNat (UInt8.toNat c)))),()) else Option.bind (at? [0,1,2,2,3,3,3,3,4,4,4,4,4,4,4,4,5,5,5,5,5,5,5,5,5,5,5,5,5,5,5,5,6,6,6,6,6,6,6,6,6,6,6,6,6,6,6,6,6,6,6,6,6,6,6,6,6,6,6,6,6,6,6,6,7,7,7,7,7,7,7,7,7,7,7,7,7,7,7,7,7,7,7,7,7,7,7,7,7,7,7,7,7,7,7,7,7,7,7,7,7,7,7,7,7,7,7,7,7,7,7,7,7,7,7,7,7,7,7,7,7,7,7,7,7,7,7,7,8,8,8,8,8,8,8,8,8,8,8,8,8,8,8,8,8,8,8,8,8,8,8,8,8,8,8,8,8,8,8,8,8,8,8,8,8,8,8,8,8,8,8,8,8,8,8,8,8,8,8,8,8,8,8,8,8,8,8,8,8,8,8,8,8,8,8,8,8,8,8,8,8,8,8,8,8,8,8,8,8,8,8,8,8,8,8,8,8,8,8,8,8,8,8,8,8,8,8,8,8,8,8,8,8,8,8,8,8,8,8,8,8,8,8,8,8,8,8,8,8,8,8,8,8,8,8,8] (cvt .u8 (Sx.shr .u64 x 32))) fun c=>some (Sx.sub .i64 64 (add .i64 32 (cvt .i64 (Int.ofNat (UInt8.toNat c)))),()) else if ge x 65536=true then if ge (Sx.shr .u64 x 16) 256=true then Option.bind (at? [0,1,2,2,3,3,3,3,4,4,4,4,4,4,4,4,5,5,5,5,5,5,5,5,5,5,5,5,5,5,5,5,6,6,6,6,6,6,6,6,6,6,6,6,6,6,6,6,6,6,6,6,6,6,6,6,6,6,6,6,6,6,6,6,7,7,7,7,7,7,7,7,7,7,7,7,7,7,7,7,7,7,7,7,7,7,7,7,7,7,7,7,7,7,7,7,7,7,7,7,7,7,7,7,7,7,7,7,7,7,7,7,7,7,7,7,7,7,7,7,7,7,7,7,7,7,7,7,8,8,8,8,8,8,8,8,8,8,8,8,8,8,8,8,8,8,8,8,8,8,8,8,8,8,8,8,8,8,8,8,8,8,8,8,8,8,8,8,8,8,8,8,8,8,8,8,8,8,8,8,8,8,8,8,8,8,8,8,8,8,8,8,8,8,8,8,8,8,8,8,8,8,8,8,8,8,8,8,8,8,8,8,8,8,8,8,8,8,8,8,8,8,8,8,8,8,8,8,8,8,8,8,8,8,8,8,8,8,8,8,8,8,8,8,8,8,8,8,8,8,8,8,8,8,8,8] (cvt .u8 (Sx.shr .u64 (Sx.shr .u64 x 16) 8))) fun c=>some (Sx.sub .i64 64 (add .i64 24 (cvt .i64 (Int.ofNat (UInt8.toNat c)))),()) else Option.bind (at? [0,1,2,2,3,3,3,3,4,4,4,4,4,4,4,4,5,5,5,5,5,5,5,5,5,5,5,5,5,5,5,5,6,6,6,6,6,6,6,6,6,6,6,6,6,6,6,6,6,6,6,6,6,6,6,6,6,6,6,6,6,6,6,6,7,7,7,7,7,7,7,7,7,7,7,7,7,7,7,7,7,7,7,7,7,7,7,7,7,7,7,7,7,7,7,7,7,7,7,7,7,7,7,7,7,7,7,7,7,7,7,7,7,7,7,7,7,7,7,7,7,7,7,7,7,7,7,7,8,8,8,8,8,8,8,8,8,8,8,8,8,8,8,8,8,8,8,8,8,8,8,8,8,8,8,8,8,8,8,8,8,8,8,8,8,8,8,8,8,8,8,8,8,8,8,8,8,8,8,8,8,8,8,8,8,8,8,8,8,8,8,8,8,8,8,8,8,8,8,8,8,8,8,8,8,8,8,8,8,8,8,8,8,8,8,8,8,8,8,8,8,8,8,8,8,8,8,8,8,8,8,8,8,8,8,8,8,8,8,8,8,8,8,8,8,8,8,8,8,8,8,8,8,8,8,8] (cvt .u8 (Sx.shr .u64 x 16))) fun c=>some (Sx.sub .i64 64 (add .i64 16 (cvt .i64 (Int.ofNat (UInt8.toNat c)))),()) else if ge x 256=true then Option.bind (at? [0,1,2,2,3,3,3,3,4,4,4,4,4,4,4,4,5,5,5,5,5,5,5,5,5,5,5,5,5,5,5,5,6,6,6,6,6,6,6,6,6,6,6,6,6,6,6,6,6,6,6,6,6,6,6,6,6,6,6,6,6,6,6,6,7,7,7,7,7,7,7,7,7,7,7,7,7,7,7,7,7,7,7,7,7,7,7,7,7,7,7,7,7,7,7,7,7,7,7,7,7,7,7,7,7,7,7,7,7,7,7,7,7,7,7,7,7,7,7,7,7,7,7,7,7,7,7,7,8,8,8,8,8,8,8,8,8,8,8,8,8,8,8,8,8,8,8,8,8,8,8,8,8,8,8,8,8,8,8,8,8,8,8,8,8,8,8,8,8,8,8,8,8,8,8,8,8,8,8,8,8,8,8,8,8,8,8,8,8,8,8,8,8,8,8,8,8,8,8,8,8,8,8,8,8,8,8,8,8,8,8,8,8,8,8,8,8,8,8,8,8,8,8,8,8,8,8,8,8,8,8,8,8,8,8,8,8,8,8,8,8,8,8,8,8,8,8,8,8,8,8,8,8,8,8,8] (cvt .u8 (Sx.shr .u64 x 8))) fun c=>some (Sx.sub .i64 64 (add .i64 8 (cvt .i64 (Int.ofNat (UInt8.toNat c)))),()) else Option.bind (at? [0,1,2,2,3,3,3,3,4,4,4,4,4,4,4,4,5,5,5,5,5,5,5,5,5,5,5,5,5,5,5,5,6,6,6,6,6,6,6,6,6,6,6,6,6,6,6,6,6,6,6,6,6,6,6,6,6,6,6,6,6,6,6,6,7,7,7,7,7,7,7,7,7,7,7,7,7,7,7,7,7,7,7,7,7,7,7,7,7,7,7,7,7,7,7,7,7,7,7,7,7,7,7,7,7,7,7,7,7,7,7,7,7,7,7,7,7,7,7,7,7,7,7,7,7,7,7,7,8,8,8,8,8,8,8,8,8,8,8,8,8,8,8,8,8,8,8,8,8,8,8,8,8,8,8,8,8,8,8,8,8,8,8,8,8,8,8,8,8,8,8,8,8,8,8,8,8,8,8,8,8,8,8,8,8,8,8,8,8,8,8,8,8,8,8,8,8,8,8,8,8,8,8,8,8,8,8,8,8,8,8,8,8,8,8,8,8,8,8,8,8,8,8,8,8,8,8,8,8,8,8,8,8,8,8,8,8,8,8,8,8,8,8,8,8,8,8,8,8,8,8,8,8,8,8,8] (cvt .u8 x)) fun c=>some (Sx.sub .i64 64 (add .i64 0 (cvt .i64 (Int.ofNat (UInt8.toNat c)))),())
def q49_ (x:As [.int .u64]):Option (As [.int .i64]):=q55_ x.1
theorem bits_LeadingZeros64_ok:CtOk Try.prog (fun _=>True) 86 ⟨bits_LeadingZeros64_s,q49_⟩:=ctn qc_ 6 fun J x=>by kernel_rfl
@[reducible] def bits_Div64_s:Sh:=⟨[.d (.int .u64),.d (.int .u64),.d (.int .u64)],[],[.int .u64,.int .u64,.int .u64],[.d (.int .u64),.d (.int .u64)],[],0,[.int .u64,.int .u64]⟩
abbrev bits_Div64_R:=Option (As [.int .u64,.int .u64])
def bits_Div64_e:Env:=(cts [(86,(⟨bits_LeadingZeros64_s,q49_⟩:Ct))])
def bits_Div64_h:List (Nat×Hint):=[(3,⟨[],[0,1,2,70,71,72,73,74,75,76,77,105,106,107,108,109,110,111,112]⟩),(7,⟨[],[0,1,2,70,71,72,73,74,75,76,77,105,106,107,108,109,110,111,112]⟩),(32767,⟨[],[2,8,9,10,11,13,14,15,105,106,107,108,109,110,111,112]⟩),(524287,⟨[],[2,8,14,15,17,18]⟩),(2097148,⟨[],[2,8,9,10,14,15,16,17,18,105,106,107,108,109,110,111,112]⟩),(8388592,⟨[.agd 105 (.int .u64),.agd 106 (.int .u64),.agd 107 (.int .u64),.agd 108 (.int .u64),.agd 109 (.int .u64),.agd 110 (.int .u64),.agd 111 (.int .u64),.agd 112 .bool],[2,8,9,10,14,15,16,17,18,113]⟩),(131068,⟨[],[2,8,9,10,11,13,14,15,16,70,71,72,73,74,75,76,77,105,106,107,108,109,110,111,112]⟩),(524272,⟨[.agd 70 (.int .u64),.agd 71 (.int .u64),.agd 72 (.int .u64),.agd 73 (.int .u64),.agd 74 (.int .u64),.agd 75 (.int .u64),.agd 76 (.int .u64),.agd 77 .bool],[2,8,9,10,11,13,14,15,16,78]⟩)]
def bits_Div64_k1 (hi lo y:Int):St:=⟨[(0,.d (.int .u64) hi),(1,.d (.int .u64) lo),(2,.d (.int .u64) y)],135,[],[],0,[],0⟩
def bits_Div64_k2 (hi lo y:Int):St:=⟨[(0,.d (.int .u64) hi),(1,.d (.int .u64) lo),(2,.d (.int .u64) y)],135,[],[],0,[],0⟩
def q30_ (y s yn1 yn0 un32 un1 un0 q1 rhat:Int):St:=⟨[(2,.d (.int .u64) y),(8,.d (.int .u64) s),(9,.d (.int .u64) yn1),(10,.d (.int .u64) yn0),(11,.d (.int .u64) un32),(13,.d (.int .u64) un1),(14,.d (.int .u64) un0),(15,.d (.int .u64) q1),(16,.d (.int .u64) rhat)],135,[],[],0,[],0⟩
def bits_Div64_k4 (y s yn1 yn0 un32 un1 un0 q1 rhat:Int) (t78:Bool):St:=⟨[(2,.d (.int .u64) y),(8,.d (.int .u64) s),(9,.d (.int .u64) yn1),(10,.d (.int .u64) yn0),(11,.d (.int .u64) un32),(13,.d (.int .u64) un1),(14,.d (.int .u64) un0),(15,.d (.int .u64) q1),(16,.d (.int .u64) rhat),(78,dB t78)],135,[],[],0,[],0⟩
def bits_Div64_k5 (y s yn1 yn0 un32 un1 un0 q1:Int):St:=⟨[(2,.d (.int .u64) y),(8,.d (.int .u64) s),(9,.d (.int .u64) yn1),(10,.d (.int .u64) yn0),(11,.d (.int .u64) un32),(13,.d (.int .u64) un1),(14,.d (.int .u64) un0),(15,.d (.int .u64) q1)],135,[],[],0,[],0⟩
def q31_ (y s yn1 yn0 un0 q1 rhat un21 q0:Int):St:=⟨[(2,.d (.int .u64) y),(8,.d (.int .u64) s),(9,.d (.int .u64) yn1),(10,.d (.int .u64) yn0),(14,.d (.int .u64) un0),(15,.d (.int .u64) q1),(16,.d (.int .u64) rhat),(17,.d (.int .u64) un21),(18,.d (.int .u64) q0)],135,[],[],0,[],0⟩
def bits_Div64_k7 (y s yn1 yn0 un0 q1 rhat un21 q0:Int) (t113:Bool):St:=⟨[(2,.d (.int .u64) y),(8,.d (.int .u64) s),(9,.d (.int .u64) yn1),(10,.d (.int .u64) yn0),(14,.d (.int .u64) un0),(15,.d (.int .u64) q1),(16,.d (.int .u64) rhat),(17,.d (.int .u64) un21),(18,.d (.int .u64) q0),(113,dB t113)],135,[],[],0,[],0⟩
def bits_Div64_k8 (y s un0 q1 un21 q0:Int):St:=⟨[(2,.d (.int .u64) y),(8,.d (.int .u64) s),(14,.d (.int .u64) un0),(15,.d (.int .u64) q1),(17,.d (.int .u64) un21),(18,.d (.int .u64) q0)],135,[],[],0,[],0⟩
def bits_Div64_m1 (j2:Int->Int->Int->bits_Div64_R) (hi lo y:Int):bits_Div64_R :=
 if le y hi=true then Option.none else j2 hi lo y
def bits_Div64_m2 (j3:Int->Int->Int->Int->Int->Int->Int->Int->Int->bits_Div64_R) (hi lo y:Int):bits_Div64_R :=
 if eqi hi 0=true then need (nei y 0) (need (nei y 0) (some (quo .u64 lo y,rem lo y,()))) else Option.bind (q49_ (y,())) fun y_1=>need (ge (cvt .u64 y_1.1) 0) (need (ge (cvt .u64 y_1.1) 0) (need (ge (Sx.sub .u64 64 (cvt .u64 y_1.1)) 0) (need (ge (cvt .u64 y_1.1) 0) (need (nei (Sx.shr .u64 (Sx.shl .u64 y (cvt .u64 y_1.1)) 32) 0) (j3 (Sx.shl .u64 y (cvt .u64 y_1.1)) (cvt .u64 y_1.1) (Sx.shr .u64 (Sx.shl .u64 y (cvt .u64 y_1.1)) 32) (Sx.band .u64 (Sx.shl .u64 y (cvt .u64 y_1.1)) 4294967295) (Sx.bor .u64 (Sx.shl .u64 hi (cvt .u64 y_1.1)) (Sx.shr .u64 lo (Sx.sub .u64 64 (cvt .u64 y_1.1)))) (Sx.shr .u64 (Sx.shl .u64 lo (cvt .u64 y_1.1)) 32) (Sx.band .u64 (Sx.shl .u64 lo (cvt .u64 y_1.1)) 4294967295) (quo .u64 (Sx.bor .u64 (Sx.shl .u64 hi (cvt .u64 y_1.1)) (Sx.shr .u64 lo (Sx.sub .u64 64 (cvt .u64 y_1.1)))) (Sx.shr .u64 (Sx.shl .u64 y (cvt .u64 y_1.1)) 32)) (Sx.sub .u64 (Sx.bor .u64 (Sx.shl .u64 hi (cvt .u64 y_1.1)) (Sx.shr .u64 lo (Sx.sub .u64 64 (cvt .u64 y_1.1)))) (mul .u64 (quo .u64 (Sx.bor .u64 (Sx.shl .u64 hi (cvt .u64 y_1.1)) (Sx.shr .u64 lo (Sx.sub .u64 64 (cvt .u64 y_1.1)))) (Sx.shr .u64 (Sx.shl .u64 y (cvt .u64 y_1.1)) 32)) (Sx.shr .u64 (Sx.shl .u64 y (cvt .u64 y_1.1)) 32))))))))
def bits_Div64_m3 (j4:Int->Int->Int->Int->Int->Int->Int->Int->Int->Bool->bits_Div64_R) (self3:Int->Int->Int->Int->Int->Int->Int->Int->Int->bits_Div64_R) (y s yn1 yn0 un32 un1 un0 q1 rhat:Int):bits_Div64_R :=
 if ge q1 4294967296=true then j4 y s yn1 yn0 un32 un1 un0 q1 rhat true else j4 y s yn1 yn0 un32 un1 un0 q1 rhat (gt (mul .u64 q1 yn0) (add .u64 (mul .u64 4294967296 rhat) un1))
def bits_Div64_m4 (j5:Int->Int->Int->Int->Int->Int->Int->Int->bits_Div64_R) (self3:Int->Int->Int->Int->Int->Int->Int->Int->Int->bits_Div64_R) (y s yn1 yn0 un32 un1 un0 q1 rhat:Int) (t78:Bool):bits_Div64_R :=
 if t78=true then if ge (add .u64 rhat yn1) 4294967296=true then j5 y s yn1 yn0 un32 un1 un0 (Sx.sub .u64 q1 1) else self3 y s yn1 yn0 un32 un1 un0 (Sx.sub .u64 q1 1) (add .u64 rhat yn1) else j5 y s yn1 yn0 un32 un1 un0 q1
def bits_Div64_m5 (j6:Int->Int->Int->Int->Int->Int->Int->Int->Int->bits_Div64_R) (y s yn1 yn0 un32 un1 un0 q1:Int):bits_Div64_R :=
 need (nei yn1 0) (j6 y s yn1 yn0 un0 q1 (Sx.sub .u64 (Sx.sub .u64 (add .u64 (mul .u64 un32 4294967296) un1) (mul .u64 q1 y)) (mul .u64 (quo .u64 (Sx.sub .u64 (add .u64 (mul .u64 un32 4294967296) un1) (mul .u64 q1 y)) yn1) yn1)) (Sx.sub .u64 (add .u64 (mul .u64 un32 4294967296) un1) (mul .u64 q1 y)) (quo .u64 (Sx.sub .u64 (add .u64 (mul .u64 un32 4294967296) un1) (mul .u64 q1 y)) yn1))
def bits_Div64_m6 (j7:Int->Int->Int->Int->Int->Int->Int->Int->Int->Bool->bits_Div64_R) (self6:Int->Int->Int->Int->Int->Int->Int->Int->Int->bits_Div64_R) (y s yn1 yn0 un0 q1 rhat un21 q0:Int):bits_Div64_R :=
 if ge q0 4294967296=true then j7 y s yn1 yn0 un0 q1 rhat un21 q0 true else j7 y s yn1 yn0 un0 q1 rhat un21 q0 (gt (mul .u64 q0 yn0) (add .u64 (mul .u64 4294967296 rhat) un0))
def bits_Div64_m7 (j8:Int->Int->Int->Int->Int->Int->bits_Div64_R) (self6:Int->Int->Int->Int->Int->Int->Int->Int->Int->bits_Div64_R) (y s yn1 yn0 un0 q1 rhat un21 q0:Int) (t113:Bool):bits_Div64_R :=
 if t113=true then if ge (add .u64 rhat yn1) 4294967296=true then j8 y s un0 q1 un21 (Sx.sub .u64 q0 1) else self6 y s yn1 yn0 un0 q1 (add .u64 rhat yn1) un21 (Sx.sub .u64 q0 1) else j8 y s un0 q1 un21 q0
def bits_Div64_m8 (y s un0 q1 un21 q0:Int):bits_Div64_R :=
 need (ge s 0) (some (add .u64 (mul .u64 q1 4294967296) q0,Sx.shr .u64 (Sx.sub .u64 (add .u64 (mul .u64 un21 4294967296) un0) (mul .u64 q0 y)) s,()))
def bits_Div64_m0 (j1:Int->Int->Int->bits_Div64_R) (hi lo y:Int):bits_Div64_R :=
 if eqi y 0=true then Option.none else j1 hi lo y
def bits_Div64_K8 (y s un0 q1 un21 q0:Int):bits_Div64_R:=bits_Div64_m8 y s un0 q1 un21 q0
def bits_Div64_K7 (u6:Int->Int->Int->Int->Int->Int->Int->Int->Int->bits_Div64_R) (y s yn1 yn0 un0 q1 rhat un21 q0:Int) (t113:Bool):bits_Div64_R:=bits_Div64_m7 (bits_Div64_K8) u6 y s yn1 yn0 un0 q1 rhat un21 q0 t113
@[reducible] def zG2:Type:=(Int)×(Int)×(Int)×(Int)×(Int)×(Int)×(Int)×(Int)×(Int)
def bits_Div64_K6 (y s yn1 yn0 un0 q1 rhat un21 q0:Int):bits_Div64_R :=
 loopF (fun (self:(Int)×(Int)×(Int)×(Int)×(Int)×(Int)×(Int)×(Int)×(Int)->bits_Div64_R) (s:zG2)=>bits_Div64_m6 (bits_Div64_K7 (fun y s yn1 yn0 un0 q1 rhat un21 q0=>self (y,s,yn1,yn0,un0,q1,rhat,un21,q0))) (fun y s yn1 yn0 un0 q1 rhat un21 q0=>self (y,s,yn1,yn0,un0,q1,rhat,un21,q0)) s.1 s.2.1 s.2.2.1 s.2.2.2.1 s.2.2.2.2.1 s.2.2.2.2.2.1 s.2.2.2.2.2.2.1 s.2.2.2.2.2.2.2.1 s.2.2.2.2.2.2.2.2) 18446744073709551616 (y,s,yn1,yn0,un0,q1,rhat,un21,q0)
def bits_Div64_K5 (y s yn1 yn0 un32 un1 un0 q1:Int):bits_Div64_R:=bits_Div64_m5 (bits_Div64_K6) y s yn1 yn0 un32 un1 un0 q1
def bits_Div64_K4 (u3:Int->Int->Int->Int->Int->Int->Int->Int->Int->bits_Div64_R) (y s yn1 yn0 un32 un1 un0 q1 rhat:Int) (t78:Bool):bits_Div64_R:=bits_Div64_m4 (bits_Div64_K5) u3 y s yn1 yn0 un32 un1 un0 q1 rhat t78
def bits_Div64_K3 (y s yn1 yn0 un32 un1 un0 q1 rhat:Int):bits_Div64_R :=
 loopF (fun (self:(Int)×(Int)×(Int)×(Int)×(Int)×(Int)×(Int)×(Int)×(Int)->bits_Div64_R) (s:zG2)=>bits_Div64_m3 (bits_Div64_K4 (fun y s yn1 yn0 un32 un1 un0 q1 rhat=>self (y,s,yn1,yn0,un32,un1,un0,q1,rhat))) (fun y s yn1 yn0 un32 un1 un0 q1 rhat=>self (y,s,yn1,yn0,un32,un1,un0,q1,rhat)) s.1 s.2.1 s.2.2.1 s.2.2.2.1 s.2.2.2.2.1 s.2.2.2.2.2.1 s.2.2.2.2.2.2.1 s.2.2.2.2.2.2.2.1 s.2.2.2.2.2.2.2.2) 18446744073709551616 (y,s,yn1,yn0,un32,un1,un0,q1,rhat)
def bits_Div64_K2 (hi lo y:Int):bits_Div64_R:=bits_Div64_m2 (bits_Div64_K3) hi lo y
def bits_Div64_K1 (hi lo y:Int):bits_Div64_R:=bits_Div64_m1 (bits_Div64_K2) hi lo y
def bits_Div64 (x:As [.int .u64,.int .u64,.int .u64]):bits_Div64_R:=bits_Div64_m0 bits_Div64_K1 x.1 x.2.1 x.2.2.1
noncomputable abbrev bits_Div64_P:=pfn Try.prog bits_Div64_e 6 18446744073709551616 (Ev.get bits_Div64_h) 74 bits_Div64_s
theorem bits_Div64_c8 {J y s un0 q1 un21 q0}:bits_Div64_P J 524287 [] (bits_Div64_k8 y s un0 q1 un21 q0)=bits_Div64_m8 y s un0 q1 un21 q0:=by kernel_rfl
theorem bits_Div64_c7 {J w6 y s yn1 yn0 un0 q1 rhat un21 q0 t113}:bits_Div64_P J 8388592 [w6] (bits_Div64_k7 y s yn1 yn0 un0 q1 rhat un21 q0 t113)=bits_Div64_m7 (fun y s un0 q1 un21 q0=>J 524287 [] (bits_Div64_k8 y s un0 q1 un21 q0)) (fun y s yn1 yn0 un0 q1 rhat un21 q0=>w6 (q31_ y s yn1 yn0 un0 q1 rhat un21 q0)) y s yn1 yn0 un0 q1 rhat un21 q0 t113:=by kernel_rfl
theorem bits_Div64_c6 {J w6 y s yn1 yn0 un0 q1 rhat un21 q0}:bits_Div64_P J 2097148 [w6] (q31_ y s yn1 yn0 un0 q1 rhat un21 q0)=bits_Div64_m6 (fun y s yn1 yn0 un0 q1 rhat un21 q0 t113=>J 8388592 [w6] (bits_Div64_k7 y s yn1 yn0 un0 q1 rhat un21 q0 t113)) (fun y s yn1 yn0 un0 q1 rhat un21 q0=>w6 (q31_ y s yn1 yn0 un0 q1 rhat un21 q0)) y s yn1 yn0 un0 q1 rhat un21 q0:=by kernel_rfl
theorem bits_Div64_c5 {J y s yn1 yn0 un32 un1 un0 q1}:bits_Div64_P J 32767 [] (bits_Div64_k5 y s yn1 yn0 un32 un1 un0 q1)=bits_Div64_m5 (fun y s yn1 yn0 un0 q1 rhat un21 q0=>J 2097148 [] (q31_ y s yn1 yn0 un0 q1 rhat un21 q0)) y s yn1 yn0 un32 un1 un0 q1:=by kernel_rfl
theorem bits_Div64_c4 {J w3 y s yn1 yn0 un32 un1 un0 q1 rhat t78}:bits_Div64_P J 524272 [w3] (bits_Div64_k4 y s yn1 yn0 un32 un1 un0 q1 rhat t78)=bits_Div64_m4 (fun y s yn1 yn0 un32 un1 un0 q1=>J 32767 [] (bits_Div64_k5 y s yn1 yn0 un32 un1 un0 q1)) (fun y s yn1 yn0 un32 un1 un0 q1 rhat=>w3 (q30_ y s yn1 yn0 un32 un1 un0 q1 rhat)) y s yn1 yn0 un32 un1 un0 q1 rhat t78:=by kernel_rfl
theorem bits_Div64_c3 {J w3 y s yn1 yn0 un32 un1 un0 q1 rhat}:bits_Div64_P J 131068 [w3] (q30_ y s yn1 yn0 un32 un1 un0 q1 rhat)=bits_Div64_m3 (fun y s yn1 yn0 un32 un1 un0 q1 rhat t78=>J 524272 [w3] (bits_Div64_k4 y s yn1 yn0 un32 un1 un0 q1 rhat t78)) (fun y s yn1 yn0 un32 un1 un0 q1 rhat=>w3 (q30_ y s yn1 yn0 un32 un1 un0 q1 rhat)) y s yn1 yn0 un32 un1 un0 q1 rhat:=by kernel_rfl
theorem bits_Div64_c2 {J hi lo y}:bits_Div64_P J 7 [] (bits_Div64_k2 hi lo y)=bits_Div64_m2 (fun y s yn1 yn0 un32 un1 un0 q1 rhat=>J 131068 [] (q30_ y s yn1 yn0 un32 un1 un0 q1 rhat)) hi lo y:=by kernel_rfl
theorem bits_Div64_c1 {J hi lo y}:bits_Div64_P J 3 [] (bits_Div64_k1 hi lo y)=bits_Div64_m1 (fun hi lo y=>J 7 [] (bits_Div64_k2 hi lo y)) hi lo y:=by kernel_rfl
theorem bits_Div64_c0 (J:Orc (As [.int .u64,.int .u64])) (x:As [.int .u64,.int .u64,.int .u64]):rfn Try.prog bits_Div64_e 6 18446744073709551616 (Ev.get bits_Div64_h) 74 bits_Div64_s J x=bits_Div64_m0 (fun hi lo y=>J 3 [] (bits_Div64_k1 hi lo y)) x.1 x.2.1 x.2.2.1:=by kernel_rfl
noncomputable abbrev bits_Div64_J:=jfn Try.prog bits_Div64_e 6 18446744073709551616 (Ev.get bits_Div64_h) 74 bits_Div64_s
theorem bits_Div64_g8  (y s un0 q1 un21 q0):bits_Div64_J 524287 [] (bits_Div64_k8 y s un0 q1 un21 q0)=bits_Div64_K8 y s un0 q1 un21 q0:=gN (by decide) bits_Div64_c8
theorem bits_Div64_g7  (w6 y s yn1 yn0 un0 q1 rhat un21 q0 t113):bits_Div64_J 8388592 [w6] (bits_Div64_k7 y s yn1 yn0 un0 q1 rhat un21 q0 t113)=bits_Div64_K7 (fun y s yn1 yn0 un0 q1 rhat un21 q0=>w6 (q31_ y s yn1 yn0 un0 q1 rhat un21 q0)) y s yn1 yn0 un0 q1 rhat un21 q0 t113:=gN (by decide) (bits_Div64_c7.trans (by simp only [bits_Div64_g8]; rfl))
theorem bits_Div64_g6  (y s yn1 yn0 un0 q1 rhat un21 q0):bits_Div64_J 2097148 [] (q31_ y s yn1 yn0 un0 q1 rhat un21 q0)=bits_Div64_K6 y s yn1 yn0 un0 q1 rhat un21 q0:=gL (σ:=(Int)×(Int)×(Int)×(Int)×(Int)×(Int)×(Int)×(Int)×(Int)) (mk:=fun s=>q31_ s.1 s.2.1 s.2.2.1 s.2.2.2.1 s.2.2.2.2.1 s.2.2.2.2.2.1 s.2.2.2.2.2.2.1 s.2.2.2.2.2.2.2.1 s.2.2.2.2.2.2.2.2) (by decide) (by kernel_rfl) (fun w6 s=>bits_Div64_c6.trans (by simp only [bits_Div64_g7])) (y,s,yn1,yn0,un0,q1,rhat,un21,q0)
theorem bits_Div64_g5  (y s yn1 yn0 un32 un1 un0 q1):bits_Div64_J 32767 [] (bits_Div64_k5 y s yn1 yn0 un32 un1 un0 q1)=bits_Div64_K5 y s yn1 yn0 un32 un1 un0 q1:=gN (by decide) (bits_Div64_c5.trans (by simp only [bits_Div64_g6]; rfl))
theorem bits_Div64_g4  (w3 y s yn1 yn0 un32 un1 un0 q1 rhat t78):bits_Div64_J 524272 [w3] (bits_Div64_k4 y s yn1 yn0 un32 un1 un0 q1 rhat t78)=bits_Div64_K4 (fun y s yn1 yn0 un32 un1 un0 q1 rhat=>w3 (q30_ y s yn1 yn0 un32 un1 un0 q1 rhat)) y s yn1 yn0 un32 un1 un0 q1 rhat t78:=gN (by decide) (bits_Div64_c4.trans (by simp only [bits_Div64_g5]; rfl))
theorem bits_Div64_g3  (y s yn1 yn0 un32 un1 un0 q1 rhat):bits_Div64_J 131068 [] (q30_ y s yn1 yn0 un32 un1 un0 q1 rhat)=bits_Div64_K3 y s yn1 yn0 un32 un1 un0 q1 rhat:=gL (σ:=(Int)×(Int)×(Int)×(Int)×(Int)×(Int)×(Int)×(Int)×(Int)) (mk:=fun s=>q30_ s.1 s.2.1 s.2.2.1 s.2.2.2.1 s.2.2.2.2.1 s.2.2.2.2.2.1 s.2.2.2.2.2.2.1 s.2.2.2.2.2.2.2.1 s.2.2.2.2.2.2.2.2) (by decide) (by kernel_rfl) (fun w3 s=>bits_Div64_c3.trans (by simp only [bits_Div64_g4])) (y,s,yn1,yn0,un32,un1,un0,q1,rhat)
theorem bits_Div64_g2  (hi lo y):bits_Div64_J 7 [] (bits_Div64_k2 hi lo y)=bits_Div64_K2 hi lo y:=gN (by decide) (bits_Div64_c2.trans (by simp only [bits_Div64_g3]; rfl))
theorem bits_Div64_g1  (hi lo y):bits_Div64_J 3 [] (bits_Div64_k1 hi lo y)=bits_Div64_K1 hi lo y:=gN (by decide) (bits_Div64_c1.trans (by simp only [bits_Div64_g2]; rfl))
theorem bits_Div64_t (x:As [.int .u64,.int .u64,.int .u64]):evT Try.prog bits_Div64_e 6 18446744073709551616 (Ev.get bits_Div64_h) 74 bits_Div64_s x=bits_Div64 x:=by
 rw [rfn_eq,bits_Div64_c0]
 simp only [bits_Div64_g1]
 rfl
theorem bits_Div64_ok:CtOk Try.prog (fun _=>True) 74 ⟨bits_Div64_s,bits_Div64⟩:=qh_ (q3_ bits_LeadingZeros64_ok qc_) bits_Div64_t
@[reducible] def q4b_:Sh:=⟨[.d QVT9,.d (.int .i64),.d (.int .i64)],[],[.pr (.int .i64) (.int .u8),.int .i64,.int .i64],[.d QVT9,.d (.bool)],[],0,[.pr (.int .i64) (.int .u8),.bool]⟩
def q9e_:Env:=(cts [(54,(⟨q4k_,qj_⟩:Ct)),(63,(⟨q24_,q1x_⟩:Ct)),(73,(⟨bits_Mul64_s,bits_Mul64⟩:Ct)),(74,(⟨bits_Div64_s,bits_Div64⟩:Ct))])
def q9h_:List (Nat×Hint):=[(15,⟨[],[1,2,3,6,8,73,74,75]⟩),(1023,⟨[],[3,6,11,13]⟩),(8191,⟨[],[6,8,13]⟩),(4092,⟨[],[3,6,11,13,73,74,75]⟩),(16368,⟨[.agd 73 (.int .u64),.agd 74 (.int .u64),.agd 75 .bool],[3,6,11,13,76]⟩),(6,⟨[],[1,2,3,6,32,73,74,75]⟩)]
def qb6_ (num den:Int) (t32:Bool) (d d_2 t6 t6_2:Int):St:=⟨[(1,dI num),(2,dI den),(3,.pb 0 0),(6,.pb 1 0),(32,dB t32)],94,[],[(0,.box 75 [dI d,d8 d_2]),(1,.box 75 [dI t6,d8 t6_2])],2,[],0⟩
def qb7_ (num den n d d_2 t6 t6_2:Int):St:=⟨[(1,dI num),(2,dI den),(3,.pb 0 0),(6,.pb 1 0),(8,dI n)],94,[],[(0,.box 75 [dI d,d8 d_2]),(1,.box 75 [dI t6,d8 t6_2])],2,[],0⟩
def q26_ (q places d d_2 t6 t6_2:Int):St:=⟨[(3,.pb 0 0),(6,.pb 1 0),(11,.d (.int .u64) q),(13,d8 places)],94,[],[(0,.box 75 [dI d,d8 d_2]),(1,.box 75 [dI t6,d8 t6_2])],2,[],0⟩
def qby_ (q places:Int) (t76:Bool) (d d_2 t6 t6_2:Int):St:=⟨[(3,.pb 0 0),(6,.pb 1 0),(11,.d (.int .u64) q),(13,d8 places),(76,dB t76)],94,[],[(0,.box 75 [dI d,d8 d_2]),(1,.box 75 [dI t6,d8 t6_2])],2,[],0⟩
def qb0_ (q places d d_2 t6 t6_2:Int):St:=⟨[(3,.pb 0 0),(6,.pb 1 0),(11,.d (.int .u64) q),(13,d8 places)],94,[],[(0,.box 75 [dI d,d8 d_2]),(1,.box 75 [dI t6,d8 t6_2])],2,[],0⟩
def qbp_ (n places t6 t6_2:Int):St:=⟨[(6,.pb 0 0),(8,dI n),(13,d8 places)],94,[],[(0,.box 75 [dI t6,d8 t6_2])],1,[],0⟩
def qbu_ (j2:Int->Int->Int->Int->Int->Int->Int->Option (As [.pr (.int .i64) (.int .u8),.bool])) (num den:Int) (t32:Bool) (d d_2 t6 t6_2:Int):Option (As [.pr (.int .i64) (.int .u8),.bool]) :=
 if t32=true then some ((0,0),false,()) else if lt d 0=true then j2 num den (Sx.neg .i64 d) d d_2 t6 t6_2 else j2 num den d d d_2 t6 t6_2
@[reducible] def zG3:Type:=Int->Int->Int->Int->Int->Int->Option (As [.pr (.int .i64) (.int .u8),.bool])
def qb2_ (j3:zG3) (num den n d d_2 t6 t6_2:Int):Option (As [.pr (.int .i64) (.int .u8),.bool]) :=
 Option.bind (q1x_ (Sx.sub .i64 6 (cvt .i64 d_2),())) fun y=>Option.bind (bits_Mul64 (cvt .u64 (mul .i64 n y.1),cvt .u64 num,())) fun y=>if ge y.1 (cvt .u64 den)=true then some ((0,0),false,()) else Option.bind (bits_Div64 (y.1,y.2.1,cvt .u64 den,())) fun y=>if nei y.2.1 0=true then some ((0,0),false,()) else j3 y.1 6 d d_2 t6 t6_2
@[reducible] def zG4:Type:=Int->Int->Bool->Int->Int->Int->Int->Option (As [.pr (.int .i64) (.int .u8),.bool])
def q3r_ (j4:zG4) (self3:zG3) (q places d d_2 t6 t6_2:Int):Option (As [.pr (.int .i64) (.int .u8),.bool]) :=
 if gt places 0=true then j4 q places (eqi (rem q 10) 0) d d_2 t6 t6_2 else j4 q places false d d_2 t6 t6_2
def q7d_ (j5 self3:zG3) (q places:Int) (t76:Bool) (d d_2 t6 t6_2:Int):Option (As [.pr (.int .i64) (.int .u8),.bool]) :=
 if t76=true then self3 (quo .u64 q 10) (Sx.sub .u8 places 1) d d_2 t6 t6_2 else j5 q places d d_2 t6 t6_2
def qb3_ (j6:Int->Int->Int->Int->Option (As [.pr (.int .i64) (.int .u8),.bool])) (q places d d_2 t6 t6_2:Int):Option (As [.pr (.int .i64) (.int .u8),.bool]) :=
 if gt q 1000000000000=true then some ((0,0),false,()) else if lt d 0=true then j6 (Sx.neg .i64 (cvt .i64 q)) places t6 t6_2 else j6 (cvt .i64 q) places t6 t6_2
def qfe_ (n places t6 t6_2:Int):Option (As [.pr (.int .i64) (.int .u8),.bool]) :=
 some ((n,places),true,())
def q3p_ (j1:zG4) (d:Int×Int) (num den:Int):Option (As [.pr (.int .i64) (.int .u8),.bool]) :=
 Option.bind (qj_ (d,())) fun y=>if (!y.1)=true then j1 num den true d.1 d.2 0 0 else if lt num 1=true then j1 num den true d.1 d.2 0 0 else if gt num 1000000000=true then j1 num den true d.1 d.2 0 0 else if lt den 1=true then j1 num den true d.1 d.2 0 0 else j1 num den (gt den 1000000000) d.1 d.2 0 0
def qet_ (n places t6 t6_2:Int):Option (As [.pr (.int .i64) (.int .u8),.bool]):=qfe_ n places t6 t6_2
def q5x_ (q places d d_2 t6 t6_2:Int):Option (As [.pr (.int .i64) (.int .u8),.bool]):=qb3_ (qet_) q places d d_2 t6 t6_2
def q3o_ (u3:zG3) (q places:Int) (t76:Bool) (d d_2 t6 t6_2:Int):Option (As [.pr (.int .i64) (.int .u8),.bool]):=q7d_ (q5x_) u3 q places t76 d d_2 t6 t6_2
def qb4_ (q places d d_2 t6 t6_2:Int):Option (As [.pr (.int .i64) (.int .u8),.bool]) :=
 loopF (fun (self:(Int)×(Int)×(Int)×(Int)×(Int)×(Int)->Option (As [.pr (.int .i64) (.int .u8),.bool])) (s:(Int)×(Int)×(Int)×(Int)×(Int)×(Int))=>q3r_ (q3o_ (fun q places d d_2 t6 t6_2=>self (q,places,d,d_2,t6,t6_2))) (fun q places d d_2 t6 t6_2=>self (q,places,d,d_2,t6,t6_2)) s.1 s.2.1 s.2.2.1 s.2.2.2.1 s.2.2.2.2.1 s.2.2.2.2.2) 18446744073709551616 (q,places,d,d_2,t6,t6_2)
def q7m_ (num den n d d_2 t6 t6_2:Int):Option (As [.pr (.int .i64) (.int .u8),.bool]):=qb2_ (qb4_) num den n d d_2 t6 t6_2
def q27_ (num den:Int) (t32:Bool) (d d_2 t6 t6_2:Int):Option (As [.pr (.int .i64) (.int .u8),.bool]):=qbu_ (q7m_) num den t32 d d_2 t6 t6_2
def q38_ (x:As [.pr (.int .i64) (.int .u8),.int .i64,.int .i64]):Option (As [.pr (.int .i64) (.int .u8),.bool]):=q3p_ q27_ x.1 x.2.1 x.2.2.1
noncomputable abbrev units_Times_P:=pfn Try.prog q9e_ 6 18446744073709551616 (Ev.get q9h_) 58 q4b_
theorem qnk_ {J n places t6 t6_2}:units_Times_P J 8191 [] (qbp_ n places t6 t6_2)=qfe_ n places t6 t6_2:=by kernel_rfl
theorem qn5_ {J q places d d_2 t6 t6_2}:units_Times_P J 1023 [] (qb0_ q places d d_2 t6 t6_2)=qb3_ (fun n places t6 t6_2=>J 8191 [] (qbp_ n places t6 t6_2)) q places d d_2 t6 t6_2:=by kernel_rfl
theorem qm5_ {J w3 q places t76 d d_2 t6 t6_2}:units_Times_P J 16368 [w3] (qby_ q places t76 d d_2 t6 t6_2)=q7d_ (fun q places d d_2 t6 t6_2=>J 1023 [] (qb0_ q places d d_2 t6 t6_2)) (fun q places d d_2 t6 t6_2=>w3 (q26_ q places d d_2 t6 t6_2)) q places t76 d d_2 t6 t6_2:=by kernel_rfl
theorem qm9_ {J w3 q places d d_2 t6 t6_2}:units_Times_P J 4092 [w3] (q26_ q places d d_2 t6 t6_2)=q3r_ (fun q places t76 d d_2 t6 t6_2=>J 16368 [w3] (qby_ q places t76 d d_2 t6 t6_2)) (fun q places d d_2 t6 t6_2=>w3 (q26_ q places d d_2 t6 t6_2)) q places d d_2 t6 t6_2:=by kernel_rfl
theorem qok_ {J num den n d d_2 t6 t6_2}:units_Times_P J 15 [] (qb7_ num den n d d_2 t6 t6_2)=qb2_ (fun q places d d_2 t6 t6_2=>J 4092 [] (q26_ q places d d_2 t6 t6_2)) num den n d d_2 t6 t6_2:=by kernel_rfl
theorem qk0_ {J num den t32 d d_2 t6 t6_2}:units_Times_P J 6 [] (qb6_ num den t32 d d_2 t6 t6_2)=qbu_ (fun num den n d d_2 t6 t6_2=>J 15 [] (qb7_ num den n d d_2 t6 t6_2)) num den t32 d d_2 t6 t6_2:=by kernel_rfl
theorem qk5_ (J:Orc (As [.pr (.int .i64) (.int .u8),.bool])) (x:As [.pr (.int .i64) (.int .u8),.int .i64,.int .i64]):rfn Try.prog q9e_ 6 18446744073709551616 (Ev.get q9h_) 58 q4b_ J x=q3p_ (fun num den t32 d d_2 t6 t6_2=>J 6 [] (qb6_ num den t32 d d_2 t6 t6_2)) x.1 x.2.1 x.2.2.1:=by kernel_rfl
noncomputable abbrev units_Times_J:=jfn Try.prog q9e_ 6 18446744073709551616 (Ev.get q9h_) 58 q4b_
theorem qod_  (n places t6 t6_2):units_Times_J 8191 [] (qbp_ n places t6 t6_2)=qet_ n places t6 t6_2:=gN (by decide) qnk_
theorem qlp_  (q places d d_2 t6 t6_2):units_Times_J 1023 [] (qb0_ q places d d_2 t6 t6_2)=q5x_ q places d d_2 t6 t6_2:=gN (by decide) (qn5_.trans (by simp only [qod_]; rfl))
theorem qn2_  (w3 q places t76 d d_2 t6 t6_2):units_Times_J 16368 [w3] (qby_ q places t76 d d_2 t6 t6_2)=q3o_ (fun q places d d_2 t6 t6_2=>w3 (q26_ q places d d_2 t6 t6_2)) q places t76 d d_2 t6 t6_2:=gN (by decide) (qm5_.trans (by simp only [qlp_]; rfl))
theorem qjm_  (q places d d_2 t6 t6_2):units_Times_J 4092 [] (q26_ q places d d_2 t6 t6_2)=qb4_ q places d d_2 t6 t6_2:=gL (σ:=(Int)×(Int)×(Int)×(Int)×(Int)×(Int)) (mk:=fun s=>q26_ s.1 s.2.1 s.2.2.1 s.2.2.2.1 s.2.2.2.2.1 s.2.2.2.2.2) (by decide) (by kernel_rfl) (fun w3 s=>qm9_.trans (by simp only [qn2_])) (q,places,d,d_2,t6,t6_2)
theorem qne_  (num den n d d_2 t6 t6_2):units_Times_J 15 [] (qb7_ num den n d d_2 t6 t6_2)=q7m_ num den n d d_2 t6 t6_2:=gN (by decide) (qok_.trans (by simp only [qjm_]; rfl))
theorem qm2_  (num den t32 d d_2 t6 t6_2):units_Times_J 6 [] (qb6_ num den t32 d d_2 t6 t6_2)=q27_ num den t32 d d_2 t6 t6_2:=gN (by decide) (qk0_.trans (by simp only [qne_]; rfl))
theorem qqa_ (x:As [.pr (.int .i64) (.int .u8),.int .i64,.int .i64]):evT Try.prog q9e_ 6 18446744073709551616 (Ev.get q9h_) 58 q4b_ x=q38_ x:=by
 rw [rfn_eq,qk5_]
 simp only [qm2_]
 rfl
theorem qm1_:CtOk Try.prog (fun _=>True) 58 ⟨q4b_,q38_⟩:=qh_ (q3_ q5o_ (q3_ qay_ (q3_ bits_Mul64_ok (q3_ bits_Div64_ok qc_)))) qqa_
@[reducible] def q67_:Sh:=⟨[.d QVT9,.d (.str),.d (.str)],[],[.pr (.int .i64) (.int .u8),.str,.str],[.d QVT9,.d (.bool)],[],0,[.pr (.int .i64) (.int .u8),.bool]⟩
def qde_:Env:=(cts [(58,(⟨q4b_,q38_⟩:Ct))])
def qdc_:List (Nat×Hint):=[(62,⟨[],[3,6,9,11,38]⟩)]
def qej_ (t38:Bool) (d d_2 t6 t6_2:Int) (a:List UInt8) (a_2 a_3:Int) (b:List UInt8) (b_2 b_3:Int):St:=⟨[(3,.pb 0 0),(6,.pb 1 0),(9,.pb 2 0),(11,.pb 3 0),(38,dB t38)],54,[],[(0,.box 75 [dI d,d8 d_2]),(1,.box 75 [dI t6,d8 t6_2]),(2,.box 103 [dS a,dI a_2,dI a_3]),(3,.box 103 [dS b,dI b_2,dI b_3])],4,[],0⟩
def qci_ (t38:Bool) (d d_2 t6 t6_2:Int) (a:List UInt8) (a_2 a_3:Int) (b:List UInt8) (b_2 b_3:Int):Option (As [.pr (.int .i64) (.int .u8),.bool]) :=
 if t38=true then some ((0,0),false,()) else Option.bind (q38_ ((d,d_2),mul .i64 a_2 b_3,mul .i64 a_3 b_2,())) fun y=>some (y.1,y.2.1,())
def qii_ (j1:Bool->Int->Int->Int->Int->List UInt8->Int->Int->List UInt8->Int->Int->Option (As [.pr (.int .i64) (.int .u8),.bool])) (d:Int×Int) (from' to':List UInt8):Option (As [.pr (.int .i64) (.int .u8),.bool]) :=
 if (!Ev.isV (.pr .str QVT8) (if eqs [] from'=true then some ([],1,1) else if eqs [37] from'=true then some ([],1,1) else if eqs [109] from'=true then some ([109],1,1) else if eqs [99,109] from'=true then some ([109],1,100) else if eqs [109,109] from'=true then some ([109],1,1000) else if eqs [115] from'=true then some ([115],1,1) else if eqs [109,115] from'=true then some ([115],1,1000) else if eqs [109,105,110] from'=true then some ([115],60,1) else if eqs [104] from'=true then some ([115],3600,1) else if eqs [98,97,114] from'=true then some ([98,97,114],1,1) else if eqs [109,98,97,114] from'=true then some ([98,97,114],1,1000) else if eqs [107,80,97] from'=true then some ([98,97,114],1,100) else if eqs [107,103] from'=true then some ([107,103],1,1) else if eqs [103] from'=true then some ([107,103],1,1000) else if eqs [116] from'=true then some ([107,103],1000,1) else if eqs [108] from'=true then some ([108],1,1) else if eqs [109,108] from'=true then some ([108],1,1000) else if eqs [67] from'=true then some ([67],1,1) else Option.none))=true then j1 true d.1 d.2 0 0 (Ev.gdV (.pr .str QVT8) (if eqs [] from'=true then some ([],1,1) else if eqs [37] from'=true then some ([],1,1) else if eqs [109] from'=true then some ([109],1,1) else if eqs [99,109] from'=true then some ([109],1,100) else if eqs [109,109] from'=true then some ([109],1,1000) else if eqs [115] from'=true then some ([115],1,1) else if eqs [109,115] from'=true then some ([115],1,1000) else if eqs [109,105,110] from'=true then some ([115],60,1) else if eqs [104] from'=true then some ([115],3600,1) else if eqs [98,97,114] from'=true then some ([98,97,114],1,1) else if eqs [109,98,97,114] from'=true then some ([98,97,114],1,1000) else if eqs [107,80,97] from'=true then some ([98,97,114],1,100) else if eqs [107,103] from'=true then some ([107,103],1,1) else if eqs [103] from'=true then some ([107,103],1,1000) else if eqs [116] from'=true then some ([107,103],1000,1) else if eqs [108] from'=true then some ([108],1,1) else if eqs [109,108] from'=true then some ([108],1,1000) else if eqs [67] from'=true then some ([67],1,1) else Option.none) ([],0,0)).1 (Ev.gdV (.pr .str QVT8) (if eqs [] from'=true then some ([],1,1) else if eqs [37] from'=true then some ([],1,1) else if eqs [109] from'=true then some ([109],1,1) else if eqs [99,109] from'=true then some ([109],1,100) else if eqs [109,109] from'=true then some ([109],1,1000) else if eqs [115] from'=true then some ([115],1,1) else if eqs [109,115] from'=true then some ([115],1,1000) else if eqs [109,105,110] from'=true then some ([115],60,1) else if eqs [104] from'=true then some ([115],3600,1) else if eqs [98,97,114] from'=true then some ([98,97,114],1,1) else if eqs [109,98,97,114] from'=true then some ([98,97,114],1,1000) else if eqs [107,80,97] from'=true then some ([98,97,114],1,100) else if eqs [107,103] from'=true then some ([107,103],1,1) else if eqs [103] from'=true then some ([107,103],1,1000) else if eqs [116] from'=true then some ([107,103],1000,1) else if eqs [108] from'=true then some ([108],1,1) else if eqs [109,108] from'=true then some ([108],1,1000) else if eqs [67] from'=true then some ([67],1,1) else Option.none) ([],0,0)).2.1 (Ev.gdV (.pr .str QVT8) (if eqs [] from'=true then some ([],1,1) else if eqs [37] from'=true then some ([],1,1) else if eqs [109] from'=true then some ([109],1,1) else if eqs [99,109] from'=true then some ([109],1,100) else if eqs [109,109] from'=true then some ([109],1,1000) else if eqs [115] from'=true then some ([115],1,1) else if eqs [109,115] from'=true then some ([115],1,1000) else if eqs [109,105,110] from'=true then some ([115],60,1) else if eqs [104] from'=true then some ([115],3600,1) else if eqs [98,97,114] from'=true then some ([98,97,114],1,1) else if eqs [109,98,97,114] from'=true then some ([98,97,114],1,1000) else if eqs [107,80,97] from'=true then some ([98,97,114],1,100) else if eqs [107,103] from'=true then some ([107,103],1,1) else if eqs [103] from'=true then some ([107,103],1,1000) else if eqs [116] from'=true then some ([107,103],1000,1) else if eqs [108] from'=true then some ([108],1,1) else if eqs [109,108] from'=true then some ([108],1,1000) else if eqs [67] from'=true then some ([67],1,1) else Option.none) ([],0,0)).2.2 (Ev.gdV (.pr .str QVT8) (if eqs [] to'=true then some ([],1,1) else if eqs [37] to'=true then some ([],1,1) else if eqs [109] to'=true then some ([109],1,1) else if eqs [99,109] to'=true then some ([109],1,100) else if eqs [109,109] to'=true then some ([109],1,1000) else if eqs [115] to'=true then some ([115],1,1) else if eqs [109,115] to'=true then some ([115],1,1000) else if eqs [109,105,110] to'=true then some ([115],60,1) else if eqs [104] to'=true then some ([115],3600,1) else if eqs [98,97,114] to'=true then some ([98,97,114],1,1) else if eqs [109,98,97,114] to'=true then some ([98,97,114],1,1000) else if eqs [107,80,97] to'=true then some ([98,97,114],1,100) else if eqs [107,103] to'=true then some ([107,103],1,1) else if eqs [103] to'=true then some ([107,103],1,1000) else if eqs [116] to'=true then some ([107,103],1000,1) else if eqs [108] to'=true then some ([108],1,1) else if eqs [109,108] to'=true then some ([108],1,1000) else if eqs [67] to'=true then some ([67],1,1) else Option.none) ([],0,0)).1 (Ev.gdV (.pr .str QVT8) (if eqs [] to'=true then some ([],1,1) else if eqs [37] to'=true then some ([],1,1) else if eqs [109] to'=true then some ([109],1,1) else if eqs [99,109] to'=true then some ([109],1,100) else if eqs [109,109] to'=true then some ([109],1,1000) else if eqs [115] to'=true then some ([115],1,1) else if eqs [109,115] to'=true then some ([115],1,1000) else if eqs [109,105,110] to'=true then some ([115],60,1) else if eqs [104] to'=true then some ([115],3600,1) else if eqs [98,97,114] to'=true then some ([98,97,114],1,1) else if eqs [109,98,97,114] to'=true then some ([98,97,114],1,1000) else if eqs [107,80,97] to'=true then some ([98,97,114],1,100) else if eqs [107,103] to'=true then some ([107,103],1,1) else if eqs [103] to'=true then some ([107,103],1,1000) else if eqs [116] to'=true then some ([107,103],1000,1) else if eqs [108] to'=true then some ([108],1,1) else if eqs [109,108] to'=true then some ([108],1,1000) else if eqs [67] to'=true then some ([67],1,1) else Option.none) ([],0,0)).2.1 (Ev.gdV (.pr .str QVT8) (if eqs [] to'=true then some ([],1,1) else if eqs [37] to'=true then some ([],1,1) else if eqs [109] to'=true then some ([109],1,1) else if eqs [99,109] to'=true then some ([109],1,100) else if eqs [109,109] to'=true then some ([109],1,1000) else if eqs [115] to'=true then some ([115],1,1) else if eqs [109,115] to'=true then some ([115],1,1000) else if eqs [109,105,110] to'=true then some ([115],60,1) else if eqs [104] to'=true then some ([115],3600,1) else if eqs [98,97,114] to'=true then some ([98,97,114],1,1) else if eqs [109,98,97,114] to'=true then some ([98,97,114],1,1000) else if eqs [107,80,97] to'=true then some ([98,97,114],1,100) else if eqs [107,103] to'=true then some ([107,103],1,1) else if eqs [103] to'=true then some ([107,103],1,1000) else if eqs [116] to'=true then some ([107,103],1000,1) else if eqs [108] to'=true then some ([108],1,1) else if eqs [109,108] to'=true then some ([108],1,1000) else if eqs [67] to'=true then some ([67],1,1) else Option.none) ([],0,0)).2.2 else if (!Ev.isV (.pr .str QVT8) (if eqs [] to'=true then some ([],1,1) else if eqs [37] to'=true then some ([],1,1) else if eqs [109] to'=true then some ([109],1,1) else if eqs [99,109] to'=true then some ([109],1,100) else if eqs [109,109] to'=true then some ([109],1,1000) else if eqs [115] to'=true then some ([115],1,1) else if eqs [109,115] to'=true then some ([115],1,1000) else if eqs [109,105,110] to'=true then some ([115],60,1) else if eqs [104] to'=true then some ([115],3600,1) else if eqs [98,97,114] to'=true then some ([98,97,114],1,1) else if eqs [109,98,97,114] to'=true then some ([98,97,114],1,1000) else if eqs [107,80,97] to'=true then some ([98,97,114],1,100) else if eqs [107,103] to'=true then some ([107,103],1,1) else if eqs [103] to'=true then some ([107,103],1,1000) else if eqs [116] to'=true then some ([107,103],1000,1) else if eqs [108] to'=true then some ([108],1,1) else if eqs [109,108] to'=true then some ([108],1,1000) else if eqs [67] to'=true then some ([67],1,1) else Option.none))=true then j1 true d.1 d.2 0 0 (Ev.gdV (.pr .str QVT8) (if eqs [] from'=true then some ([],1,1) else if eqs [37] from'=true then some ([],1,1) else if eqs [109] from'=true then some ([109],1,1) else if eqs [99,109] from'=true then some ([109],1,100) else if eqs [109,109] from'=true then some ([109],1,1000) else if eqs [115] from'=true then some ([115],1,1) else if eqs [109,115] from'=true then some ([115],1,1000) else if eqs [109,105,110] from'=true then some ([115],60,1) else if eqs [104] from'=true then some ([115],3600,1) else if eqs [98,97,114] from'=true then some ([98,97,114],1,1) else if eqs [109,98,97,114] from'=true then some ([98,97,114],1,1000) else if eqs [107,80,97] from'=true then some ([98,97,114],1,100) else if eqs [107,103] from'=true then some ([107,103],1,1) else if eqs [103] from'=true then some ([107,103],1,1000) else if eqs [116] from'=true then some ([107,103],1000,1) else if eqs [108] from'=true then some ([108],1,1) else if eqs [109,108] from'=true then some ([108],1,1000) else if eqs [67] from'=true then some ([67],1,1) else Option.none) ([],0,0)).1 (Ev.gdV (.pr .str QVT8) (if eqs [] from'=true then some ([],1,1) else if eqs [37] from'=true then some ([],1,1) else if eqs [109] from'=true then some ([109],1,1) else if eqs [99,109] from'=true then some ([109],1,100) else if eqs [109,109] from'=true then some ([109],1,1000) else if eqs [115] from'=true then some ([115],1,1) else if eqs [109,115] from'=true then some ([115],1,1000) else if eqs [109,105,110] from'=true then some ([115],60,1) else if eqs [104] from'=true then some ([115],3600,1) else if eqs [98,97,114] from'=true then some ([98,97,114],1,1) else if eqs [109,98,97,114] from'=true then some ([98,97,114],1,1000) else if eqs [107,80,97] from'=true then some ([98,97,114],1,100) else if eqs [107,103] from'=true then some ([107,103],1,1) else if eqs [103] from'=true then some ([107,103],1,1000) else if eqs [116] from'=true then some ([107,103],1000,1) else if eqs [108] from'=true then some ([108],1,1) else if eqs [109,108] from'=true then some ([108],1,1000) else if eqs [67] from'=true then some ([67],1,1) else Option.none) ([],0,0)).2.1 (Ev.gdV (.pr .str QVT8) (if eqs [] from'=true then some ([],1,1) else if eqs [37] from'=true then some ([],1,1) else if eqs [109] from'=true then some ([109],1,1) else if eqs [99,109] from'=true then some ([109],1,100) else if eqs [109,109] from'=true then some ([109],1,1000) else if eqs [115] from'=true then some ([115],1,1) else if eqs [109,115] from'=true then some ([115],1,1000) else if eqs [109,105,110] from'=true then some ([115],60,1) else if eqs [104] from'=true then some ([115],3600,1) else if eqs [98,97,114] from'=true then some ([98,97,114],1,1) else if eqs [109,98,97,114] from'=true then some ([98,97,114],1,1000) else if eqs [107,80,97] from'=true then some ([98,97,114],1,100) else if eqs [107,103] from'=true then some ([107,103],1,1) else if eqs [103] from'=true then some ([107,103],1,1000) else if eqs [116] from'=true then some ([107,103],1000,1) else if eqs [108] from'=true then some ([108],1,1) else if eqs [109,108] from'=true then some ([108],1,1000) else if eqs [67] from'=true then some ([67],1,1) else Option.none) ([],0,0)).2.2 (Ev.gdV (.pr .str QVT8) (if eqs [] to'=true then some ([],1,1) else if eqs [37] to'=true then some ([],1,1) else if eqs [109] to'=true then some ([109],1,1) else if eqs [99,109] to'=true then some ([109],1,100) else if eqs [109,109] to'=true then some ([109],1,1000) else if eqs [115] to'=true then some ([115],1,1) else if eqs [109,115] to'=true then some ([115],1,1000) else if eqs [109,105,110] to'=true then some ([115],60,1) else if eqs [104] to'=true then some ([115],3600,1) else if eqs [98,97,114] to'=true then some ([98,97,114],1,1) else if eqs [109,98,97,114] to'=true then some ([98,97,114],1,1000) else if eqs [107,80,97] to'=true then some ([98,97,114],1,100) else if eqs [107,103] to'=true then some ([107,103],1,1) else if eqs [103] to'=true then some ([107,103],1,1000) else if eqs [116] to'=true then some ([107,103],1000,1) else if eqs [108] to'=true then some ([108],1,1) else if eqs [109,108] to'=true then some ([108],1,1000) else if eqs [67] to'=true then some ([67],1,1) else Option.none) ([],0,0)).1 (Ev.gdV (.pr .str QVT8) (if eqs [] to'=true then some ([],1,1) else if eqs [37] to'=true then some ([],1,1) else if eqs [109] to'=true then some ([109],1,1) else if eqs [99,109] to'=true then some ([109],1,100) else if eqs [109,109] to'=true then some ([109],1,1000) else if eqs [115] to'=true then some ([115],1,1) else if eqs [109,115] to'=true then some ([115],1,1000) else if eqs [109,105,110] to'=true then some ([115],60,1) else if eqs [104] to'=true then some ([115],3600,1) else if eqs [98,97,114] to'=true then some ([98,97,114],1,1) else if eqs [109,98,97,114] to'=true then some ([98,97,114],1,1000) else if eqs [107,80,97] to'=true then some ([98,97,114],1,100) else if eqs [107,103] to'=true then some ([107,103],1,1) else if eqs [103] to'=true then some ([107,103],1,1000) else if eqs [116] to'=true then some ([107,103],1000,1) else if eqs [108] to'=true then some ([108],1,1) else if eqs [109,108] to'=true then some ([108],1,1000) else if eqs [67] to'=true then some ([67],1,1) else Option.none) ([],0,0)).2.1 (Ev.gdV (.pr .str QVT8) (if eqs [] to'=true then some ([],1,1) else if eqs [37] to'=true then some ([],1,1) else if eqs [109] to'=true then some ([109],1,1) else if eqs [99,109] to'=true then some ([109],1,100) else if eqs [109,109] to'=true then some ([109],1,1000) else if eqs [115] to'=true then some ([115],1,1) else if eqs [109,115] to'=true then some ([115],1,1000) else if eqs [109,105,110] to'=true then some ([115],60,1) else if eqs [104] to'=true then some ([115],3600,1) else if eqs [98,97,114] to'=true then some ([98,97,114],1,1) else if eqs [109,98,97,114] to'=true then some ([98,97,114],1,1000) else if eqs [107,80,97] to'=true then some ([98,97,114],1,100) else if eqs [107,103] to'=true then some ([107,103],1,1) else if eqs [103] to'=true then some ([107,103],1,1000) else if eqs [116] to'=true then some ([107,103],1000,1) else if eqs [108] to'=true then some ([108],1,1) else if eqs [109,108] to'=true then some ([108],1,1000) else if eqs [67] to'=true then some ([67],1,1) else Option.none) ([],0,0)).2.2 else j1 (nes (Ev.gdV (.pr .str QVT8) (if eqs [] from'=true then some ([],1,1) else if eqs [37] from'=true then some ([],1,1) else if eqs [109] from'=true then some ([109],1,1) else if eqs [99,109] from'=true then some ([109],1,100) else if eqs [109,109] from'=true then some ([109],1,1000) else if eqs [115] from'=true then some ([115],1,1) else if eqs [109,115] from'=true then some ([115],1,1000) else if eqs [109,105,110] from'=true then some ([115],60,1) else if eqs [104] from'=true then some ([115],3600,1) else if eqs [98,97,114] from'=true then some ([98,97,114],1,1) else if eqs [109,98,97,114] from'=true then some ([98,97,114],1,1000) else if eqs [107,80,97] from'=true then some ([98,97,114],1,100) else if eqs [107,103] from'=true then some ([107,103],1,1) else if eqs [103] from'=true then some ([107,103],1,1000) else if eqs [116] from'=true then some ([107,103],1000,1) else if eqs [108] from'=true then some ([108],1,1) else if eqs [109,108] from'=true then some ([108],1,1000) else if eqs [67] from'=true then some ([67],1,1) else Option.none) ([],0,0)).1 (Ev.gdV (.pr .str QVT8) (if eqs [] to'=true then some ([],1,1) else if eqs [37] to'=true then some ([],1,1) else if eqs [109] to'=true then some ([109],1,1) else if eqs [99,109] to'=true then some ([109],1,100) else if eqs [109,109] to'=true then some ([109],1,1000) else if eqs [115] to'=true then some ([115],1,1) else if eqs [109,115] to'=true then some ([115],1,1000) else if eqs [109,105,110] to'=true then some ([115],60,1) else if eqs [104] to'=true then some ([115],3600,1) else if eqs [98,97,114] to'=true then some ([98,97,114],1,1) else if eqs [109,98,97,114] to'=true then some ([98,97,114],1,1000) else if eqs [107,80,97] to'=true then some ([98,97,114],1,100) else if eqs [107,103] to'=true then some ([107,103],1,1) else if eqs [103] to'=true then some ([107,103],1,1000) else if eqs [116] to'=true then some ([107,103],1000,1) else if eqs [108] to'=true then some ([108],1,1) else if eqs [109,108] to'=true then some ([108],1,1000) else if eqs [67] to'=true then some ([67],1,1) else Option.none) ([],0,0)).1) d.1 d.2 0 0 (Ev.gdV (.pr .str QVT8) (if eqs [] from'=true then some ([],1,1) else if eqs [37] from'=true then some ([],1,1) else if eqs [109] from'=true then some ([109],1,1) else if eqs [99,109] from'=true then some ([109],1,100) else if eqs [109,109] from'=true then some ([109],1,1000) else if eqs [115] from'=true then some ([115],1,1) else if eqs [109,115] from'=true then some ([115],1,1000) else if eqs [109,105,110] from'=true then some ([115],60,1) else if eqs [104] from'=true then some ([115],3600,1) else if eqs [98,97,114] from'=true then some ([98,97,114],1,1) else if eqs [109,98,97,114] from'=true then some ([98,97,114],1,1000) else if eqs [107,80,97] from'=true then some ([98,97,114],1,100) else if eqs [107,103] from'=true then some ([107,103],1,1) else if eqs [103] from'=true then some ([107,103],1,1000) else if eqs [116] from'=true then some ([107,103],1000,1) else if eqs [108] from'=true then some ([108],1,1) else if eqs [109,108] from'=true then some ([108],1,1000) else if eqs [67] from'=true then some ([67],1,1) else Option.none) ([],0,0)).1 (Ev.gdV (.pr .str QVT8) (if eqs [] from'=true then some ([],1,1) else if eqs [37] from'=true then some ([],1,1) else if eqs [109] from'=true then some ([109],1,1) else if eqs [99,109] from'=true then some ([109],1,100) else if eqs [109,109] from'=true then some ([109],1,1000) else if eqs [115] from'=true then some ([115],1,1) else if eqs [109,115] from'=true then some ([115],1,1000) else if eqs [109,105,110] from'=true then some ([115],60,1) else if eqs [104] from'=true then some ([115],3600,1) else if eqs [98,97,114] from'=true then some ([98,97,114],1,1) else if eqs [109,98,97,114] from'=true then some ([98,97,114],1,1000) else if eqs [107,80,97] from'=true then some ([98,97,114],1,100) else if eqs [107,103] from'=true then some ([107,103],1,1) else if eqs [103] from'=true then some ([107,103],1,1000) else if eqs [116] from'=true then some ([107,103],1000,1) else if eqs [108] from'=true then some ([108],1,1) else if eqs [109,108] from'=true then some ([108],1,1000) else if eqs [67] from'=true then some ([67],1,1) else Option.none) ([],0,0)).2.1 (Ev.gdV (.pr .str QVT8) (if eqs [] from'=true then some ([],1,1) else if eqs [37] from'=true then some ([],1,1) else if eqs [109] from'=true then some ([109],1,1) else if eqs [99,109] from'=true then some ([109],1,100) else if eqs [109,109] from'=true then some ([109],1,1000) else if eqs [115] from'=true then some ([115],1,1) else if eqs [109,115] from'=true then some ([115],1,1000) else if eqs [109,105,110] from'=true then some ([115],60,1) else if eqs [104] from'=true then some ([115],3600,1) else if eqs [98,97,114] from'=true then some ([98,97,114],1,1) else if eqs [109,98,97,114] from'=true then some ([98,97,114],1,1000) else if eqs [107,80,97] from'=true then some ([98,97,114],1,100) else if eqs [107,103] from'=true then some ([107,103],1,1) else if eqs [103] from'=true then some ([107,103],1,1000) else if eqs [116] from'=true then some ([107,103],1000,1) else if eqs [108] from'=true then some ([108],1,1) else if eqs [109,108] from'=true then some ([108],1,1000) else if eqs [67] from'=true then some ([67],1,1) else Option.none) ([],0,0)).2.2 (Ev.gdV (.pr .str QVT8) (if eqs [] to'=true then some ([],1,1) else if eqs [37] to'=true then some ([],1,1) else if eqs [109] to'=true then some ([109],1,1) else if eqs [99,109] to'=true then some ([109],1,100) else if eqs [109,109] to'=true then some ([109],1,1000) else if eqs [115] to'=true then some ([115],1,1) else if eqs [109,115] to'=true then some ([115],1,1000) else if eqs [109,105,110] to'=true then some ([115],60,1) else if eqs [104] to'=true then some ([115],3600,1) else if eqs [98,97,114] to'=true then some ([98,97,114],1,1) else if eqs [109,98,97,114] to'=true then some ([98,97,114],1,1000) else if eqs [107,80,97] to'=true then some ([98,97,114],1,100) else if eqs [107,103] to'=true then some ([107,103],1,1) else if eqs [103] to'=true then some ([107,103],1,1000) else if eqs [116] to'=true then some ([107,103],1000,1) else if eqs [108] to'=true then some ([108],1,1) else if eqs [109,108] to'=true then some ([108],1,1000) else if eqs [67] to'=true then some ([67],1,1) else Option.none) ([],0,0)).1 (Ev.gdV (.pr .str QVT8) (if eqs [] to'=true then some ([],1,1) else if eqs [37] to'=true then some ([],1,1) else if eqs [109] to'=true then some ([109],1,1) else if eqs [99,109] to'=true then some ([109],1,100) else if eqs [109,109] to'=true then some ([109],1,1000) else if eqs [115] to'=true then some ([115],1,1) else if eqs [109,115] to'=true then some ([115],1,1000) else if eqs [109,105,110] to'=true then some ([115],60,1) else if eqs [104] to'=true then some ([115],3600,1) else if eqs [98,97,114] to'=true then some ([98,97,114],1,1) else if eqs [109,98,97,114] to'=true then some ([98,97,114],1,1000) else if eqs [107,80,97] to'=true then some ([98,97,114],1,100) else if eqs [107,103] to'=true then some ([107,103],1,1) else if eqs [103] to'=true then some ([107,103],1,1000) else if eqs [116] to'=true then some ([107,103],1000,1) else if eqs [108] to'=true then some ([108],1,1) else if eqs [109,108] to'=true then some ([108],1,1000) else if eqs [67] to'=true then some ([67],1,1) else Option.none) ([],0,0)).2.1 (Ev.gdV (.pr .str QVT8) (if eqs [] to'=true then some ([],1,1) else if eqs [37] to'=true then some ([],1,1) else if eqs [109] to'=true then some ([109],1,1) else if eqs [99,109] to'=true then some ([109],1,100) else if eqs [109,109] to'=true then some ([109],1,1000) else if eqs [115] to'=true then some ([115],1,1) else if eqs [109,115] to'=true then some ([115],1,1000) else if eqs [109,105,110] to'=true then some ([115],60,1) else if eqs [104] to'=true then some ([115],3600,1) else if eqs [98,97,114] to'=true then some ([98,97,114],1,1) else if eqs [109,98,97,114] to'=true then some ([98,97,114],1,1000) else if eqs [107,80,97] to'=true then some ([98,97,114],1,100) else if eqs [107,103] to'=true then some ([107,103],1,1) else if eqs [103] to'=true then some ([107,103],1,1000) else if eqs [116] to'=true then some ([107,103],1000,1) else if eqs [108] to'=true then some ([108],1,1) else if eqs [109,108] to'=true then some ([108],1,1000) else if eqs [67] to'=true then some ([67],1,1) else Option.none) ([],0,0)).2.2
def q1d_ (t38:Bool) (d d_2 t6 t6_2:Int) (a:List UInt8) (a_2 a_3:Int) (b:List UInt8) (b_2 b_3:Int):Option (As [.pr (.int .i64) (.int .u8),.bool]):=qci_ t38 d d_2 t6 t6_2 a a_2 a_3 b b_2 b_3
def q2a_ (x:As [.pr (.int .i64) (.int .u8),.str,.str]):Option (As [.pr (.int .i64) (.int .u8),.bool]):=qii_ q1d_ x.1 x.2.1 x.2.2.1
noncomputable abbrev units_To_P:=pfn Try.prog qde_ 6 18446744073709551616 (Ev.get qdc_) 38 q67_
theorem qsf_ {J t38 d d_2 t6 t6_2 a a_2 a_3 b b_2 b_3}:units_To_P J 62 [] (qej_ t38 d d_2 t6 t6_2 a a_2 a_3 b b_2 b_3)=qci_ t38 d d_2 t6 t6_2 a a_2 a_3 b b_2 b_3:=by kernel_rfl
theorem qsi_ (J:Orc (As [.pr (.int .i64) (.int .u8),.bool])) (x:As [.pr (.int .i64) (.int .u8),.str,.str]):rfn Try.prog qde_ 6 18446744073709551616 (Ev.get qdc_) 38 q67_ J x=qii_ (fun t38 d d_2 t6 t6_2 a a_2 a_3 b b_2 b_3=>J 62 [] (qej_ t38 d d_2 t6 t6_2 a a_2 a_3 b b_2 b_3)) x.1 x.2.1 x.2.2.1:=by kernel_rfl
noncomputable abbrev units_To_J:=jfn Try.prog qde_ 6 18446744073709551616 (Ev.get qdc_) 38 q67_
theorem qsp_  (t38 d d_2 t6 t6_2 a a_2 a_3 b b_2 b_3):units_To_J 62 [] (qej_ t38 d d_2 t6 t6_2 a a_2 a_3 b b_2 b_3)=q1d_ t38 d d_2 t6 t6_2 a a_2 a_3 b b_2 b_3:=gN (by decide) qsf_
theorem qsv_ (x:As [.pr (.int .i64) (.int .u8),.str,.str]):evT Try.prog qde_ 6 18446744073709551616 (Ev.get qdc_) 38 q67_ x=q2a_ x:=by
 rw [rfn_eq,qsi_]
 simp only [qsp_]
 rfl
theorem qij_:CtOk Try.prog (fun _=>True) 38 ⟨q67_,q2a_⟩:=qh_ (q3_ qm1_ qc_) qsv_
@[reducible] def q52_:Sh:=⟨[.d QVT9,.d QVT9],[],[.pr (.int .i64) (.int .u8),.pr (.int .i64) (.int .u8)],[.d (.int .i64)],[],0,[.int .i64]⟩
def qch_:Env:=(cts [(54,(⟨q4k_,qj_⟩:Ct)),(63,(⟨q24_,q1x_⟩:Ct))])
def qcc_:List (Nat×Hint):=[(6,⟨[],[2,3,14]⟩)]
def qdx_ (t14:Bool) (a b:Int×Int):St:=⟨[(2,.pb 0 0),(3,.pb 1 0),(14,dB t14)],39,[],[(0,.box 75 [dI a.1,d8 a.2]),(1,.box 75 [dI b.1,d8 b.2])],2,[],0⟩
def qdr_ (t14:Bool) (a b:Int×Int):Option (As [.int .i64]) :=
 if t14=true then some (0,()) else Option.bind (q1x_ (Sx.sub .i64 6 (cvt .i64 a.2),())) fun y=>Option.bind (q1x_ (Sx.sub .i64 6 (cvt .i64 b.2),())) fun y_1=>if lt (mul .i64 a.1 y.1) (mul .i64 b.1 y_1.1)=true then some (-1,()) else if gt (mul .i64 a.1 y.1) (mul .i64 b.1 y_1.1)=true then some (1,()) else some (0,())
def qac_ (j1:Bool->Int×Int->Int×Int->Option (As [.int .i64])) (a b:Int×Int):Option (As [.int .i64]) :=
 Option.bind (qj_ (a,())) fun y=>if (!y.1)=true then j1 true a b else Option.bind (qj_ (b,())) fun y=>j1 (!y.1) a b
def q9z_ (t14:Bool) (a b:Int×Int):Option (As [.int .i64]):=qdr_ t14 a b
def q2o_ (x:As [.pr (.int .i64) (.int .u8),.pr (.int .i64) (.int .u8)]):Option (As [.int .i64]):=qac_ q9z_ x.1 x.2.1
noncomputable abbrev units_Cmp_P:=pfn Try.prog qch_ 6 18446744073709551616 (Ev.get qcc_) 43 q52_
theorem qrk_ {J t14 a b}:units_Cmp_P J 6 [] (qdx_ t14 a b)=qdr_ t14 a b:=by kernel_rfl
theorem qs9_ (J:Orc (As [.int .i64])) (x:As [.pr (.int .i64) (.int .u8),.pr (.int .i64) (.int .u8)]):rfn Try.prog qch_ 6 18446744073709551616 (Ev.get qcc_) 43 q52_ J x=qac_ (fun t14 a b=>J 6 [] (qdx_ t14 a b)) x.1 x.2.1:=by kernel_rfl
noncomputable abbrev units_Cmp_J:=jfn Try.prog qch_ 6 18446744073709551616 (Ev.get qcc_) 43 q52_
theorem qr2_  (t14 a b):units_Cmp_J 6 [] (qdx_ t14 a b)=q9z_ t14 a b:=gN (by decide) qrk_
theorem qsn_ (x:As [.pr (.int .i64) (.int .u8),.pr (.int .i64) (.int .u8)]):evT Try.prog qch_ 6 18446744073709551616 (Ev.get qcc_) 43 q52_ x=q2o_ x:=by
 rw [rfn_eq,qs9_]
 simp only [qr2_]
 rfl
theorem qh5_:CtOk Try.prog (fun _=>True) 43 ⟨q52_,q2o_⟩:=qh_ (q3_ q5o_ (q3_ qay_ qc_)) qsn_
@[reducible] def q5z_:Sh:=⟨[.d (.int .i64)],[],[.int .i64],[.d (.int .u16),.d (.bool)],[],0,[.int .u16,.bool]⟩
def qag_:Env:=(cts [])
def qaq_:List (Nat×Hint):=[(6,⟨[],[0,9]⟩)]
def qcp_ (x:Int) (t9:Bool):St:=⟨[(0,dI x),(9,dB t9)],12,[],[],0,[],0⟩
def qcs_ (x:Int) (t9:Bool):Option (As [.int .u16,.bool]) :=
 if t9=true then some (0,false,()) else some (cvt .u16 x,true,())
def q8q_ (j1:Int->Bool->Option (As [.int .u16,.bool])) (x:Int):Option (As [.int .u16,.bool]) :=
 if lt x (-32768)=true then j1 x true else j1 x (ge x 32768)
def q8n_ (x:Int) (t9:Bool):Option (As [.int .u16,.bool]):=qcs_ x t9
def qdb_ (x:As [.int .i64]):Option (As [.int .u16,.bool]):=q8q_ q8n_ x.1
noncomputable abbrev words_Word_P:=pfn Try.prog qag_ 6 18446744073709551616 (Ev.get qaq_) 64 q5z_
theorem qqd_ {J x t9}:words_Word_P J 6 [] (qcp_ x t9)=qcs_ x t9:=by kernel_rfl
theorem qph_ (J:Orc (As [.int .u16,.bool])) (x:As [.int .i64]):rfn Try.prog qag_ 6 18446744073709551616 (Ev.get qaq_) 64 q5z_ J x=q8q_ (fun x t9=>J 6 [] (qcp_ x t9)) x.1:=by kernel_rfl
noncomputable abbrev words_Word_J:=jfn Try.prog qag_ 6 18446744073709551616 (Ev.get qaq_) 64 q5z_
theorem qps_ (x:Int) (t9:Bool):words_Word_J 6 [] (qcp_ x t9)=q8n_ x t9:=gN (by decide) qqd_
theorem qsc_ (x:As [.int .i64]):evT Try.prog qag_ 6 18446744073709551616 (Ev.get qaq_) 64 q5z_ x=qdb_ x:=by
 rw [rfn_eq,qph_]
 simp only [qps_]
 rfl
theorem qpm_:CtOk Try.prog (fun _=>True) 64 ⟨q5z_,qdb_⟩:=qh_ qc_ qsc_
@[reducible] def q60_:Sh:=⟨[.d QVT9,.d (.int .i64),.d (.bool)],[],[.pr (.int .i64) (.int .u8),.int .i64,.bool],[.d (.int .u16),.d (.bool)],[],0,[.int .u16,.bool]⟩
def qao_:Env:=(cts [(54,(⟨q4k_,qj_⟩:Ct)),(63,(⟨q24_,q1x_⟩:Ct)),(64,(⟨q5z_,qdb_⟩:Ct))])
def qa4_:List (Nat×Hint):=[(30,⟨[],[2,8,37]⟩),(6,⟨[],[1,2,3,22,35,36]⟩)]
def qcv_ (digits:Int) (signed t22:Bool) (d:Int×Int):St:=⟨[(1,dI digits),(2,dB signed),(3,.pb 0 0),(22,dB t22)],47,[],[(0,.box 75 [dI d.1,d8 d.2])],1,[],0⟩
def qco_ (signed:Bool) (n:Int) (t37:Bool):St:=⟨[(2,dB signed),(8,dI n),(37,dB t37)],47,[],[],0,[],0⟩
def q8o_ (j2:Bool->Int->Bool->Option (As [.int .u16,.bool])) (digits:Int) (signed t22:Bool) (d:Int×Int):Option (As [.int .u16,.bool]) :=
 if t22=true then some (0,false,()) else Option.bind (q1x_ (Sx.sub .i64 digits (cvt .i64 d.2),())) fun y=>if lt (mul .i64 d.1 y.1) (-32768)=true then j2 signed (mul .i64 d.1 y.1) true else j2 signed (mul .i64 d.1 y.1) (ge (mul .i64 d.1 y.1) 65536)
def qcm_ (signed:Bool) (n:Int) (t37:Bool):Option (As [.int .u16,.bool]) :=
 if t37=true then some (0,false,()) else if signed=true then Option.bind (qdb_ (n,())) fun y=>some (y.1,y.2.1,()) else if lt n 0=true then some (0,false,()) else some (cvt .u16 n,true,())
def q4h_ (j1:Int->Bool->Bool->Int×Int->Option (As [.int .u16,.bool])) (d:Int×Int) (digits:Int) (signed:Bool):Option (As [.int .u16,.bool]) :=
 Option.bind (qj_ (d,())) fun y=>if (!y.1)=true then j1 digits signed true d else if lt digits (cvt .i64 d.2)=true then j1 digits signed true d else j1 digits signed (gt digits 6) d
def q8z_ (signed:Bool) (n:Int) (t37:Bool):Option (As [.int .u16,.bool]):=qcm_ signed n t37
def q1l_ (digits:Int) (signed t22:Bool) (d:Int×Int):Option (As [.int .u16,.bool]):=q8o_ (q8z_) digits signed t22 d
def q2k_ (x:As [.pr (.int .i64) (.int .u8),.int .i64,.bool]):Option (As [.int .u16,.bool]):=q4h_ q1l_ x.1 x.2.1 x.2.2.1
noncomputable abbrev units_Word_P:=pfn Try.prog qao_ 6 18446744073709551616 (Ev.get qa4_) 44 q60_
theorem qpa_ {J signed n t37}:units_Word_P J 30 [] (qco_ signed n t37)=qcm_ signed n t37:=by kernel_rfl
theorem qox_ {J digits signed t22 d}:units_Word_P J 6 [] (qcv_ digits signed t22 d)=q8o_ (fun signed n t37=>J 30 [] (qco_ signed n t37)) digits signed t22 d:=by kernel_rfl
theorem qqj_ (J:Orc (As [.int .u16,.bool])) (x:As [.pr (.int .i64) (.int .u8),.int .i64,.bool]):rfn Try.prog qao_ 6 18446744073709551616 (Ev.get qa4_) 44 q60_ J x=q4h_ (fun digits signed t22 d=>J 6 [] (qcv_ digits signed t22 d)) x.1 x.2.1 x.2.2.1:=by kernel_rfl
noncomputable abbrev units_Word_J:=jfn Try.prog qao_ 6 18446744073709551616 (Ev.get qa4_) 44 q60_
theorem qp2_  (signed n t37):units_Word_J 30 [] (qco_ signed n t37)=q8z_ signed n t37:=gN (by decide) qpa_
theorem qpq_  (digits signed t22 d):units_Word_J 6 [] (qcv_ digits signed t22 d)=q1l_ digits signed t22 d:=gN (by decide) (qox_.trans (by simp only [qp2_]; rfl))
theorem qs6_ (x:As [.pr (.int .i64) (.int .u8),.int .i64,.bool]):evT Try.prog qao_ 6 18446744073709551616 (Ev.get qa4_) 44 q60_ x=q2k_ x:=by
 rw [rfn_eq,qqj_]
 simp only [qpq_]
 rfl
theorem qoy_:CtOk Try.prog (fun _=>True) 44 ⟨q60_,q2k_⟩:=qh_ (q3_ q5o_ (q3_ qay_ (q3_ qpm_ qc_))) qs6_
@[reducible] def q61_:Sh:=⟨[.d (.pr .str QVT2),.d (.pr .str QVT7)],[],[.pr .str QVT2,.pr .str QVT7],[.d (.int .u16),.d (.int .i64)],[],0,[.int .u16,.int .i64]⟩
def qah_:Env:=(cts [(38,(⟨q67_,q2a_⟩:Ct)),(43,(⟨q52_,q2o_⟩:Ct)),(44,(⟨q60_,q2k_⟩:Ct))])
def qa8_:List (Nat×Hint):=[(30,⟨[],[2,6,32]⟩)]
@[reducible] def zG5:Type:=List UInt8×Int×Int×Bool×(Int×Int)×(Int×Int)×List UInt8
def qcn_ (t32:Bool) (p:zG5) (d:Int×Int):St:=⟨[(2,.pb 0 0),(6,.pb 1 0),(32,dB t32)],45,[],[(0,.box 77 [dS p.1,dI p.2.1,dI p.2.2.1,dB p.2.2.2.1,dI p.2.2.2.2.1.1,d8 p.2.2.2.2.1.2,dI p.2.2.2.2.2.1.1,d8 p.2.2.2.2.2.1.2,dS p.2.2.2.2.2.2]),(1,.box 75 [dI d.1,d8 d.2])],2,[],0⟩
def q9i_ (t32:Bool) (p:zG5) (d:Int×Int):Option (As [.int .u16,.int .i64]) :=
 if t32=true then some (0,153,()) else Option.bind (q2k_ (d,p.2.2.1,p.2.2.2.1,())) fun y=>if (!y.2.1)=true then some (0,153,()) else some (y.1,0,())
def q8w_ (j1:Bool->List UInt8×Int×Int×Bool×(Int×Int)×(Int×Int)×List UInt8->Int×Int->Option (As [.int .u16,.int .i64])) (p:zG5) (s:List UInt8×(Int×Int)×List UInt8×Int):Option (As [.int .u16,.int .i64]) :=
 Option.bind (q2a_ (s.2.1,s.2.2.1,p.2.2.2.2.2.2,())) fun y=>if (!y.2.1)=true then some (0,152,()) else Option.bind (q2o_ (y.1,p.2.2.2.2.1,())) fun y_1=>if lt y_1.1 0=true then j1 true p y.1 else Option.bind (q2o_ (y.1,p.2.2.2.2.2.1,())) fun y_2=>j1 (gt y_2.1 0) p y.1
def q8s_ (t32:Bool) (p:zG5) (d:Int×Int):Option (As [.int .u16,.int .i64]):=q9i_ t32 p d
def qv_ (x:As [.pr .str QVT2,.pr .str QVT7]):Option (As [.int .u16,.int .i64]):=q8w_ q8s_ x.1 x.2.1
noncomputable abbrev valid_Word_P:=pfn Try.prog qah_ 6 18446744073709551616 (Ev.get qa8_) 29 q61_
theorem qpf_ {J t32 p d}:valid_Word_P J 30 [] (qcn_ t32 p d)=q9i_ t32 p d:=by kernel_rfl
theorem qpc_ (J:Orc (As [.int .u16,.int .i64])) (x:As [.pr .str QVT2,.pr .str QVT7]):rfn Try.prog qah_ 6 18446744073709551616 (Ev.get qa8_) 29 q61_ J x=q8w_ (fun t32 p d=>J 30 [] (qcn_ t32 p d)) x.1 x.2.1:=by kernel_rfl
noncomputable abbrev valid_Word_J:=jfn Try.prog qah_ 6 18446744073709551616 (Ev.get qa8_) 29 q61_
theorem qp9_  (t32 p d):valid_Word_J 30 [] (qcn_ t32 p d)=q8s_ t32 p d:=gN (by decide) qpf_
theorem qr0_ (x:As [.pr .str QVT2,.pr .str QVT7]):evT Try.prog qah_ 6 18446744073709551616 (Ev.get qa8_) 29 q61_ x=qv_ x:=by
 rw [rfn_eq,qpc_]
 simp only [qp9_]
 rfl
theorem qfx_:CtOk Try.prog (fun _=>True) 29 ⟨q61_,qv_⟩:=qh_ (q3_ qij_ (q3_ qh5_ (q3_ qoy_ qc_))) qr0_
@[reducible] def qc5_:Sh:=⟨[.d (.int .u8)],[],[.int .u8],[.d (.bool)],[],0,[.bool]⟩
def qj2_ (c:Int):Option (As [.bool]) :=
 if ge c 97=true then some (le c 122,()) else some (false,())
def q2q_ (x:As [.int .u8]):Option (As [.bool]):=qj2_ x.1
theorem qee_:CtOk Try.prog (fun _=>True) 71 ⟨qc5_,q2q_⟩:=ctn qc_ 6 fun J x=>by kernel_rfl
@[reducible] def qbf_:Sh:=⟨[.d (.int .u8)],[],[.int .u8],[.d (.bool)],[],0,[.bool]⟩
def qj8_ (c:Int):Option (As [.bool]) :=
 if ge c 48=true then some (le c 57,()) else some (false,())
def q3x_ (x:As [.int .u8]):Option (As [.bool]):=qj8_ x.1
theorem qed_:CtOk Try.prog (fun _=>True) 72 ⟨qbf_,q3x_⟩:=ctn qc_ 6 fun J x=>by kernel_rfl
@[reducible] def q4d_:Sh:=⟨[.d (.str)],[],[.str],[.d (.bool)],[],0,[.bool]⟩
def q9j_:Env:=(cts [(71,(⟨qc5_,q2q_⟩:Ct)),(72,(⟨qbf_,q3x_⟩:Ct))])
def q8p_:List (Nat×Hint):=[(7,⟨[],[0,44,45,48,49]⟩),(58,⟨[],[0,18,19,28,29,30,31,32,35,36,37,38,44,45,48,49]⟩),(3737,⟨[.agd 35 .str,.agd 36 (.int .i64),.agd 37 (.int .u8),.agd 38 .bool,.agd 28 .str,.agd 29 (.int .i64),.agd 30 (.int .u8),.agd 31 .bool,.agd 32 .bool],[0,18,19,39]⟩),(6,⟨[],[0,16,28,29,30,31,32,35,36,37,38,44,45,48,49]⟩)]
def qbi_ (s:List UInt8) (t16:Bool):St:=⟨[(0,dS s),(16,dB t16)],51,[],[],0,[],0⟩
def q2b_ (s:List UInt8) (t18 t19:Int):St:=⟨[(0,dS s),(18,dI t18),(19,dI t19)],51,[],[],0,[],0⟩
def qbk_ (s:List UInt8) (t18 t19:Int) (t39:Bool):St:=⟨[(0,dS s),(18,dI t18),(19,dI t19),(39,dB t39)],51,[],[],0,[],0⟩
def qbe_ (s:List UInt8):St:=⟨[(0,dS s)],51,[],[],0,[],0⟩
@[reducible] def zG6:Type:=List UInt8->Int->Int->Option (As [.bool])
def qf9_ (j2:zG6) (s:List UInt8) (t16:Bool):Option (As [.bool]) :=
 if t16=true then some (false,()) else j2 s (Int.ofNat (List.length s)) 0
def q3b_ (j3:List UInt8->Int->Int->Bool->Option (As [.bool])) (j4:List UInt8->Option (As [.bool])) (self2:zG6) (s:List UInt8) (t18 t19:Int):Option (As [.bool]) :=
 if lt t19 t18=true then Option.bind (at? s t19) fun c=>Option.bind (q2q_ (Int.ofNat (UInt8.toNat c),())) fun y=>if (!y.1)=true then Option.bind (at? s t19) fun c=>Option.bind (q3x_ (Int.ofNat (UInt8.toNat c),())) fun y=>if (!y.1)=true then Option.bind (at? s t19) fun c=>j3 s t18 t19 (nei (Int.ofNat (UInt8.toNat c)) 95) else j3 s t18 t19 false else j3 s t18 t19 false else j4 s
def q7v_ (self2:zG6) (s:List UInt8) (t18 t19:Int) (t39:Bool):Option (As [.bool]) :=
 if t39=true then some (false,()) else self2 s t18 (add .i64 t19 1)
def q7z_ (s:List UInt8):Option (As [.bool]) :=
 if nes s [114,101,99,105,112,101]=true then if nes s [115,108,97,118,101]=true then some (nes s [101,110,100],()) else some (false,()) else some (false,())
def q7t_ (j1:List UInt8->Bool->Option (As [.bool])) (s:List UInt8):Option (As [.bool]) :=
 if eqs s []=true then j1 s true else if gt (Int.ofNat (List.length s)) 20=true then j1 s true else Option.bind (at? s 0) fun c=>Option.bind (q2q_ (Int.ofNat (UInt8.toNat c),())) fun y=>j1 s !y.1
def q58_ (u2:zG6) (s:List UInt8) (t18 t19:Int) (t39:Bool):Option (As [.bool]):=q7v_ u2 s t18 t19 t39
def q5q_ (s:List UInt8):Option (As [.bool]):=q7z_ s
def q7g_ (s:List UInt8) (t18 t19:Int):Option (As [.bool]) :=
 loopF (fun (self:(List UInt8)×(Int)×(Int)->Option (As [.bool])) (s:(List UInt8)×(Int)×(Int))=>q3b_ (q58_ (fun s t18 t19=>self (s,t18,t19))) (q5q_) (fun s t18 t19=>self (s,t18,t19)) s.1 s.2.1 s.2.2) 18446744073709551616 (s,t18,t19)
def q7w_ (s:List UInt8) (t16:Bool):Option (As [.bool]):=qf9_ (q7g_) s t16
def q54_ (x:As [.str]):Option (As [.bool]):=q7t_ q7w_ x.1
noncomputable abbrev recipe_name_P:=pfn Try.prog q9j_ 6 18446744073709551616 (Ev.get q8p_) 53 q4d_
theorem qjy_ {J w2 s t18 t19 t39}:recipe_name_P J 3737 [w2] (qbk_ s t18 t19 t39)=q7v_ (fun s t18 t19=>w2 (q2b_ s t18 t19)) s t18 t19 t39:=by kernel_rfl
theorem qo3_ {J s}:recipe_name_P J 7 [] (qbe_ s)=q7z_ s:=by kernel_rfl
theorem qlu_ {J w2 s t18 t19}:recipe_name_P J 58 [w2] (q2b_ s t18 t19)=q3b_ (fun s t18 t19 t39=>J 3737 [w2] (qbk_ s t18 t19 t39)) (fun s=>J 7 [] (qbe_ s)) (fun s t18 t19=>w2 (q2b_ s t18 t19)) s t18 t19:=by kernel_rfl
theorem qk6_ {J s t16}:recipe_name_P J 6 [] (qbi_ s t16)=qf9_ (fun s t18 t19=>J 58 [] (q2b_ s t18 t19)) s t16:=by kernel_rfl
theorem qky_ (J:Orc (As [.bool])) (x:As [.str]):rfn Try.prog q9j_ 6 18446744073709551616 (Ev.get q8p_) 53 q4d_ J x=q7t_ (fun s t16=>J 6 [] (qbi_ s t16)) x.1:=by kernel_rfl
noncomputable abbrev recipe_name_J:=jfn Try.prog q9j_ 6 18446744073709551616 (Ev.get q8p_) 53 q4d_
theorem qlr_  (w2 s t18 t19 t39):recipe_name_J 3737 [w2] (qbk_ s t18 t19 t39)=q58_ (fun s t18 t19=>w2 (q2b_ s t18 t19)) s t18 t19 t39:=gN (by decide) qjy_
theorem qmv_  (s):recipe_name_J 7 [] (qbe_ s)=q5q_ s:=gN (by decide) qo3_
theorem qko_  (s t18 t19):recipe_name_J 58 [] (q2b_ s t18 t19)=q7g_ s t18 t19:=gL (σ:=(List UInt8)×(Int)×(Int)) (mk:=fun s=>q2b_ s.1 s.2.1 s.2.2) (by decide) (by kernel_rfl) (fun w2 s=>qlu_.trans (by simp only [qlr_,qmv_])) (s,t18,t19)
theorem qof_  (s t16):recipe_name_J 6 [] (qbi_ s t16)=q7w_ s t16:=gN (by decide) (qk6_.trans (by simp only [qko_]; rfl))
theorem qp0_ (x:As [.str]):evT Try.prog q9j_ 6 18446744073709551616 (Ev.get q8p_) 53 q4d_ x=q54_ x:=by
 rw [rfn_eq,qky_]
 simp only [qof_]
 rfl
theorem qlh_:CtOk Try.prog (fun _=>True) 53 ⟨q4d_,q54_⟩:=qh_ (q3_ qee_ (q3_ qed_ qc_)) qp0_
@[reducible] def q4c_:Sh:=⟨[.d (.str)],[],[.str],[.d (.bool)],[],0,[.bool]⟩
def q9a_:Env:=(cts [(71,(⟨qc5_,q2q_⟩:Ct)),(72,(⟨qbf_,q3x_⟩:Ct))])
def q99_:List (Nat×Hint):=[(58,⟨[],[0,10,11,20,21,22,23,24,25,28,29,34,35,36,37,38,39,40,41,42,43,44]⟩),(7475,⟨[.agd 20 (.int .u8),.agd 21 .bool,.agd 22 .bool,.agd 23 (.int .u8),.agd 24 .bool,.agd 25 .bool,.agd 28 (.int .u8),.agd 29 .bool],[0,3,4,5,10,11]⟩),(14951,⟨[.agd 37 (.int .u8),.agd 38 .bool,.agd 39 .bool,.agd 40 .bool,.agd 41 (.int .u8),.agd 42 .bool,.agd 43 .bool,.agd 34 (.int .i64),.agd 35 .bool,.agd 36 .bool,.agd 44 .bool],[0,10,11,45]⟩)]
def q1f_ (s:List UInt8) (t10 t11:Int):St:=⟨[(0,dS s),(10,dI t10),(11,dI t11)],47,[],[],0,[],0⟩
def qc2_ (s:List UInt8) (i c:Int) (letter:Bool) (t10 t11:Int):St:=⟨[(0,dS s),(3,dI i),(4,d8 c),(5,dB letter),(10,dI t10),(11,dI t11)],47,[],[],0,[],0⟩
def qc0_ (s:List UInt8) (t10 t11:Int) (t45:Bool):St:=⟨[(0,dS s),(10,dI t10),(11,dI t11),(45,dB t45)],47,[],[],0,[],0⟩
def q3d_ (j2:List UInt8->Int->Int->Bool->Int->Int->Option (As [.bool])) (self1:zG6) (s:List UInt8) (t10 t11:Int):Option (As [.bool]) :=
 if lt t11 t10=true then Option.bind (at? s t11) fun c=>Option.bind (q2q_ (Int.ofNat (UInt8.toNat c),())) fun y=>if y.1=true then j2 s t11 (Int.ofNat (UInt8.toNat c)) true t10 t11 else if ge (Int.ofNat (UInt8.toNat c)) 65=true then if le (Int.ofNat (UInt8.toNat c)) 90=true then j2 s t11 (Int.ofNat (UInt8.toNat c)) true t10 t11 else j2 s t11 (Int.ofNat (UInt8.toNat c)) (eqi (Int.ofNat (UInt8.toNat c)) 37) t10 t11 else j2 s t11 (Int.ofNat (UInt8.toNat c)) (eqi (Int.ofNat (UInt8.toNat c)) 37) t10 t11 else some (true,())
def q7e_ (j3:List UInt8->Int->Int->Bool->Option (As [.bool])) (self1:zG6) (s:List UInt8) (i c:Int) (letter:Bool) (t10 t11:Int):Option (As [.bool]) :=
 if (!letter)=true then if eqi i 0=true then j3 s t10 t11 true else Option.bind (q3x_ (c,())) fun y=>if (!y.1)=true then j3 s t10 t11 (nei c 95) else j3 s t10 t11 false else j3 s t10 t11 false
def q7k_ (self1:zG6) (s:List UInt8) (t10 t11:Int) (t45:Bool):Option (As [.bool]) :=
 if t45=true then some (false,()) else self1 s t10 (add .i64 t11 1)
def q7n_ (j1:zG6) (s:List UInt8):Option (As [.bool]) :=
 if gt (Int.ofNat (List.length s)) 20=true then some (false,()) else j1 s (Int.ofNat (List.length s)) 0
def q7h_ (u1:zG6) (s:List UInt8) (t10 t11:Int) (t45:Bool):Option (As [.bool]):=q7k_ u1 s t10 t11 t45
def q64_ (u1:zG6) (s:List UInt8) (i c:Int) (letter:Bool) (t10 t11:Int):Option (As [.bool]):=q7e_ (q7h_ u1) u1 s i c letter t10 t11
def q5n_ (s:List UInt8) (t10 t11:Int):Option (As [.bool]) :=
 loopF (fun (self:(List UInt8)×(Int)×(Int)->Option (As [.bool])) (s:(List UInt8)×(Int)×(Int))=>q3d_ (q64_ (fun s t10 t11=>self (s,t10,t11))) (fun s t10 t11=>self (s,t10,t11)) s.1 s.2.1 s.2.2) 18446744073709551616 (s,t10,t11)
def q8g_ (x:As [.str]):Option (As [.bool]):=q7n_ q5n_ x.1
noncomputable abbrev recipe_unit_P:=pfn Try.prog q9a_ 6 18446744073709551616 (Ev.get q99_) 55 q4c_
theorem qno_ {J w1 s t10 t11 t45}:recipe_unit_P J 14951 [w1] (qc0_ s t10 t11 t45)=q7k_ (fun s t10 t11=>w1 (q1f_ s t10 t11)) s t10 t11 t45:=by kernel_rfl
theorem qmx_ {J w1 s i c letter t10 t11}:recipe_unit_P J 7475 [w1] (qc2_ s i c letter t10 t11)=q7e_ (fun s t10 t11 t45=>J 14951 [w1] (qc0_ s t10 t11 t45)) (fun s t10 t11=>w1 (q1f_ s t10 t11)) s i c letter t10 t11:=by kernel_rfl
theorem qmh_ {J w1 s t10 t11}:recipe_unit_P J 58 [w1] (q1f_ s t10 t11)=q3d_ (fun s i c letter t10 t11=>J 7475 [w1] (qc2_ s i c letter t10 t11)) (fun s t10 t11=>w1 (q1f_ s t10 t11)) s t10 t11:=by kernel_rfl
theorem qlj_ (J:Orc (As [.bool])) (x:As [.str]):rfn Try.prog q9a_ 6 18446744073709551616 (Ev.get q99_) 55 q4c_ J x=q7n_ (fun s t10 t11=>J 58 [] (q1f_ s t10 t11)) x.1:=by kernel_rfl
noncomputable abbrev recipe_unit_J:=jfn Try.prog q9a_ 6 18446744073709551616 (Ev.get q99_) 55 q4c_
theorem qlq_  (w1 s t10 t11 t45):recipe_unit_J 14951 [w1] (qc0_ s t10 t11 t45)=q7h_ (fun s t10 t11=>w1 (q1f_ s t10 t11)) s t10 t11 t45:=gN (by decide) qno_
theorem qom_  (w1 s i c letter t10 t11):recipe_unit_J 7475 [w1] (qc2_ s i c letter t10 t11)=q64_ (fun s t10 t11=>w1 (q1f_ s t10 t11)) s i c letter t10 t11:=gN (by decide) (qmx_.trans (by simp only [qlq_]; rfl))
theorem qmt_  (s t10 t11):recipe_unit_J 58 [] (q1f_ s t10 t11)=q5n_ s t10 t11:=gL (σ:=(List UInt8)×(Int)×(Int)) (mk:=fun s=>q1f_ s.1 s.2.1 s.2.2) (by decide) (by kernel_rfl) (fun w1 s=>qmh_.trans (by simp only [qom_])) (s,t10,t11)
theorem qp7_ (x:As [.str]):evT Try.prog q9a_ 6 18446744073709551616 (Ev.get q99_) 55 q4c_ x=q8g_ x:=by
 rw [rfn_eq,qlj_]
 simp only [qmt_]
 rfl
theorem qo2_:CtOk Try.prog (fun _=>True) 55 ⟨q4c_,q8g_⟩:=qh_ (q3_ qee_ (q3_ qed_ qc_)) qp7_
@[reducible] def q3u_:Sh:=⟨[.d (.pr .str QVT5)],[],[.pr .str QVT5],[.d (.bool)],[],0,[.bool]⟩
def q8c_:Env:=(cts [(53,(⟨q4d_,q54_⟩:Ct)),(54,(⟨q4k_,qj_⟩:Ct)),(55,(⟨q4c_,q8g_⟩:Ct))])
def q82_:List (Nat×Hint):=[(58,⟨[],[18,19,20,29,30,31,32,46,47,48,49,52,53,54,55]⟩),(29902,⟨[],[18,19,20,29,30,31,32,35,36,37,46,47,48,49,52,53,54,55]⟩),(1913753,⟨[.agd 47 QVT9,.agd 48 .bool,.agd 49 .bool,.agd 53 .str,.agd 54 .bool,.agd 55 .bool],[18,19,20,35,36,37,56]⟩),(7474,⟨[.agd 30 (.sl (.pr .str QVT7)),.agd 31 (.int .i64),.agd 32 .bool],[4,18,19,20,33]⟩),(6,⟨[],[1,16,29,30,31,32,46,47,48,49,52,53,54,55]⟩)]
@[reducible] def zG7:Type:=List UInt8×List QVT1
def qa9_ (t16:Bool) (r:zG7):St:=⟨[(1,.pb 0 0),(16,dB t16)],59,[],[(0,.box 42 [dS r.1,.d QVT5 r.2])],1,[],0⟩
def qu_ (t18:List QVT1) (t19 t20:Int):St:=⟨[(18,.d QVT5 t18),(19,dI t19),(20,dI t20)],59,[],[],0,[],0⟩
def qak_ (t18:List QVT1) (t19 t20:Int) (t33:Bool) (part:List UInt8×Int×List QVT4):St:=⟨[(4,.pb 0 0),(18,.d QVT5 t18),(19,dI t19),(20,dI t20),(33,dB t33)],59,[],[(0,.box 80 [dS part.1,dI part.2.1,.d (.sl (.pr .str QVT7)) part.2.2])],1,[],0⟩
def q22_ (t18:List QVT1) (t19 t20:Int) (t35:List QVT4) (t36 t37:Int):St:=⟨[(18,.d QVT5 t18),(19,dI t19),(20,dI t20),(35,.d (.sl (.pr .str QVT7)) t35),(36,dI t36),(37,dI t37)],59,[],[],0,[],0⟩
def qaa_ (t18:List QVT1) (t19 t20:Int) (t35:List QVT4) (t36 t37:Int) (t56:Bool):St:=⟨[(18,.d QVT5 t18),(19,dI t19),(20,dI t20),(35,.d (.sl (.pr .str QVT7)) t35),(36,dI t36),(37,dI t37),(56,dB t56)],59,[],[],0,[],0⟩
@[reducible] def zG8:Type:=List QVT1->Int->Int->Option (As [.bool])
def qe6_ (j2:zG8) (t16:Bool) (r:zG7):Option (As [.bool]) :=
 if t16=true then some (false,()) else j2 r.2 (Int.ofNat (List.length r.2)) 0
def q2t_ (j3:List QVT1->Int->Int->Bool->List UInt8×Int×List QVT4->Option (As [.bool])) (self2:zG8) (t18:List QVT1) (t19 t20:Int):Option (As [.bool]) :=
 if lt t20 t19=true then Option.bind (at? t18 t20) fun y=>Option.bind (q54_ (y.1,())) fun y_1=>if (!y_1.1)=true then j3 t18 t19 t20 true y else j3 t18 t19 t20 (gt (Int.ofNat (List.length y.2.2)) 64) y else some (true,())
@[reducible] def zG9:Type:=List QVT1->Int->Int->List QVT4->Int->Int->Option (As [.bool])
def q6n_ (j4:zG9) (self2:zG8) (t18:List QVT1) (t19 t20:Int) (t33:Bool) (part:List UInt8×Int×List QVT4):Option (As [.bool]) :=
 if t33=true then some (false,()) else j4 t18 t19 t20 part.2.2 (Int.ofNat (List.length part.2.2)) 0
def q2u_ (j5:List QVT1->Int->Int->List QVT4->Int->Int->Bool->Option (As [.bool])) (self2:zG8) (self4:zG9) (t18:List QVT1) (t19 t20:Int) (t35:List QVT4) (t36 t37:Int):Option (As [.bool]) :=
 if lt t37 t36=true then Option.bind (at? t35 t37) fun y=>Option.bind (q54_ (y.1,())) fun y_1=>if (!y_1.1)=true then j5 t18 t19 t20 t35 t36 t37 true else Option.bind (qj_ (y.2.1,())) fun y_2=>if (!y_2.1)=true then j5 t18 t19 t20 t35 t36 t37 true else Option.bind (q8g_ (y.2.2.1,())) fun y=>j5 t18 t19 t20 t35 t36 t37 !y.1 else self2 t18 t19 (add .i64 t20 1)
def q6q_ (self2:zG8) (self4:zG9) (t18:List QVT1) (t19 t20:Int) (t35:List QVT4) (t36 t37:Int) (t56:Bool):Option (As [.bool]) :=
 if t56=true then some (false,()) else self4 t18 t19 t20 t35 t36 (add .i64 t37 1)
def q6t_ (j1:Bool->List UInt8×List QVT1->Option (As [.bool])) (r:zG7):Option (As [.bool]) :=
 Option.bind (q54_ (r.1,())) fun y=>if (!y.1)=true then j1 true r else j1 (gt (Int.ofNat (List.length r.2)) 8) r
def q6o_ (u2:zG8) (u4:zG9) (t18:List QVT1) (t19 t20:Int) (t35:List QVT4) (t36 t37:Int) (t56:Bool):Option (As [.bool]):=q6q_ u2 u4 t18 t19 t20 t35 t36 t37 t56
def q4s_ (u2:zG8) (t18:List QVT1) (t19 t20:Int) (t35:List QVT4) (t36 t37:Int):Option (As [.bool]) :=
 loopF (fun (self:(List QVT1)×(Int)×(Int)×(List QVT4)×(Int)×(Int)->Option (As [.bool])) (s:(List QVT1)×(Int)×(Int)×(List QVT4)×(Int)×(Int))=>q2u_ (q6o_ u2 (fun t18 t19 t20 t35 t36 t37=>self (t18,t19,t20,t35,t36,t37))) u2 (fun t18 t19 t20 t35 t36 t37=>self (t18,t19,t20,t35,t36,t37)) s.1 s.2.1 s.2.2.1 s.2.2.2.1 s.2.2.2.2.1 s.2.2.2.2.2) 18446744073709551616 (t18,t19,t20,t35,t36,t37)
def q6p_ (u2:zG8) (t18:List QVT1) (t19 t20:Int) (t33:Bool) (part:List UInt8×Int×List QVT4):Option (As [.bool]):=q6n_ (q4s_ u2) u2 t18 t19 t20 t33 part
def q4r_ (t18:List QVT1) (t19 t20:Int):Option (As [.bool]) :=
 loopF (fun (self:(List QVT1)×(Int)×(Int)->Option (As [.bool])) (s:(List QVT1)×(Int)×(Int))=>q2t_ (q6p_ (fun t18 t19 t20=>self (t18,t19,t20))) (fun t18 t19 t20=>self (t18,t19,t20)) s.1 s.2.1 s.2.2) 18446744073709551616 (t18,t19,t20)
def q6m_ (t16:Bool) (r:zG7):Option (As [.bool]):=qe6_ (q4r_) t16 r
def q3w_ (x:As [.pr .str QVT5]):Option (As [.bool]):=q6t_ q6m_ x.1
noncomputable abbrev recipe_Right_P:=pfn Try.prog q8c_ 6 18446744073709551616 (Ev.get q82_) 35 q3u_
theorem qj3_ {J w2 w4 t18 t19 t20 t35 t36 t37 t56}:recipe_Right_P J 1913753 [w2,w4] (qaa_ t18 t19 t20 t35 t36 t37 t56)=q6q_ (fun t18 t19 t20=>w2 (qu_ t18 t19 t20)) (fun t18 t19 t20 t35 t36 t37=>w4 (q22_ t18 t19 t20 t35 t36 t37)) t18 t19 t20 t35 t36 t37 t56:=by kernel_rfl
theorem qiz_ {J w2 w4 t18 t19 t20 t35 t36 t37}:recipe_Right_P J 29902 [w2,w4] (q22_ t18 t19 t20 t35 t36 t37)=q2u_ (fun t18 t19 t20 t35 t36 t37 t56=>J 1913753 [w2,w4] (qaa_ t18 t19 t20 t35 t36 t37 t56)) (fun t18 t19 t20=>w2 (qu_ t18 t19 t20)) (fun t18 t19 t20 t35 t36 t37=>w4 (q22_ t18 t19 t20 t35 t36 t37)) t18 t19 t20 t35 t36 t37:=by kernel_rfl
theorem qje_ {J w2 t18 t19 t20 t33 part}:recipe_Right_P J 7474 [w2] (qak_ t18 t19 t20 t33 part)=q6n_ (fun t18 t19 t20 t35 t36 t37=>J 29902 [w2] (q22_ t18 t19 t20 t35 t36 t37)) (fun t18 t19 t20=>w2 (qu_ t18 t19 t20)) t18 t19 t20 t33 part:=by kernel_rfl
theorem qiv_ {J w2 t18 t19 t20}:recipe_Right_P J 58 [w2] (qu_ t18 t19 t20)=q2t_ (fun t18 t19 t20 t33 part=>J 7474 [w2] (qak_ t18 t19 t20 t33 part)) (fun t18 t19 t20=>w2 (qu_ t18 t19 t20)) t18 t19 t20:=by kernel_rfl
theorem qj4_ {J t16 r}:recipe_Right_P J 6 [] (qa9_ t16 r)=qe6_ (fun t18 t19 t20=>J 58 [] (qu_ t18 t19 t20)) t16 r:=by kernel_rfl
theorem qj7_ (J:Orc (As [.bool])) (x:As [.pr .str QVT5]):rfn Try.prog q8c_ 6 18446744073709551616 (Ev.get q82_) 35 q3u_ J x=q6t_ (fun t16 r=>J 6 [] (qa9_ t16 r)) x.1:=by kernel_rfl
noncomputable abbrev recipe_Right_J:=jfn Try.prog q8c_ 6 18446744073709551616 (Ev.get q82_) 35 q3u_
theorem qj6_  (w2 w4 t18 t19 t20 t35 t36 t37 t56):recipe_Right_J 1913753 [w2,w4] (qaa_ t18 t19 t20 t35 t36 t37 t56)=q6o_ (fun t18 t19 t20=>w2 (qu_ t18 t19 t20)) (fun t18 t19 t20 t35 t36 t37=>w4 (q22_ t18 t19 t20 t35 t36 t37)) t18 t19 t20 t35 t36 t37 t56:=gN (by decide) qj3_
theorem qiy_  (w2 t18 t19 t20 t35 t36 t37):recipe_Right_J 29902 [w2] (q22_ t18 t19 t20 t35 t36 t37)=q4s_ (fun t18 t19 t20=>w2 (qu_ t18 t19 t20)) t18 t19 t20 t35 t36 t37:=gL (σ:=(List QVT1)×(Int)×(Int)×(List QVT4)×(Int)×(Int)) (mk:=fun s=>q22_ s.1 s.2.1 s.2.2.1 s.2.2.2.1 s.2.2.2.2.1 s.2.2.2.2.2) (by decide) (by kernel_rfl) (fun w4 s=>qiz_.trans (by simp only [qj6_])) (t18,t19,t20,t35,t36,t37)
theorem qj1_  (w2 t18 t19 t20 t33 part):recipe_Right_J 7474 [w2] (qak_ t18 t19 t20 t33 part)=q6p_ (fun t18 t19 t20=>w2 (qu_ t18 t19 t20)) t18 t19 t20 t33 part:=gN (by decide) (qje_.trans (by simp only [qiy_]; rfl))
theorem qit_  (t18 t19 t20):recipe_Right_J 58 [] (qu_ t18 t19 t20)=q4r_ t18 t19 t20:=gL (σ:=(List QVT1)×(Int)×(Int)) (mk:=fun s=>qu_ s.1 s.2.1 s.2.2) (by decide) (by kernel_rfl) (fun w2 s=>qiv_.trans (by simp only [qj1_])) (t18,t19,t20)
theorem qir_  (t16 r):recipe_Right_J 6 [] (qa9_ t16 r)=q6m_ t16 r:=gN (by decide) (qj4_.trans (by simp only [qit_]; rfl))
theorem ql2_ (x:As [.pr .str QVT5]):evT Try.prog q8c_ 6 18446744073709551616 (Ev.get q82_) 35 q3u_ x=q3w_ x:=by
 rw [rfn_eq,qj7_]
 simp only [qir_]
 rfl
theorem qe9_:CtOk Try.prog (fun _=>True) 35 ⟨q3u_,q3w_⟩:=qh_ (q3_ qlh_ (q3_ q5o_ (q3_ qo2_ qc_))) ql2_
@[reducible] def qds_:Sh:=⟨[.d (.str)],[],[.str],[.d (.bool)],[],0,[.bool]⟩
def qoz_ (s:List UInt8):Option (As [.bool]) :=
 Option.bind (q3w_ ((s,[]),())) fun y=>some (y.1,())
def q8a_ (x:As [.str]):Option (As [.bool]):=qoz_ x.1
theorem qg2_:CtOk Try.prog (fun _=>True) 68 ⟨qds_,q8a_⟩:=ctn (q3_ qe9_ qc_) 6 fun J x=>by kernel_rfl
@[reducible] def qfz_:Sh:=⟨[.d (.str)],[],[.str],[.d (.pr .str QVT8),.d (.bool)],[],0,[.pr .str QVT8,.bool]⟩
def qm4_ (name:List UInt8):Option (As [.pr .str QVT8,.bool]) :=
 some (Ev.gdV (.pr .str QVT8) (if eqs [] name=true then some ([],1,1) else if eqs [37] name=true then some ([],1,1) else if eqs [109] name=true then some ([109],1,1) else if eqs [99,109] name=true then some ([109],1,100) else if eqs [109,109] name=true then some ([109],1,1000) else if eqs [115] name=true then some ([115],1,1) else if eqs [109,115] name=true then some ([115],1,1000) else if eqs [109,105,110] name=true then some ([115],60,1) else if eqs [104] name=true then some ([115],3600,1) else if eqs [98,97,114] name=true then some ([98,97,114],1,1) else if eqs [109,98,97,114] name=true then some ([98,97,114],1,1000) else if eqs [107,80,97] name=true then some ([98,97,114],1,100) else if eqs [107,103] name=true then some ([107,103],1,1) else if eqs [103] name=true then some ([107,103],1,1000) else if eqs [116] name=true then some ([107,103],1000,1) else if eqs [108] name=true then some ([108],1,1) else if eqs [109,108] name=true then some ([108],1,1000) else if eqs [67] name=true then some ([67],1,1) else Option.none) ([],0,0),Ev.isV (.pr .str QVT8) (if eqs [] name=true then some ([],1,1) else if eqs [37] name=true then some ([],1,1) else if eqs [109] name=true then some ([109],1,1) else if eqs [99,109] name=true then some ([109],1,100) else if eqs [109,109] name=true then some ([109],1,1000) else if eqs [115] name=true then some ([115],1,1) else if eqs [109,115] name=true then some ([115],1,1000) else if eqs [109,105,110] name=true then some ([115],60,1) else if eqs [104] name=true then some ([115],3600,1) else if eqs [98,97,114] name=true then some ([98,97,114],1,1) else if eqs [109,98,97,114] name=true then some ([98,97,114],1,1000) else if eqs [107,80,97] name=true then some ([98,97,114],1,100) else if eqs [107,103] name=true then some ([107,103],1,1) else if eqs [103] name=true then some ([107,103],1,1000) else if eqs [116] name=true then some ([107,103],1000,1) else if eqs [108] name=true then some ([108],1,1) else if eqs [109,108] name=true then some ([108],1,1000) else if eqs [67] name=true then some ([67],1,1) else Option.none),())
def q8j_ (x:As [.str]):Option (As [.pr .str QVT8,.bool]):=qm4_ x.1
theorem qnj_:CtOk Try.prog (fun _=>True) 85 ⟨qfz_,q8j_⟩:=ctn qc_ 6 fun J x=>by kernel_rfl
@[reducible] def q1q_:Sh:=⟨[.d (.pr .str QVT2)],[],[.pr .str QVT2],[.d (.bool)],[],0,[.bool]⟩
def q4t_:Env:=(cts [(43,(⟨q52_,q2o_⟩:Ct)),(54,(⟨q4k_,qj_⟩:Ct)),(68,(⟨qds_,q8a_⟩:Ct)),(85,(⟨qfz_,q8j_⟩:Ct))])
def q4z_:List (Nat×Hint):=[(14,⟨[],[1,46]⟩),(6,⟨[],[1,28,34,35,36,37,40,41,42,43,44,45]⟩)]
def q6l_ (t28:Bool) (p:zG5):St:=⟨[(1,.pb 0 0),(28,dB t28)],54,[],[(0,.box 77 [dS p.1,dI p.2.1,dI p.2.2.1,dB p.2.2.2.1,dI p.2.2.2.2.1.1,d8 p.2.2.2.2.1.2,dI p.2.2.2.2.2.1.1,d8 p.2.2.2.2.2.1.2,dS p.2.2.2.2.2.2])],1,[],0⟩
def q6j_ (t46:Bool) (p:zG5):St:=⟨[(1,.pb 0 0),(46,dB t46)],54,[],[(0,.box 77 [dS p.1,dI p.2.1,dI p.2.2.1,dB p.2.2.2.1,dI p.2.2.2.2.1.1,d8 p.2.2.2.2.1.2,dI p.2.2.2.2.2.1.1,d8 p.2.2.2.2.2.1.2,dS p.2.2.2.2.2.2])],1,[],0⟩
@[reducible] def zG10:Type:=Bool->List UInt8×Int×Int×Bool×(Int×Int)×(Int×Int)×List UInt8->Option (As [.bool])
def q45_ (j2:zG10) (t28:Bool) (p:zG5):Option (As [.bool]) :=
 if t28=true then some (false,()) else Option.bind (qj_ (p.2.2.2.2.1,())) fun y=>if (!y.1)=true then j2 true p else Option.bind (qj_ (p.2.2.2.2.2.1,())) fun y=>if (!y.1)=true then j2 true p else Option.bind (q2o_ (p.2.2.2.2.1,p.2.2.2.2.2.1,())) fun y=>j2 (gt y.1 0) p
def q42_ (t46:Bool) (p:zG5):Option (As [.bool]) :=
 if t46=true then some (false,()) else Option.bind (q8j_ (p.2.2.2.2.2.2,())) fun y=>some (y.2.1,())
def q44_ (j1:zG10) (p:zG5):Option (As [.bool]) :=
 Option.bind (q8a_ (p.1,())) fun y=>if (!y.1)=true then j1 true p else if lt p.2.1 0=true then j1 true p else if ge p.2.1 64=true then j1 true p else if lt p.2.2.1 0=true then j1 true p else j1 (gt p.2.2.1 6) p
def q47_ (t46:Bool) (p:zG5):Option (As [.bool]):=q42_ t46 p
def q25_ (t28:Bool) (p:zG5):Option (As [.bool]):=q45_ (q47_) t28 p
def q1a_ (x:As [.pr .str QVT2]):Option (As [.bool]):=q44_ q25_ x.1
noncomputable abbrev valid_rightPoint_P:=pfn Try.prog q4t_ 6 18446744073709551616 (Ev.get q4z_) 70 q1q_
theorem qgs_ {J t46 p}:valid_rightPoint_P J 14 [] (q6j_ t46 p)=q42_ t46 p:=by kernel_rfl
theorem qgf_ {J t28 p}:valid_rightPoint_P J 6 [] (q6l_ t28 p)=q45_ (fun t46 p=>J 14 [] (q6j_ t46 p)) t28 p:=by kernel_rfl
theorem qgx_ (J:Orc (As [.bool])) (x:As [.pr .str QVT2]):rfn Try.prog q4t_ 6 18446744073709551616 (Ev.get q4z_) 70 q1q_ J x=q44_ (fun t28 p=>J 6 [] (q6l_ t28 p)) x.1:=by kernel_rfl
noncomputable abbrev valid_rightPoint_J:=jfn Try.prog q4t_ 6 18446744073709551616 (Ev.get q4z_) 70 q1q_
theorem qgn_  (t46 p):valid_rightPoint_J 14 [] (q6j_ t46 p)=q47_ t46 p:=gN (by decide) qgs_
theorem qgb_  (t28 p):valid_rightPoint_J 6 [] (q6l_ t28 p)=q25_ t28 p:=gN (by decide) (qgf_.trans (by simp only [qgn_]; rfl))
theorem qhp_ (x:As [.pr .str QVT2]):evT Try.prog q4t_ 6 18446744073709551616 (Ev.get q4z_) 70 q1q_ x=q1a_ x:=by
 rw [rfn_eq,qgx_]
 simp only [qgb_]
 rfl
theorem qgl_:CtOk Try.prog (fun _=>True) 70 ⟨q1q_,q1a_⟩:=qh_ (q3_ qh5_ (q3_ q5o_ (q3_ qg2_ (q3_ qnj_ qc_)))) qhp_
end Go.Proofs.Lx
end
