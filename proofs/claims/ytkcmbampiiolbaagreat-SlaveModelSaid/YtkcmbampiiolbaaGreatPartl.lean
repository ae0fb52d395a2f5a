/- Proved in the last of these 13 parts (this is part 12): SlaveModel returns true, whatever the link, the bank, the ticks and what comes. Conditions: those of the given statement, and no others. -/
import Derived.Test.YtkcmbampiiolbaaGreatParte
import Derived.Test.YtkcmbampiiolbaaGreatProg
import Derived.Test.YtkcmbampiiolbaaGreatParti
import Derived.Test.YtkcmbampiiolbaaGreatPartk
set_option linter.unusedVariables false
set_option linter.unusedSimpArgs false
set_option linter.unusedSectionVars false
section
open Go Go.Proofs Ev Sx
set_option maxRecDepth 100000
namespace Go.Proofs.Lx
abbrev YMT6:Type:=(Int×List Bool×List (Int×List Int))
abbrev YMT0:Type:=(Int×Int×(List Int×(Int×Int)×Int×Int×Int×YMT6×Int)×List Bool)
abbrev YMT1:Type:=(Int×Int×Bool×Bool×Bool)
abbrev YMT8:Type:=(Int×Int×Int×Int×List Int×List Bool)
abbrev YMT2:Type:=(Int×List Int×YMT8×Int×Int×Int×Int×Int)
abbrev YMT7:Ty:=(.pr (.pr (.int .u16) (.int .i64)) (.pr (.int .u8) (.pr (.int .u32) (.pr (.int .u32) (.pr (.pr (.int .u32) (.pr (.ar 8 .bool) (.ar 8 (.pr (.int .i64) (.sl (.int .u16)))))) (.int .i64))))))
abbrev YMT3:Ty:=(.pr (.sl (.int .u16)) YMT7)
abbrev YMT4:Ty:=(.pr (.int .u8) (.pr (.sl (.int .u8)) (.pr (.pr (.int .u8) (.pr (.int .u16) (.pr (.int .u16) (.pr (.int .u16) (.pr (.sl (.int .u16)) (.sl .bool)))))) (.pr (.int .u16) (.pr (.int .u8) (.pr (.int .u32) (.pr (.int .u16) (.int .u32))))))))
abbrev YMT5:Ty:=(.sl (.pr (.int .i64) (.pr (.int .i64) (.pr .bool (.pr .bool .bool)))))
abbrev YsBq0:Type:=List YMT1×List YMT1×List YMT1×List YMT1
abbrev YsBq1:Type:=Int×Int×List Bool×List Int×Int×Int
@[reducible] def qvw_:Sh:=⟨[.d (.pr (.int .u32) (.pr (.ar 8 .bool) (.ar 8 (.pr (.int .i64) (.sl (.int .u16))))))],[],[.pr (.int .u32) (.pr (.ar 8 .bool) (.ar 8 (.pr (.int .i64) (.sl (.int .u16)))))],[.d (.bool)],[],0,[.bool]⟩
def q13y_:Env:=(cts [(2000033,Ev.bxCt),(70,(⟨q7l_,q2w_⟩:Ct)),(142,(⟨q60_,q5t_⟩:Ct))])
def qoz_ (s:Int×List Bool×List (Int×List Int)):Option (As [.bool]) :=
 Option.bind (q5t_ (s,())) fun y=>need (le 0 y.1) (need (le y.1 8) (Option.bind (q2w_ (List.take (Int.toNat (y.1 - 0)) (List.drop 0 s.2.1),false,())) fun y=>some (!y.1,())))
def qpw_ (x:As [.pr (.int .u32) (.pr (.ar 8 .bool) (.ar 8 (.pr (.int .i64) (.sl (.int .u16)))))]):Option (As [.bool]):=qoz_ x.1
theorem q11b_:CtOk Tryz.prog (fun _=>True) 143 ⟨qvw_,qpw_⟩:=ctn (env:=q13y_) (q0_ Ev.bx_ok (q0_ qai_ (q0_ qol_ q3_))) 6 fun J x=>by kernel_rfl
@[reducible] def q1d_:Sh:=⟨[.d YMT3],[],[.pr (.sl (.int .u16)) YMT7],[.d (.bool)],[],0,[.bool]⟩
def q1m_:Env:=(cts [(2000035,Ev.bxCt),(76,(⟨qja_,q7g_⟩:Ct)),(113,(⟨qa3_,q4g_⟩:Ct)),(142,(⟨q60_,q5t_⟩:Ct)),(143,(⟨qvw_,qpw_⟩:Ct))])
def q1n_:List (Nat×Hint):=[(7,⟨[],[1,40,41,42,45,46,47,48,51,52,53,54,60,61,62,63,64,67,68,69,70,71,72,89,90,91]⟩),(62,⟨[],[1,73,89,90,91]⟩),(58,⟨[],[1,16,17,23,24,25,26,27,28,29,40,41,42,45,46,47,48,51,52,53,54,60,61,62,63,64,67,68,69,70,71,72,89,90,91]⟩),(3737,⟨[.agd 23 (.int .i64),.agd 27 (.pr (.int .i64) (.sl (.int .u16))),.agd 28 .bool,.agd 29 .bool],[1,16,17,30]⟩),(6,⟨[],[1,13,23,24,25,26,27,28,29,40,41,42,45,46,47,48,51,52,53,54,60,61,62,63,64,67,68,69,70,71,72,89,90,91]⟩)]
def qib_ (a:List Int×(Int×Int)×Int×Int×Int×YMT6×Int) (t13:Bool):St:={ fr:=[(1,.pe YMT3 a),(13,.d .bool t13)],nt:=93,up:=[],own:=[],nx:=0,log:=[],ln:=0 }
def q4y_ (a:List Int×(Int×Int)×Int×Int×Int×YMT6×Int) (t16:List Bool) (t17:Int):St:={ fr:=[(1,.pe YMT3 a),(16,.d (.ar 8 .bool) t16),(17,.d (.int .i64) t17)],nt:=93,up:=[],own:=[],nx:=0,log:=[],ln:=0 }
def qih_ (a:List Int×(Int×Int)×Int×Int×Int×YMT6×Int) (t16:List Bool) (t17:Int) (t30:Bool):St:={ fr:=[(1,.pe YMT3 a),(16,.d (.ar 8 .bool) t16),(17,.d (.int .i64) t17),(30,.d .bool t30)],nt:=93,up:=[],own:=[],nx:=0,log:=[],ln:=0 }
def qit_ (a:List Int×(Int×Int)×Int×Int×Int×YMT6×Int):St:={ fr:=[(1,.pe YMT3 a)],nt:=93,up:=[],own:=[],nx:=0,log:=[],ln:=0 }
def qhz_ (a:List Int×(Int×Int)×Int×Int×Int×YMT6×Int) (t73:Bool):St:={ fr:=[(1,.pe YMT3 a),(73,.d .bool t73)],nt:=93,up:=[],own:=[],nx:=0,log:=[],ln:=0 }
def quc_ (j2:List Int×(Int×Int)×Int×Int×Int×YMT6×Int->List Bool->Int->Option (As [.bool])) (a:List Int×(Int×Int)×Int×Int×Int×YMT6×Int) (t13:Bool):Option (As [.bool]) :=
 if t13=true then some (false,()) else j2 a a.2.2.2.2.2.1.2.1 0
def q9s_ (j3:List Int×(Int×Int)×Int×Int×Int×YMT6×Int->List Bool->Int->Bool->Option (As [.bool])) (j4:List Int×(Int×Int)×Int×Int×Int×YMT6×Int->Option (As [.bool])) (self2:List Int×(Int×Int)×Int×Int×Int×YMT6×Int->List Bool->Int->Option (As [.bool])) (a:List Int×(Int×Int)×Int×Int×Int×YMT6×Int) (t16:List Bool) (t17:Int):Option (As [.bool]) :=
 if lt t17 8=true then need (lt t17 8) (Option.bind (at? t16 t17) fun y=>if y=true then Option.bind (at? a.2.2.2.2.2.1.2.2 t17) fun y=>Option.bind (q7g_ (y,())) fun y=>j3 a t16 t17 !y.1 else j3 a t16 t17 false) else j4 a
def qio_ (self2:List Int×(Int×Int)×Int×Int×Int×YMT6×Int->List Bool->Int->Option (As [.bool])) (a:List Int×(Int×Int)×Int×Int×Int×YMT6×Int) (t16:List Bool) (t17:Int) (t30:Bool):Option (As [.bool]) :=
 if t30=true then some (false,()) else self2 a t16 (add .i64 t17 1)
def qiv_ (j5:List Int×(Int×Int)×Int×Int×Int×YMT6×Int->Bool->Option (As [.bool])) (a:List Int×(Int×Int)×Int×Int×Int×YMT6×Int):Option (As [.bool]) :=
 if eqi a.2.2.1 0=true then if (eqi a.2.1.1 0 && (eqi a.2.1.2 0 && true))=true then if eqi a.2.2.2.1 0=true then if eqi a.2.2.2.2.2.1.1 0=true then Option.bind (q5t_ (a.2.2.2.2.2.1,())) fun y=>some (eqi y.1 0,()) else some (false,()) else some (false,()) else some (false,()) else Option.bind (q4g_ (a.2.1,())) fun y=>if y.1=true then j5 a true else if le a.2.2.2.1 a.2.2.2.2.1=true then j5 a true else j5 a (nei a.2.2.2.2.2.1.1 a.2.2.2.1)
def qi0_ (a:List Int×(Int×Int)×Int×Int×Int×YMT6×Int) (t73:Bool):Option (As [.bool]) :=
 if t73=true then some (false,()) else if eqi a.2.2.1 1=true then some (ge a.2.1.2 1,()) else if eqi a.2.2.1 2=true then if eqi a.2.1.2 (-1)=true then Option.bind (qpw_ (a.2.2.2.2.2.1,())) fun y=>some (y.1,()) else some (false,()) else some (false,())
def qhs_ (j1:List Int×(Int×Int)×Int×Int×Int×YMT6×Int->Bool->Option (As [.bool])) (a:List Int×(Int×Int)×Int×Int×Int×YMT6×Int):Option (As [.bool]) :=
 if nei (Int.ofNat (List.length a.1)) 64=true then j1 a true else j1 a (lt a.2.2.2.2.2.2 1)
def q9y_ (u2:List Int×(Int×Int)×Int×Int×Int×YMT6×Int->List Bool->Int->Option (As [.bool])) (a:List Int×(Int×Int)×Int×Int×Int×YMT6×Int) (t16:List Bool) (t17:Int) (t30:Bool):Option (As [.bool]):=qio_ u2 a t16 t17 t30
def qdc_ (a:List Int×(Int×Int)×Int×Int×Int×YMT6×Int) (t73:Bool):Option (As [.bool]):=qi0_ a t73
def q9t_ (a:List Int×(Int×Int)×Int×Int×Int×YMT6×Int):Option (As [.bool]):=qiv_ (qdc_) a
def qe1_ (a:List Int×(Int×Int)×Int×Int×Int×YMT6×Int) (t16:List Bool) (t17:Int):Option (As [.bool]) :=
 loopF (fun (self:(List Int×(Int×Int)×Int×Int×Int×YMT6×Int)×(List Bool)×(Int)->Option (As [.bool])) (s:(List Int×(Int×Int)×Int×Int×Int×YMT6×Int)×(List Bool)×(Int))=>q9s_ (q9y_ (fun a t16 t17=>self (a,t16,t17))) (q9t_) (fun a t16 t17=>self (a,t16,t17)) s.1 s.2.1 s.2.2) 18446744073709551616 (a,t16,t17)
def qi7_ (a:List Int×(Int×Int)×Int×Int×Int×YMT6×Int) (t13:Bool):Option (As [.bool]):=quc_ (qe1_) a t13
def qjn_ (x:As [.pr (.sl (.int .u16)) YMT7]):Option (As [.bool]):=qhs_ qi7_ x.1
theorem q12c_  (J w2 a t16 t17 t30):pfn Tryz.prog q1m_ 6 18446744073709551616 (Ev.get q1n_) 94 q1d_ J 3737 [w2] (qih_ a t16 t17 t30)=qio_ (fun a t16 t17=>w2 (q4y_ a t16 t17)) a t16 t17 t30:=by kernel_rfl
theorem q131_  (J a t73):pfn Tryz.prog q1m_ 6 18446744073709551616 (Ev.get q1n_) 94 q1d_ J 62 [] (qhz_ a t73)=qi0_ a t73:=by kernel_rfl
theorem q133_  (J a):pfn Tryz.prog q1m_ 6 18446744073709551616 (Ev.get q1n_) 94 q1d_ J 7 [] (qit_ a)=qiv_ (fun a t73=>J 62 [] (qhz_ a t73)) a:=by kernel_rfl
theorem q11d_  (J w2 a t16 t17):pfn Tryz.prog q1m_ 6 18446744073709551616 (Ev.get q1n_) 94 q1d_ J 58 [w2] (q4y_ a t16 t17)=q9s_ (fun a t16 t17 t30=>J 3737 [w2] (qih_ a t16 t17 t30)) (fun a=>J 7 [] (qit_ a)) (fun a t16 t17=>w2 (q4y_ a t16 t17)) a t16 t17:=by kernel_rfl
theorem q11h_  (J a t13):pfn Tryz.prog q1m_ 6 18446744073709551616 (Ev.get q1n_) 94 q1d_ J 6 [] (qib_ a t13)=quc_ (fun a t16 t17=>J 58 [] (q4y_ a t16 t17)) a t13:=by kernel_rfl
theorem q12q_ (J:Orc (As [.bool])) (x:As [.pr (.sl (.int .u16)) YMT7]):rfn Tryz.prog q1m_ 6 18446744073709551616 (Ev.get q1n_) 94 q1d_ J x=qhs_ (fun a t13=>J 6 [] (qib_ a t13)) x.1:=by kernel_rfl
theorem q12w_  (w2 a t16 t17 t30):jfn Tryz.prog q1m_ 6 18446744073709551616 (Ev.get q1n_) 94 q1d_ 3737 [w2] (qih_ a t16 t17 t30)=q9y_ (fun a t16 t17=>w2 (q4y_ a t16 t17)) a t16 t17 t30:=by
 rw [q6_ (by decide)]
 rw [q12c_]
 rfl
theorem q11k_  (a t73):jfn Tryz.prog q1m_ 6 18446744073709551616 (Ev.get q1n_) 94 q1d_ 62 [] (qhz_ a t73)=qdc_ a t73:=by
 rw [q6_ (by decide)]
 rw [q131_]
 rfl
theorem q12o_  (a):jfn Tryz.prog q1m_ 6 18446744073709551616 (Ev.get q1n_) 94 q1d_ 7 [] (qit_ a)=q9t_ a:=by
 rw [q6_ (by decide)]
 have e5:(fun a t73=>(jfn Tryz.prog q1m_ 6 18446744073709551616 (Ev.get q1n_) 94 q1d_) 62 [] (qhz_ a t73))=qdc_:=by funext a t73; exact q11k_ a t73
 rw [q133_,e5]
 rfl
theorem q11g_  (a t16 t17):jfn Tryz.prog q1m_ 6 18446744073709551616 (Ev.get q1n_) 94 q1d_ 58 [] (q4y_ a t16 t17)=qe1_ a t16 t17:=by
 rw [q6_ (by decide)]
 rw [qo_ (by kernel_rfl)]
 refine qj_ (σ:=(List Int×(Int×Int)×Int×Int×Int×YMT6×Int)×(List Bool)×(Int)) (mk:=fun s=>q4y_ s.1 s.2.1 s.2.2) (fun w2 s=>?_) 18446744073709551616 (a,t16,t17)
 have e3:(fun a t16 t17 t30=>(jfn Tryz.prog q1m_ 6 18446744073709551616 (Ev.get q1n_) 94 q1d_) 3737 [w2] (qih_ a t16 t17 t30))=q9y_ (fun a t16 t17=>w2 (q4y_ a t16 t17)):=by funext a t16 t17 t30; exact q12w_ w2 a t16 t17 t30
 have e4:(fun a=>(jfn Tryz.prog q1m_ 6 18446744073709551616 (Ev.get q1n_) 94 q1d_) 7 [] (qit_ a))=q9t_:=funext fun a=>q12o_ a
 refine (q11d_ _ w2 s.1 s.2.1 s.2.2).trans ?_
 rw [e3,e4]
theorem q11o_  (a t13):jfn Tryz.prog q1m_ 6 18446744073709551616 (Ev.get q1n_) 94 q1d_ 6 [] (qib_ a t13)=qi7_ a t13:=by
 rw [q6_ (by decide)]
 have e2:(fun a t16 t17=>(jfn Tryz.prog q1m_ 6 18446744073709551616 (Ev.get q1n_) 94 q1d_) 58 [] (q4y_ a t16 t17))=qe1_:=by funext a t16 t17; exact q11g_ a t16 t17
 rw [q11h_,e2]
 rfl
theorem q15b_ (x:As [.pr (.sl (.int .u16)) YMT7]):evT Tryz.prog q1m_ 6 18446744073709551616 (Ev.get q1n_) 94 q1d_ x=qjn_ x:=by
 have e1:(fun a t13=>(jfn Tryz.prog q1m_ 6 18446744073709551616 (Ev.get q1n_) 94 q1d_) 6 [] (qib_ a t13))=qi7_:=by funext a t13; exact q11o_ a t13
 rw [qi_,q12q_,e1]
 rfl
theorem q11n_:CtOk Tryz.prog (fun _=>True) 94 ⟨q1d_,qjn_⟩:=qd_ (q0_ Ev.bx_ok (q0_ qhj_ (q0_ qbi_ (q0_ qol_ (q0_ q11b_ q3_))))) q15b_
@[reducible] def qvj_:Sh:=⟨[.d (.pr (.int .u8) (.pr (.int .u8) (.pr YMT3 (.sl .bool))))],[],[.pr (.int .u8) (.pr (.int .u8) (.pr YMT3 (.sl .bool)))],[.d (.bool)],[],0,[.bool]⟩
def q13l_:Env:=(cts [(2000038,Ev.bxCt),(91,(⟨qrh_,q8u_⟩:Ct)),(94,(⟨q1d_,qjn_⟩:Ct))])
def qow_ (s:Int×Int×(List Int×(Int×Int)×Int×Int×Int×YMT6×Int)×List Bool):Option (As [.bool]) :=
 Option.bind (q8u_ (s.1,s.2.1,())) fun y=>if y.1=true then Option.bind (qjn_ (s.2.2.1,())) fun y=>if y.1=true then some (eqi (Int.ofNat (List.length s.2.2.2)) 16,()) else some (false,()) else some (false,())
def qpo_ (x:As [.pr (.int .u8) (.pr (.int .u8) (.pr YMT3 (.sl .bool)))]):Option (As [.bool]):=qow_ x.1
theorem q11v_:CtOk Tryz.prog (fun _=>True) 37 ⟨qvj_,qpo_⟩:=ctn (env:=q13l_) (q0_ Ev.bx_ok (q0_ qqr_ (q0_ q11n_ q3_))) 6 fun J x=>by kernel_rfl
@[reducible] def q9_:Sh:=⟨[.d (.int .u8),.d (.sl (.int .u16)),.d (.int .u8),.d (.sl YMT4)],[],[.int .u8,.sl (.int .u16),.int .u8,.sl YMT4],[.d (.bool)],[],0,[.bool]⟩
def qb_:Env:=(cts [(9,(⟨qvq_,qpj_⟩:Ct)),(10,(⟨qvs_,qge_⟩:Ct)),(15,(⟨q7h_,q89_⟩:Ct)),(16,(⟨qa8_,qiq_⟩:Ct)),(22,(⟨q4c_,qqf_⟩:Ct)),(25,(⟨qtb_,qjx_⟩:Ct)),(27,(⟨qsx_,qew_⟩:Ct)),(31,(⟨q10d_,qsj_⟩:Ct)),(32,(⟨qxa_,qf7_⟩:Ct)),(37,(⟨qvj_,qpo_⟩:Ct)),(40,(⟨q4r_,q7w_⟩:Ct)),(47,(⟨q2_,q3t_⟩:Ct)),(49,(⟨q3k_,q3q_⟩:Ct)),(50,(⟨qr8_,qgc_⟩:Ct)),(51,(⟨qvf_,qps_⟩:Ct)),(52,(⟨qvb_,qcg_⟩:Ct)),(53,(⟨qee_,qsh_⟩:Ct)),(54,(⟨q3j_,q4w_⟩:Ct))])
def qa_:List (Nat×Hint):=[(506,⟨[],[9,11,52,53,54,70,71,72,73,105,106,107,108,118,119,120,121,122,123,126,127,128,129,130,131,145,146,147,150,151,152,153,154,155,156,157,158,161,162,163,164,172,173,174,175,176,177,178,179,180,183,184,185,186,187,188,189,190,191,192,193,194,195,196,202,203,204,205]⟩),(16593919,⟨[.agd 106 (.sl (.int .u16)),.agd 107 (.int .i64),.agd 108 .bool],[9,11,15,16,19,20,21,23,25,52,53,54]⟩),(33187839,⟨[],[9,11,15,23,52,53,54,70,71,72,73,105,106,107,108,118,119,120,121,122,123,126,127,128,129,130,131,145,146,147,150,151,152,153,154,155,156,157,158,161,162,163,164,172,173,174,175,176,177,178,179,180,183,184,185,186,187,188,189,190,191,192,193,194,195,196,202,203,204,205]⟩),(132751358,⟨[.agd 202 (.pr (.int .u8) (.pr (.int .u8) (.pr YMT3 (.sl .bool)))),.agd 203 (.pr (.int .u8) (.pr (.int .u8) (.pr YMT3 (.sl .bool)))),.agd 204 .bool,.agd 205 .bool],[9,11,15,52,53,54,206]⟩),(2124021711,⟨[.agd 172 (.pr YMT5 (.pr YMT5 (.pr YMT5 YMT5))),.agd 173 (.pr (.int .u8) (.pr (.int .u16) (.pr (.int .u16) (.pr (.int .u16) (.pr (.sl (.int .u16)) (.sl .bool)))))),.agd 174 (.int .u8),.agd 175 .bool,.agd 176 .bool,.agd 178 (.int .u8),.agd 179 .bool,.agd 180 .bool,.agd 183 (.pr YMT5 (.pr YMT5 (.pr YMT5 YMT5))),.agd 184 (.pr (.int .u8) (.pr (.int .u16) (.pr (.int .u16) (.pr (.int .u16) (.pr (.sl (.int .u16)) (.sl .bool)))))),.agd 185 (.int .u8),.agd 186 .bool,.agd 187 .bool,.agd 189 (.int .u8),.agd 190 .bool,.agd 191 .bool,.agd 192 .bool,.agd 194 (.int .u8),.agd 195 .bool,.agd 196 .bool],[9,11,15,23,52,53,54,166]⟩),(4248043421,⟨[.agd 146 (.int .u8),.agd 147 .bool,.agd 151 (.int .u8),.agd 152 .bool,.agd 153 .bool,.agd 154 (.sl (.int .u8)),.agd 155 (.sl (.int .u8)),.agd 156 .bool,.agd 157 .bool,.agd 158 .bool,.agd 161 (.pr (.int .u8) (.pr (.int .u16) (.pr (.int .u16) (.pr (.int .u16) (.pr (.sl (.int .u16)) (.sl .bool)))))),.agd 162 (.pr (.int .u8) (.pr (.int .u8) (.pr (.sl .bool) (.pr (.sl (.int .u16)) (.pr (.int .u16) (.int .u16)))))),.agd 163 .bool,.agd 164 .bool],[9,11,15,23,52,53,54,165]⟩),(531005426,⟨[.agd 119 (.sl .bool),.agd 121 (.sl .bool),.agd 122 .bool,.agd 123 .bool,.agd 127 YMT3,.agd 129 YMT3,.agd 130 .bool,.agd 131 .bool],[9,11,15,23,52,53,54,132]⟩),(259278,⟨[.agd 70 (.pr YMT5 (.pr YMT5 (.pr YMT5 YMT5))),.agd 71 (.pr (.sl .bool) (.pr (.sl .bool) (.pr (.sl (.int .u16)) (.sl (.int .u16))))),.agd 72 .bool,.agd 73 .bool],[9,11,13,14,15,16,52,53,54,74]⟩),(30,⟨[],[3,9,10,46,49,70,71,72,73,105,106,107,108,118,119,120,121,122,123,126,127,128,129,130,131,145,146,147,150,151,152,153,154,155,156,157,158,161,162,163,164,172,173,174,175,176,177,178,179,180,183,184,185,186,187,188,189,190,191,192,193,194,195,196,202,203,204,205]⟩)]
def qb2_ (l:List YMT2) (s:Int) (ok t46:Bool) (s_2:List YMT0):St:={ fr:=[(3,.d (.sl YMT4) l),(9,.prw 0 s 35 0),(10,.d .bool ok),(46,.d .bool t46)],nt:=210,up:=[],own:=[(0,.row (.pr (.int .u8) (.pr (.int .u8) (.pr YMT3 (.sl .bool)))) 38 s_2)],nx:=1,log:=[],ln:=0 }
def qc_ (s:Int) (t52:List YMT2) (t53 t54:Int) (s_2:List YMT0) (space:YsBq0):St:={ fr:=[(9,.prw 0 s 35 0),(11,.pb 1 0),(52,.d (.sl YMT4) t52),(53,.d (.int .i64) t53),(54,.d (.int .i64) t54)],nt:=210,up:=[],own:=[(0,.row (.pr (.int .u8) (.pr (.int .u8) (.pr YMT3 (.sl .bool)))) 38 s_2),(1,.box 101 [.d YMT5 space.1,.d YMT5 space.2.1,.d YMT5 space.2.2.1,.d YMT5 space.2.2.2])],nx:=2,log:=[],ln:=0 }
def qax_ (s next:Int) (out:List Int) (t52:List YMT2) (t53 t54:Int) (t74:Bool) (s_2:List YMT0) (space:YsBq0) (o:Int×List Int×YMT8×Int×Int×Int×Int×Int) (m:List Bool×List Bool×List Int×List Int) (next_2:List YMT0):St:={ fr:=[(9,.prw 0 s 35 0),(11,.pb 1 0),(13,.pb 2 0),(14,.pb 3 0),(15,.prw 4 next 35 0),(16,.d (.sl (.int .u8)) out),(52,.d (.sl YMT4) t52),(53,.d (.int .i64) t53),(54,.d (.int .i64) t54),(74,.d .bool t74)],nt:=210,up:=[],own:=[(0,.row (.pr (.int .u8) (.pr (.int .u8) (.pr YMT3 (.sl .bool)))) 38 s_2),(1,.box 101 [.d YMT5 space.1,.d YMT5 space.2.1,.d YMT5 space.2.2.1,.d YMT5 space.2.2.2]),(2,.box 72 [.d (.int .u8) o.1,.d (.sl (.int .u8)) o.2.1,.d (.int .u8) o.2.2.1.1,.d (.int .u16) o.2.2.1.2.1,.d (.int .u16) o.2.2.1.2.2.1,.d (.int .u16) o.2.2.1.2.2.2.1,.d (.sl (.int .u16)) o.2.2.1.2.2.2.2.1,.d (.sl .bool) o.2.2.1.2.2.2.2.2,.d (.int .u16) o.2.2.2.1,.d (.int .u8) o.2.2.2.2.1,.d (.int .u32) o.2.2.2.2.2.1,.d (.int .u16) o.2.2.2.2.2.2.1,.d (.int .u32) o.2.2.2.2.2.2.2]),(3,.box 96 [.d (.sl .bool) m.1,.d (.sl .bool) m.2.1,.d (.sl (.int .u16)) m.2.2.1,.d (.sl (.int .u16)) m.2.2.2]),(4,.row (.pr (.int .u8) (.pr (.int .u8) (.pr YMT3 (.sl .bool)))) 38 next_2)],nx:=5,log:=[],ln:=0 }
def qay_ (s next:Int) (out want:List Int) (writes:Bool) (t52:List YMT2) (t53 t54:Int) (s_2:List YMT0) (space:YsBq0) (next_2:List YMT0) (n:List Bool×List Bool×List Int×List Int) (a:Int×Int×Int×Int×List Int×List Bool) (r:YsBq1):St:={ fr:=[(9,.prw 0 s 35 0),(11,.pb 1 0),(15,.prw 2 next 35 0),(16,.d (.sl (.int .u8)) out),(19,.pb 3 0),(20,.d (.sl (.int .u8)) want),(21,.pb 4 0),(23,.pb 5 0),(25,.d .bool writes),(52,.d (.sl YMT4) t52),(53,.d (.int .i64) t53),(54,.d (.int .i64) t54)],nt:=210,up:=[],own:=[(0,.row (.pr (.int .u8) (.pr (.int .u8) (.pr YMT3 (.sl .bool)))) 38 s_2),(1,.box 101 [.d YMT5 space.1,.d YMT5 space.2.1,.d YMT5 space.2.2.1,.d YMT5 space.2.2.2]),(2,.row (.pr (.int .u8) (.pr (.int .u8) (.pr YMT3 (.sl .bool)))) 38 next_2),(3,.box 96 [.d (.sl .bool) n.1,.d (.sl .bool) n.2.1,.d (.sl (.int .u16)) n.2.2.1,.d (.sl (.int .u16)) n.2.2.2]),(4,.box 44 [.d (.int .u8) a.1,.d (.int .u16) a.2.1,.d (.int .u16) a.2.2.1,.d (.int .u16) a.2.2.2.1,.d (.sl (.int .u16)) a.2.2.2.2.1,.d (.sl .bool) a.2.2.2.2.2]),(5,.box 46 [.d (.int .u8) r.1,.d (.int .u8) r.2.1,.d (.sl .bool) r.2.2.1,.d (.sl (.int .u16)) r.2.2.2.1,.d (.int .u16) r.2.2.2.2.1,.d (.int .u16) r.2.2.2.2.2])],nx:=6,log:=[],ln:=0 }
def qb4_ (s next:Int) (t52:List YMT2) (t53 t54:Int) (t132:Bool) (s_2:List YMT0) (space:YsBq0) (next_2:List YMT0) (r:YsBq1):St:={ fr:=[(9,.prw 0 s 35 0),(11,.pb 1 0),(15,.prw 2 next 35 0),(23,.pb 3 0),(52,.d (.sl YMT4) t52),(53,.d (.int .i64) t53),(54,.d (.int .i64) t54),(132,.d .bool t132)],nt:=210,up:=[],own:=[(0,.row (.pr (.int .u8) (.pr (.int .u8) (.pr YMT3 (.sl .bool)))) 38 s_2),(1,.box 101 [.d YMT5 space.1,.d YMT5 space.2.1,.d YMT5 space.2.2.1,.d YMT5 space.2.2.2]),(2,.row (.pr (.int .u8) (.pr (.int .u8) (.pr YMT3 (.sl .bool)))) 38 next_2),(3,.box 46 [.d (.int .u8) r.1,.d (.int .u8) r.2.1,.d (.sl .bool) r.2.2.1,.d (.sl (.int .u16)) r.2.2.2.1,.d (.int .u16) r.2.2.2.2.1,.d (.int .u16) r.2.2.2.2.2])],nx:=4,log:=[],ln:=0 }
def qb0_ (s next:Int) (t52:List YMT2) (t53 t54:Int) (t165:Bool) (s_2:List YMT0) (space:YsBq0) (next_2:List YMT0) (r:YsBq1):St:={ fr:=[(9,.prw 0 s 35 0),(11,.pb 1 0),(15,.prw 2 next 35 0),(23,.pb 3 0),(52,.d (.sl YMT4) t52),(53,.d (.int .i64) t53),(54,.d (.int .i64) t54),(165,.d .bool t165)],nt:=210,up:=[],own:=[(0,.row (.pr (.int .u8) (.pr (.int .u8) (.pr YMT3 (.sl .bool)))) 38 s_2),(1,.box 101 [.d YMT5 space.1,.d YMT5 space.2.1,.d YMT5 space.2.2.1,.d YMT5 space.2.2.2]),(2,.row (.pr (.int .u8) (.pr (.int .u8) (.pr YMT3 (.sl .bool)))) 38 next_2),(3,.box 46 [.d (.int .u8) r.1,.d (.int .u8) r.2.1,.d (.sl .bool) r.2.2.1,.d (.sl (.int .u16)) r.2.2.2.1,.d (.int .u16) r.2.2.2.2.1,.d (.int .u16) r.2.2.2.2.2])],nx:=4,log:=[],ln:=0 }
def qb8_ (s next:Int) (t52:List YMT2) (t53 t54:Int) (t166:Bool) (s_2:List YMT0) (space:YsBq0) (next_2:List YMT0) (r:YsBq1):St:={ fr:=[(9,.prw 0 s 35 0),(11,.pb 1 0),(15,.prw 2 next 35 0),(23,.pb 3 0),(52,.d (.sl YMT4) t52),(53,.d (.int .i64) t53),(54,.d (.int .i64) t54),(166,.d .bool t166)],nt:=210,up:=[],own:=[(0,.row (.pr (.int .u8) (.pr (.int .u8) (.pr YMT3 (.sl .bool)))) 38 s_2),(1,.box 101 [.d YMT5 space.1,.d YMT5 space.2.1,.d YMT5 space.2.2.1,.d YMT5 space.2.2.2]),(2,.row (.pr (.int .u8) (.pr (.int .u8) (.pr YMT3 (.sl .bool)))) 38 next_2),(3,.box 46 [.d (.int .u8) r.1,.d (.int .u8) r.2.1,.d (.sl .bool) r.2.2.1,.d (.sl (.int .u16)) r.2.2.2.1,.d (.int .u16) r.2.2.2.2.1,.d (.int .u16) r.2.2.2.2.2])],nx:=4,log:=[],ln:=0 }
def q3h_ (s next:Int) (t52:List YMT2) (t53 t54:Int) (s_2:List YMT0) (space:YsBq0) (next_2:List YMT0) (r:YsBq1):St:={ fr:=[(9,.prw 0 s 35 0),(11,.pb 1 0),(15,.prw 2 next 35 0),(23,.pb 3 0),(52,.d (.sl YMT4) t52),(53,.d (.int .i64) t53),(54,.d (.int .i64) t54)],nt:=210,up:=[],own:=[(0,.row (.pr (.int .u8) (.pr (.int .u8) (.pr YMT3 (.sl .bool)))) 38 s_2),(1,.box 101 [.d YMT5 space.1,.d YMT5 space.2.1,.d YMT5 space.2.2.1,.d YMT5 space.2.2.2]),(2,.row (.pr (.int .u8) (.pr (.int .u8) (.pr YMT3 (.sl .bool)))) 38 next_2),(3,.box 46 [.d (.int .u8) r.1,.d (.int .u8) r.2.1,.d (.sl .bool) r.2.2.1,.d (.sl (.int .u16)) r.2.2.2.1,.d (.int .u16) r.2.2.2.2.1,.d (.int .u16) r.2.2.2.2.2])],nx:=4,log:=[],ln:=0 }
def qb1_ (s next:Int) (t52:List YMT2) (t53 t54:Int) (t206:Bool) (s_2:List YMT0) (space:YsBq0) (next_2:List YMT0):St:={ fr:=[(9,.prw 0 s 35 0),(11,.pb 1 0),(15,.prw 2 next 35 0),(52,.d (.sl YMT4) t52),(53,.d (.int .i64) t53),(54,.d (.int .i64) t54),(206,.d .bool t206)],nt:=210,up:=[],own:=[(0,.row (.pr (.int .u8) (.pr (.int .u8) (.pr YMT3 (.sl .bool)))) 38 s_2),(1,.box 101 [.d YMT5 space.1,.d YMT5 space.2.1,.d YMT5 space.2.2.1,.d YMT5 space.2.2.2]),(2,.row (.pr (.int .u8) (.pr (.int .u8) (.pr YMT3 (.sl .bool)))) 38 next_2)],nx:=3,log:=[],ln:=0 }
def qb6_ (j2:Int->List YMT2->Int->Int->List YMT0->YsBq0->Option (As [.bool])) (l:List YMT2) (s:Int) (ok t46:Bool) (s_2:List YMT0):Option (As [.bool]) :=
 if t46=true then if ok=true then Option.bind (qge_ ()) fun y=>some (y.1,()) else some (false,()) else Option.bind (q3q_ ()) fun y=>j2 s l (Int.ofNat (List.length l)) 0 s_2 y.1
def q5e_ (j3:Int->Int->List Int->List YMT2->Int->Int->Bool->List YMT0->YsBq0->Int×List Int×YMT8×Int×Int×Int×Int×Int->List Bool×List Bool×List Int×List Int->List YMT0->Option (As [.bool])) (self2:Int->List YMT2->Int->Int->List YMT0->YsBq0->Option (As [.bool])) (s:Int) (t52:List YMT2) (t53 t54:Int) (s_2:List YMT0) (space:YsBq0):Option (As [.bool]) :=
 if lt t54 t53=true then Option.bind (at? t52 t54) fun y=>Option.bind (at? s_2 s) fun y_1=>Option.bind (q3t_ (y_1,())) fun y_2=>Option.bind (at? s_2 s) fun y_3=>Option.bind (qjx_ (y,y_3,())) fun y_4=>Option.bind (qpo_ (y_4.1,())) fun y_5=>if (!y_5.1)=true then j3 s 0 y_4.2.1 t52 t53 t54 true s_2 space y y_2.1 [y_4.1] else Option.bind (qgc_ (space,y_2.1,())) fun y_6=>j3 s 0 y_4.2.1 t52 t53 t54 (!y_6.1) s_2 space y y_2.1 [y_4.1] else Option.bind (qge_ ()) fun y=>some (y.1,())
def qaz_ (j4:Int->Int->List Int->List Int->Bool->List YMT2->Int->Int->List YMT0->YsBq0->List YMT0->List Bool×List Bool×List Int×List Int->Int×Int×Int×Int×List Int×List Bool->YsBq1->Option (As [.bool])) (self2:Int->List YMT2->Int->Int->List YMT0->YsBq0->Option (As [.bool])) (s next:Int) (out:List Int) (t52:List YMT2) (t53 t54:Int) (t74:Bool) (s_2:List YMT0) (space:YsBq0) (o:Int×List Int×YMT8×Int×Int×Int×Int×Int) (m:List Bool×List Bool×List Int×List Int) (next_2:List YMT0):Option (As [.bool]) :=
 if t74=true then some (false,()) else Option.bind (q7w_ (o,())) fun y=>if (!y.2.1)=true then Option.bind (at? next_2 next) fun y=>Option.bind (at? s_2 s) fun x=>self2 s t52 t53 (add .i64 t54 1) (List.set s_2 (Int.toNat s) y) space else Option.bind (qps_ (space,m,y.1,())) fun y_1=>Option.bind (qcg_ (y.1,())) fun y=>Option.bind (q89_ (out,())) fun y_2=>if nei y_2.2.1 0=true then some (false,()) else if eqi y.2.1 0=true then j4 s next out y_1.2.1 (gt (Int.ofNat (List.length y.1.2.2.2.2.1)) 0) t52 t53 t54 s_2 space next_2 y_1.1 y.1 y_2.1 else j4 s next out y_1.2.1 false t52 t53 t54 s_2 space next_2 y_1.1 y.1 y_2.1
def q5f_ (j5 j6 j7:Int->Int->List YMT2->Int->Int->Bool->List YMT0->YsBq0->List YMT0->YsBq1->Option (As [.bool])) (self2:Int->List YMT2->Int->Int->List YMT0->YsBq0->Option (As [.bool])) (s next:Int) (out want:List Int) (writes:Bool) (t52:List YMT2) (t53 t54:Int) (s_2:List YMT0) (space:YsBq0) (next_2:List YMT0) (n:List Bool×List Bool×List Int×List Int) (a:Int×Int×Int×Int×List Int×List Bool) (r:YsBq1):Option (As [.bool]) :=
 if (!writes)=true then Option.bind (qsj_ (out,want,())) fun y=>if (!y.1)=true then j5 s next t52 t53 t54 true s_2 space next_2 r else Option.bind (at? next_2 next) fun y=>Option.bind (qsh_ (y.2.2.2,n.1,())) fun y=>if (!y.1)=true then j5 s next t52 t53 t54 true s_2 space next_2 r else Option.bind (at? next_2 next) fun y=>Option.bind (at? s_2 s) fun y_1=>Option.bind (qew_ (y.2.2.1,y_1.2.2.1,())) fun y=>j5 s next t52 t53 t54 (!y.1) s_2 space next_2 r else if eqi r.2.1 0=true then Option.bind (q89_ (want,())) fun y=>if nei y.2.1 0=true then j6 s next t52 t53 t54 true s_2 space next_2 r else if nei y.1.2.1 0=true then j6 s next t52 t53 t54 true s_2 space next_2 r else if nei a.1 23=true then Option.bind (qsj_ (out,want,())) fun y=>if (!y.1)=true then j6 s next t52 t53 t54 true s_2 space next_2 r else Option.bind (qiq_ (a,r,())) fun y=>j6 s next t52 t53 t54 (!y.1) s_2 space next_2 r else Option.bind (qiq_ (a,r,())) fun y=>j6 s next t52 t53 t54 (!y.1) s_2 space next_2 r else Option.bind (at? next_2 next) fun y=>Option.bind (at? s_2 s) fun y_1=>Option.bind (qf7_ (y,y_1,())) fun y=>if (!y.1)=true then j7 s next t52 t53 t54 true s_2 space next_2 r else Option.bind (q4w_ (space,a,())) fun y=>if nei y.1 0=true then if nei r.2.1 2=true then j7 s next t52 t53 t54 true s_2 space next_2 r else Option.bind (q4w_ (space,a,())) fun y=>if eqi y.1 0=true then if nei r.2.1 3=true then j7 s next t52 t53 t54 (nei r.2.1 4) s_2 space next_2 r else j7 s next t52 t53 t54 false s_2 space next_2 r else j7 s next t52 t53 t54 false s_2 space next_2 r else Option.bind (q4w_ (space,a,())) fun y=>if eqi y.1 0=true then if nei r.2.1 3=true then j7 s next t52 t53 t54 (nei r.2.1 4) s_2 space next_2 r else j7 s next t52 t53 t54 false s_2 space next_2 r else j7 s next t52 t53 t54 false s_2 space next_2 r
def qod_ (j8:Int->Int->List YMT2->Int->Int->List YMT0->YsBq0->List YMT0->YsBq1->Option (As [.bool])) (self2:Int->List YMT2->Int->Int->List YMT0->YsBq0->Option (As [.bool])) (s next:Int) (t52:List YMT2) (t53 t54:Int) (t132:Bool) (s_2:List YMT0) (space:YsBq0) (next_2:List YMT0) (r:YsBq1):Option (As [.bool]) :=
 if t132=true then some (false,()) else j8 s next t52 t53 t54 s_2 space next_2 r
def qob_ (j8:Int->Int->List YMT2->Int->Int->List YMT0->YsBq0->List YMT0->YsBq1->Option (As [.bool])) (self2:Int->List YMT2->Int->Int->List YMT0->YsBq0->Option (As [.bool])) (s next:Int) (t52:List YMT2) (t53 t54:Int) (t165:Bool) (s_2:List YMT0) (space:YsBq0) (next_2:List YMT0) (r:YsBq1):Option (As [.bool]) :=
 if t165=true then some (false,()) else j8 s next t52 t53 t54 s_2 space next_2 r
def qoe_ (j8:Int->Int->List YMT2->Int->Int->List YMT0->YsBq0->List YMT0->YsBq1->Option (As [.bool])) (self2:Int->List YMT2->Int->Int->List YMT0->YsBq0->Option (As [.bool])) (s next:Int) (t52:List YMT2) (t53 t54:Int) (t166:Bool) (s_2:List YMT0) (space:YsBq0) (next_2:List YMT0) (r:YsBq1):Option (As [.bool]) :=
 if t166=true then some (false,()) else j8 s next t52 t53 t54 s_2 space next_2 r
def qb5_ (j9:Int->Int->List YMT2->Int->Int->Bool->List YMT0->YsBq0->List YMT0->Option (As [.bool])) (self2:Int->List YMT2->Int->Int->List YMT0->YsBq0->Option (As [.bool])) (s next:Int) (t52:List YMT2) (t53 t54:Int) (s_2:List YMT0) (space:YsBq0) (next_2:List YMT0) (r:YsBq1):Option (As [.bool]) :=
 if nei r.2.1 0=true then Option.bind (at? next_2 next) fun y=>Option.bind (at? s_2 s) fun y_1=>Option.bind (qf7_ (y,y_1,())) fun y=>j9 s next t52 t53 t54 (!y.1) s_2 space next_2 else j9 s next t52 t53 t54 false s_2 space next_2
def qb7_ (self2:Int->List YMT2->Int->Int->List YMT0->YsBq0->Option (As [.bool])) (s next:Int) (t52:List YMT2) (t53 t54:Int) (t206:Bool) (s_2:List YMT0) (space:YsBq0) (next_2:List YMT0):Option (As [.bool]) :=
 if t206=true then some (false,()) else Option.bind (at? next_2 next) fun y=>Option.bind (at? s_2 s) fun x=>self2 s t52 t53 (add .i64 t54 1) (List.set s_2 (Int.toNat s) y) space
def qb3_ (j1:List YMT2->Int->Bool->Bool->List YMT0->Option (As [.bool])) (link:Int) (b:List Int) (ticks:Int) (l:List YMT2):Option (As [.bool]) :=
 Option.bind (qpj_ (link,b,ticks,())) fun y=>Option.bind (cut l 0 (if lt 60 (Int.ofNat (List.length l))=true then 60 else Int.ofNat (List.length l))) fun y_1=>if (!y.2.1)=true then j1 y_1 0 y.2.1 true [y.1] else Option.bind (qqf_ (y_1,60,())) fun y_2=>j1 y_1 0 y.2.1 (!y_2.1) [y.1]
def q7s_ (u2:Int->List YMT2->Int->Int->List YMT0->YsBq0->Option (As [.bool])) (s next:Int) (t52:List YMT2) (t53 t54:Int) (t206:Bool) (s_2:List YMT0) (space:YsBq0) (next_2:List YMT0):Option (As [.bool]):=qb7_ u2 s next t52 t53 t54 t206 s_2 space next_2
def q27_ (u2:Int->List YMT2->Int->Int->List YMT0->YsBq0->Option (As [.bool])) (s next:Int) (t52:List YMT2) (t53 t54:Int) (s_2:List YMT0) (space:YsBq0) (next_2:List YMT0) (r:YsBq1):Option (As [.bool]):=qb5_ (q7s_ u2) u2 s next t52 t53 t54 s_2 space next_2 r
def q7u_ (u2:Int->List YMT2->Int->Int->List YMT0->YsBq0->Option (As [.bool])) (s next:Int) (t52:List YMT2) (t53 t54:Int) (t132:Bool) (s_2:List YMT0) (space:YsBq0) (next_2:List YMT0) (r:YsBq1):Option (As [.bool]):=qod_ (q27_ u2) u2 s next t52 t53 t54 t132 s_2 space next_2 r
def q5g_ (u2:Int->List YMT2->Int->Int->List YMT0->YsBq0->Option (As [.bool])) (s next:Int) (t52:List YMT2) (t53 t54:Int) (t165:Bool) (s_2:List YMT0) (space:YsBq0) (next_2:List YMT0) (r:YsBq1):Option (As [.bool]):=qob_ (q27_ u2) u2 s next t52 t53 t54 t165 s_2 space next_2 r
def q5d_ (u2:Int->List YMT2->Int->Int->List YMT0->YsBq0->Option (As [.bool])) (s next:Int) (t52:List YMT2) (t53 t54:Int) (t166:Bool) (s_2:List YMT0) (space:YsBq0) (next_2:List YMT0) (r:YsBq1):Option (As [.bool]):=qoe_ (q27_ u2) u2 s next t52 t53 t54 t166 s_2 space next_2 r
def q7t_ (u2:Int->List YMT2->Int->Int->List YMT0->YsBq0->Option (As [.bool])) (s next:Int) (out want:List Int) (writes:Bool) (t52:List YMT2) (t53 t54:Int) (s_2:List YMT0) (space:YsBq0) (next_2:List YMT0) (n:List Bool×List Bool×List Int×List Int) (a:Int×Int×Int×Int×List Int×List Bool) (r:YsBq1):Option (As [.bool]):=q5f_ (q7u_ u2) (q5g_ u2) (q5d_ u2) u2 s next out want writes t52 t53 t54 s_2 space next_2 n a r
def q7p_ (u2:Int->List YMT2->Int->Int->List YMT0->YsBq0->Option (As [.bool])) (s next:Int) (out:List Int) (t52:List YMT2) (t53 t54:Int) (t74:Bool) (s_2:List YMT0) (space:YsBq0) (o:Int×List Int×YMT8×Int×Int×Int×Int×Int) (m:List Bool×List Bool×List Int×List Int) (next_2:List YMT0):Option (As [.bool]):=qaz_ (q7t_ u2) u2 s next out t52 t53 t54 t74 s_2 space o m next_2
def q5b_ (s:Int) (t52:List YMT2) (t53 t54:Int) (s_2:List YMT0) (space:YsBq0):Option (As [.bool]) :=
 loopF (fun (self:(Int)×(List YMT2)×(Int)×(Int)×(List YMT0)×(YsBq0)->Option (As [.bool])) (s:(Int)×(List YMT2)×(Int)×(Int)×(List YMT0)×(YsBq0))=>q5e_ (q7p_ (fun s t52 t53 t54 s_2 space=>self (s,t52,t53,t54,s_2,space))) (fun s t52 t53 t54 s_2 space=>self (s,t52,t53,t54,s_2,space)) s.1 s.2.1 s.2.2.1 s.2.2.2.1 s.2.2.2.2.1 s.2.2.2.2.2) 18446744073709551616 (s,t52,t53,t54,s_2,space)
def q7q_ (l:List YMT2) (s:Int) (ok t46:Bool) (s_2:List YMT0):Option (As [.bool]):=qb6_ (q5b_) l s ok t46 s_2
def qes_ (x:As [.int .u8,.sl (.int .u16),.int .u8,.sl YMT4]):Option (As [.bool]):=qb3_ q7q_ x.1 x.2.1 x.2.2.1 x.2.2.2.1
theorem qw1_  (J w2 s next t52 t53 t54 t206 s_2 space next_2):pfn Tryz.prog qb_ 6 18446744073709551616 (Ev.get qa_) 8 q9_ J 132751358 [w2] (qb1_ s next t52 t53 t54 t206 s_2 space next_2)=qb7_ (fun s t52 t53 t54 s_2 space=>w2 (qc_ s t52 t53 t54 s_2 space)) s next t52 t53 t54 t206 s_2 space next_2:=by kernel_rfl
theorem qwy_  (J w2 s next t52 t53 t54 s_2 space next_2 r):pfn Tryz.prog qb_ 6 18446744073709551616 (Ev.get qa_) 8 q9_ J 33187839 [w2] (q3h_ s next t52 t53 t54 s_2 space next_2 r)=qb5_ (fun s next t52 t53 t54 t206 s_2 space next_2=>J 132751358 [w2] (qb1_ s next t52 t53 t54 t206 s_2 space next_2)) (fun s t52 t53 t54 s_2 space=>w2 (qc_ s t52 t53 t54 s_2 space)) s next t52 t53 t54 s_2 space next_2 r:=by kernel_rfl
theorem qw6_  (J w2 s next t52 t53 t54 t132 s_2 space next_2 r):pfn Tryz.prog qb_ 6 18446744073709551616 (Ev.get qa_) 8 q9_ J 531005426 [w2] (qb4_ s next t52 t53 t54 t132 s_2 space next_2 r)=qod_ (fun s next t52 t53 t54 s_2 space next_2 r=>J 33187839 [w2] (q3h_ s next t52 t53 t54 s_2 space next_2 r)) (fun s t52 t53 t54 s_2 space=>w2 (qc_ s t52 t53 t54 s_2 space)) s next t52 t53 t54 t132 s_2 space next_2 r:=by kernel_rfl
theorem qws_  (J w2 s next t52 t53 t54 t165 s_2 space next_2 r):pfn Tryz.prog qb_ 6 18446744073709551616 (Ev.get qa_) 8 q9_ J 4248043421 [w2] (qb0_ s next t52 t53 t54 t165 s_2 space next_2 r)=qob_ (fun s next t52 t53 t54 s_2 space next_2 r=>J 33187839 [w2] (q3h_ s next t52 t53 t54 s_2 space next_2 r)) (fun s t52 t53 t54 s_2 space=>w2 (qc_ s t52 t53 t54 s_2 space)) s next t52 t53 t54 t165 s_2 space next_2 r:=by kernel_rfl
theorem qwb_  (J w2 s next t52 t53 t54 t166 s_2 space next_2 r):pfn Tryz.prog qb_ 6 18446744073709551616 (Ev.get qa_) 8 q9_ J 2124021711 [w2] (qb8_ s next t52 t53 t54 t166 s_2 space next_2 r)=qoe_ (fun s next t52 t53 t54 s_2 space next_2 r=>J 33187839 [w2] (q3h_ s next t52 t53 t54 s_2 space next_2 r)) (fun s t52 t53 t54 s_2 space=>w2 (qc_ s t52 t53 t54 s_2 space)) s next t52 t53 t54 t166 s_2 space next_2 r:=by kernel_rfl
theorem qww_  (J w2 s next out want writes t52 t53 t54 s_2 space next_2 n a r):pfn Tryz.prog qb_ 6 18446744073709551616 (Ev.get qa_) 8 q9_ J 16593919 [w2] (qay_ s next out want writes t52 t53 t54 s_2 space next_2 n a r)=q5f_ (fun s next t52 t53 t54 t132 s_2 space next_2 r=>J 531005426 [w2] (qb4_ s next t52 t53 t54 t132 s_2 space next_2 r)) (fun s next t52 t53 t54 t165 s_2 space next_2 r=>J 4248043421 [w2] (qb0_ s next t52 t53 t54 t165 s_2 space next_2 r)) (fun s next t52 t53 t54 t166 s_2 space next_2 r=>J 2124021711 [w2] (qb8_ s next t52 t53 t54 t166 s_2 space next_2 r)) (fun s t52 t53 t54 s_2 space=>w2 (qc_ s t52 t53 t54 s_2 space)) s next out want writes t52 t53 t54 s_2 space next_2 n a r:=by kernel_rfl
theorem qw3_  (J w2 s next out t52 t53 t54 t74 s_2 space o m next_2):pfn Tryz.prog qb_ 6 18446744073709551616 (Ev.get qa_) 8 q9_ J 259278 [w2] (qax_ s next out t52 t53 t54 t74 s_2 space o m next_2)=qaz_ (fun s next out want writes t52 t53 t54 s_2 space next_2 n a r=>J 16593919 [w2] (qay_ s next out want writes t52 t53 t54 s_2 space next_2 n a r)) (fun s t52 t53 t54 s_2 space=>w2 (qc_ s t52 t53 t54 s_2 space)) s next out t52 t53 t54 t74 s_2 space o m next_2:=by kernel_rfl
theorem qwv_  (J w2 s t52 t53 t54 s_2 space):pfn Tryz.prog qb_ 6 18446744073709551616 (Ev.get qa_) 8 q9_ J 506 [w2] (qc_ s t52 t53 t54 s_2 space)=q5e_ (fun s next out t52 t53 t54 t74 s_2 space o m next_2=>J 259278 [w2] (qax_ s next out t52 t53 t54 t74 s_2 space o m next_2)) (fun s t52 t53 t54 s_2 space=>w2 (qc_ s t52 t53 t54 s_2 space)) s t52 t53 t54 s_2 space:=by kernel_rfl
theorem qwo_  (J l s ok t46 s_2):pfn Tryz.prog qb_ 6 18446744073709551616 (Ev.get qa_) 8 q9_ J 30 [] (qb2_ l s ok t46 s_2)=qb6_ (fun s t52 t53 t54 s_2 space=>J 506 [] (qc_ s t52 t53 t54 s_2 space)) l s ok t46 s_2:=by kernel_rfl
theorem qwc_ (J:Orc (As [.bool])) (x:As [.int .u8,.sl (.int .u16),.int .u8,.sl YMT4]):rfn Tryz.prog qb_ 6 18446744073709551616 (Ev.get qa_) 8 q9_ J x=qb3_ (fun l s ok t46 s_2=>J 30 [] (qb2_ l s ok t46 s_2)) x.1 x.2.1 x.2.2.1 x.2.2.2.1:=by kernel_rfl
theorem qw7_  (w2 s next t52 t53 t54 t206 s_2 space next_2):jfn Tryz.prog qb_ 6 18446744073709551616 (Ev.get qa_) 8 q9_ 132751358 [w2] (qb1_ s next t52 t53 t54 t206 s_2 space next_2)=q7s_ (fun s t52 t53 t54 s_2 space=>w2 (qc_ s t52 t53 t54 s_2 space)) s next t52 t53 t54 t206 s_2 space next_2:=by
 rw [q6_ (by decide)]
 rw [qw1_]
 rfl
theorem qgj_  (w2 s next t52 t53 t54 s_2 space next_2 r):jfn Tryz.prog qb_ 6 18446744073709551616 (Ev.get qa_) 8 q9_ 33187839 [w2] (q3h_ s next t52 t53 t54 s_2 space next_2 r)=q27_ (fun s t52 t53 t54 s_2 space=>w2 (qc_ s t52 t53 t54 s_2 space)) s next t52 t53 t54 s_2 space next_2 r:=by
 rw [q6_ (by decide)]
 have e9:(fun s next t52 t53 t54 t206 s_2 space next_2=>(jfn Tryz.prog qb_ 6 18446744073709551616 (Ev.get qa_) 8 q9_) 132751358 [w2] (qb1_ s next t52 t53 t54 t206 s_2 space next_2))=q7s_ (fun s t52 t53 t54 s_2 space=>w2 (qc_ s t52 t53 t54 s_2 space)):=by funext s next t52 t53 t54 t206 s_2 space next_2; exact qw7_ w2 s next t52 t53 t54 t206 s_2 space next_2
 rw [qwy_,e9]
 rfl
theorem qwl_  (w2 s next t52 t53 t54 t132 s_2 space next_2 r):jfn Tryz.prog qb_ 6 18446744073709551616 (Ev.get qa_) 8 q9_ 531005426 [w2] (qb4_ s next t52 t53 t54 t132 s_2 space next_2 r)=q7u_ (fun s t52 t53 t54 s_2 space=>w2 (qc_ s t52 t53 t54 s_2 space)) s next t52 t53 t54 t132 s_2 space next_2 r:=by
 rw [q6_ (by decide)]
 have e8:(fun s next t52 t53 t54 s_2 space next_2 r=>(jfn Tryz.prog qb_ 6 18446744073709551616 (Ev.get qa_) 8 q9_) 33187839 [w2] (q3h_ s next t52 t53 t54 s_2 space next_2 r))=q27_ (fun s t52 t53 t54 s_2 space=>w2 (qc_ s t52 t53 t54 s_2 space)):=by funext s next t52 t53 t54 s_2 space next_2 r; exact qgj_ w2 s next t52 t53 t54 s_2 space next_2 r
 rw [qw6_,e8]
 rfl
theorem qwd_  (w2 s next t52 t53 t54 t165 s_2 space next_2 r):jfn Tryz.prog qb_ 6 18446744073709551616 (Ev.get qa_) 8 q9_ 4248043421 [w2] (qb0_ s next t52 t53 t54 t165 s_2 space next_2 r)=q5g_ (fun s t52 t53 t54 s_2 space=>w2 (qc_ s t52 t53 t54 s_2 space)) s next t52 t53 t54 t165 s_2 space next_2 r:=by
 rw [q6_ (by decide)]
 have e8:(fun s next t52 t53 t54 s_2 space next_2 r=>(jfn Tryz.prog qb_ 6 18446744073709551616 (Ev.get qa_) 8 q9_) 33187839 [w2] (q3h_ s next t52 t53 t54 s_2 space next_2 r))=q27_ (fun s t52 t53 t54 s_2 space=>w2 (qc_ s t52 t53 t54 s_2 space)):=by funext s next t52 t53 t54 s_2 space next_2 r; exact qgj_ w2 s next t52 t53 t54 s_2 space next_2 r
 rw [qws_,e8]
 rfl
theorem qwt_  (w2 s next t52 t53 t54 t166 s_2 space next_2 r):jfn Tryz.prog qb_ 6 18446744073709551616 (Ev.get qa_) 8 q9_ 2124021711 [w2] (qb8_ s next t52 t53 t54 t166 s_2 space next_2 r)=q5d_ (fun s t52 t53 t54 s_2 space=>w2 (qc_ s t52 t53 t54 s_2 space)) s next t52 t53 t54 t166 s_2 space next_2 r:=by
 rw [q6_ (by decide)]
 have e8:(fun s next t52 t53 t54 s_2 space next_2 r=>(jfn Tryz.prog qb_ 6 18446744073709551616 (Ev.get qa_) 8 q9_) 33187839 [w2] (q3h_ s next t52 t53 t54 s_2 space next_2 r))=q27_ (fun s t52 t53 t54 s_2 space=>w2 (qc_ s t52 t53 t54 s_2 space)):=by funext s next t52 t53 t54 s_2 space next_2 r; exact qgj_ w2 s next t52 t53 t54 s_2 space next_2 r
 rw [qwb_,e8]
 rfl
theorem qwf_  (w2 s next out want writes t52 t53 t54 s_2 space next_2 n a r):jfn Tryz.prog qb_ 6 18446744073709551616 (Ev.get qa_) 8 q9_ 16593919 [w2] (qay_ s next out want writes t52 t53 t54 s_2 space next_2 n a r)=q7t_ (fun s t52 t53 t54 s_2 space=>w2 (qc_ s t52 t53 t54 s_2 space)) s next out want writes t52 t53 t54 s_2 space next_2 n a r:=by
 rw [q6_ (by decide)]
 have e5:(fun s next t52 t53 t54 t132 s_2 space next_2 r=>(jfn Tryz.prog qb_ 6 18446744073709551616 (Ev.get qa_) 8 q9_) 531005426 [w2] (qb4_ s next t52 t53 t54 t132 s_2 space next_2 r))=q7u_ (fun s t52 t53 t54 s_2 space=>w2 (qc_ s t52 t53 t54 s_2 space)):=by funext s next t52 t53 t54 t132 s_2 space next_2 r; exact qwl_ w2 s next t52 t53 t54 t132 s_2 space next_2 r
 have e6:(fun s next t52 t53 t54 t165 s_2 space next_2 r=>(jfn Tryz.prog qb_ 6 18446744073709551616 (Ev.get qa_) 8 q9_) 4248043421 [w2] (qb0_ s next t52 t53 t54 t165 s_2 space next_2 r))=q5g_ (fun s t52 t53 t54 s_2 space=>w2 (qc_ s t52 t53 t54 s_2 space)):=by funext s next t52 t53 t54 t165 s_2 space next_2 r; exact qwd_ w2 s next t52 t53 t54 t165 s_2 space next_2 r
 have e7:(fun s next t52 t53 t54 t166 s_2 space next_2 r=>(jfn Tryz.prog qb_ 6 18446744073709551616 (Ev.get qa_) 8 q9_) 2124021711 [w2] (qb8_ s next t52 t53 t54 t166 s_2 space next_2 r))=q5d_ (fun s t52 t53 t54 s_2 space=>w2 (qc_ s t52 t53 t54 s_2 space)):=by funext s next t52 t53 t54 t166 s_2 space next_2 r; exact qwt_ w2 s next t52 t53 t54 t166 s_2 space next_2 r
 rw [qww_,e5,e6,e7]
 rfl
theorem qwh_  (w2 s next out t52 t53 t54 t74 s_2 space o m next_2):jfn Tryz.prog qb_ 6 18446744073709551616 (Ev.get qa_) 8 q9_ 259278 [w2] (qax_ s next out t52 t53 t54 t74 s_2 space o m next_2)=q7p_ (fun s t52 t53 t54 s_2 space=>w2 (qc_ s t52 t53 t54 s_2 space)) s next out t52 t53 t54 t74 s_2 space o m next_2:=by
 rw [q6_ (by decide)]
 have e4:(fun s next out want writes t52 t53 t54 s_2 space next_2 n a r=>(jfn Tryz.prog qb_ 6 18446744073709551616 (Ev.get qa_) 8 q9_) 16593919 [w2] (qay_ s next out want writes t52 t53 t54 s_2 space next_2 n a r))=q7t_ (fun s t52 t53 t54 s_2 space=>w2 (qc_ s t52 t53 t54 s_2 space)):=by funext s next out want writes t52 t53 t54 s_2 space next_2 n a r; exact qwf_ w2 s next out want writes t52 t53 t54 s_2 space next_2 n a r
 rw [qw3_,e4]
 rfl
theorem qwm_  (s t52 t53 t54 s_2 space):jfn Tryz.prog qb_ 6 18446744073709551616 (Ev.get qa_) 8 q9_ 506 [] (qc_ s t52 t53 t54 s_2 space)=q5b_ s t52 t53 t54 s_2 space:=by
 rw [q6_ (by decide)]
 rw [qo_ (by kernel_rfl)]
 refine qj_ (σ:=(Int)×(List YMT2)×(Int)×(Int)×(List YMT0)×(YsBq0)) (mk:=fun s=>qc_ s.1 s.2.1 s.2.2.1 s.2.2.2.1 s.2.2.2.2.1 s.2.2.2.2.2) (fun w2 s=>?_) 18446744073709551616 (s,t52,t53,t54,s_2,space)
 have e3:(fun s next out t52 t53 t54 t74 s_2 space o m next_2=>(jfn Tryz.prog qb_ 6 18446744073709551616 (Ev.get qa_) 8 q9_) 259278 [w2] (qax_ s next out t52 t53 t54 t74 s_2 space o m next_2))=q7p_ (fun s t52 t53 t54 s_2 space=>w2 (qc_ s t52 t53 t54 s_2 space)):=by funext s next out t52 t53 t54 t74 s_2 space o m next_2; exact qwh_ w2 s next out t52 t53 t54 t74 s_2 space o m next_2
 refine (qwv_ _ w2 s.1 s.2.1 s.2.2.1 s.2.2.2.1 s.2.2.2.2.1 s.2.2.2.2.2).trans ?_
 rw [e3]
theorem qwn_  (l s ok t46 s_2):jfn Tryz.prog qb_ 6 18446744073709551616 (Ev.get qa_) 8 q9_ 30 [] (qb2_ l s ok t46 s_2)=q7q_ l s ok t46 s_2:=by
 rw [q6_ (by decide)]
 have e2:(fun s t52 t53 t54 s_2 space=>(jfn Tryz.prog qb_ 6 18446744073709551616 (Ev.get qa_) 8 q9_) 506 [] (qc_ s t52 t53 t54 s_2 space))=q5b_:=by funext s t52 t53 t54 s_2 space; exact qwm_ s t52 t53 t54 s_2 space
 rw [qwo_,e2]
 rfl
theorem qxk_ (x:As [.int .u8,.sl (.int .u16),.int .u8,.sl YMT4]):evT Tryz.prog qb_ 6 18446744073709551616 (Ev.get qa_) 8 q9_ x=qes_ x:=by
 have e1:(fun l s ok t46 s_2=>(jfn Tryz.prog qb_ 6 18446744073709551616 (Ev.get qa_) 8 q9_) 30 [] (qb2_ l s ok t46 s_2))=q7q_:=by funext l s ok t46 s_2; exact qwn_ l s ok t46 s_2
 rw [qi_,qwc_,e1]
 rfl
theorem qwe_:CtOk Tryz.prog (fun _=>True) 8 ⟨q9_,qes_⟩:=qd_ (q0_ q12u_ (q0_ q12v_ (q0_ qua_ (q0_ q13g_ (q0_ q15s_ (q0_ qz6_ (q0_ qvp_ (q0_ q199_ (q0_ q14d_ (q0_ q11v_ (q0_ qrg_ (q0_ qxe_ (q0_ qou_ (q0_ qub_ (q0_ q11r_ (q0_ qtu_ (q0_ q1aa_ (q0_ qp4_ q3_)))))))))))))))))) qxk_
end Go.Proofs.Lx
end
section
namespace Go.Proofs.Lx
open Go Ev Sx Pl
set_option maxRecDepth 100000
theorem first_mem {hv:List Bool} {n:Nat} (hn:n≤8) (hf:firstN hv (n:Int)=true):false ∉ hv.take n:=by
 intro h
 obtain ⟨i,hi⟩:=List.getElem?_of_mem h
 have hin:i < n:=by
  rcases Nat.lt_or_ge i n with h | h
  ·exact h
  ·rw [List.getElem?_eq_none (by rw [List.length_take]; omega)] at hi
   cases hi
 rw [List.getElem?_take_of_lt hin] at hi
 have:=of_decide_eq_true hf i (by omega)
 rw [List.getD_eq_getElem?_getD,hi,decide_eq_true (by omega)] at this
 cases this
theorem blkS_have:∀ {hv:List Bool} {bs:List TBlk} {i:Nat} {b:TBlk},hv[i]? = some true->bs[i]? = some b->b ∈ blkS hv bs
 | [],_,i,b,h,_=>by simp at h
 | _::_,[],i,b,_,h=>by simp at h
 | x::r,c::q,0,b,h1,h2=>by
  have e1:x=true:=by simpa using h1
  have e2:c=b:=by simpa using h2
  subst e1 e2
  unfold blkS
  rw [List.zip_cons_cons,List.filter_cons,if_pos rfl,List.map_cons]
  exact List.mem_cons_self ..
 | x::r,c::q,i + 1,b,h1,h2=>by
  have ih:=blkS_have (hv:=r) (bs:=q) (i:=i) (b:=b) (by simpa using h1) (by simpa using h2)
  unfold blkS at ih ⊢
  rw [List.zip_cons_cons,List.filter_cons]
  split
  ·rw [List.map_cons]
   exact List.mem_cons_of_mem _ ih
  ·exact ih
theorem aright_ok {a:TAg} (h:OkG a):qjn_ (a,())=some (true,()):=by
 have hbl:=h.bl
 have hkr:=h.kr
 show qhs_ qi7_ a=_
 unfold qhs_
 rw [if_neg (fun e=>qf_.1 e (by rw [q1_]; omega))]
 have hlt:lt a.2.2.2.2.2.2 1=false:=by
  rw [Bool.eq_false_iff]
  exact fun e=>by have:=q7_.1 e; omega
 rw [hlt]
 show qe1_ a a.2.2.2.2.2.1.2.1 0=_
 have hp0:=h.p0
 have hpn:=h.pn
 have hp1:=h.p1
 have hp2:=h.p2
 have hpr:=h.pr
 have hth:=there_eq (st:=a.2.2.2.2.2.1.1) (bs:=a.2.2.2.2.2.1.2.2) h.hl
 have hcl:a.2.2.2.2.2.1.2.1.count true≤8:=by
  have:=List.count_le_length (a:=true) (l:=a.2.2.2.2.2.1.2.1)
  have:=h.hl
  omega
 have K4:q9t_ a=some (true,()):=by
  show qiv_ qdc_ a=_
  unfold qiv_
  by_cases q0:a.2.2.1=0
  ·obtain ⟨r1,r2,r3,r4⟩:=hp0 q0
   have hl2:a.2.1.2=0:=by have:=h.lr; unfold RightL at this; omega
   have hth':q5t_ (a.2.2.2.2.2.1,())=some (((a.2.2.2.2.2.1.2.1.count true:Nat):Int),()):=hth
   rw [if_pos (q4_.2 q0),if_pos (by rw [q4_.2 r1,q4_.2 hl2]; rfl),if_pos (q4_.2 r2),if_pos (q4_.2 r3),hth',Option.bind_some,r4]
   rfl
  ·obtain ⟨r1,r2,r3⟩:=hpn q0
   have K5:qdc_ a false=some (true,()):=by
    show qi0_ a false=_
    unfold qi0_
    rw [if_neg (by decide)]
    by_cases q1:a.2.2.1=1
    ·rw [if_pos (q4_.2 q1),q17_.2 (hp1 q1)]
    ·have q2:a.2.2.1=2:=by omega
     obtain ⟨t1,t2⟩:=hp2 q2
     have hth':q5t_ (a.2.2.2.2.2.1,())=some (((a.2.2.2.2.2.1.2.1.count true:Nat):Int),()):=hth
     have hf:qpw_ (a.2.2.2.2.2.1,())=some (true,()):=by
      show qoz_ a.2.2.2.2.2.1=_
      unfold qoz_
      rw [hth',Option.bind_some]
      dsimp only
      rw [q8_ (qv_.2 (by omega)),q8_ (qv_.2 (by omega)),Int.sub_zero,Int.toNat_natCast,List.drop_zero,contains_eq false (by rw [List.length_take]; omega),Option.bind_some,decide_eq_false (first_mem hcl t2)]
      rfl
     rw [if_neg (fun e=>q1 (q4_.1 e)),if_pos (q4_.2 q2),if_pos (q4_.2 t1),hf]
     rfl
   rw [if_neg (fun e=>q0 (q4_.1 e)),lfree_eq h.lr,Option.bind_some,if_neg (by rw [decide_eq_false r1]; decide),if_neg (fun e=>by have:=qv_.1 e; omega)]
   have hn:nei a.2.2.2.2.2.1.1 a.2.2.2.1=false:=by
    rw [Bool.eq_false_iff]
    exact fun e=>qf_.1 e r3
   rw [hn]
   exact K5
 have hhl:=h.hl
 have hsl:=h.sl
 have hfb:=h.fb
 have hbb:=h.bb
 unfold qe1_
 refine loop_dt (N:=8) (mk:=fun i=>(a,a.2.2.2.2.2.1.2.1,(i:Int))) ?_ ?_ 8 0 _ (by omega) (by omega)
 ·intro self i hi
  show q9s_ (q9y_ _) q9t_ _ a a.2.2.2.2.2.1.2.1 (i:Int)=_
  obtain ⟨z,hz⟩:=get_of (xs:=a.2.2.2.2.2.1.2.1) (i:=i) (by omega)
  obtain ⟨c,hc⟩:=get_of (xs:=a.2.2.2.2.2.1.2.2) (i:=i) (by omega)
  have l8:lt (i:Int) 8=true:=q7_.2 (by omega)
  have K3:q9y_ (fun a t16 t17=>self (a,t16,t17)) a a.2.2.2.2.2.1.2.1 (i:Int) false=self (a,a.2.2.2.2.2.1.2.1,((i + 1:Nat):Int)):=by
   show qio_ _ _ _ _ _=_
   unfold qio_
   rw [if_neg (by decide),q1a_ (by omega)]
  unfold q9s_
  rw [if_pos l8,q8_ l8,ql_ hz,Option.bind_some]
  cases z with
  | true =>
   rw [if_pos rfl,ql_ hc,Option.bind_some,bfits_eq (by have:=hbb c (List.mem_of_getElem? hc); omega),hfb c (blkS_have hz hc),Option.bind_some]
   exact K3
  | false=>rw [if_neg (by decide),K3]
 ·intro self
  show q9s_ (q9y_ _) q9t_ _ a a.2.2.2.2.2.1.2.1 (8:Int)=_
  unfold q9s_
  rw [if_neg (by decide)]
  exact K4
theorem slright_ok {s:TSl} (h:OkS s):qpo_ (s,())=some (true,()):=by
 have hu:=h.u
 have hl:=h.l
 have hc:=h.c
 show qow_ s=_
 unfold qow_
 have hr:q8u_ (s.1,s.2.1,())=some (true,()):=by
  show q8e_ s.1 s.2.1=_
  unfold q8e_
  rw [if_pos (q17_.2 hu.1),if_pos (qv_.2 hu.2)]
  by_cases e:s.2.1=1
  ·rw [if_pos (q4_.2 e)]
  ·rw [if_neg (fun x=>e (q4_.1 x)),q4_.2 (by omega)]
 rw [hr,Option.bind_some,if_pos rfl,aright_ok h.a,Option.bind_some,if_pos rfl]
 refine congrArg (fun x=>some (x,())) ?_
 rw [q4_,q1_]
 omega
def mfullS (m:TMem) (b:List Int):TMem×TR:=if (lookS b).2 ≠ 0 then (m,(rem (b.headD 0) 128,(lookS b).2,[],[],0,0)) else doM m (lookS b).1
theorem doM_rep {s:TSl} (h:OkS s) {a:TA} (ha:OkA a) (hr:q1o_ a=true):Rep (doM (memS s) a).2:=by
 have hf:=right_f hr
 unfold doM
 split
 ·rename_i hc
  have ra:=answS_rep h ha hr hc
  unfold answS at ra
  split
  ·rename_i he
   rw [if_pos he] at ra
   exact ra
  ·rename_i he
   rw [if_neg he] at ra
   by_cases h23:a.1=23
   ·cases q3i_ hr with
    | bits f p n hf=>exact absurd h23 (show f ≠ 23 by omega)
    | words f p n hf=>exact absurd h23 (show f ≠ 23 by omega)
    | coil p b=>exact absurd h23 (show (5:Int) ≠ 23 by decide)
    | word p x=>exact absurd h23 (show (6:Int) ≠ 23 by decide)
    | coils p l=>exact absurd h23 (show (15:Int) ≠ 23 by decide)
    | regs p l=>exact absurd h23 (show (16:Int) ≠ 23 by decide)
    | swap p n t l g1 g2 g3 g4 =>
     obtain ⟨p,rfl⟩:=Int.eq_ofNat_of_zero_le (show 0≤p from ha.at0)
     obtain ⟨n,rfl⟩:=Int.eq_ofNat_of_zero_le (show 0≤n by omega)
     have hsz:=wrM_sz (memS_sz h) ha hr hc
     have hc1:=(Bool.and_eq_true _ _ ▸ (show (rdH (p:Int) n && decide (t=272∧l.length=8∨t=288∧l.length=20))=true from hc):_∧_).1
     have hle:=rdH_le (p:=(p:Int)) (m:=n) (by omega) hc1
     have hh:(cpy (holdS s.2.2.1) t.toNat l).length=756:=hsz.h
     have hl:((cpy (holdS s.2.2.1) t.toNat l).drop p |>.take n).length=n:=by rw [List.length_take,List.length_drop]; omega
     have hrg:=cpy_rng (b:=holdS s.2.2.1) (w:=l) (p:=t.toNat) (P:=fun y=>0≤y∧y≤65535) (holdS_rng h.a) ha.w
     exact rep_of (okR_plain (f:=23) (by decide) (by decide) (by decide) (fun x hx=>hrg x (List.mem_of_mem_drop (List.mem_of_mem_take hx))) (by show ((cpy (holdS s.2.2.1) t.toNat l).drop p |>.take n).length≤_; omega)) (.words 23 _ (Or.inr (Or.inr rfl)) (by show 1≤((cpy (holdS s.2.2.1) t.toNat l).drop p |>.take n).length; omega) (by show ((cpy (holdS s.2.2.1) t.toNat l).drop p |>.take n).length≤125; omega))
   ·have hn:¬ (a.1=5∨a.1=6∨a.1=15∨a.1=16):=fun e=>he (decide_eq_true e)
    have hw:wrM (memS s) a=memS s:=by
     unfold wrM
     rw [if_neg (by omega),if_neg (by omega),if_neg h23]
    rw [hw]
    have hd:ansR (memS s) a=(a.1,(ansR (memS s) (rdA a)).2):=by
     cases q3i_ hr with
     | bits f p n hff=>rcases hff with rfl | rfl <;> rfl
     | words f p n hff=>rcases hff with rfl | rfl <;> rfl
     | coil p b=>exact absurd (Or.inl rfl) hn
     | word p x=>exact absurd (Or.inr (Or.inl rfl)) hn
     | coils p l=>exact absurd (Or.inr (Or.inr (Or.inl rfl))) hn
     | regs p l=>exact absurd (Or.inr (Or.inr (Or.inr rfl))) hn
     | swap p n t l=>exact absurd rfl h23
    rw [hd]
    exact ra
 ·exact rep_wrong (by omega) hf.2 (by decide) (by decide)
theorem mfull_rep {s:TSl} (h:OkS s) {b:List Int} (hb:∀ x ∈ b,0≤x∧x≤255):Rep (mfullS (memS s) b).2:=by
 obtain ⟨_,h2⟩:=look_S hb
 have hh:=rem_rng (head_rng hb).1
 unfold mfullS
 split
 ·exact rep_wrong hh.1 hh.2 (by omega) (by omega)
 ·rename_i q
  rcases h2 with ⟨_,h3,h4,_⟩ | ⟨h3,_⟩
  ·exact doM_rep h h3 h4
  ·omega
theorem mserve_eq {s:TSl} (h:OkS s) {b:List Int} (hb:∀ x ∈ b,0≤x∧x≤255):qps_ (SP,memS s,b,())=some ((mfullS (memS s) b).1,repB (mfullS (memS s) b).2,()):=by
 have rp:=mfull_rep h hb
 obtain ⟨h1,h2⟩:=look_S hb
 have sz:=memS_sz h
 show qpa_ SP (memS s) b=_
 unfold qpa_
 rw [h1,Option.bind_some]
 dsimp only
 unfold mfullS at rp ⊢
 by_cases q:(lookS b).2=0
 ·rw [if_neg (fun e=>e q)] at rp
  rw [if_neg (fun e=>qf_.1 e q),if_neg (fun e=>e q)]
  rcases h2 with ⟨_,h3,h4,_⟩ | ⟨h3,_⟩
  ·rw [mdo_eq sz h3 h4,Option.bind_some,rep_bytes rp]
   rfl
  ·omega
 ·rw [if_pos q] at rp
  have e2:(lookS b).1=(b.headD 0,0,0,0,[],[]):=by
   rcases h2 with ⟨h3,_⟩ | ⟨_,h3⟩
   ·exact absurd h3 q
   ·exact h3
  have ho:qx1_ (memS s,())=some (memS s,()):=by
   have s1:=sz.c
   have s2:=sz.i
   have s3:=sz.h
   have s4:=sz.w
   show qsp_ (memS s)=_
   unfold qsp_
   rw [cloneB_eq (by omega),Option.bind_some,cloneB_eq (by omega),Option.bind_some,q3v_ (by omega),Option.bind_some,q3v_ (by omega),Option.bind_some]
  rw [if_pos (qf_.2 q),if_pos q,e2]
  dsimp only
  rw [wrong_eq,Option.bind_some,rep_bytes rp,Option.bind_some,ho]
  rfl
theorem serv_plain {s:TSl} (h:OkS s) {a:TA} (ha:OkA a) (hr:q1o_ a=true) (hw:a.2.2.2.2.1=[]) :
  (servS s a).2=(doM (memS s) a).2∧(servS s a).1.2.2.2=(doM (memS s) a).1.1∧(servS s a).1.2.2.1=s.2.2.1∧((servS s a).2.2.1 ≠ 0->(servS s a).1=s):=by
 cases hc:chkS a with
 | false =>
  unfold servS doM
  rw [hc,if_pos rfl,if_neg (by decide)]
  exact ⟨rfl,rfl,rfl,fun _=>rfl⟩
 | true =>
  have hn:¬ chkS a=false:=by rw [hc]; decide
  unfold servS doM
  rw [if_neg hn,if_pos hc]
  cases q3i_ hr with
  | bits f p n hff =>
   rcases hff with rfl | rfl
   ·exact ⟨rfl,rfl,rfl,fun _=>rfl⟩
   ·exact ⟨rfl,rfl,rfl,fun _=>rfl⟩
  | words f p n hff =>
   rcases hff with rfl | rfl
   ·exact ⟨rfl,rfl,rfl,fun _=>rfl⟩
   ·exact ⟨rfl,rfl,rfl,fun _=>rfl⟩
  | coil p b=>exact ⟨rfl,rfl,rfl,fun e=>absurd rfl e⟩
  | word p x=>cases hw
  | coils p l=>exact ⟨rfl,rfl,rfl,fun e=>absurd rfl e⟩
  | regs p l g1=>exact absurd (show l=[] from hw) (by intro e; rw [e] at g1; simp at g1)
  | swap p n t l g1=>exact absurd (show l=[] from hw) (by intro e; rw [e] at g1; simp at g1)
theorem ans_ex {s:TSl} {a:TA}:(answS s a).2.1=0:=by
 unfold answS
 split
 ·unfold echoR
  split
  ·rfl
  ·split <;> rfl
 ·show (ansR (memS s) (rdA a)).2.1=0
  unfold ansR
  split
  ·rfl
  ·split
   ·rfl
   ·split <;> rfl
theorem ansR_ex {m:TMem} {a:TA}:(ansR m a).2.1=0:=by
 unfold ansR
 split
 ·rfl
 ·split
  ·rfl
  ·split <;> rfl
theorem echo_ex {a:TA}:(echoR a).2.1=0:=by
 unfold echoR
 split
 ·rfl
 ·split <;> rfl
theorem serv_wr {s:TSl} {a:TA} (hr:q1o_ a=true) (hw:a.2.2.2.2.1 ≠ []) :
  ((servS s a).2.2.1=0->chkS a=true∧(doM (memS s) a).2.2.1=0∧(a.1 ≠ 23->(servS s a).2=(doM (memS s) a).2)) ∧
  ((servS s a).2.2.1 ≠ 0->(servS s a).1=s∧(chkS a=false->(servS s a).2.2.1=2)∧(chkS a=true->(servS s a).2.2.1=3∨(servS s a).2.2.1=4)):=by
 cases hc:chkS a with
 | false =>
  unfold servS
  rw [hc,if_pos rfl]
  exact ⟨fun e=>absurd e (show (2:Int) ≠ 0 by decide),fun _=>⟨rfl,fun _=>rfl,fun e=>by cases e⟩⟩
 | true =>
  have hn:¬ chkS a=false:=by rw [hc]; decide
  have h15:¬ (a.1=5∨a.1=15):=by
   cases q3i_ hr with
   | bits f p n hff=>exact absurd rfl hw
   | words f p n hff=>exact absurd rfl hw
   | coil p b=>exact absurd rfl hw
   | word p x=>exact (by decide:¬ ((6:Int)=5∨(6:Int)=15))
   | coils p l=>exact absurd rfl hw
   | regs p l=>exact (by decide:¬ ((16:Int)=5∨(16:Int)=15))
   | swap p n t l=>exact (by decide:¬ ((23:Int)=5∨(23:Int)=15))
  have hl:¬ a.2.2.2.2.1.length=0:=fun e=>hw (List.eq_nil_of_length_eq_zero e)
  unfold servS
  rw [if_neg hn,if_neg h15,if_neg hl]
  split
  ·rename_i q
   exact ⟨fun e=>absurd e q,fun _=>⟨rfl,fun e=>(by cases e),fun _=>(wroteS_ex s.2.2.1 (atW a) a.2.2.2.2.1).resolve_left q⟩⟩
  ·refine ⟨fun _=>⟨rfl,?_,fun h23=>?_⟩,fun e=>absurd ans_ex e⟩
   ·unfold doM
    rw [if_pos hc]
    dsimp only
    split
    ·exact echo_ex
    ·exact ansR_ex
   ·have he:isE a.1=true:=by
     cases q3i_ hr with
     | bits f p n hff=>exact absurd rfl hw
     | words f p n hff=>exact absurd rfl hw
     | coil p b=>rfl
     | word p x=>rfl
     | coils p l=>rfl
     | regs p l=>rfl
     | swap p n t l=>exact absurd rfl h23
    unfold doM answS
    rw [if_pos hc,if_pos he]
    dsimp only
    rw [if_pos he]
theorem lsame_eq (a:List Int):qsj_ (a,a,())=some (true,()):=by
 show some (eqs _ _,())=_
 rw [eqs_iff.2 rfl]
set_option maxHeartbeats 2000000 in
theorem q1ax_ {link ticks:Int} {b:List Int} {l:List TOp} (hl0:0≤link) (ht0:0≤ticks) (hb:∀ x ∈ b,0≤x∧x≤65535)
  (hL:∀ o ∈ l,o.2.1.length≤300->o.2.2.1.2.2.2.2.1.length≤200->o.2.2.1.2.2.2.2.2.length≤2100->OkO o) :
  qes_ (link,b,ticks,l,())=some (true,()):=by
 show qb3_ q7q_ link b ticks l=_
 unfold qb3_
 have c60:cut l 0 (if lt 60 (Int.ofNat l.length)=true then 60 else Int.ofNat l.length)=some (l.take 60):=cut_min l 60
 rw [begun_eq hl0 ht0,Option.bind_some,c60,Option.bind_some,if_neg (show ¬ (!(begS link b ticks,true,()).2.1)=true from fun e=>Bool.false_ne_true e)]
 have h60:(l.take 60).length≤60:=by rw [List.length_take]; omega
 have hL:∀ o ∈ l.take 60,o.2.1.length≤300->o.2.2.1.2.2.2.2.1.length≤200->o.2.2.1.2.2.2.2.2.length≤2100->OkO o:=fun o ho=>hL o (List.mem_of_mem_take ho)
 generalize l.take 60=m at h60 hL
 have K1t:∀ s,q7q_ m 0 true true [s]=some (true,()):=fun s=>by
  show Option.bind (qge_ ()) _=_
  rw [awake21]
  rfl
 rw [few21_eq (by omega),Option.bind_some]
 dsimp only
 cases hf1:fewO m 60 with
 | false=>exact K1t _
 | true =>
  have a1:=(fewO_iff.1 hf1).1
  have okL:∀ o ∈ m,OkO o:=fun o ho=>hL o ho (a1 o ho).1 (a1 o ho).2.1 (a1 o ho).2.2
  have ok0:=begS_ok (link:=link) (ticks:=ticks) hb
  generalize begS link b ticks=s0 at ok0
  show qb6_ q5b_ m 0 true false [s0]=_
  unfold qb6_
  rw [if_neg (by decide),space_eq,Option.bind_some]
  show q5b_ 0 m (Int.ofNat m.length) 0 [s0] SP=_
  unfold q5b_
  refine (loop_idx (xs:=m) (mk:=fun i s=>(0,m,Int.ofNat m.length,(i:Int),[s],SP)) (stp:=fun s o=>(doesS s o).1) (fin:=fun _=>some (true,())) (fun _ s=>OkS s) ?_ ?_ ?_ m.length 0 s0 _ (by omega) (by omega) ok0)
  ·intro self i s o ho hs
   have hi':=(List.getElem?_eq_some_iff.1 ho).1
   have oko:=okL o (List.mem_of_getElem? ho)
   have okn:=doesS_ok hs oko
   show q5e_ (q7p_ _) _ 0 m (Int.ofNat m.length) (i:Int) [s] SP=self (0,m,Int.ofNat m.length,((i + 1:Nat):Int),[(doesS s o).1],SP)
   unfold q5e_
   rw [if_pos (by rw [q7_,q1_]; omega),ql_ ho,Option.bind_some,q1b_,Option.bind_some,mem_eq hs,Option.bind_some,Option.bind_some,does_eq hs oko,Option.bind_some]
   dsimp only
   rw [slright_ok okn,Option.bind_some,if_neg (show ¬ (!(true,()).1)=true from fun e=>Bool.false_ne_true e),mright_eq (memS_sz hs),Option.bind_some]
   show qaz_ (q7t_ _) _ 0 0 (doesS s o).2 m (Int.ofNat m.length) (i:Int) false [s] SP o (memS s) [(doesS s o).1]=_
   unfold qaz_
   rw [if_neg (by decide),opbytes_eq oko,Option.bind_some]
   have K9:∀ n:TSl,q7s_ (fun s t52 t53 t54 s_2 space=>self (s,t52,t53,t54,s_2,space)) 0 0 m (Int.ofNat m.length) (i:Int) false [s] SP [n]=self (0,m,Int.ofNat m.length,((i + 1:Nat):Int),[n],SP):=fun n=>by
    show qb7_ _ _ _ _ _ _ _ _ _ _=_
    unfold qb7_
    rw [if_neg (by decide),q1b_,Option.bind_some,q1b_,Option.bind_some,q1a_ (by omega)]
    rfl
   cases hsay:(opB o).2 with
   | false =>
    rw [if_pos (by rfl),q1b_,Option.bind_some,q1b_,Option.bind_some,q1a_ (by omega)]
    rfl
   | true =>
    rw [if_neg (show ¬ (!((opB o).1,true,()).2.1)=true from fun e=>Bool.false_ne_true e)]
    have hbb:=opB_bytes oko
    have hd:doesS s o=((fullS s (opB o).1).1,repB (fullS s (opB o).1).2):=by
     unfold doesS
     rw [if_pos hsay]
    rw [hd]
    rw [hd] at okn
    generalize (opB o).1=pdu at hbb okn
    obtain ⟨okf,rpf⟩:=fullS_ok hs hbb
    have rpm:=mfull_rep hs hbb
    obtain ⟨h1,h2⟩:=look_S hbb
    dsimp only at okn ⊢
    rw [mserve_eq hs hbb,Option.bind_some,h1,Option.bind_some,rep_parse rpf,Option.bind_some]
    dsimp only
    rw [if_neg (by decide)]
    have K8:((fullS s pdu).2.2.1 ≠ 0->(fullS s pdu).1=s)->q27_ (fun s t52 t53 t54 s_2 space=>self (s,t52,t53,t54,s_2,space)) 0 0 m (Int.ofNat m.length) (i:Int) [s] SP [(fullS s pdu).1] (fullS s pdu).2=self (0,m,Int.ofNat m.length,((i + 1:Nat):Int),[(fullS s pdu).1],SP):=fun hex=>by
     show qb5_ (q7s_ _) _ 0 0 m (Int.ofNat m.length) (i:Int) [s] SP [(fullS s pdu).1] (fullS s pdu).2=_
     unfold qb5_
     by_cases q:(fullS s pdu).2.2.1=0
     ·rw [if_neg (fun e=>qf_.1 e q),K9]
     ·rw [if_pos (qf_.2 q),q1b_,Option.bind_some,q1b_,Option.bind_some,hex q,slsame_self hs,Option.bind_some]
      exact K9 s
    have plain:(fullS s pdu).2=(mfullS (memS s) pdu).2->(fullS s pdu).1.2.2.2=(mfullS (memS s) pdu).1.1->(fullS s pdu).1.2.2.1=s.2.2.1->((fullS s pdu).2.2.1 ≠ 0->(fullS s pdu).1=s) ->
      q7t_ (fun s t52 t53 t54 s_2 space=>self (s,t52,t53,t54,s_2,space)) 0 0 (repB (fullS s pdu).2) (repB (mfullS (memS s) pdu).2) false m (Int.ofNat m.length) (i:Int) [s] SP [(fullS s pdu).1] (mfullS (memS s) pdu).1 (lookS pdu).1 (fullS s pdu).2=self (0,m,Int.ofNat m.length,((i + 1:Nat):Int),[(fullS s pdu).1],SP):=fun e1 e2 e3 e4=>by
     show q5f_ (q7u_ _) (q5g_ _) (q5d_ _) _ 0 0 _ _ false m (Int.ofNat m.length) (i:Int) [s] SP [(fullS s pdu).1] _ _ _=_
     unfold q5f_
     have hcl:=okf.c
     rw [if_pos (by rfl),<- e1,lsame_eq,Option.bind_some,if_neg (by decide),q1b_,Option.bind_some,<- e2,lbits_eq (by omega),decide_eq_true rfl,Option.bind_some,if_neg (by decide),Option.bind_some,q1b_,Option.bind_some,e3,asame_self hs.a,Option.bind_some]
     exact K8 e4
    by_cases q:(lookS pdu).2=0
    ·rw [if_pos (q4_.2 q)]
     rcases h2 with ⟨_,ha,hr,_⟩ | ⟨h3,_⟩
     ·have ef:fullS s pdu=servS s (lookS pdu).1:=by unfold fullS; rw [if_neg (fun e=>e q)]
      have em:mfullS (memS s) pdu=doM (memS s) (lookS pdu).1:=by unfold mfullS; rw [if_neg (fun e=>e q)]
      by_cases hw:(lookS pdu).1.2.2.2.2.1=[]
      ·obtain ⟨e1,e2,e3,e4⟩:=serv_plain hs ha hr hw
       rw [<- ef,<- em] at e1 e2
       rw [<- ef] at e3 e4
       have hg:gt (Int.ofNat (lookS pdu).1.2.2.2.2.1.length) 0=false:=by rw [hw]; rfl
       rw [hg]
       exact plain e1 e2 e3 e4
      ·have hg:gt (Int.ofNat (lookS pdu).1.2.2.2.2.1.length) 0=true:=by
        rw [gt_iff,q1_]
        have:=List.length_pos_iff.2 hw
        omega
       rw [hg]
       obtain ⟨f1,f2⟩:=serv_wr (s:=s) hr hw
       have hfit:=fits_serv hs ha hr
       rw [<- ef] at f1 f2 hfit
       rw [<- em] at f1
       have hck:=check_eq ha hr
       show q5f_ (q7u_ _) (q5g_ _) (q5d_ _) _ 0 0 _ _ true m (Int.ofNat m.length) (i:Int) [s] SP [(fullS s pdu).1] _ _ _=_
       unfold q5f_
       rw [if_neg (by decide)]
       have K6:q5g_ (fun s t52 t53 t54 s_2 space=>self (s,t52,t53,t54,s_2,space)) 0 0 m (Int.ofNat m.length) (i:Int) false [s] SP [(fullS s pdu).1] (fullS s pdu).2=q27_ (fun s t52 t53 t54 s_2 space=>self (s,t52,t53,t54,s_2,space)) 0 0 m (Int.ofNat m.length) (i:Int) [s] SP [(fullS s pdu).1] (fullS s pdu).2:=rfl
       have K7:q5d_ (fun s t52 t53 t54 s_2 space=>self (s,t52,t53,t54,s_2,space)) 0 0 m (Int.ofNat m.length) (i:Int) false [s] SP [(fullS s pdu).1] (fullS s pdu).2=q27_ (fun s t52 t53 t54 s_2 space=>self (s,t52,t53,t54,s_2,space)) 0 0 m (Int.ofNat m.length) (i:Int) [s] SP [(fullS s pdu).1] (fullS s pdu).2:=rfl
       by_cases q0:(fullS s pdu).2.2.1=0
       ·obtain ⟨g1,g2,g3⟩:=f1 q0
        have hfr:=fits_eq ha (rep_sm rpf)
        rw [hfit] at hfr
        rw [if_pos (q4_.2 q0),rep_parse rpm,Option.bind_some]
        dsimp only
        rw [if_neg (by decide),if_neg (fun e=>qf_.1 e g2)]
        by_cases h23:(lookS pdu).1.1=23
        ·rw [if_neg (fun e=>qf_.1 e h23),hfr,Option.bind_some]
         exact (K6).trans (K8 (fun e=>absurd q0 e))
        ·rw [if_pos (qf_.2 h23),<- g3 h23,lsame_eq,Option.bind_some,if_neg (by decide),hfr,Option.bind_some]
         exact (K6).trans (K8 (fun e=>absurd q0 e))
       ·obtain ⟨g1,g2,g3⟩:=f2 q0
        have hK8:=K8 (fun _=>g1)
        rw [if_neg (fun e=>q0 (q4_.1 e)),q1b_,Option.bind_some,q1b_,Option.bind_some]
        have hsm:qf7_ ((fullS s pdu).1,s,())=some (true,()):=by rw [g1]; exact slsame_self hs
        rw [hsm,Option.bind_some,if_neg (show ¬ (!(true,()).1)=true from fun e=>Bool.false_ne_true e),hck,Option.bind_some,Option.bind_some]
        dsimp only
        cases hc:chkS (lookS pdu).1 with
        | false =>
         have r2:=g2 hc
         simp only [Bool.false_eq_true,if_false]
         rw [if_pos (show nei 2 0=true by decide),r2,if_neg (by decide),if_neg (by decide)]
         exact (K7).trans hK8
        | true =>
         have r3:=g3 hc
         simp only [if_true]
         rw [if_neg (show ¬ nei 0 0=true by decide),if_pos (show eqi 0 0=true by decide)]
         rcases r3 with r3 | r3
         ·rw [r3,if_neg (by decide)]
          exact (K7).trans hK8
         ·rw [r3,if_pos (by decide)]
          exact (K7).trans hK8
     ·omega
    ·rw [if_neg (fun e=>q (q4_.1 e))]
     have ef:fullS s pdu=(s,(rem (pdu.headD 0) 128,(lookS pdu).2,[],[],0,0)):=by unfold fullS; rw [if_pos q]
     have em:mfullS (memS s) pdu=(memS s,(rem (pdu.headD 0) 128,(lookS pdu).2,[],[],0,0)):=by unfold mfullS; rw [if_pos q]
     refine plain ?_ ?_ ?_ ?_
     ·rw [ef,em]
     ·rw [ef,em]; rfl
     ·rw [ef]
     ·intro _; rw [ef]
  ·intro i s o ho hs
   exact doesS_ok hs (okL o (List.mem_of_getElem? ho))
  ·intro self s hs
   show q5e_ (q7p_ _) _ 0 m (Int.ofNat m.length) (m.length:Int) [s] SP=_
   unfold q5e_
   rw [if_neg (by rw [q7_,q1_]; omega),awake21]
   rfl
theorem q1aw_ (x:As [.int .u8,.sl (.int .u16),.int .u8,.sl tOp]) (h:Rw.okA [.int .u8,.sl (.int .u16),.int .u8,.sl tOp] x):qes_ x=some (true,()) :=
 q1ax_ (link:=x.1) (b:=x.2.1) (ticks:=x.2.2.1) (l:=x.2.2.2.1) (ok8 h.1).1 (ok8 h.2.2.1).1 (fun y hy=>ok16 (h.2.1.2 y hy)) (fun o ho=>okO_of (h.2.2.2.1.2 o ho))
end Go.Proofs.Lx
end
