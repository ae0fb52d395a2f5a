/- Proved in the last of these 13 parts (this is part 6): SlaveStages returns true, whatever the link, the bank, the owner, the transaction and the blocks. Conditions: those of the given statement, and no others. -/
import Derived.Test.YtkcmbampiiolbaaGreatParte
import Derived.Test.YtkcmbampiiolbaaGreatProg
set_option linter.unusedVariables false
set_option linter.unusedSimpArgs false
set_option linter.unusedSectionVars false
section
open Go Go.Proofs Ev Sx
set_option maxRecDepth 100000
namespace Go.Proofs.Lx
abbrev YTT8:Ty:=(.pr (.int .i64) (.sl (.int .u16)))
abbrev YTT0:Ty:=(.pr (.pr (.int .u16) (.int .i64)) (.pr (.int .u8) (.pr (.int .u32) (.pr (.int .u32) (.pr (.pr (.int .u32) (.pr (.ar 8 .bool) (.ar 8 YTT8))) (.int .i64))))))
abbrev YTT12:Ty:=(.pr (.int .i64) (.pr .bool (.pr .bool .bool)))
abbrev YTT1:Ty:=(.sl (.pr (.int .i64) YTT12))
abbrev YTT9:Type:=(Int×List Bool×List (Int×List Int))
abbrev YTT2:Type:=(List Int×(Int×Int)×Int×Int×Int×YTT9×Int)
abbrev YTT3:Ty:=(.pr (.int .u8) (.pr (.sl .bool) (.pr (.sl (.int .u16)) (.pr (.int .u16) (.int .u16)))))
abbrev YTT4:Ty:=(.pr (.int .u16) (.pr (.int .u16) (.pr (.int .u16) (.pr (.sl (.int .u16)) (.sl .bool)))))
abbrev YTT5:Type:=(Int×Int×Bool×Bool×Bool)
abbrev YTT6:Ty:=(.pr (.int .u8) (.pr (.int .u32) (.pr (.int .u16) (.int .u32))))
abbrev YTT16:Type:=(Int×Int×Int×Int×List Int×List Bool)
abbrev YTT7:Type:=(Int×List Int×YTT16×Int×Int×Int×Int×Int)
abbrev YTT10:Ty:=(.pr (.sl .bool) (.pr (.sl (.int .u16)) (.sl (.int .u16))))
abbrev YTT11:Type:=(Int×Int×List Bool×List Int×Int×Int)
abbrev YTT13:Type:=(List Bool×List Bool×List Int×List Int)
abbrev YTT14:Ty:=(.pr (.int .u8) (.sl (.int .u8)))
abbrev YTT15:Ty:=(.pr (.int .i64) (.pr (.int .i64) (.pr .bool .bool)))
abbrev YaA1q0:Type:=Int×Int×Bool×Bool×Bool
@[reducible] def slave_rightEnds_s:Sh:=⟨[.d (.int .u8),.d (.int .u8)],[],[.int .u8,.int .u8],[.d (.bool)],[],0,[.bool]⟩
def slave_rightEnds_e:Env:=(cts [])
def slave_rightEnds_h:List (Nat×Hint):=[]
def slave_rightEnds_m0 (unit link:Int):Option (As [.bool]) :=
 if ge unit 1=true then if le unit 247=true then if eqi link 1=true then some (true,()) else some (eqi link 2,()) else some (false,()) else some (false,())
def slave_rightEnds (x:As [.int .u8,.int .u8]):Option (As [.bool]):=slave_rightEnds_m0 x.1 x.2.1
theorem slave_rightEnds_c0 (J:Orc (As [.bool])) (x:As [.int .u8,.int .u8]):rfn Tryz.prog slave_rightEnds_e 6 18446744073709551616 (Ev.get slave_rightEnds_h) 91 slave_rightEnds_s J x=slave_rightEnds_m0 x.1 x.2.1:=by kernel_rfl
theorem slave_rightEnds_t (x:As [.int .u8,.int .u8]):evT Tryz.prog slave_rightEnds_e 6 18446744073709551616 (Ev.get slave_rightEnds_h) 91 slave_rightEnds_s x=slave_rightEnds x:=by
 rw [rfn_eq,slave_rightEnds_c0]
 rfl
theorem slave_rightEnds_ok:CtOk Tryz.prog (fun _=>True) 91 ⟨slave_rightEnds_s,slave_rightEnds⟩:=ct_of_ev env_nil slave_rightEnds_t
@[reducible] def q13_:Sh:=⟨[.d (.sl (.int .u16))],[],[.sl (.int .u16)],[.d (.sl (.int .u16))],[],0,[.sl (.int .u16)]⟩
def qaw_:Env:=(cts [])
def qas_:List (Nat×Hint):=[]
def q4c_ (s:List Int):Option (As [.sl (.int .u16)]) :=
 if eqi (Int.ofNat (List.length s)) 0=true then amb (eqAs q13_.rs) [some ([],()),need (small (0 + List.length s)) (some (s,()))] else need (small (0 + List.length s)) (some (s,()))
def slices_Clone_Guint16 (x:As [.sl (.int .u16)]):Option (As [.sl (.int .u16)]):=q4c_ x.1
theorem qfr_ (J:Orc (As [.sl (.int .u16)])) (x:As [.sl (.int .u16)]):rfn Tryz.prog qaw_ 6 18446744073709551616 (Ev.get qas_) 131 q13_ J x=q4c_ x.1:=by kernel_rfl
theorem qg8_ (x:As [.sl (.int .u16)]):evT Tryz.prog qaw_ 6 18446744073709551616 (Ev.get qas_) 131 q13_ x=slices_Clone_Guint16 x:=by
 rw [rfn_eq,qfr_]
 rfl
theorem q4e_:CtOk Tryz.prog (fun _=>True) 131 ⟨q13_,slices_Clone_Guint16⟩:=ct_of_ev env_nil qg8_
@[reducible] def q1h_:Sh:=⟨[.d (.sl (.int .u16))],[],[.sl (.int .u16)],[.row 0],[(0,.row (.int .u16) 23)],1,[.sl (.int .u16)]⟩
def q96_:Env:=(cts [])
def q9j_:List (Nat×Hint):=[]
def q3i_ (s:List Int):Option (As [.sl (.int .u16)]) :=
 if eqi (Int.ofNat (List.length s)) 0=true then amb (eqAs q1h_.rs) [some ([],()),need (small (0 + List.length s)) (some (s,()))] else need (small (0 + List.length s)) (some (s,()))
def slices_Clone_Guint16_r (x:As [.sl (.int .u16)]):Option (As [.sl (.int .u16)]):=q3i_ x.1
theorem qer_ (J:Orc (As [.sl (.int .u16)])) (x:As [.sl (.int .u16)]):rfn Tryz.prog q96_ 6 18446744073709551616 (Ev.get q9j_) 131 q1h_ J x=q3i_ x.1:=by kernel_rfl
theorem qf4_ (x:As [.sl (.int .u16)]):evT Tryz.prog q96_ 6 18446744073709551616 (Ev.get q9j_) 131 q1h_ x=slices_Clone_Guint16_r x:=by
 rw [rfn_eq,qer_]
 rfl
theorem q92_:CtOk Tryz.prog (fun _=>True) 131 ⟨q1h_,slices_Clone_Guint16_r⟩:=ct_of_ev env_nil qf4_
@[reducible] def agent_New_s:Sh:=⟨[.d (.sl (.int .u16)),.d (.int .i64)],[],[.sl (.int .u16),.int .i64],[.d (.pr (.sl (.int .u16)) YTT0),.d (.int .i64)],[],0,[.pr (.sl (.int .u16)) YTT0,.int .i64]⟩
def agent_New_e:Env:=(cts [(131,(⟨q13_,slices_Clone_Guint16⟩:Ct))])
def agent_New_h:List (Nat×Hint):=[]
def agent_New_m0 (bank:List Int) (ticks:Int):Option (As [.pr (.sl (.int .u16)) YTT0,.int .i64]) :=
 if nei (Int.ofNat (List.length bank)) 64=true then some (zAg0,21,()) else if lt ticks 1=true then some (zAg0,2,()) else Option.bind (slices_Clone_Guint16 (bank,())) fun y=>some ((y.1,(0,0),0,0,0,zSt,ticks),0,())
def agent_New (x:As [.sl (.int .u16),.int .i64]):Option (As [.pr (.sl (.int .u16)) YTT0,.int .i64]):=agent_New_m0 x.1 x.2.1
theorem agent_New_c0 (J:Orc (As [.pr (.sl (.int .u16)) YTT0,.int .i64])) (x:As [.sl (.int .u16),.int .i64]):rfn Tryz.prog agent_New_e 6 18446744073709551616 (Ev.get agent_New_h) 92 agent_New_s J x=agent_New_m0 x.1 x.2.1:=by kernel_rfl
theorem agent_New_t (x:As [.sl (.int .u16),.int .i64]):evT Tryz.prog agent_New_e 6 18446744073709551616 (Ev.get agent_New_h) 92 agent_New_s x=agent_New x:=by
 rw [rfn_eq,agent_New_c0]
 rfl
theorem agent_New_ok:CtOk Tryz.prog (fun _=>True) 92 ⟨agent_New_s,agent_New⟩:=ct_of_ev (env_cons q4e_ env_nil) agent_New_t
@[reducible] def slave_New_s:Sh:=⟨[.d (.int .u8),.d (.int .u8),.d (.sl (.int .u16)),.d (.int .i64)],[],[.int .u8,.int .u8,.sl (.int .u16),.int .i64],[.d (.pr (.int .u8) (.pr (.int .u8) (.pr (.pr (.sl (.int .u16)) YTT0) (.sl .bool)))),.d (.int .i64)],[],0,[.pr (.int .u8) (.pr (.int .u8) (.pr (.pr (.sl (.int .u16)) YTT0) (.sl .bool))),.int .i64]⟩
def slave_New_e:Env:=(cts [(91,(⟨slave_rightEnds_s,slave_rightEnds⟩:Ct)),(92,(⟨agent_New_s,agent_New⟩:Ct))])
def slave_New_h:List (Nat×Hint):=[]
def slave_New_m0 (unit link:Int) (bank:List Int) (ticks:Int):Option (As [.pr (.int .u8) (.pr (.int .u8) (.pr (.pr (.sl (.int .u16)) YTT0) (.sl .bool))),.int .i64]) :=
 Option.bind (slave_rightEnds (unit,link,())) fun y=>if (!y.1)=true then some (zSl,2,()) else Option.bind (agent_New (bank,ticks,())) fun y=>if nei y.2.1 0=true then some (zSl,y.2.1,()) else some ((unit,link,(mkAg y.1),[false,false,false,false,false,false,false,false,false,false,false,false,false,false,false,false]),0,())
def slave_New (x:As [.int .u8,.int .u8,.sl (.int .u16),.int .i64]):Option (As [.pr (.int .u8) (.pr (.int .u8) (.pr (.pr (.sl (.int .u16)) YTT0) (.sl .bool))),.int .i64]):=slave_New_m0 x.1 x.2.1 x.2.2.1 x.2.2.2.1
theorem slave_New_c0 (J:Orc (As [.pr (.int .u8) (.pr (.int .u8) (.pr (.pr (.sl (.int .u16)) YTT0) (.sl .bool))),.int .i64])) (x:As [.int .u8,.int .u8,.sl (.int .u16),.int .i64]):rfn Tryz.prog slave_New_e 6 18446744073709551616 (Ev.get slave_New_h) 35 slave_New_s J x=slave_New_m0 x.1 x.2.1 x.2.2.1 x.2.2.2.1:=by kernel_rfl
theorem slave_New_t (x:As [.int .u8,.int .u8,.sl (.int .u16),.int .i64]):evT Tryz.prog slave_New_e 6 18446744073709551616 (Ev.get slave_New_h) 35 slave_New_s x=slave_New x:=by
 rw [rfn_eq,slave_New_c0]
 rfl
theorem slave_New_ok:CtOk Tryz.prog (fun _=>True) 35 ⟨slave_New_s,slave_New⟩:=ct_of_ev (env_cons slave_rightEnds_ok (env_cons agent_New_ok env_nil)) slave_New_t
@[reducible] def low_Bank_s:Sh:=⟨[.d (.sl (.int .u16))],[],[.sl (.int .u16)],[.d (.sl (.int .u16))],[],0,[.sl (.int .u16)]⟩
def low_Bank_e:Env:=(cts [])
def low_Bank_h:List (Nat×Hint):=[]
def low_Bank_m0 (l:List Int):Option (As [.sl (.int .u16)]) :=
 some (List.take 64 l++List.drop (0 + List.length (List.take 64 l)) (List.replicate 64 0),())
def low_Bank (x:As [.sl (.int .u16)]):Option (As [.sl (.int .u16)]):=low_Bank_m0 x.1
theorem low_Bank_c0 (J:Orc (As [.sl (.int .u16)])) (x:As [.sl (.int .u16)]):rfn Tryz.prog low_Bank_e 6 18446744073709551616 (Ev.get low_Bank_h) 55 low_Bank_s J x=low_Bank_m0 x.1:=by kernel_rfl
theorem low_Bank_t (x:As [.sl (.int .u16)]):evT Tryz.prog low_Bank_e 6 18446744073709551616 (Ev.get low_Bank_h) 55 low_Bank_s x=low_Bank x:=by
 rw [rfn_eq,low_Bank_c0]
 rfl
theorem low_Bank_ok:CtOk Tryz.prog (fun _=>True) 55 ⟨low_Bank_s,low_Bank⟩:=ct_of_ev env_nil low_Bank_t
@[reducible] def qaz_:Sh:=⟨[.d (.int .u8),.d (.sl (.int .u16)),.d (.int .u8)],[],[.int .u8,.sl (.int .u16),.int .u8],[.d (.pr (.int .u8) (.pr (.int .u8) (.pr (.pr (.sl (.int .u16)) YTT0) (.sl .bool)))),.d (.bool)],[],0,[.pr (.int .u8) (.pr (.int .u8) (.pr (.pr (.sl (.int .u16)) YTT0) (.sl .bool))),.bool]⟩
def qii_:Env:=(cts [(35,(⟨slave_New_s,slave_New⟩:Ct)),(55,(⟨low_Bank_s,low_Bank⟩:Ct))])
def qid_:List (Nat×Hint):=[]
def q9s_ (link:Int) (b:List Int) (ticks:Int):Option (As [.pr (.int .u8) (.pr (.int .u8) (.pr (.pr (.sl (.int .u16)) YTT0) (.sl .bool))),.bool]) :=
 Option.bind (low_Bank (b,())) fun y=>Option.bind (slave_New (9,add .u8 1 (rem link 2),y.1,add .i64 1 (cvt .i64 (rem ticks 20)),())) fun y=>if eqi y.2.1 0=true then some (y.1,eqi (Int.ofNat (List.length y.1.2.2.1.1)) 64,()) else some (y.1,false,())
def law21_begun (x:As [.int .u8,.sl (.int .u16),.int .u8]):Option (As [.pr (.int .u8) (.pr (.int .u8) (.pr (.pr (.sl (.int .u16)) YTT0) (.sl .bool))),.bool]):=q9s_ x.1 x.2.1 x.2.2.1
theorem qm7_ (J:Orc (As [.pr (.int .u8) (.pr (.int .u8) (.pr (.pr (.sl (.int .u16)) YTT0) (.sl .bool))),.bool])) (x:As [.int .u8,.sl (.int .u16),.int .u8]):rfn Tryz.prog qii_ 6 18446744073709551616 (Ev.get qid_) 9 qaz_ J x=q9s_ x.1 x.2.1 x.2.2.1:=by kernel_rfl
theorem qnr_ (x:As [.int .u8,.sl (.int .u16),.int .u8]):evT Tryz.prog qii_ 6 18446744073709551616 (Ev.get qid_) 9 qaz_ x=law21_begun x:=by
 rw [rfn_eq,qm7_]
 rfl
theorem qlw_:CtOk Tryz.prog (fun _=>True) 9 ⟨qaz_,law21_begun⟩:=ct_of_ev (env_cons slave_New_ok (env_cons low_Bank_ok env_nil)) qnr_
@[reducible] def low_Words_s:Sh:=⟨[.d (.sl (.int .u16)),.d (.sl (.int .u16))],[],[.sl (.int .u16),.sl (.int .u16)],[.d (.bool)],[],0,[.bool]⟩
abbrev low_Words_R:=Option (As [.bool])
def low_Words_e:Env:=(cts [])
def low_Words_h:List (Nat×Hint):=[(58,⟨[],[0,1,12,13]⟩)]
def low_Words_k1 (a b:List Int) (t12 t13:Int):St:={ fr:=[(0,.d (.sl (.int .u16)) a),(1,.d (.sl (.int .u16)) b),(12,.d (.int .i64) t12),(13,.d (.int .i64) t13)],nt:=26,up:=[],own:=[],nx:=0,log:=[],ln:=0 }
def low_Words_m1 (self1:List Int->List Int->Int->Int->low_Words_R) (a b:List Int) (t12 t13:Int):low_Words_R :=
 if lt t13 t12=true then Option.bind (at? a t13) fun y=>Option.bind (at? b t13) fun y_1=>if nei y y_1=true then some (false,()) else self1 a b t12 (add .i64 t13 1) else some (true,())
def low_Words_m0 (j1:List Int->List Int->Int->Int->low_Words_R) (a b:List Int):low_Words_R :=
 if nei (Int.ofNat (List.length a)) (Int.ofNat (List.length b))=true then some (false,()) else j1 a b (Int.ofNat (List.length a)) 0
def low_Words_K1 (a b:List Int) (t12 t13:Int):low_Words_R :=
 loopF (fun (self:(List Int)×(List Int)×(Int)×(Int)->low_Words_R) (s:(List Int)×(List Int)×(Int)×(Int))=>low_Words_m1 (fun a b t12 t13=>self (a,b,t12,t13)) s.1 s.2.1 s.2.2.1 s.2.2.2) 18446744073709551616 (a,b,t12,t13)
def low_Words (x:As [.sl (.int .u16),.sl (.int .u16)]):low_Words_R:=low_Words_m0 low_Words_K1 x.1 x.2.1
theorem low_Words_c1 (J:Orc (As [.bool])) (w1:St->low_Words_R) (a b:List Int) (t12 t13:Int):pfn Tryz.prog low_Words_e 6 18446744073709551616 (Ev.get low_Words_h) 20 low_Words_s J 58 [w1] (low_Words_k1 a b t12 t13)=low_Words_m1 (fun a b t12 t13=>w1 (low_Words_k1 a b t12 t13)) a b t12 t13:=by kernel_rfl
theorem low_Words_c0 (J:Orc (As [.bool])) (x:As [.sl (.int .u16),.sl (.int .u16)]):rfn Tryz.prog low_Words_e 6 18446744073709551616 (Ev.get low_Words_h) 20 low_Words_s J x=low_Words_m0 (fun a b t12 t13=>J 58 [] (low_Words_k1 a b t12 t13)) x.1 x.2.1:=by kernel_rfl
theorem low_Words_g1 (a b:List Int) (t12 t13:Int):jfn Tryz.prog low_Words_e 6 18446744073709551616 (Ev.get low_Words_h) 20 low_Words_s 58 [] (low_Words_k1 a b t12 t13)=low_Words_K1 a b t12 t13:=by
 rw [pfn_eq (by decide)]
 rw [pfn_loop (by kernel_rfl)]
 refine loopF_sim (σ:=(List Int)×(List Int)×(Int)×(Int)) (mk:=fun s=>low_Words_k1 s.1 s.2.1 s.2.2.1 s.2.2.2) (fun w1 s=>?_) 18446744073709551616 (a,b,t12,t13)
 refine (low_Words_c1 _ w1 s.1 s.2.1 s.2.2.1 s.2.2.2).trans ?_
 rfl
theorem low_Words_t (x:As [.sl (.int .u16),.sl (.int .u16)]):evT Tryz.prog low_Words_e 6 18446744073709551616 (Ev.get low_Words_h) 20 low_Words_s x=low_Words x:=by
 have e1:(fun a b t12 t13=>(jfn Tryz.prog low_Words_e 6 18446744073709551616 (Ev.get low_Words_h) 20 low_Words_s) 58 [] (low_Words_k1 a b t12 t13))=low_Words_K1:=by funext a b t12 t13; exact low_Words_g1 a b t12 t13
 rw [rfn_eq,low_Words_c0,e1]
 rfl
theorem low_Words_ok:CtOk Tryz.prog (fun _=>True) 20 ⟨low_Words_s,low_Words⟩:=ct_of_ev env_nil low_Words_t
@[reducible] def q7e_:Sh:=⟨[.d (.int .u8)],[],[.int .u8],[.d (.pr (.int .i64) YTT15),.d (.bool)],[],0,[.pr (.int .i64) YTT15,.bool]⟩
def qk2_:Env:=(cts [])
def qjz_:List (Nat×Hint):=[]
def qja_ (f:Int):Option (As [.pr (.int .i64) YTT15,.bool]) :=
 some (Ev.gdV (.pr (.int .i64) YTT15) (if eqi 1 f=true then some (2000,0,0,false,false) else if eqi 2 f=true then some (2000,0,0,false,false) else if eqi 3 f=true then some (125,0,0,false,false) else if eqi 4 f=true then some (125,0,0,false,false) else if eqi 5 f=true then some (0,1,0,false,false) else if eqi 6 f=true then some (0,0,1,false,false) else if eqi 15 f=true then some (1968,1968,0,false,true) else if eqi 16 f=true then some (123,0,123,false,true) else if eqi 23 f=true then some (125,0,121,true,false) else Option.none) (0,0,0,false,false),Ev.isV (.pr (.int .i64) YTT15) (if eqi 1 f=true then some (2000,0,0,false,false) else if eqi 2 f=true then some (2000,0,0,false,false) else if eqi 3 f=true then some (125,0,0,false,false) else if eqi 4 f=true then some (125,0,0,false,false) else if eqi 5 f=true then some (0,1,0,false,false) else if eqi 6 f=true then some (0,0,1,false,false) else if eqi 15 f=true then some (1968,1968,0,false,true) else if eqi 16 f=true then some (123,0,123,false,true) else if eqi 23 f=true then some (125,0,121,true,false) else Option.none),())
def ask_shape (x:As [.int .u8]):Option (As [.pr (.int .i64) YTT15,.bool]):=qja_ x.1
theorem qoe_ (J:Orc (As [.pr (.int .i64) YTT15,.bool])) (x:As [.int .u8]):rfn Tryz.prog qk2_ 6 18446744073709551616 (Ev.get qjz_) 59 q7e_ J x=qja_ x.1:=by kernel_rfl
theorem qpu_ (x:As [.int .u8]):evT Tryz.prog qk2_ 6 18446744073709551616 (Ev.get qjz_) 59 q7e_ x=ask_shape x:=by
 rw [rfn_eq,qoe_]
 rfl
theorem qd3_:CtOk Tryz.prog (fun _=>True) 59 ⟨q7e_,ask_shape⟩:=ct_of_ev env_nil qpu_
@[reducible] def qcl_:Sh:=⟨[.d (.int .i64),.d (.int .i64)],[],[.int .i64,.int .i64],[.d (.bool)],[],0,[.bool]⟩
def qjf_:Env:=(cts [])
def qjj_:List (Nat×Hint):=[]
def qbf_ (n most:Int):low_Words_R :=
 if eqi most 0=true then some (eqi n 0,()) else if ge n 1=true then some (le n most,()) else some (false,())
def ask_within (x:As [.int .i64,.int .i64]):low_Words_R:=qbf_ x.1 x.2.1
theorem qmw_ (J:Orc (As [.bool])) (x:As [.int .i64,.int .i64]):rfn Tryz.prog qjf_ 6 18446744073709551616 (Ev.get qjj_) 127 qcl_ J x=qbf_ x.1 x.2.1:=by kernel_rfl
theorem qoo_ (x:As [.int .i64,.int .i64]):evT Tryz.prog qjf_ 6 18446744073709551616 (Ev.get qjj_) 127 qcl_ x=ask_within x:=by
 rw [rfn_eq,qmw_]
 rfl
theorem qnp_:CtOk Tryz.prog (fun _=>True) 127 ⟨qcl_,ask_within⟩:=ct_of_ev env_nil qoo_
@[reducible] def q24_:Sh:=⟨[.d (.pr (.int .u8) YTT4)],[],[.pr (.int .u8) YTT4],[.d (.bool)],[],0,[.bool]⟩
def q5u_:Env:=(cts [(59,(⟨q7e_,ask_shape⟩:Ct)),(127,(⟨qcl_,ask_within⟩:Ct))])
def q5t_:List (Nat×Hint):=[(30,⟨[],[1,3,47,52,53,54,55,56,57,58,59,60,61,62]⟩),(14,⟨[],[1,3,22,31,32,33,34,35,36,37,40,41,42,43,44,45,46,52,53,54,55,56,57,58,59,60,61,62]⟩)]
def qd2_ (t22:Bool) (a a_2 a_3 a_4:Int) (a_5:List Int) (a_6:List Bool) (s s_2 s_3:Int) (s_4 s_5:Bool):St:={ fr:=[(1,.pb 0 0),(3,.pb 1 0),(22,.d .bool t22)],nt:=64,up:=[],own:=[(0,.box 44 [.d (.int .u8) a,.d (.int .u16) a_2,.d (.int .u16) a_3,.d (.int .u16) a_4,.d (.sl (.int .u16)) a_5,.d (.sl .bool) a_6]),(1,.box 114 [.d (.int .i64) s,.d (.int .i64) s_2,.d (.int .i64) s_3,.d .bool s_4,.d .bool s_5])],nx:=2,log:=[],ln:=0 }
def qcm_ (t47:Bool) (a a_2 a_3 a_4:Int) (a_5:List Int) (a_6:List Bool) (s s_2 s_3:Int) (s_4 s_5:Bool):St:={ fr:=[(1,.pb 0 0),(3,.pb 1 0),(47,.d .bool t47)],nt:=64,up:=[],own:=[(0,.box 44 [.d (.int .u8) a,.d (.int .u16) a_2,.d (.int .u16) a_3,.d (.int .u16) a_4,.d (.sl (.int .u16)) a_5,.d (.sl .bool) a_6]),(1,.box 114 [.d (.int .i64) s,.d (.int .i64) s_2,.d (.int .i64) s_3,.d .bool s_4,.d .bool s_5])],nx:=2,log:=[],ln:=0 }
def qf3_ (j2:Bool->Int->Int->Int->Int->List Int->List Bool->Int->Int->Int->Bool->Bool->low_Words_R) (t22:Bool) (a a_2 a_3 a_4:Int) (a_5:List Int) (a_6:List Bool) (s s_2 s_3:Int) (s_4 s_5:Bool):low_Words_R :=
 if t22=true then some (false,()) else Option.bind (ask_within (cvt .i64 a_3,s,())) fun y=>if (!y.1)=true then j2 true a a_2 a_3 a_4 a_5 a_6 s s_2 s_3 s_4 s_5 else Option.bind (ask_within (Int.ofNat (List.length a_6),s_2,())) fun y=>if (!y.1)=true then j2 true a a_2 a_3 a_4 a_5 a_6 s s_2 s_3 s_4 s_5 else Option.bind (ask_within (Int.ofNat (List.length a_5),s_3,())) fun y=>j2 (!y.1) a a_2 a_3 a_4 a_5 a_6 s s_2 s_3 s_4 s_5
def qf5_ (t47:Bool) (a a_2 a_3 a_4:Int) (a_5:List Int) (a_6:List Bool) (s s_2 s_3:Int) (s_4 s_5:Bool):low_Words_R :=
 if t47=true then some (false,()) else if (!s_5)=true then some (true,()) else some (eqi (add .i64 (Int.ofNat (List.length a_6)) (Int.ofNat (List.length a_5))) (cvt .i64 a_3),())
def qct_ (j1:Bool->Int->Int->Int->Int->List Int->List Bool->Int->Int->Int->Bool->Bool->low_Words_R) (a:Int×Int×Int×Int×List Int×List Bool):low_Words_R :=
 Option.bind (ask_shape (a.1,())) fun y=>if (!y.2.1)=true then j1 true a.1 a.2.1 a.2.2.1 a.2.2.2.1 a.2.2.2.2.1 a.2.2.2.2.2 y.1.1 y.1.2.1 y.1.2.2.1 y.1.2.2.2.1 y.1.2.2.2.2 else if (!y.1.2.2.2.1)=true then j1 (nei a.2.2.2.1 0) a.1 a.2.1 a.2.2.1 a.2.2.2.1 a.2.2.2.2.1 a.2.2.2.2.2 y.1.1 y.1.2.1 y.1.2.2.1 y.1.2.2.2.1 y.1.2.2.2.2 else j1 false a.1 a.2.1 a.2.2.1 a.2.2.2.1 a.2.2.2.2.1 a.2.2.2.2.2 y.1.1 y.1.2.1 y.1.2.2.1 y.1.2.2.2.1 y.1.2.2.2.2
def q98_ (t47:Bool) (a a_2 a_3 a_4:Int) (a_5:List Int) (a_6:List Bool) (s s_2 s_3:Int) (s_4 s_5:Bool):low_Words_R:=qf5_ t47 a a_2 a_3 a_4 a_5 a_6 s s_2 s_3 s_4 s_5
def q7p_ (t22:Bool) (a a_2 a_3 a_4:Int) (a_5:List Int) (a_6:List Bool) (s s_2 s_3:Int) (s_4 s_5:Bool):low_Words_R:=qf3_ (q98_) t22 a a_2 a_3 a_4 a_5 a_6 s s_2 s_3 s_4 s_5
def ask_Right (x:As [.pr (.int .u8) YTT4]):low_Words_R:=qct_ q7p_ x.1
theorem qo9_ (J:Orc (As [.bool])) (t47:Bool) (a a_2 a_3 a_4:Int) (a_5:List Int) (a_6:List Bool) (s s_2 s_3:Int) (s_4 s_5:Bool):pfn Tryz.prog q5u_ 6 18446744073709551616 (Ev.get q5t_) 58 q24_ J 30 [] (qcm_ t47 a a_2 a_3 a_4 a_5 a_6 s s_2 s_3 s_4 s_5)=qf5_ t47 a a_2 a_3 a_4 a_5 a_6 s s_2 s_3 s_4 s_5:=by kernel_rfl
theorem qoi_ (J:Orc (As [.bool])) (t22:Bool) (a a_2 a_3 a_4:Int) (a_5:List Int) (a_6:List Bool) (s s_2 s_3:Int) (s_4 s_5:Bool):pfn Tryz.prog q5u_ 6 18446744073709551616 (Ev.get q5t_) 58 q24_ J 14 [] (qd2_ t22 a a_2 a_3 a_4 a_5 a_6 s s_2 s_3 s_4 s_5)=qf3_ (fun t47 a a_2 a_3 a_4 a_5 a_6 s s_2 s_3 s_4 s_5=>J 30 [] (qcm_ t47 a a_2 a_3 a_4 a_5 a_6 s s_2 s_3 s_4 s_5)) t22 a a_2 a_3 a_4 a_5 a_6 s s_2 s_3 s_4 s_5:=by kernel_rfl
theorem qo8_ (J:Orc (As [.bool])) (x:As [.pr (.int .u8) YTT4]):rfn Tryz.prog q5u_ 6 18446744073709551616 (Ev.get q5t_) 58 q24_ J x=qct_ (fun t22 a a_2 a_3 a_4 a_5 a_6 s s_2 s_3 s_4 s_5=>J 14 [] (qd2_ t22 a a_2 a_3 a_4 a_5 a_6 s s_2 s_3 s_4 s_5)) x.1:=by kernel_rfl
theorem qoc_ (t47:Bool) (a a_2 a_3 a_4:Int) (a_5:List Int) (a_6:List Bool) (s s_2 s_3:Int) (s_4 s_5:Bool):jfn Tryz.prog q5u_ 6 18446744073709551616 (Ev.get q5t_) 58 q24_ 30 [] (qcm_ t47 a a_2 a_3 a_4 a_5 a_6 s s_2 s_3 s_4 s_5)=q98_ t47 a a_2 a_3 a_4 a_5 a_6 s s_2 s_3 s_4 s_5:=by
 rw [pfn_eq (by decide)]
 rw [qo9_]
 rfl
theorem qpd_ (t22:Bool) (a a_2 a_3 a_4:Int) (a_5:List Int) (a_6:List Bool) (s s_2 s_3:Int) (s_4 s_5:Bool):jfn Tryz.prog q5u_ 6 18446744073709551616 (Ev.get q5t_) 58 q24_ 14 [] (qd2_ t22 a a_2 a_3 a_4 a_5 a_6 s s_2 s_3 s_4 s_5)=q7p_ t22 a a_2 a_3 a_4 a_5 a_6 s s_2 s_3 s_4 s_5:=by
 rw [pfn_eq (by decide)]
 have e2:(fun t47 a a_2 a_3 a_4 a_5 a_6 s s_2 s_3 s_4 s_5=>(jfn Tryz.prog q5u_ 6 18446744073709551616 (Ev.get q5t_) 58 q24_) 30 [] (qcm_ t47 a a_2 a_3 a_4 a_5 a_6 s s_2 s_3 s_4 s_5))=q98_:=by funext t47 a a_2 a_3 a_4 a_5 a_6 s s_2 s_3 s_4 s_5; exact qoc_ t47 a a_2 a_3 a_4 a_5 a_6 s s_2 s_3 s_4 s_5
 rw [qoi_,e2]
 rfl
theorem qpz_ (x:As [.pr (.int .u8) YTT4]):evT Tryz.prog q5u_ 6 18446744073709551616 (Ev.get q5t_) 58 q24_ x=ask_Right x:=by
 have e1:(fun t22 a a_2 a_3 a_4 a_5 a_6 s s_2 s_3 s_4 s_5=>(jfn Tryz.prog q5u_ 6 18446744073709551616 (Ev.get q5t_) 58 q24_) 14 [] (qd2_ t22 a a_2 a_3 a_4 a_5 a_6 s s_2 s_3 s_4 s_5))=q7p_:=by funext t22 a a_2 a_3 a_4 a_5 a_6 s s_2 s_3 s_4 s_5; exact qpd_ t22 a a_2 a_3 a_4 a_5 a_6 s s_2 s_3 s_4 s_5
 rw [rfn_eq,qo8_,e1]
 rfl
theorem qcp_:CtOk Tryz.prog (fun _=>True) 58 ⟨q24_,ask_Right⟩:=ct_of_ev (env_cons qd3_ (env_cons qnp_ env_nil)) qpz_
@[reducible] def q59_:Sh:=⟨[.row 0,.d (.sl (.int .u16))],[.row (.int .u8) 5],[.sl (.int .u16),.sl (.int .u8)],[.row 1],[(1,.row (.int .u8) 5)],1,[.sl (.int .u8)]⟩
def q8l_:Env:=(cts [])
def q8q_:List (Nat×Hint):=[(26,⟨[.unl 0],[0,7,8,9]⟩)]
def q5v_ (t7:List Int) (t8 t9:Int) (out:List Int):St:={ fr:=[(0,.row 1),(7,.d (.sl (.int .u16)) t7),(8,.d (.int .i64) t8),(9,.d (.int .i64) t9)],nt:=23,up:=[],own:=[(1,.row (.int .u8) 5 out)],nx:=2,log:=[],ln:=1 }
def q5w_ (self1:List Int->Int->Int->List Int->Option (As [.sl (.int .u8)])) (t7:List Int) (t8 t9:Int) (out:List Int):Option (As [.sl (.int .u8)]) :=
 if lt t9 t8=true then Option.bind (at? t7 t9) fun y=>need (small (List.length out + Nat.succ (Nat.succ 0))) (self1 t7 t8 (add .i64 t9 1) (out++[cvt .u8 (Sx.shr .u16 y 8),cvt .u8 y])) else some (out,())
def q9o_ (j1:List Int->Int->Int->List Int->Option (As [.sl (.int .u8)])) (out l:List Int):Option (As [.sl (.int .u8)]) :=
 j1 out (Int.ofNat (List.length out)) 0 l
def q7m_ (t7:List Int) (t8 t9:Int) (out:List Int):Option (As [.sl (.int .u8)]) :=
 loopF (fun (self:(List Int)×(Int)×(Int)×(List Int)->Option (As [.sl (.int .u8)])) (s:(List Int)×(Int)×(Int)×(List Int))=>q5w_ (fun t7 t8 t9 out=>self (t7,t8,t9,out)) s.1 s.2.1 s.2.2.1 s.2.2.2) 18446744073709551616 (t7,t8,t9,out)
def ask_numbers (x:As [.sl (.int .u16),.sl (.int .u8)]):Option (As [.sl (.int .u8)]):=q9o_ q7m_ x.1 x.2.1
theorem qm4_ (J:Orc (As [.sl (.int .u8)])) (w1:St->Option (As [.sl (.int .u8)])) (t7:List Int) (t8 t9:Int) (out:List Int):pfn Tryz.prog q8l_ 6 18446744073709551616 (Ev.get q8q_) 60 q59_ J 26 [w1] (q5v_ t7 t8 t9 out)=q5w_ (fun t7 t8 t9 out=>w1 (q5v_ t7 t8 t9 out)) t7 t8 t9 out:=by kernel_rfl
theorem qlo_ (J:Orc (As [.sl (.int .u8)])) (x:As [.sl (.int .u16),.sl (.int .u8)]):rfn Tryz.prog q8l_ 6 18446744073709551616 (Ev.get q8q_) 60 q59_ J x=q9o_ (fun t7 t8 t9 out=>J 26 [] (q5v_ t7 t8 t9 out)) x.1 x.2.1:=by kernel_rfl
theorem qlv_ (t7:List Int) (t8 t9:Int) (out:List Int):jfn Tryz.prog q8l_ 6 18446744073709551616 (Ev.get q8q_) 60 q59_ 26 [] (q5v_ t7 t8 t9 out)=q7m_ t7 t8 t9 out:=by
 rw [pfn_eq (by decide)]
 rw [pfn_loop (by kernel_rfl)]
 refine loopF_sim (σ:=(List Int)×(Int)×(Int)×(List Int)) (mk:=fun s=>q5v_ s.1 s.2.1 s.2.2.1 s.2.2.2) (fun w1 s=>?_) 18446744073709551616 (t7,t8,t9,out)
 refine (qm4_ _ w1 s.1 s.2.1 s.2.2.1 s.2.2.2).trans ?_
 rfl
theorem qn8_ (x:As [.sl (.int .u16),.sl (.int .u8)]):evT Tryz.prog q8l_ 6 18446744073709551616 (Ev.get q8q_) 60 q59_ x=ask_numbers x:=by
 have e1:(fun t7 t8 t9 out=>(jfn Tryz.prog q8l_ 6 18446744073709551616 (Ev.get q8q_) 60 q59_) 26 [] (q5v_ t7 t8 t9 out))=q7m_:=by funext t7 t8 t9 out; exact qlv_ t7 t8 t9 out
 rw [rfn_eq,qlo_,e1]
 rfl
theorem qm2_:CtOk Tryz.prog (fun _=>True) 60 ⟨q59_,ask_numbers⟩:=ct_of_ev env_nil qn8_
@[reducible] def q3n_:Sh:=⟨[.d (.sl .bool)],[],[.sl .bool],[.d (.sl (.int .u8))],[],0,[.sl (.int .u8)]⟩
def q6y_:Env:=(cts [])
def q71_:List (Nat×Hint):=[(7,⟨[],[0,3]⟩),(250,⟨[],[4,18,19,20]⟩)]
def qdn_ (bits:List Bool) (n:Int):St:={ fr:=[(0,.d (.sl .bool) bits),(3,.d (.int .i64) n)],nt:=38,up:=[],own:=[],nx:=0,log:=[],ln:=0 }
def q8x_ (t18:List Bool) (t19 t20:Int) (out:List Int):St:={ fr:=[(4,.row 0),(18,.d (.sl .bool) t18),(19,.d (.int .i64) t19),(20,.d (.int .i64) t20)],nt:=38,up:=[],own:=[(0,.row (.int .u8) 5 out)],nx:=1,log:=[],ln:=0 }
def qgc_ (j2:List Bool->Int->Int->List Int->Option (As [.sl (.int .u8)])) (bits:List Bool) (n:Int):Option (As [.sl (.int .u8)]) :=
 need (ge n 0) (need (Ev.capOk n n) (need (small (Int.toNat n)) (j2 bits (Int.ofNat (List.length bits)) 0 (List.replicate (Int.toNat n) 0))))
def q8z_ (self2:List Bool->Int->Int->List Int->Option (As [.sl (.int .u8)])) (t18:List Bool) (t19 t20:Int) (out:List Int):Option (As [.sl (.int .u8)]) :=
 if lt t20 t19=true then Option.bind (at? t18 t20) fun y=>if y=true then Option.bind (at? out (quo .i64 t20 8)) fun x=>Option.bind (at? out (quo .i64 t20 8)) fun y=>need (ge (rem t20 8) 0) (Option.bind (at? out (quo .i64 t20 8)) fun x=>Option.bind (at? out (quo .i64 t20 8)) fun x=>self2 t18 t19 (add .i64 t20 1) (List.set out (Int.toNat (quo .i64 t20 8)) (Sx.bor .u8 y (Sx.shl .u8 1 (rem t20 8))))) else self2 t18 t19 (add .i64 t20 1) out else some (out,())
def qdq_ (j1:List Bool->Int->Option (As [.sl (.int .u8)])) (bits:List Bool):Option (As [.sl (.int .u8)]) :=
 if gt (rem (Int.ofNat (List.length bits)) 8) 0=true then j1 bits (add .i64 (quo .i64 (Int.ofNat (List.length bits)) 8) 1) else j1 bits (quo .i64 (Int.ofNat (List.length bits)) 8)
def qdk_ (t18:List Bool) (t19 t20:Int) (out:List Int):Option (As [.sl (.int .u8)]) :=
 loopF (fun (self:(List Bool)×(Int)×(Int)×(List Int)->Option (As [.sl (.int .u8)])) (s:(List Bool)×(Int)×(Int)×(List Int))=>q8z_ (fun t18 t19 t20 out=>self (t18,t19,t20,out)) s.1 s.2.1 s.2.2.1 s.2.2.2) 18446744073709551616 (t18,t19,t20,out)
def q8y_ (bits:List Bool) (n:Int):Option (As [.sl (.int .u8)]):=qgc_ (qdk_) bits n
def ask_Pack (x:As [.sl .bool]):Option (As [.sl (.int .u8)]):=qdq_ q8y_ x.1
theorem qpl_ (J:Orc (As [.sl (.int .u8)])) (w2:St->Option (As [.sl (.int .u8)])) (t18:List Bool) (t19 t20:Int) (out:List Int):pfn Tryz.prog q6y_ 6 18446744073709551616 (Ev.get q71_) 61 q3n_ J 250 [w2] (q8x_ t18 t19 t20 out)=q8z_ (fun t18 t19 t20 out=>w2 (q8x_ t18 t19 t20 out)) t18 t19 t20 out:=by kernel_rfl
theorem qpm_ (J:Orc (As [.sl (.int .u8)])) (bits:List Bool) (n:Int):pfn Tryz.prog q6y_ 6 18446744073709551616 (Ev.get q71_) 61 q3n_ J 7 [] (qdn_ bits n)=qgc_ (fun t18 t19 t20 out=>J 250 [] (q8x_ t18 t19 t20 out)) bits n:=by kernel_rfl
theorem qq7_ (J:Orc (As [.sl (.int .u8)])) (x:As [.sl .bool]):rfn Tryz.prog q6y_ 6 18446744073709551616 (Ev.get q71_) 61 q3n_ J x=qdq_ (fun bits n=>J 7 [] (qdn_ bits n)) x.1:=by kernel_rfl
theorem qpn_ (t18:List Bool) (t19 t20:Int) (out:List Int):jfn Tryz.prog q6y_ 6 18446744073709551616 (Ev.get q71_) 61 q3n_ 250 [] (q8x_ t18 t19 t20 out)=qdk_ t18 t19 t20 out:=by
 rw [pfn_eq (by decide)]
 rw [pfn_loop (by kernel_rfl)]
 refine loopF_sim (σ:=(List Bool)×(Int)×(Int)×(List Int)) (mk:=fun s=>q8x_ s.1 s.2.1 s.2.2.1 s.2.2.2) (fun w2 s=>?_) 18446744073709551616 (t18,t19,t20,out)
 refine (qpl_ _ w2 s.1 s.2.1 s.2.2.1 s.2.2.2).trans ?_
 rfl
theorem qpx_ (bits:List Bool) (n:Int):jfn Tryz.prog q6y_ 6 18446744073709551616 (Ev.get q71_) 61 q3n_ 7 [] (qdn_ bits n)=q8y_ bits n:=by
 rw [pfn_eq (by decide)]
 have e2:(fun t18 t19 t20 out=>(jfn Tryz.prog q6y_ 6 18446744073709551616 (Ev.get q71_) 61 q3n_) 250 [] (q8x_ t18 t19 t20 out))=qdk_:=by funext t18 t19 t20 out; exact qpn_ t18 t19 t20 out
 rw [qpm_,e2]
 rfl
theorem qqd_ (x:As [.sl .bool]):evT Tryz.prog q6y_ 6 18446744073709551616 (Ev.get q71_) 61 q3n_ x=ask_Pack x:=by
 have e1:(fun bits n=>(jfn Tryz.prog q6y_ 6 18446744073709551616 (Ev.get q71_) 61 q3n_) 7 [] (qdn_ bits n))=q8y_:=by funext bits n; exact qpx_ bits n
 rw [rfn_eq,qq7_,e1]
 rfl
theorem qk1_:CtOk Tryz.prog (fun _=>True) 61 ⟨q3n_,ask_Pack⟩:=ct_of_ev env_nil qqd_
@[reducible] def qv_:Sh:=⟨[.d (.pr (.int .u8) YTT4)],[],[.pr (.int .u8) YTT4],[.d (.sl (.int .u8)),.d (.int .i64)],[],0,[.sl (.int .u8),.int .i64]⟩
def q1j_:Env:=(cts [(58,(⟨q24_,ask_Right⟩:Ct)),(59,(⟨q7e_,ask_shape⟩:Ct)),(60,(⟨q59_,ask_numbers⟩:Ct)),(61,(⟨q3n_,ask_Pack⟩:Ct))])
def q1m_:List (Nat×Hint):=[(31,⟨[],[1,4,6,48,49,50,51]⟩),(63,⟨[],[1,4,6,48,49,50,51]⟩),(127,⟨[],[6]⟩),(508,⟨[],[1,4,6,43]⟩)]
def qcn_ (a a_2 a_3 a_4:Int) (a_5:List Int) (a_6:List Bool) (s s_2 s_3:Int) (s_4 s_5:Bool) (out:List Int):St:={ fr:=[(1,.pb 0 0),(4,.pb 1 0),(6,.row 2)],nt:=102,up:=[],own:=[(0,.box 44 [.d (.int .u8) a,.d (.int .u16) a_2,.d (.int .u16) a_3,.d (.int .u16) a_4,.d (.sl (.int .u16)) a_5,.d (.sl .bool) a_6]),(1,.box 114 [.d (.int .i64) s,.d (.int .i64) s_2,.d (.int .i64) s_3,.d .bool s_4,.d .bool s_5]),(2,.row (.int .u8) 5 out)],nx:=3,log:=[],ln:=0 }
def qd4_ (a a_2 a_3 a_4:Int) (a_5:List Int) (a_6:List Bool) (s s_2 s_3:Int) (s_4 s_5:Bool) (out:List Int):St:={ fr:=[(1,.pb 0 0),(4,.pb 1 0),(6,.row 2)],nt:=102,up:=[],own:=[(0,.box 44 [.d (.int .u8) a,.d (.int .u16) a_2,.d (.int .u16) a_3,.d (.int .u16) a_4,.d (.sl (.int .u16)) a_5,.d (.sl .bool) a_6]),(1,.box 114 [.d (.int .i64) s,.d (.int .i64) s_2,.d (.int .i64) s_3,.d .bool s_4,.d .bool s_5]),(2,.row (.int .u8) 5 out)],nx:=3,log:=[],ln:=0 }
def qcc_ (t43:Bool) (a a_2 a_3 a_4:Int) (a_5:List Int) (a_6:List Bool) (s s_2 s_3:Int) (s_4 s_5:Bool) (out:List Int):St:={ fr:=[(1,.pb 0 0),(4,.pb 1 0),(6,.row 2),(43,.d .bool t43)],nt:=102,up:=[],own:=[(0,.box 44 [.d (.int .u8) a,.d (.int .u16) a_2,.d (.int .u16) a_3,.d (.int .u16) a_4,.d (.sl (.int .u16)) a_5,.d (.sl .bool) a_6]),(1,.box 114 [.d (.int .i64) s,.d (.int .i64) s_2,.d (.int .i64) s_3,.d .bool s_4,.d .bool s_5]),(2,.row (.int .u8) 5 out)],nx:=3,log:=[],ln:=0 }
def qc9_ (out:List Int):St:={ fr:=[(6,.row 0)],nt:=102,up:=[],own:=[(0,.row (.int .u8) 5 out)],nx:=1,log:=[],ln:=0 }
def qjl_ (j2:Int->Int->Int->Int->List Int->List Bool->Int->Int->Int->Bool->Bool->List Int->Option (As [.sl (.int .u8),.int .i64])) (a a_2 a_3 a_4:Int) (a_5:List Int) (a_6:List Bool) (s s_2 s_3:Int) (s_4 s_5:Bool) (out:List Int):Option (As [.sl (.int .u8),.int .i64]) :=
 if s_4=true then Option.bind (ask_numbers ([a_4,cvt .u16 (Int.ofNat (List.length a_5))],out,())) fun y=>j2 a a_2 a_3 a_4 a_5 a_6 s s_2 s_3 s_4 s_5 y.1 else j2 a a_2 a_3 a_4 a_5 a_6 s s_2 s_3 s_4 s_5 out
def qjg_ (j3:Bool->Int->Int->Int->Int->List Int->List Bool->Int->Int->Int->Bool->Bool->List Int->Option (As [.sl (.int .u8),.int .i64])) (a a_2 a_3 a_4:Int) (a_5:List Int) (a_6:List Bool) (s s_2 s_3:Int) (s_4 s_5:Bool) (out:List Int):Option (As [.sl (.int .u8),.int .i64]) :=
 if eqi a 5=true then Option.bind (at? a_6 0) fun y=>j3 y a a_2 a_3 a_4 a_5 a_6 s s_2 s_3 s_4 s_5 out else j3 false a a_2 a_3 a_4 a_5 a_6 s s_2 s_3 s_4 s_5 out
def qje_ (j4:List Int->Option (As [.sl (.int .u8),.int .i64])) (t43:Bool) (a a_2 a_3 a_4:Int) (a_5:List Int) (a_6:List Bool) (s s_2 s_3:Int) (s_4 s_5:Bool) (out:List Int):Option (As [.sl (.int .u8),.int .i64]) :=
 if t43=true then Option.bind (ask_numbers ([65280],out,())) fun y=>j4 y.1 else if eqi a 5=true then Option.bind (ask_numbers ([0],out,())) fun y=>j4 y.1 else if eqi a 6=true then Option.bind (ask_numbers (a_5,out,())) fun y=>j4 y.1 else if gt s_2 0=true then Option.bind (ask_Pack (a_6,())) fun y=>need (small (List.length out + Nat.succ 0)) (need (small (List.length (out++[cvt .u8 (Int.ofNat (List.length y.1))]) + List.length y.1)) (j4 (out++[cvt .u8 (Int.ofNat (List.length y.1))]++y.1))) else if gt s_3 0=true then need (small (List.length out + Nat.succ 0)) (Option.bind (ask_numbers (a_5,out++[cvt .u8 (mul .i64 2 (Int.ofNat (List.length a_5)))],())) fun y=>j4 y.1) else j4 out
def qjb_ (out:List Int):Option (As [.sl (.int .u8),.int .i64]) :=
 some (out,0,())
def qcs_ (j1:Int->Int->Int->Int->List Int->List Bool->Int->Int->Int->Bool->Bool->List Int->Option (As [.sl (.int .u8),.int .i64])) (a:Int×Int×Int×Int×List Int×List Bool):Option (As [.sl (.int .u8),.int .i64]) :=
 Option.bind (ask_Right (a,())) fun y=>if (!y.1)=true then some ([],12,()) else Option.bind (ask_shape (a.1,())) fun y=>Option.bind (ask_numbers ([a.2.1],[a.1],())) fun y_1=>if gt y.1.1 0=true then Option.bind (ask_numbers ([a.2.2.1],y_1.1,())) fun y_2=>j1 a.1 a.2.1 a.2.2.1 a.2.2.2.1 a.2.2.2.2.1 a.2.2.2.2.2 y.1.1 y.1.2.1 y.1.2.2.1 y.1.2.2.2.1 y.1.2.2.2.2 y_2.1 else j1 a.1 a.2.1 a.2.2.1 a.2.2.2.1 a.2.2.2.2.1 a.2.2.2.2.2 y.1.1 y.1.2.1 y.1.2.2.1 y.1.2.2.2.1 y.1.2.2.2.2 y_1.1
def qex_ (out:List Int):Option (As [.sl (.int .u8),.int .i64]):=qjb_ out
def qf0_ (t43:Bool) (a a_2 a_3 a_4:Int) (a_5:List Int) (a_6:List Bool) (s s_2 s_3:Int) (s_4 s_5:Bool) (out:List Int):Option (As [.sl (.int .u8),.int .i64]):=qje_ (qex_) t43 a a_2 a_3 a_4 a_5 a_6 s s_2 s_3 s_4 s_5 out
def qf7_ (a a_2 a_3 a_4:Int) (a_5:List Int) (a_6:List Bool) (s s_2 s_3:Int) (s_4 s_5:Bool) (out:List Int):Option (As [.sl (.int .u8),.int .i64]):=qjg_ (qf0_) a a_2 a_3 a_4 a_5 a_6 s s_2 s_3 s_4 s_5 out
def q2z_ (a a_2 a_3 a_4:Int) (a_5:List Int) (a_6:List Bool) (s s_2 s_3:Int) (s_4 s_5:Bool) (out:List Int):Option (As [.sl (.int .u8),.int .i64]):=qjl_ (qf7_) a a_2 a_3 a_4 a_5 a_6 s s_2 s_3 s_4 s_5 out
def ask_Bytes (x:As [.pr (.int .u8) YTT4]):Option (As [.sl (.int .u8),.int .i64]):=qcs_ q2z_ x.1
theorem qoq_ (J:Orc (As [.sl (.int .u8),.int .i64])) (out:List Int):pfn Tryz.prog q1j_ 6 18446744073709551616 (Ev.get q1m_) 13 qv_ J 127 [] (qc9_ out)=qjb_ out:=by kernel_rfl
theorem qpa_ (J:Orc (As [.sl (.int .u8),.int .i64])) (t43:Bool) (a a_2 a_3 a_4:Int) (a_5:List Int) (a_6:List Bool) (s s_2 s_3:Int) (s_4 s_5:Bool) (out:List Int):pfn Tryz.prog q1j_ 6 18446744073709551616 (Ev.get q1m_) 13 qv_ J 508 [] (qcc_ t43 a a_2 a_3 a_4 a_5 a_6 s s_2 s_3 s_4 s_5 out)=qje_ (fun out=>J 127 [] (qc9_ out)) t43 a a_2 a_3 a_4 a_5 a_6 s s_2 s_3 s_4 s_5 out:=by kernel_rfl
theorem qor_ (J:Orc (As [.sl (.int .u8),.int .i64])) (a a_2 a_3 a_4:Int) (a_5:List Int) (a_6:List Bool) (s s_2 s_3:Int) (s_4 s_5:Bool) (out:List Int):pfn Tryz.prog q1j_ 6 18446744073709551616 (Ev.get q1m_) 13 qv_ J 63 [] (qd4_ a a_2 a_3 a_4 a_5 a_6 s s_2 s_3 s_4 s_5 out)=qjg_ (fun t43 a a_2 a_3 a_4 a_5 a_6 s s_2 s_3 s_4 s_5 out=>J 508 [] (qcc_ t43 a a_2 a_3 a_4 a_5 a_6 s s_2 s_3 s_4 s_5 out)) a a_2 a_3 a_4 a_5 a_6 s s_2 s_3 s_4 s_5 out:=by kernel_rfl
theorem qod_ (J:Orc (As [.sl (.int .u8),.int .i64])) (a a_2 a_3 a_4:Int) (a_5:List Int) (a_6:List Bool) (s s_2 s_3:Int) (s_4 s_5:Bool) (out:List Int):pfn Tryz.prog q1j_ 6 18446744073709551616 (Ev.get q1m_) 13 qv_ J 31 [] (qcn_ a a_2 a_3 a_4 a_5 a_6 s s_2 s_3 s_4 s_5 out)=qjl_ (fun a a_2 a_3 a_4 a_5 a_6 s s_2 s_3 s_4 s_5 out=>J 63 [] (qd4_ a a_2 a_3 a_4 a_5 a_6 s s_2 s_3 s_4 s_5 out)) a a_2 a_3 a_4 a_5 a_6 s s_2 s_3 s_4 s_5 out:=by kernel_rfl
theorem qox_ (J:Orc (As [.sl (.int .u8),.int .i64])) (x:As [.pr (.int .u8) YTT4]):rfn Tryz.prog q1j_ 6 18446744073709551616 (Ev.get q1m_) 13 qv_ J x=qcs_ (fun a a_2 a_3 a_4 a_5 a_6 s s_2 s_3 s_4 s_5 out=>J 31 [] (qcn_ a a_2 a_3 a_4 a_5 a_6 s s_2 s_3 s_4 s_5 out)) x.1:=by kernel_rfl
theorem qob_ (out:List Int):jfn Tryz.prog q1j_ 6 18446744073709551616 (Ev.get q1m_) 13 qv_ 127 [] (qc9_ out)=qex_ out:=by
 rw [pfn_eq (by decide)]
 rw [qoq_]
 rfl
theorem qp4_ (t43:Bool) (a a_2 a_3 a_4:Int) (a_5:List Int) (a_6:List Bool) (s s_2 s_3:Int) (s_4 s_5:Bool) (out:List Int):jfn Tryz.prog q1j_ 6 18446744073709551616 (Ev.get q1m_) 13 qv_ 508 [] (qcc_ t43 a a_2 a_3 a_4 a_5 a_6 s s_2 s_3 s_4 s_5 out)=qf0_ t43 a a_2 a_3 a_4 a_5 a_6 s s_2 s_3 s_4 s_5 out:=by
 rw [pfn_eq (by decide)]
 have e4:(fun out=>(jfn Tryz.prog q1j_ 6 18446744073709551616 (Ev.get q1m_) 13 qv_) 127 [] (qc9_ out))=qex_:=funext fun out=>qob_ out
 rw [qpa_,e4]
 rfl
theorem qos_ (a a_2 a_3 a_4:Int) (a_5:List Int) (a_6:List Bool) (s s_2 s_3:Int) (s_4 s_5:Bool) (out:List Int):jfn Tryz.prog q1j_ 6 18446744073709551616 (Ev.get q1m_) 13 qv_ 63 [] (qd4_ a a_2 a_3 a_4 a_5 a_6 s s_2 s_3 s_4 s_5 out)=qf7_ a a_2 a_3 a_4 a_5 a_6 s s_2 s_3 s_4 s_5 out:=by
 rw [pfn_eq (by decide)]
 have e3:(fun t43 a a_2 a_3 a_4 a_5 a_6 s s_2 s_3 s_4 s_5 out=>(jfn Tryz.prog q1j_ 6 18446744073709551616 (Ev.get q1m_) 13 qv_) 508 [] (qcc_ t43 a a_2 a_3 a_4 a_5 a_6 s s_2 s_3 s_4 s_5 out))=qf0_:=by funext t43 a a_2 a_3 a_4 a_5 a_6 s s_2 s_3 s_4 s_5 out; exact qp4_ t43 a a_2 a_3 a_4 a_5 a_6 s s_2 s_3 s_4 s_5 out
 rw [qor_,e3]
 rfl
theorem qoa_ (a a_2 a_3 a_4:Int) (a_5:List Int) (a_6:List Bool) (s s_2 s_3:Int) (s_4 s_5:Bool) (out:List Int):jfn Tryz.prog q1j_ 6 18446744073709551616 (Ev.get q1m_) 13 qv_ 31 [] (qcn_ a a_2 a_3 a_4 a_5 a_6 s s_2 s_3 s_4 s_5 out)=q2z_ a a_2 a_3 a_4 a_5 a_6 s s_2 s_3 s_4 s_5 out:=by
 rw [pfn_eq (by decide)]
 have e2:(fun a a_2 a_3 a_4 a_5 a_6 s s_2 s_3 s_4 s_5 out=>(jfn Tryz.prog q1j_ 6 18446744073709551616 (Ev.get q1m_) 13 qv_) 63 [] (qd4_ a a_2 a_3 a_4 a_5 a_6 s s_2 s_3 s_4 s_5 out))=qf7_:=by funext a a_2 a_3 a_4 a_5 a_6 s s_2 s_3 s_4 s_5 out; exact qos_ a a_2 a_3 a_4 a_5 a_6 s s_2 s_3 s_4 s_5 out
 rw [qod_,e2]
 rfl
theorem qpk_ (x:As [.pr (.int .u8) YTT4]):evT Tryz.prog q1j_ 6 18446744073709551616 (Ev.get q1m_) 13 qv_ x=ask_Bytes x:=by
 have e1:(fun a a_2 a_3 a_4 a_5 a_6 s s_2 s_3 s_4 s_5 out=>(jfn Tryz.prog q1j_ 6 18446744073709551616 (Ev.get q1m_) 13 qv_) 31 [] (qcn_ a a_2 a_3 a_4 a_5 a_6 s s_2 s_3 s_4 s_5 out))=q2z_:=by funext a a_2 a_3 a_4 a_5 a_6 s s_2 s_3 s_4 s_5 out; exact qoa_ a a_2 a_3 a_4 a_5 a_6 s s_2 s_3 s_4 s_5 out
 rw [rfn_eq,qox_,e1]
 rfl
theorem qf1_:CtOk Tryz.prog (fun _=>True) 13 ⟨qv_,ask_Bytes⟩:=ct_of_ev (env_cons qcp_ (env_cons qd3_ (env_cons qm2_ (env_cons qk1_ env_nil)))) qpk_
@[reducible] def bank_Fits_s:Sh:=⟨[.d YTT8],[],[.pr (.int .i64) (.sl (.int .u16))],[.d (.bool)],[],0,[.bool]⟩
def bank_Fits_e:Env:=(cts [])
def bank_Fits_h:List (Nat×Hint):=[]
def bank_Fits_m0 (x:Int×List Int):Option (As [.bool]) :=
 if le (Int.ofNat (List.length x.2)) 14=true then if ge x.1 0=true then if lt x.1 64=true then some (le (add .i64 x.1 (Int.ofNat (List.length x.2))) 64,()) else some (false,()) else some (false,()) else some (false,())
def bank_Fits (x:As [.pr (.int .i64) (.sl (.int .u16))]):Option (As [.bool]):=bank_Fits_m0 x.1
theorem bank_Fits_c0 (J:Orc (As [.bool])) (x:As [.pr (.int .i64) (.sl (.int .u16))]):rfn Tryz.prog bank_Fits_e 6 18446744073709551616 (Ev.get bank_Fits_h) 76 bank_Fits_s J x=bank_Fits_m0 x.1:=by kernel_rfl
theorem bank_Fits_t (x:As [.pr (.int .i64) (.sl (.int .u16))]):evT Tryz.prog bank_Fits_e 6 18446744073709551616 (Ev.get bank_Fits_h) 76 bank_Fits_s x=bank_Fits x:=by
 rw [rfn_eq,bank_Fits_c0]
 rfl
theorem bank_Fits_ok:CtOk Tryz.prog (fun _=>True) 76 ⟨bank_Fits_s,bank_Fits⟩:=ct_of_ev env_nil bank_Fits_t
@[reducible] def stage_itself_s:Sh:=⟨[.d YTT8],[],[.pr (.int .i64) (.sl (.int .u16))],[.d (.sl (.int .u16))],[],0,[.sl (.int .u16)]⟩
abbrev stage_itself_R:=Option (As [.sl (.int .u16)])
def stage_itself_e:Env:=(cts [(76,(⟨bank_Fits_s,bank_Fits⟩:Ct))])
def stage_itself_h:List (Nat×Hint):=[(7,⟨[],[3]⟩),(60,⟨[],[3]⟩)]
def stage_itself_k1 (l:List Int):St:={ fr:=[(3,.row 0)],nt:=28,up:=[],own:=[(0,.row (.int .u16) 23 l)],nx:=1,log:=[],ln:=0 }
def stage_itself_k2 (l:List Int):St:={ fr:=[(3,.row 0)],nt:=28,up:=[],own:=[(0,.row (.int .u16) 23 l)],nx:=1,log:=[],ln:=0 }
def stage_itself_m1 (j2:List Int->stage_itself_R) (l:List Int):stage_itself_R :=
 j2 l
def stage_itself_m2 (self2:List Int->stage_itself_R) (l:List Int):stage_itself_R :=
 if lt (Int.ofNat (List.length l)) 16=true then need (small (List.length l + 1)) (self2 (l++[0])) else some (l,())
def stage_itself_m0 (j1:List Int->stage_itself_R) (x:Int×List Int):stage_itself_R :=
 Option.bind (bank_Fits (x,())) fun y=>if y.1=true then need (small (0 + Nat.succ (Nat.succ 0))) (need (small (Nat.succ (Nat.succ 0) + List.length x.2)) (j1 (cvt .u16 x.1::cvt .u16 (Int.ofNat (List.length x.2))::x.2))) else j1 (List.replicate 0 0)
def stage_itself_K2 (l:List Int):stage_itself_R :=
 loopF (fun (self:(List Int)->stage_itself_R) (s:(List Int))=>stage_itself_m2 (fun l=>self (l)) s) 18446744073709551616 (l)
def stage_itself_K1 (l:List Int):stage_itself_R:=stage_itself_m1 (stage_itself_K2) l
def stage_itself (x:As [.pr (.int .i64) (.sl (.int .u16))]):stage_itself_R:=stage_itself_m0 stage_itself_K1 x.1
theorem stage_itself_c2 (J:Orc (As [.sl (.int .u16)])) (w2:St->stage_itself_R) (l:List Int):pfn Tryz.prog stage_itself_e 6 18446744073709551616 (Ev.get stage_itself_h) 73 stage_itself_s J 60 [w2] (stage_itself_k2 l)=stage_itself_m2 (fun l=>w2 (stage_itself_k2 l)) l:=by kernel_rfl
theorem stage_itself_c1 (J:Orc (As [.sl (.int .u16)])) (l:List Int):pfn Tryz.prog stage_itself_e 6 18446744073709551616 (Ev.get stage_itself_h) 73 stage_itself_s J 7 [] (stage_itself_k1 l)=stage_itself_m1 (fun l=>J 60 [] (stage_itself_k2 l)) l:=by kernel_rfl
theorem stage_itself_c0 (J:Orc (As [.sl (.int .u16)])) (x:As [.pr (.int .i64) (.sl (.int .u16))]):rfn Tryz.prog stage_itself_e 6 18446744073709551616 (Ev.get stage_itself_h) 73 stage_itself_s J x=stage_itself_m0 (fun l=>J 7 [] (stage_itself_k1 l)) x.1:=by kernel_rfl
theorem stage_itself_g2 (l:List Int):jfn Tryz.prog stage_itself_e 6 18446744073709551616 (Ev.get stage_itself_h) 73 stage_itself_s 60 [] (stage_itself_k2 l)=stage_itself_K2 l:=by
 rw [pfn_eq (by decide)]
 rw [pfn_loop (by kernel_rfl)]
 refine loopF_sim (σ:=(List Int)) (mk:=fun s=>stage_itself_k2 s) (fun w2 s=>?_) 18446744073709551616 (l)
 refine (stage_itself_c2 _ w2 s).trans ?_
 rfl
theorem stage_itself_g1 (l:List Int):jfn Tryz.prog stage_itself_e 6 18446744073709551616 (Ev.get stage_itself_h) 73 stage_itself_s 7 [] (stage_itself_k1 l)=stage_itself_K1 l:=by
 rw [pfn_eq (by decide)]
 have e2:(fun l=>(jfn Tryz.prog stage_itself_e 6 18446744073709551616 (Ev.get stage_itself_h) 73 stage_itself_s) 60 [] (stage_itself_k2 l))=stage_itself_K2:=funext fun l=>stage_itself_g2 l
 rw [stage_itself_c1,e2]
 rfl
theorem stage_itself_t (x:As [.pr (.int .i64) (.sl (.int .u16))]):evT Tryz.prog stage_itself_e 6 18446744073709551616 (Ev.get stage_itself_h) 73 stage_itself_s x=stage_itself x:=by
 have e1:(fun l=>(jfn Tryz.prog stage_itself_e 6 18446744073709551616 (Ev.get stage_itself_h) 73 stage_itself_s) 7 [] (stage_itself_k1 l))=stage_itself_K1:=funext fun l=>stage_itself_g1 l
 rw [rfn_eq,stage_itself_c0,e1]
 rfl
theorem stage_itself_ok:CtOk Tryz.prog (fun _=>True) 73 ⟨stage_itself_s,stage_itself⟩:=ct_of_ev (env_cons bank_Fits_ok env_nil) stage_itself_t
@[reducible] def stage_own_s:Sh:=⟨[.d YTT8],[],[.pr (.int .i64) (.sl (.int .u16))],[.d YTT8],[],0,[.pr (.int .i64) (.sl (.int .u16))]⟩
def stage_own_e:Env:=(cts [(131,(⟨q13_,slices_Clone_Guint16⟩:Ct))])
def stage_own_h:List (Nat×Hint):=[]
def stage_own_m0 (x:Int×List Int):Option (As [.pr (.int .i64) (.sl (.int .u16))]) :=
 Option.bind (slices_Clone_Guint16 (x.2,())) fun y=>some ((x.1,y.1),())
def stage_own (x:As [.pr (.int .i64) (.sl (.int .u16))]):Option (As [.pr (.int .i64) (.sl (.int .u16))]):=stage_own_m0 x.1
theorem stage_own_c0 (J:Orc (As [.pr (.int .i64) (.sl (.int .u16))])) (x:As [.pr (.int .i64) (.sl (.int .u16))]):rfn Tryz.prog stage_own_e 6 18446744073709551616 (Ev.get stage_own_h) 79 stage_own_s J x=stage_own_m0 x.1:=by kernel_rfl
theorem stage_own_t (x:As [.pr (.int .i64) (.sl (.int .u16))]):evT Tryz.prog stage_own_e 6 18446744073709551616 (Ev.get stage_own_h) 79 stage_own_s x=stage_own x:=by
 rw [rfn_eq,stage_own_c0]
 rfl
theorem stage_own_ok:CtOk Tryz.prog (fun _=>True) 79 ⟨stage_own_s,stage_own⟩:=ct_of_ev (env_cons q4e_ env_nil) stage_own_t
@[reducible] def q15_:Sh:=⟨[.d (.sl (.int .u16)),.d (.sl (.int .u16))],[],[.sl (.int .u16),.sl (.int .u16)],[.d (.bool)],[],0,[.bool]⟩
def q30_:Env:=(cts [])
def q31_:List (Nat×Hint):=[(58,⟨[],[0,1,12,13]⟩)]
def q1q_ (s1 s2:List Int) (t12 t13:Int):St:={ fr:=[(0,.d (.sl (.int .u16)) s1),(1,.d (.sl (.int .u16)) s2),(12,.d (.int .i64) t12),(13,.d (.int .i64) t13)],nt:=26,up:=[],own:=[],nx:=0,log:=[],ln:=0 }
def q1r_ (self1:List Int->List Int->Int->Int->Option (As [.bool])) (s1 s2:List Int) (t12 t13:Int):Option (As [.bool]) :=
 if lt t13 t12=true then Option.bind (at? s1 t13) fun y=>Option.bind (at? s2 t13) fun y_1=>if nei y y_1=true then some (false,()) else self1 s1 s2 t12 (add .i64 t13 1) else some (true,())
def q4b_ (j1:List Int->List Int->Int->Int->Option (As [.bool])) (s1 s2:List Int):Option (As [.bool]) :=
 if nei (Int.ofNat (List.length s1)) (Int.ofNat (List.length s2))=true then some (false,()) else j1 s1 s2 (Int.ofNat (List.length s1)) 0
def q2o_ (s1 s2:List Int) (t12 t13:Int):Option (As [.bool]) :=
 loopF (fun (self:(List Int)×(List Int)×(Int)×(Int)->Option (As [.bool])) (s:(List Int)×(List Int)×(Int)×(Int))=>q1r_ (fun s1 s2 t12 t13=>self (s1,s2,t12,t13)) s.1 s.2.1 s.2.2.1 s.2.2.2) 18446744073709551616 (s1,s2,t12,t13)
def slices_Equal_Guint16 (x:As [.sl (.int .u16),.sl (.int .u16)]):Option (As [.bool]):=q4b_ q2o_ x.1 x.2.1
theorem qfm_ (J:Orc (As [.bool])) (w1:St->Option (As [.bool])) (s1 s2:List Int) (t12 t13:Int):pfn Tryz.prog q30_ 6 18446744073709551616 (Ev.get q31_) 80 q15_ J 58 [w1] (q1q_ s1 s2 t12 t13)=q1r_ (fun s1 s2 t12 t13=>w1 (q1q_ s1 s2 t12 t13)) s1 s2 t12 t13:=by kernel_rfl
theorem qfh_ (J:Orc (As [.bool])) (x:As [.sl (.int .u16),.sl (.int .u16)]):rfn Tryz.prog q30_ 6 18446744073709551616 (Ev.get q31_) 80 q15_ J x=q4b_ (fun s1 s2 t12 t13=>J 58 [] (q1q_ s1 s2 t12 t13)) x.1 x.2.1:=by kernel_rfl
theorem qfi_ (s1 s2:List Int) (t12 t13:Int):jfn Tryz.prog q30_ 6 18446744073709551616 (Ev.get q31_) 80 q15_ 58 [] (q1q_ s1 s2 t12 t13)=q2o_ s1 s2 t12 t13:=by
 rw [pfn_eq (by decide)]
 rw [pfn_loop (by kernel_rfl)]
 refine loopF_sim (σ:=(List Int)×(List Int)×(Int)×(Int)) (mk:=fun s=>q1q_ s.1 s.2.1 s.2.2.1 s.2.2.2) (fun w1 s=>?_) 18446744073709551616 (s1,s2,t12,t13)
 refine (qfm_ _ w1 s.1 s.2.1 s.2.2.1 s.2.2.2).trans ?_
 rfl
theorem qfy_ (x:As [.sl (.int .u16),.sl (.int .u16)]):evT Tryz.prog q30_ 6 18446744073709551616 (Ev.get q31_) 80 q15_ x=slices_Equal_Guint16 x:=by
 have e1:(fun s1 s2 t12 t13=>(jfn Tryz.prog q30_ 6 18446744073709551616 (Ev.get q31_) 80 q15_) 58 [] (q1q_ s1 s2 t12 t13))=q2o_:=by funext s1 s2 t12 t13; exact qfi_ s1 s2 t12 t13
 rw [rfn_eq,qfh_,e1]
 rfl
theorem qa6_:CtOk Tryz.prog (fun _=>True) 80 ⟨q15_,slices_Equal_Guint16⟩:=ct_of_ev env_nil qfy_
@[reducible] def q9e_:Sh:=⟨[.d (.int .u16),.d (.int .u16)],[],[.int .u16,.int .u16],[.d (.int .u32)],[],0,[.int .u32]⟩
def qji_:Env:=(cts [])
def qjp_:List (Nat×Hint):=[]
def qb0_ (high low:Int):Option (As [.int .u32]) :=
 some (Sx.bor .u32 (Sx.shl .u32 (cvt .u32 high) 16) (cvt .u32 low),())
def words_Wide (x:As [.int .u16,.int .u16]):Option (As [.int .u32]):=qb0_ x.1 x.2.1
theorem qmr_ (J:Orc (As [.int .u32])) (x:As [.int .u16,.int .u16]):rfn Tryz.prog qji_ 6 18446744073709551616 (Ev.get qjp_) 81 q9e_ J x=qb0_ x.1 x.2.1:=by kernel_rfl
theorem qom_ (x:As [.int .u16,.int .u16]):evT Tryz.prog qji_ 6 18446744073709551616 (Ev.get qjp_) 81 q9e_ x=words_Wide x:=by
 rw [rfn_eq,qmr_]
 rfl
theorem qi8_:CtOk Tryz.prog (fun _=>True) 81 ⟨q9e_,words_Wide⟩:=ct_of_ev env_nil qom_
@[reducible] def stage_Read_s:Sh:=⟨[.d (.sl (.int .u16))],[],[.sl (.int .u16)],[.d (.int .u16),.d (.int .u32),.d (.int .i64),.d YTT8,.d (.int .i64)],[],0,[.int .u16,.int .u32,.int .i64,.pr (.int .i64) (.sl (.int .u16)),.int .i64]⟩
abbrev stage_Read_R:=Option (As [.int .u16,.int .u32,.int .i64,.pr (.int .i64) (.sl (.int .u16)),.int .i64])
def stage_Read_e:Env:=(cts [(73,(⟨stage_itself_s,stage_itself⟩:Ct)),(76,(⟨bank_Fits_s,bank_Fits⟩:Ct)),(79,(⟨stage_own_s,stage_own⟩:Ct)),(80,(⟨q15_,slices_Equal_Guint16⟩:Ct)),(81,(⟨q9e_,words_Wide⟩:Ct))])
def stage_Read_h:List (Nat×Hint):=[(126,⟨[],[0,5,10,53]⟩),(6,⟨[],[0,5,19,47,48,49,50,51,52]⟩)]
def stage_Read_k1 (w:List Int) (t19:Bool) (t5:Int):St:={ fr:=[(0,.d (.sl (.int .u16)) w),(5,.pb 0 0),(19,.d .bool t19)],nt:=70,up:=[],own:=[(0,.box 30 [.d (.int .i64) t5,.k (Go.Value.slice Option.none 0 0)])],nx:=1,log:=[],ln:=0 }
def stage_Read_k2 (w:List Int) (t53:Bool) (t5:Int) (x:Int×List Int):St:={ fr:=[(0,.d (.sl (.int .u16)) w),(5,.pb 0 0),(10,.pb 1 0),(53,.d .bool t53)],nt:=70,up:=[],own:=[(0,.box 30 [.d (.int .i64) t5,.k (Go.Value.slice Option.none 0 0)]),(1,.box 30 [.d (.int .i64) x.1,.d (.sl (.int .u16)) x.2])],nx:=2,log:=[],ln:=0 }
def stage_Read_m1 (j2:List Int->Bool->Int->Int×List Int->stage_Read_R) (w:List Int) (t19:Bool) (t5:Int):stage_Read_R :=
 if t19=true then some (0,0,0,(0,[]),2,()) else Option.bind (at? w 4) fun y=>Option.bind (at? w 5) fun y_1=>Option.bind (cut w 6 (Int.ofNat (List.length w))) fun y_2=>if gt (cvt .i64 y_1) (Int.ofNat (List.length y_2))=true then some (0,0,0,(0,[]),20,()) else Option.bind (cut y_2 0 (cvt .i64 y_1)) fun y_3=>need (le (cvt .i64 y_1) (cvt .i64 y_1)) (need (le (cvt .i64 y_1) (Int.ofNat (List.length y_2))) (Option.bind (stage_own ((cvt .i64 y,y_3),())) fun y=>Option.bind (bank_Fits (y.1,())) fun y_4=>if (!y_4.1)=true then j2 w true t5 y.1 else Option.bind (cut w 4 (Int.ofNat (List.length w))) fun y_5=>Option.bind (stage_itself (y.1,())) fun y_6=>Option.bind (slices_Equal_Guint16 (y_6.1,y_5,())) fun y_7=>j2 w (!y_7.1) t5 y.1))
def stage_Read_m2 (w:List Int) (t53:Bool) (t5:Int) (x:Int×List Int):stage_Read_R :=
 if t53=true then some (0,0,0,(0,[]),20,()) else Option.bind (at? w 0) fun y=>Option.bind (at? w 1) fun y_1=>Option.bind (at? w 2) fun y_2=>Option.bind (at? w 3) fun y_3=>Option.bind (words_Wide (y_1,y_2,())) fun y_4=>some (y,y_4.1,cvt .i64 y_3,x,0,())
def stage_Read_m0 (j1:List Int->Bool->Int->stage_Read_R) (w:List Int):stage_Read_R :=
 if nei (Int.ofNat (List.length w)) 20=true then j1 w true 0 else Option.bind (at? w 3) fun y=>j1 w (ge y 8) 0
def stage_Read_K2 (w:List Int) (t53:Bool) (t5:Int) (x:Int×List Int):stage_Read_R:=stage_Read_m2 w t53 t5 x
def stage_Read_K1 (w:List Int) (t19:Bool) (t5:Int):stage_Read_R:=stage_Read_m1 (stage_Read_K2) w t19 t5
def stage_Read (x:As [.sl (.int .u16)]):stage_Read_R:=stage_Read_m0 stage_Read_K1 x.1
theorem stage_Read_c2 (J:Orc (As [.int .u16,.int .u32,.int .i64,.pr (.int .i64) (.sl (.int .u16)),.int .i64])) (w:List Int) (t53:Bool) (t5:Int) (x:Int×List Int):pfn Tryz.prog stage_Read_e 6 18446744073709551616 (Ev.get stage_Read_h) 24 stage_Read_s J 126 [] (stage_Read_k2 w t53 t5 x)=stage_Read_m2 w t53 t5 x:=by kernel_rfl
theorem stage_Read_c1 (J:Orc (As [.int .u16,.int .u32,.int .i64,.pr (.int .i64) (.sl (.int .u16)),.int .i64])) (w:List Int) (t19:Bool) (t5:Int):pfn Tryz.prog stage_Read_e 6 18446744073709551616 (Ev.get stage_Read_h) 24 stage_Read_s J 6 [] (stage_Read_k1 w t19 t5)=stage_Read_m1 (fun w t53 t5 x=>J 126 [] (stage_Read_k2 w t53 t5 x)) w t19 t5:=by kernel_rfl
theorem stage_Read_c0 (J:Orc (As [.int .u16,.int .u32,.int .i64,.pr (.int .i64) (.sl (.int .u16)),.int .i64])) (x:As [.sl (.int .u16)]):rfn Tryz.prog stage_Read_e 6 18446744073709551616 (Ev.get stage_Read_h) 24 stage_Read_s J x=stage_Read_m0 (fun w t19 t5=>J 6 [] (stage_Read_k1 w t19 t5)) x.1:=by kernel_rfl
theorem stage_Read_g2 (w:List Int) (t53:Bool) (t5:Int) (x:Int×List Int):jfn Tryz.prog stage_Read_e 6 18446744073709551616 (Ev.get stage_Read_h) 24 stage_Read_s 126 [] (stage_Read_k2 w t53 t5 x)=stage_Read_K2 w t53 t5 x:=by
 rw [pfn_eq (by decide)]
 rw [stage_Read_c2]
 rfl
theorem stage_Read_g1 (w:List Int) (t19:Bool) (t5:Int):jfn Tryz.prog stage_Read_e 6 18446744073709551616 (Ev.get stage_Read_h) 24 stage_Read_s 6 [] (stage_Read_k1 w t19 t5)=stage_Read_K1 w t19 t5:=by
 rw [pfn_eq (by decide)]
 have e2:(fun w t53 t5 x=>(jfn Tryz.prog stage_Read_e 6 18446744073709551616 (Ev.get stage_Read_h) 24 stage_Read_s) 126 [] (stage_Read_k2 w t53 t5 x))=stage_Read_K2:=by funext w t53 t5 x; exact stage_Read_g2 w t53 t5 x
 rw [stage_Read_c1,e2]
 rfl
theorem stage_Read_t (x:As [.sl (.int .u16)]):evT Tryz.prog stage_Read_e 6 18446744073709551616 (Ev.get stage_Read_h) 24 stage_Read_s x=stage_Read x:=by
 have e1:(fun w t19 t5=>(jfn Tryz.prog stage_Read_e 6 18446744073709551616 (Ev.get stage_Read_h) 24 stage_Read_s) 6 [] (stage_Read_k1 w t19 t5))=stage_Read_K1:=by funext w t19 t5; exact stage_Read_g1 w t19 t5
 rw [rfn_eq,stage_Read_c0,e1]
 rfl
theorem stage_Read_ok:CtOk Tryz.prog (fun _=>True) 24 ⟨stage_Read_s,stage_Read⟩:=ct_of_ev (env_cons stage_itself_ok (env_cons bank_Fits_ok (env_cons stage_own_ok (env_cons qa6_ (env_cons qi8_ env_nil))))) stage_Read_t
@[reducible] def slave_Space_s:Sh:=⟨[],[],[],[.d (.pr YTT1 (.pr YTT1 (.pr YTT1 YTT1)))],[],0,[.pr YTT1 (.pr YTT1 (.pr YTT1 YTT1))]⟩
abbrev slave_Space_R:=Option (As [.pr YTT1 (.pr YTT1 (.pr YTT1 YTT1))])
def slave_Space_e:Env:=(cts [])
def slave_Space_h:List (Nat×Hint):=[(7,⟨[],[0,1]⟩),(58,⟨[],[0,1,8]⟩)]
def slave_Space_k1 (t8:Int) (words:List YTT5):St:={ fr:=[(0,.pb 0 0),(1,.row 1),(8,.d (.int .i64) t8)],nt:=27,up:=[],own:=[(0,.box 101 [.k (Go.Value.slice Option.none 0 0),.k (Go.Value.slice Option.none 0 0),.k (Go.Value.slice Option.none 0 0),.k (Go.Value.slice Option.none 0 0)]),(1,.row (.pr (.int .i64) YTT12) 168 words)],nx:=2,log:=[],ln:=0 }
def slave_Space_k2 (words:List YTT5):St:={ fr:=[(0,.pb 0 0),(1,.row 1)],nt:=27,up:=[],own:=[(0,.box 101 [.k (Go.Value.slice Option.none 0 0),.k (Go.Value.slice Option.none 0 0),.k (Go.Value.slice Option.none 0 0),.k (Go.Value.slice Option.none 0 0)]),(1,.row (.pr (.int .i64) YTT12) 168 words)],nx:=2,log:=[],ln:=0 }
def slave_Space_m1 (j2:List YTT5->slave_Space_R) (self1:Int->List YTT5->slave_Space_R) (t8:Int) (words:List YTT5):slave_Space_R :=
 if lt t8 8=true then need (small (List.length words + Nat.succ 0)) (self1 (add .i64 t8 1) (words++[(add .i64 512 (mul .i64 t8 32),20,true,false,false)])) else j2 words
def slave_Space_m2 (words:List YTT5):slave_Space_R :=
 some (([(0,16,true,true,false)],[(0,8,true,false,false)],words,[(0,8,true,false,false)]),())
def slave_Space_m0 (j1:Int->List YTT5->slave_Space_R):slave_Space_R :=
 j1 0 [(0,64,true,false,false),(256,8,true,false,false),(272,8,false,true,true),(288,20,false,true,true)]
def slave_Space_K2 (words:List YTT5):slave_Space_R:=slave_Space_m2 words
def slave_Space_K1 (t8:Int) (words:List YTT5):slave_Space_R :=
 loopF (fun (self:(Int)×(List YTT5)->slave_Space_R) (s:(Int)×(List YTT5))=>slave_Space_m1 (slave_Space_K2) (fun t8 words=>self (t8,words)) s.1 s.2) 18446744073709551616 (t8,words)
def slave_Space (x:As []):slave_Space_R:=slave_Space_m0 slave_Space_K1
theorem slave_Space_c2 (J:Orc (As [.pr YTT1 (.pr YTT1 (.pr YTT1 YTT1))])) (words:List YTT5):pfn Tryz.prog slave_Space_e 6 18446744073709551616 (Ev.get slave_Space_h) 49 slave_Space_s J 7 [] (slave_Space_k2 words)=slave_Space_m2 words:=by kernel_rfl
theorem slave_Space_c1 (J:Orc (As [.pr YTT1 (.pr YTT1 (.pr YTT1 YTT1))])) (w1:St->slave_Space_R) (t8:Int) (words:List YTT5):pfn Tryz.prog slave_Space_e 6 18446744073709551616 (Ev.get slave_Space_h) 49 slave_Space_s J 58 [w1] (slave_Space_k1 t8 words)=slave_Space_m1 (fun words=>J 7 [] (slave_Space_k2 words)) (fun t8 words=>w1 (slave_Space_k1 t8 words)) t8 words:=by kernel_rfl
theorem slave_Space_c0 (J:Orc (As [.pr YTT1 (.pr YTT1 (.pr YTT1 YTT1))])) (x:As []):rfn Tryz.prog slave_Space_e 6 18446744073709551616 (Ev.get slave_Space_h) 49 slave_Space_s J x=slave_Space_m0 (fun t8 words=>J 58 [] (slave_Space_k1 t8 words)):=by kernel_rfl
theorem slave_Space_g2 (words:List YTT5):jfn Tryz.prog slave_Space_e 6 18446744073709551616 (Ev.get slave_Space_h) 49 slave_Space_s 7 [] (slave_Space_k2 words)=slave_Space_K2 words:=by
 rw [pfn_eq (by decide)]
 rw [slave_Space_c2]
 rfl
theorem slave_Space_g1 (t8:Int) (words:List YTT5):jfn Tryz.prog slave_Space_e 6 18446744073709551616 (Ev.get slave_Space_h) 49 slave_Space_s 58 [] (slave_Space_k1 t8 words)=slave_Space_K1 t8 words:=by
 rw [pfn_eq (by decide)]
 rw [pfn_loop (by kernel_rfl)]
 refine loopF_sim (σ:=(Int)×(List YTT5)) (mk:=fun s=>slave_Space_k1 s.1 s.2) (fun w1 s=>?_) 18446744073709551616 (t8,words)
 have e2:(fun words=>(jfn Tryz.prog slave_Space_e 6 18446744073709551616 (Ev.get slave_Space_h) 49 slave_Space_s) 7 [] (slave_Space_k2 words))=slave_Space_K2:=funext fun words=>slave_Space_g2 words
 refine (slave_Space_c1 _ w1 s.1 s.2).trans ?_
 rw [e2]
theorem slave_Space_t (x:As []):evT Tryz.prog slave_Space_e 6 18446744073709551616 (Ev.get slave_Space_h) 49 slave_Space_s x=slave_Space x:=by
 have e1:(fun t8 words=>(jfn Tryz.prog slave_Space_e 6 18446744073709551616 (Ev.get slave_Space_h) 49 slave_Space_s) 58 [] (slave_Space_k1 t8 words))=slave_Space_K1:=by funext t8 words; exact slave_Space_g1 t8 words
 rw [rfn_eq,slave_Space_c0,e1]
 rfl
theorem slave_Space_ok:CtOk Tryz.prog (fun _=>True) 49 ⟨slave_Space_s,slave_Space⟩:=ct_of_ev env_nil slave_Space_t
@[reducible] def q8o_:Sh:=⟨[.d (.sl (.int .u8)),.d (.sl (.int .u8))],[],[.sl (.int .u8),.sl (.int .u8)],[.d (.bool)],[],0,[.bool]⟩
def qig_:Env:=(cts [])
def qhx_:List (Nat×Hint):=[]
def qha_ (a b:List Int):Option (As [.bool]) :=
 some (eqs (Sx.toS a) (Sx.toS b),())
def bytes_Equal (x:As [.sl (.int .u8),.sl (.int .u8)]):Option (As [.bool]):=qha_ x.1 x.2.1
theorem qll_ (J:Orc (As [.bool])) (x:As [.sl (.int .u8),.sl (.int .u8)]):rfn Tryz.prog qig_ 6 18446744073709551616 (Ev.get qhx_) 66 q8o_ J x=qha_ x.1 x.2.1:=by kernel_rfl
theorem qnh_ (x:As [.sl (.int .u8),.sl (.int .u8)]):evT Tryz.prog qig_ 6 18446744073709551616 (Ev.get qhx_) 66 q8o_ x=bytes_Equal x:=by
 rw [rfn_eq,qll_]
 rfl
theorem qgo_:CtOk Tryz.prog (fun _=>True) 66 ⟨q8o_,bytes_Equal⟩:=ct_of_ev env_nil qnh_
@[reducible] def q6z_:Sh:=⟨[.d (.sl (.int .u8))],[],[.sl (.int .u8)],[.d (.sl (.int .u16))],[],0,[.sl (.int .u16)]⟩
def qc6_:Env:=(cts [])
def qc7_:List (Nat×Hint):=[(58,⟨[],[0,3,10,11]⟩)]
def q8t_ (b:List Int) (t10 t11:Int) (l:List Int):St:={ fr:=[(0,.d (.sl (.int .u8)) b),(3,.row 0),(10,.d (.int .i64) t10),(11,.d (.int .i64) t11)],nt:=34,up:=[],own:=[(0,.row (.int .u16) 23 l)],nx:=1,log:=[],ln:=0 }
def q8u_ (self1:List Int->Int->Int->List Int->Option (As [.sl (.int .u16)])) (b:List Int) (t10 t11:Int) (l:List Int):Option (As [.sl (.int .u16)]) :=
 if lt t11 t10=true then Option.bind (at? b (mul .i64 2 t11)) fun y=>Option.bind (at? b (add .i64 (mul .i64 2 t11) 1)) fun y_1=>Option.bind (at? l t11) fun x=>Option.bind (at? l t11) fun x=>self1 b t10 (add .i64 t11 1) (List.set l (Int.toNat t11) (Sx.bor .u16 (Sx.shl .u16 (cvt .u16 y) 8) (cvt .u16 y_1))) else some (l,())
def qdo_ (j1:List Int->Int->Int->List Int->Option (As [.sl (.int .u16)])) (b:List Int):Option (As [.sl (.int .u16)]) :=
 need (ge (quo .i64 (Int.ofNat (List.length b)) 2) 0) (need (Ev.capOk (quo .i64 (Int.ofNat (List.length b)) 2) (quo .i64 (Int.ofNat (List.length b)) 2)) (need (small (Int.toNat (quo .i64 (Int.ofNat (List.length b)) 2))) (j1 b (Int.ofNat (List.length (List.replicate (α:=Int) (Int.toNat (quo .i64 (Int.ofNat (List.length b)) 2)) 0))) 0 (List.replicate (Int.toNat (quo .i64 (Int.ofNat (List.length b)) 2)) 0))))
def qac_ (b:List Int) (t10 t11:Int) (l:List Int):Option (As [.sl (.int .u16)]) :=
 loopF (fun (self:(List Int)×(Int)×(Int)×(List Int)->Option (As [.sl (.int .u16)])) (s:(List Int)×(Int)×(Int)×(List Int))=>q8u_ (fun b t10 t11 l=>self (b,t10,t11,l)) s.1 s.2.1 s.2.2.1 s.2.2.2) 18446744073709551616 (b,t10,t11,l)
def ask_list (x:As [.sl (.int .u8)]):Option (As [.sl (.int .u16)]):=qdo_ qac_ x.1
theorem qpy_ (J:Orc (As [.sl (.int .u16)])) (w1:St->Option (As [.sl (.int .u16)])) (b:List Int) (t10 t11:Int) (l:List Int):pfn Tryz.prog qc6_ 6 18446744073709551616 (Ev.get qc7_) 201 q6z_ J 58 [w1] (q8t_ b t10 t11 l)=q8u_ (fun b t10 t11 l=>w1 (q8t_ b t10 t11 l)) b t10 t11 l:=by kernel_rfl
theorem qq4_ (J:Orc (As [.sl (.int .u16)])) (x:As [.sl (.int .u8)]):rfn Tryz.prog qc6_ 6 18446744073709551616 (Ev.get qc7_) 201 q6z_ J x=qdo_ (fun b t10 t11 l=>J 58 [] (q8t_ b t10 t11 l)) x.1:=by kernel_rfl
theorem qq0_ (b:List Int) (t10 t11:Int) (l:List Int):jfn Tryz.prog qc6_ 6 18446744073709551616 (Ev.get qc7_) 201 q6z_ 58 [] (q8t_ b t10 t11 l)=qac_ b t10 t11 l:=by
 rw [pfn_eq (by decide)]
 rw [pfn_loop (by kernel_rfl)]
 refine loopF_sim (σ:=(List Int)×(Int)×(Int)×(List Int)) (mk:=fun s=>q8t_ s.1 s.2.1 s.2.2.1 s.2.2.2) (fun w1 s=>?_) 18446744073709551616 (b,t10,t11,l)
 refine (qpy_ _ w1 s.1 s.2.1 s.2.2.1 s.2.2.2).trans ?_
 rfl
theorem qq9_ (x:As [.sl (.int .u8)]):evT Tryz.prog qc6_ 6 18446744073709551616 (Ev.get qc7_) 201 q6z_ x=ask_list x:=by
 have e1:(fun b t10 t11 l=>(jfn Tryz.prog qc6_ 6 18446744073709551616 (Ev.get qc7_) 201 q6z_) 58 [] (q8t_ b t10 t11 l))=qac_:=by funext b t10 t11 l; exact qq0_ b t10 t11 l
 rw [rfn_eq,qq4_,e1]
 rfl
theorem qk3_:CtOk Tryz.prog (fun _=>True) 201 ⟨q6z_,ask_list⟩:=ct_of_ev env_nil qq9_
@[reducible] def q4v_:Sh:=⟨[.d (.sl (.int .u8))],[],[.sl (.int .u8)],[.d (.sl .bool)],[],0,[.sl .bool]⟩
def q9g_:Env:=(cts [])
def q9c_:List (Nat×Hint):=[(58,⟨[],[0,3,10,11]⟩)]
def q6q_ (b:List Int) (t10 t11:Int) (out:List Bool):St:={ fr:=[(0,.d (.sl (.int .u8)) b),(3,.row 0),(10,.d (.int .i64) t10),(11,.d (.int .i64) t11)],nt:=29,up:=[],own:=[(0,.row .bool 4 out)],nx:=1,log:=[],ln:=0 }
def q6v_ (self1:List Int->Int->Int->List Bool->Option (As [.sl .bool])) (b:List Int) (t10 t11:Int) (out:List Bool):Option (As [.sl .bool]) :=
 if lt t11 t10=true then Option.bind (at? b (quo .i64 t11 8)) fun y=>need (ge (rem t11 8) 0) (Option.bind (at? out t11) fun x=>Option.bind (at? out t11) fun x=>self1 b t10 (add .i64 t11 1) (List.set out (Int.toNat t11) (eqi (Sx.band .u8 (Sx.shr .u8 y (rem t11 8)) 1) 1))) else some (out,())
def qax_ (j1:List Int->Int->Int->List Bool->Option (As [.sl .bool])) (b:List Int):Option (As [.sl .bool]) :=
 need (ge (mul .i64 8 (Int.ofNat (List.length b))) 0) (need (Ev.capOk (mul .i64 8 (Int.ofNat (List.length b))) (mul .i64 8 (Int.ofNat (List.length b)))) (need (small (Int.toNat (mul .i64 8 (Int.ofNat (List.length b))))) (j1 b (Int.ofNat (List.length (List.replicate (Int.toNat (mul .i64 8 (Int.ofNat (List.length b)))) false))) 0 (List.replicate (Int.toNat (mul .i64 8 (Int.ofNat (List.length b)))) false))))
def q8i_ (b:List Int) (t10 t11:Int) (out:List Bool):Option (As [.sl .bool]) :=
 loopF (fun (self:(List Int)×(Int)×(Int)×(List Bool)->Option (As [.sl .bool])) (s:(List Int)×(Int)×(Int)×(List Bool))=>q6v_ (fun b t10 t11 out=>self (b,t10,t11,out)) s.1 s.2.1 s.2.2.1 s.2.2.2) 18446744073709551616 (b,t10,t11,out)
def ask_Unpack (x:As [.sl (.int .u8)]):Option (As [.sl .bool]):=qax_ q8i_ x.1
theorem qmp_ (J:Orc (As [.sl .bool])) (w1:St->Option (As [.sl .bool])) (b:List Int) (t10 t11:Int) (out:List Bool):pfn Tryz.prog q9g_ 6 18446744073709551616 (Ev.get q9c_) 212 q4v_ J 58 [w1] (q6q_ b t10 t11 out)=q6v_ (fun b t10 t11 out=>w1 (q6q_ b t10 t11 out)) b t10 t11 out:=by kernel_rfl
theorem qn4_ (J:Orc (As [.sl .bool])) (x:As [.sl (.int .u8)]):rfn Tryz.prog q9g_ 6 18446744073709551616 (Ev.get q9c_) 212 q4v_ J x=qax_ (fun b t10 t11 out=>J 58 [] (q6q_ b t10 t11 out)) x.1:=by kernel_rfl
theorem qne_ (b:List Int) (t10 t11:Int) (out:List Bool):jfn Tryz.prog q9g_ 6 18446744073709551616 (Ev.get q9c_) 212 q4v_ 58 [] (q6q_ b t10 t11 out)=q8i_ b t10 t11 out:=by
 rw [pfn_eq (by decide)]
 rw [pfn_loop (by kernel_rfl)]
 refine loopF_sim (σ:=(List Int)×(Int)×(Int)×(List Bool)) (mk:=fun s=>q6q_ s.1 s.2.1 s.2.2.1 s.2.2.2) (fun w1 s=>?_) 18446744073709551616 (b,t10,t11,out)
 refine (qmp_ _ w1 s.1 s.2.1 s.2.2.1 s.2.2.2).trans ?_
 rfl
theorem qok_ (x:As [.sl (.int .u8)]):evT Tryz.prog q9g_ 6 18446744073709551616 (Ev.get q9c_) 212 q4v_ x=ask_Unpack x:=by
 have e1:(fun b t10 t11 out=>(jfn Tryz.prog q9g_ 6 18446744073709551616 (Ev.get q9c_) 212 q4v_) 58 [] (q6q_ b t10 t11 out))=q8i_:=by funext b t10 t11 out; exact qne_ b t10 t11 out
 rw [rfn_eq,qn4_,e1]
 rfl
theorem qi3_:CtOk Tryz.prog (fun _=>True) 212 ⟨q4v_,ask_Unpack⟩:=ct_of_ev env_nil qok_
@[reducible] def q58_:Sh:=⟨[.d (.pr (.int .u8) YTT4),.d (.pr (.int .i64) YTT15),.d (.sl (.int .u8))],[],[.pr (.int .u8) YTT4,.pr (.int .i64) YTT15,.sl (.int .u8)],[.d (.pr (.int .u8) YTT4),.d (.bool)],[],0,[.pr (.int .u8) YTT4,.bool]⟩
def q8j_:Env:=(cts [(201,(⟨q6z_,ask_list⟩:Ct)),(212,(⟨q4v_,ask_Unpack⟩:Ct))])
def q8m_:List (Nat×Hint):=[(15,⟨[.frb 3,.frb 6],[3,6]⟩)]
def q9v_ (a a_2 a_3 a_4:Int) (a_5:List Int) (a_6:List Bool) (t6 t6_2 t6_3 t6_4:Int) (t6_5:List Int) (t6_6:List Bool):St:={ fr:=[(3,.pb 0 0),(6,.pb 1 0)],nt:=63,up:=[],own:=[(0,.box 44 [.d (.int .u8) a,.d (.int .u16) a_2,.d (.int .u16) a_3,.d (.int .u16) a_4,.d (.sl (.int .u16)) a_5,.d (.sl .bool) a_6]),(1,.box 44 [.d (.int .u8) t6,.d (.int .u16) t6_2,.d (.int .u16) t6_3,.d (.int .u16) t6_4,.d (.sl (.int .u16)) t6_5,.d (.sl .bool) t6_6])],nx:=2,log:=[],ln:=0 }
def qh5_ (a a_2 a_3 a_4:Int) (a_5:List Int) (a_6:List Bool) (t6 t6_2 t6_3 t6_4:Int) (t6_5:List Int) (t6_6:List Bool):Option (As [.pr (.int .u8) YTT4,.bool]) :=
 some ((a,a_2,a_3,a_4,a_5,a_6),true,())
def q9l_ (j1:Int->Int->Int->Int->List Int->List Bool->Int->Int->Int->Int->List Int->List Bool->Option (As [.pr (.int .u8) YTT4,.bool])) (a:Int×Int×Int×Int×List Int×List Bool) (s:Int×Int×Int×Bool×Bool) (rest:List Int):Option (As [.pr (.int .u8) YTT4,.bool]) :=
 if eqi (add .i64 s.2.1 s.2.2.1) 0=true then some (a,true,()) else if lt (Int.ofNat (List.length rest)) 2=true then some ((0,0,0,0,[],[]),false,()) else if eqi a.1 5=true then Option.bind (at? rest 0) fun y=>j1 a.1 a.2.1 a.2.2.1 a.2.2.2.1 a.2.2.2.2.1 [nei y 0] 0 0 0 0 [] [] else if eqi a.1 6=true then Option.bind (ask_list (rest,())) fun y=>j1 a.1 a.2.1 a.2.2.1 a.2.2.2.1 y.1 a.2.2.2.2.2 0 0 0 0 [] [] else if gt s.2.1 0=true then Option.bind (cut rest 1 (Int.ofNat (List.length rest))) fun y=>Option.bind (ask_Unpack (y,())) fun y=>if lt (Int.ofNat (List.length y.1)) (cvt .i64 a.2.2.1)=true then some ((0,0,0,0,[],[]),false,()) else Option.bind (cut y.1 0 a.2.2.1) fun y_1=>need (le a.2.2.1 a.2.2.1) (need (le a.2.2.1 (Int.ofNat (List.length y.1))) (j1 a.1 a.2.1 a.2.2.1 a.2.2.2.1 a.2.2.2.2.1 y_1 0 0 0 0 [] [])) else Option.bind (cut rest 1 (Int.ofNat (List.length rest))) fun y=>Option.bind (ask_list (y,())) fun y=>j1 a.1 a.2.1 a.2.2.1 a.2.2.2.1 y.1 a.2.2.2.2.2 0 0 0 0 [] []
def q9q_ (a a_2 a_3 a_4:Int) (a_5:List Int) (a_6:List Bool) (t6 t6_2 t6_3 t6_4:Int) (t6_5:List Int) (t6_6:List Bool):Option (As [.pr (.int .u8) YTT4,.bool]):=qh5_ a a_2 a_3 a_4 a_5 a_6 t6 t6_2 t6_3 t6_4 t6_5 t6_6
def ask_written (x:As [.pr (.int .u8) YTT4,.pr (.int .i64) YTT15,.sl (.int .u8)]):Option (As [.pr (.int .u8) YTT4,.bool]):=q9l_ q9q_ x.1 x.2.1 x.2.2.1
theorem qmg_ (J:Orc (As [.pr (.int .u8) YTT4,.bool])) (a a_2 a_3 a_4:Int) (a_5:List Int) (a_6:List Bool) (t6 t6_2 t6_3 t6_4:Int) (t6_5:List Int) (t6_6:List Bool):pfn Tryz.prog q8j_ 6 18446744073709551616 (Ev.get q8m_) 202 q58_ J 15 [] (q9v_ a a_2 a_3 a_4 a_5 a_6 t6 t6_2 t6_3 t6_4 t6_5 t6_6)=qh5_ a a_2 a_3 a_4 a_5 a_6 t6 t6_2 t6_3 t6_4 t6_5 t6_6:=by kernel_rfl
theorem qm1_ (J:Orc (As [.pr (.int .u8) YTT4,.bool])) (x:As [.pr (.int .u8) YTT4,.pr (.int .i64) YTT15,.sl (.int .u8)]):rfn Tryz.prog q8j_ 6 18446744073709551616 (Ev.get q8m_) 202 q58_ J x=q9l_ (fun a a_2 a_3 a_4 a_5 a_6 t6 t6_2 t6_3 t6_4 t6_5 t6_6=>J 15 [] (q9v_ a a_2 a_3 a_4 a_5 a_6 t6 t6_2 t6_3 t6_4 t6_5 t6_6)) x.1 x.2.1 x.2.2.1:=by kernel_rfl
theorem qlu_ (a a_2 a_3 a_4:Int) (a_5:List Int) (a_6:List Bool) (t6 t6_2 t6_3 t6_4:Int) (t6_5:List Int) (t6_6:List Bool):jfn Tryz.prog q8j_ 6 18446744073709551616 (Ev.get q8m_) 202 q58_ 15 [] (q9v_ a a_2 a_3 a_4 a_5 a_6 t6 t6_2 t6_3 t6_4 t6_5 t6_6)=q9q_ a a_2 a_3 a_4 a_5 a_6 t6 t6_2 t6_3 t6_4 t6_5 t6_6:=by
 rw [pfn_eq (by decide)]
 rw [qmg_]
 rfl
theorem qn6_ (x:As [.pr (.int .u8) YTT4,.pr (.int .i64) YTT15,.sl (.int .u8)]):evT Tryz.prog q8j_ 6 18446744073709551616 (Ev.get q8m_) 202 q58_ x=ask_written x:=by
 have e1:(fun a a_2 a_3 a_4 a_5 a_6 t6 t6_2 t6_3 t6_4 t6_5 t6_6=>(jfn Tryz.prog q8j_ 6 18446744073709551616 (Ev.get q8m_) 202 q58_) 15 [] (q9v_ a a_2 a_3 a_4 a_5 a_6 t6 t6_2 t6_3 t6_4 t6_5 t6_6))=q9q_:=by funext a a_2 a_3 a_4 a_5 a_6 t6 t6_2 t6_3 t6_4 t6_5 t6_6; exact qlu_ a a_2 a_3 a_4 a_5 a_6 t6 t6_2 t6_3 t6_4 t6_5 t6_6
 rw [rfn_eq,qm1_,e1]
 rfl
theorem qlk_:CtOk Tryz.prog (fun _=>True) 202 ⟨q58_,ask_written⟩:=ct_of_ev (env_cons qk3_ (env_cons qi3_ env_nil)) qn6_
@[reducible] def q2n_:Sh:=⟨[.d (.sl (.int .u8))],[],[.sl (.int .u8)],[.d (.pr (.int .u8) YTT4),.d (.bool)],[],0,[.pr (.int .u8) YTT4,.bool]⟩
def q3v_:Env:=(cts [(59,(⟨q7e_,ask_shape⟩:Ct)),(201,(⟨q6z_,ask_list⟩:Ct)),(202,(⟨q58_,ask_written⟩:Ct))])
def q3q_:List (Nat×Hint):=[(255,⟨[],[2,4,6,7,8]⟩),(511,⟨[],[2,4,7,8]⟩),(6,⟨[],[0,2,16]⟩)]
def qdr_ (b:List Int) (t16:Bool) (t2 t2_2 t2_3 t2_4:Int):St:={ fr:=[(0,.d (.sl (.int .u8)) b),(2,.pb 0 0),(16,.d .bool t16)],nt:=67,up:=[],own:=[(0,.box 44 [.d (.int .u8) t2,.d (.int .u16) t2_2,.d (.int .u16) t2_3,.d (.int .u16) t2_4,.k (Go.Value.slice Option.none 0 0),.k (Go.Value.slice Option.none 0 0)])],nx:=1,log:=[],ln:=0 }
def qdt_ (l rest:List Int) (t2 t2_2 t2_3 t2_4 s s_2 s_3:Int) (s_4 s_5:Bool) (a a_2 a_3 a_4:Int):St:={ fr:=[(2,.pb 0 0),(4,.pb 1 0),(6,.d (.sl (.int .u16)) l),(7,.pb 2 0),(8,.d (.sl (.int .u8)) rest)],nt:=67,up:=[],own:=[(0,.box 44 [.d (.int .u8) t2,.d (.int .u16) t2_2,.d (.int .u16) t2_3,.d (.int .u16) t2_4,.k (Go.Value.slice Option.none 0 0),.k (Go.Value.slice Option.none 0 0)]),(1,.box 114 [.d (.int .i64) s,.d (.int .i64) s_2,.d (.int .i64) s_3,.d .bool s_4,.d .bool s_5]),(2,.box 44 [.d (.int .u8) a,.d (.int .u16) a_2,.d (.int .u16) a_3,.d (.int .u16) a_4,.k (Go.Value.slice Option.none 0 0),.k (Go.Value.slice Option.none 0 0)])],nx:=3,log:=[],ln:=0 }
def qdl_ (rest:List Int) (t2 t2_2 t2_3 t2_4 s s_2 s_3:Int) (s_4 s_5:Bool) (a a_2 a_3 a_4:Int):St:={ fr:=[(2,.pb 0 0),(4,.pb 1 0),(7,.pb 2 0),(8,.d (.sl (.int .u8)) rest)],nt:=67,up:=[],own:=[(0,.box 44 [.d (.int .u8) t2,.d (.int .u16) t2_2,.d (.int .u16) t2_3,.d (.int .u16) t2_4,.k (Go.Value.slice Option.none 0 0),.k (Go.Value.slice Option.none 0 0)]),(1,.box 114 [.d (.int .i64) s,.d (.int .i64) s_2,.d (.int .i64) s_3,.d .bool s_4,.d .bool s_5]),(2,.box 44 [.d (.int .u8) a,.d (.int .u16) a_2,.d (.int .u16) a_3,.d (.int .u16) a_4,.k (Go.Value.slice Option.none 0 0),.k (Go.Value.slice Option.none 0 0)])],nx:=3,log:=[],ln:=0 }
def q5r_ (j2:List Int->List Int->Int->Int->Int->Int->Int->Int->Int->Bool->Bool->Int->Int->Int->Int->Option (As [.pr (.int .u8) YTT4,.bool])) (b:List Int) (t16:Bool) (t2 t2_2 t2_3 t2_4:Int):Option (As [.pr (.int .u8) YTT4,.bool]) :=
 if t16=true then some ((0,0,0,0,[],[]),false,()) else Option.bind (at? b 0) fun y=>Option.bind (ask_shape (y,())) fun y=>if (!y.2.1)=true then some ((0,0,0,0,[],[]),false,()) else Option.bind (cut b 1 (Int.ofNat (List.length b))) fun y_1=>Option.bind (ask_list (y_1,())) fun y_2=>Option.bind (at? b 0) fun y_3=>Option.bind (at? y_2.1 0) fun y_4=>Option.bind (cut b 3 (Int.ofNat (List.length b))) fun y_5=>if gt y.1.1 0=true then Option.bind (at? y_2.1 1) fun y_6=>Option.bind (cut b 5 (Int.ofNat (List.length b))) fun y_7=>j2 y_2.1 y_7 t2 t2_2 t2_3 t2_4 y.1.1 y.1.2.1 y.1.2.2.1 y.1.2.2.2.1 y.1.2.2.2.2 y_3 y_4 y_6 0 else j2 y_2.1 y_5 t2 t2_2 t2_3 t2_4 y.1.1 y.1.2.1 y.1.2.2.1 y.1.2.2.2.1 y.1.2.2.2.2 y_3 y_4 0 0
def qg5_ (j3:List Int->Int->Int->Int->Int->Int->Int->Int->Bool->Bool->Int->Int->Int->Int->Option (As [.pr (.int .u8) YTT4,.bool])) (l rest:List Int) (t2 t2_2 t2_3 t2_4 s s_2 s_3:Int) (s_4 s_5:Bool) (a a_2 a_3 a_4:Int):Option (As [.pr (.int .u8) YTT4,.bool]) :=
 if s_4=true then if lt (Int.ofNat (List.length rest)) 4=true then some ((0,0,0,0,[],[]),false,()) else Option.bind (at? l 2) fun y=>Option.bind (cut rest 4 (Int.ofNat (List.length rest))) fun y_1=>j3 y_1 t2 t2_2 t2_3 t2_4 s s_2 s_3 s_4 s_5 a a_2 a_3 y else j3 rest t2 t2_2 t2_3 t2_4 s s_2 s_3 s_4 s_5 a a_2 a_3 a_4
def qk0_ (rest:List Int) (t2 t2_2 t2_3 t2_4 s s_2 s_3:Int) (s_4 s_5:Bool) (a a_2 a_3 a_4:Int):Option (As [.pr (.int .u8) YTT4,.bool]) :=
 Option.bind (ask_written ((a,a_2,a_3,a_4,[],[]),(s,s_2,s_3,s_4,s_5),rest,())) fun y=>some (y.1,y.2.1,())
def q3l_ (j1:List Int->Bool->Int->Int->Int->Int->Option (As [.pr (.int .u8) YTT4,.bool])) (b:List Int):Option (As [.pr (.int .u8) YTT4,.bool]) :=
 if lt (Int.ofNat (List.length b)) 5=true then j1 b true 0 0 0 0 else j1 b (gt (Int.ofNat (List.length b)) 253) 0 0 0 0
def qdm_ (rest:List Int) (t2 t2_2 t2_3 t2_4 s s_2 s_3:Int) (s_4 s_5:Bool) (a a_2 a_3 a_4:Int):Option (As [.pr (.int .u8) YTT4,.bool]):=qk0_ rest t2 t2_2 t2_3 t2_4 s s_2 s_3 s_4 s_5 a a_2 a_3 a_4
def q3m_ (l rest:List Int) (t2 t2_2 t2_3 t2_4 s s_2 s_3:Int) (s_4 s_5:Bool) (a a_2 a_3 a_4:Int):Option (As [.pr (.int .u8) YTT4,.bool]):=qg5_ (qdm_) l rest t2 t2_2 t2_3 t2_4 s s_2 s_3 s_4 s_5 a a_2 a_3 a_4
def q5s_ (b:List Int) (t16:Bool) (t2 t2_2 t2_3 t2_4:Int):Option (As [.pr (.int .u8) YTT4,.bool]):=q5r_ (q3m_) b t16 t2 t2_2 t2_3 t2_4
def ask_read (x:As [.sl (.int .u8)]):Option (As [.pr (.int .u8) YTT4,.bool]):=q3l_ q5s_ x.1
theorem qps_ (J:Orc (As [.pr (.int .u8) YTT4,.bool])) (rest:List Int) (t2 t2_2 t2_3 t2_4 s s_2 s_3:Int) (s_4 s_5:Bool) (a a_2 a_3 a_4:Int):pfn Tryz.prog q3v_ 6 18446744073709551616 (Ev.get q3q_) 174 q2n_ J 511 [] (qdl_ rest t2 t2_2 t2_3 t2_4 s s_2 s_3 s_4 s_5 a a_2 a_3 a_4)=qk0_ rest t2 t2_2 t2_3 t2_4 s s_2 s_3 s_4 s_5 a a_2 a_3 a_4:=by kernel_rfl
theorem qq5_ (J:Orc (As [.pr (.int .u8) YTT4,.bool])) (l rest:List Int) (t2 t2_2 t2_3 t2_4 s s_2 s_3:Int) (s_4 s_5:Bool) (a a_2 a_3 a_4:Int):pfn Tryz.prog q3v_ 6 18446744073709551616 (Ev.get q3q_) 174 q2n_ J 255 [] (qdt_ l rest t2 t2_2 t2_3 t2_4 s s_2 s_3 s_4 s_5 a a_2 a_3 a_4)=qg5_ (fun rest t2 t2_2 t2_3 t2_4 s s_2 s_3 s_4 s_5 a a_2 a_3 a_4=>J 511 [] (qdl_ rest t2 t2_2 t2_3 t2_4 s s_2 s_3 s_4 s_5 a a_2 a_3 a_4)) l rest t2 t2_2 t2_3 t2_4 s s_2 s_3 s_4 s_5 a a_2 a_3 a_4:=by kernel_rfl
theorem qq2_ (J:Orc (As [.pr (.int .u8) YTT4,.bool])) (b:List Int) (t16:Bool) (t2 t2_2 t2_3 t2_4:Int):pfn Tryz.prog q3v_ 6 18446744073709551616 (Ev.get q3q_) 174 q2n_ J 6 [] (qdr_ b t16 t2 t2_2 t2_3 t2_4)=q5r_ (fun l rest t2 t2_2 t2_3 t2_4 s s_2 s_3 s_4 s_5 a a_2 a_3 a_4=>J 255 [] (qdt_ l rest t2 t2_2 t2_3 t2_4 s s_2 s_3 s_4 s_5 a a_2 a_3 a_4)) b t16 t2 t2_2 t2_3 t2_4:=by kernel_rfl
theorem qpr_ (J:Orc (As [.pr (.int .u8) YTT4,.bool])) (x:As [.sl (.int .u8)]):rfn Tryz.prog q3v_ 6 18446744073709551616 (Ev.get q3q_) 174 q2n_ J x=q3l_ (fun b t16 t2 t2_2 t2_3 t2_4=>J 6 [] (qdr_ b t16 t2 t2_2 t2_3 t2_4)) x.1:=by kernel_rfl
theorem qpq_ (rest:List Int) (t2 t2_2 t2_3 t2_4 s s_2 s_3:Int) (s_4 s_5:Bool) (a a_2 a_3 a_4:Int):jfn Tryz.prog q3v_ 6 18446744073709551616 (Ev.get q3q_) 174 q2n_ 511 [] (qdl_ rest t2 t2_2 t2_3 t2_4 s s_2 s_3 s_4 s_5 a a_2 a_3 a_4)=qdm_ rest t2 t2_2 t2_3 t2_4 s s_2 s_3 s_4 s_5 a a_2 a_3 a_4:=by
 rw [pfn_eq (by decide)]
 rw [qps_]
 rfl
theorem qq6_ (l rest:List Int) (t2 t2_2 t2_3 t2_4 s s_2 s_3:Int) (s_4 s_5:Bool) (a a_2 a_3 a_4:Int):jfn Tryz.prog q3v_ 6 18446744073709551616 (Ev.get q3q_) 174 q2n_ 255 [] (qdt_ l rest t2 t2_2 t2_3 t2_4 s s_2 s_3 s_4 s_5 a a_2 a_3 a_4)=q3m_ l rest t2 t2_2 t2_3 t2_4 s s_2 s_3 s_4 s_5 a a_2 a_3 a_4:=by
 rw [pfn_eq (by decide)]
 have e3:(fun rest t2 t2_2 t2_3 t2_4 s s_2 s_3 s_4 s_5 a a_2 a_3 a_4=>(jfn Tryz.prog q3v_ 6 18446744073709551616 (Ev.get q3q_) 174 q2n_) 511 [] (qdl_ rest t2 t2_2 t2_3 t2_4 s s_2 s_3 s_4 s_5 a a_2 a_3 a_4))=qdm_:=by funext rest t2 t2_2 t2_3 t2_4 s s_2 s_3 s_4 s_5 a a_2 a_3 a_4; exact qpq_ rest t2 t2_2 t2_3 t2_4 s s_2 s_3 s_4 s_5 a a_2 a_3 a_4
 rw [qq5_,e3]
 rfl
theorem qpt_ (b:List Int) (t16:Bool) (t2 t2_2 t2_3 t2_4:Int):jfn Tryz.prog q3v_ 6 18446744073709551616 (Ev.get q3q_) 174 q2n_ 6 [] (qdr_ b t16 t2 t2_2 t2_3 t2_4)=q5s_ b t16 t2 t2_2 t2_3 t2_4:=by
 rw [pfn_eq (by decide)]
 have e2:(fun l rest t2 t2_2 t2_3 t2_4 s s_2 s_3 s_4 s_5 a a_2 a_3 a_4=>(jfn Tryz.prog q3v_ 6 18446744073709551616 (Ev.get q3q_) 174 q2n_) 255 [] (qdt_ l rest t2 t2_2 t2_3 t2_4 s s_2 s_3 s_4 s_5 a a_2 a_3 a_4))=q3m_:=by funext l rest t2 t2_2 t2_3 t2_4 s s_2 s_3 s_4 s_5 a a_2 a_3 a_4; exact qq6_ l rest t2 t2_2 t2_3 t2_4 s s_2 s_3 s_4 s_5 a a_2 a_3 a_4
 rw [qq2_,e2]
 rfl
theorem qqh_ (x:As [.sl (.int .u8)]):evT Tryz.prog q3v_ 6 18446744073709551616 (Ev.get q3q_) 174 q2n_ x=ask_read x:=by
 have e1:(fun b t16 t2 t2_2 t2_3 t2_4=>(jfn Tryz.prog q3v_ 6 18446744073709551616 (Ev.get q3q_) 174 q2n_) 6 [] (qdr_ b t16 t2 t2_2 t2_3 t2_4))=q5s_:=by funext b t16 t2 t2_2 t2_3 t2_4; exact qpt_ b t16 t2 t2_2 t2_3 t2_4
 rw [rfn_eq,qpr_,e1]
 rfl
theorem qpi_:CtOk Tryz.prog (fun _=>True) 174 ⟨q2n_,ask_read⟩:=ct_of_ev (env_cons qd3_ (env_cons qk3_ (env_cons qlk_ env_nil))) qqh_
@[reducible] def q7d_:Sh:=⟨[.d (.sl (.int .u8))],[],[.sl (.int .u8)],[.d (.pr (.int .u8) YTT4),.d (.int .i64)],[],0,[.pr (.int .u8) YTT4,.int .i64]⟩
def qae_:Env:=(cts [(13,(⟨qv_,ask_Bytes⟩:Ct)),(66,(⟨q8o_,bytes_Equal⟩:Ct)),(174,(⟨q2n_,ask_read⟩:Ct))])
def qaq_:List (Nat×Hint):=[(61,⟨[],[2,4,28]⟩)]
def qc5_ (t28:Bool) (t2 t2_2 t2_3 t2_4 a a_2 a_3 a_4:Int) (a_5:List Int) (a_6:List Bool):St:={ fr:=[(2,.pb 0 0),(4,.pb 1 0),(28,.d .bool t28)],nt:=31,up:=[],own:=[(0,.box 44 [.d (.int .u8) t2,.d (.int .u16) t2_2,.d (.int .u16) t2_3,.d (.int .u16) t2_4,.k (Go.Value.slice Option.none 0 0),.k (Go.Value.slice Option.none 0 0)]),(1,.box 44 [.d (.int .u8) a,.d (.int .u16) a_2,.d (.int .u16) a_3,.d (.int .u16) a_4,.d (.sl (.int .u16)) a_5,.d (.sl .bool) a_6])],nx:=2,log:=[],ln:=0 }
def qjd_ (t28:Bool) (t2 t2_2 t2_3 t2_4 a a_2 a_3 a_4:Int) (a_5:List Int) (a_6:List Bool):Option (As [.pr (.int .u8) YTT4,.int .i64]) :=
 if t28=true then some ((0,0,0,0,[],[]),12,()) else some ((a,a_2,a_3,a_4,a_5,a_6),0,())
def q7s_ (j1:Bool->Int->Int->Int->Int->Int->Int->Int->Int->List Int->List Bool->Option (As [.pr (.int .u8) YTT4,.int .i64])) (b:List Int):Option (As [.pr (.int .u8) YTT4,.int .i64]) :=
 Option.bind (ask_read (b,())) fun y=>if (!y.2.1)=true then some ((0,0,0,0,[],[]),12,()) else Option.bind (ask_Bytes (y.1,())) fun y_1=>if nei y_1.2.1 0=true then j1 true 0 0 0 0 y.1.1 y.1.2.1 y.1.2.2.1 y.1.2.2.2.1 y.1.2.2.2.2.1 y.1.2.2.2.2.2 else Option.bind (bytes_Equal (y_1.1,b,())) fun y_2=>j1 (!y_2.1) 0 0 0 0 y.1.1 y.1.2.1 y.1.2.2.1 y.1.2.2.2.1 y.1.2.2.2.2.1 y.1.2.2.2.2.2
def q99_ (t28:Bool) (t2 t2_2 t2_3 t2_4 a a_2 a_3 a_4:Int) (a_5:List Int) (a_6:List Bool):Option (As [.pr (.int .u8) YTT4,.int .i64]):=qjd_ t28 t2 t2_2 t2_3 t2_4 a a_2 a_3 a_4 a_5 a_6
def ask_Parse (x:As [.sl (.int .u8)]):Option (As [.pr (.int .u8) YTT4,.int .i64]):=q7s_ q99_ x.1
theorem qon_ (J:Orc (As [.pr (.int .u8) YTT4,.int .i64])) (t28:Bool) (t2 t2_2 t2_3 t2_4 a a_2 a_3 a_4:Int) (a_5:List Int) (a_6:List Bool):pfn Tryz.prog qae_ 6 18446744073709551616 (Ev.get qaq_) 123 q7d_ J 61 [] (qc5_ t28 t2 t2_2 t2_3 t2_4 a a_2 a_3 a_4 a_5 a_6)=qjd_ t28 t2 t2_2 t2_3 t2_4 a a_2 a_3 a_4 a_5 a_6:=by kernel_rfl
theorem qoj_ (J:Orc (As [.pr (.int .u8) YTT4,.int .i64])) (x:As [.sl (.int .u8)]):rfn Tryz.prog qae_ 6 18446744073709551616 (Ev.get qaq_) 123 q7d_ J x=q7s_ (fun t28 t2 t2_2 t2_3 t2_4 a a_2 a_3 a_4 a_5 a_6=>J 61 [] (qc5_ t28 t2 t2_2 t2_3 t2_4 a a_2 a_3 a_4 a_5 a_6)) x.1:=by kernel_rfl
theorem qo1_ (t28:Bool) (t2 t2_2 t2_3 t2_4 a a_2 a_3 a_4:Int) (a_5:List Int) (a_6:List Bool):jfn Tryz.prog qae_ 6 18446744073709551616 (Ev.get qaq_) 123 q7d_ 61 [] (qc5_ t28 t2 t2_2 t2_3 t2_4 a a_2 a_3 a_4 a_5 a_6)=q99_ t28 t2 t2_2 t2_3 t2_4 a a_2 a_3 a_4 a_5 a_6:=by
 rw [pfn_eq (by decide)]
 rw [qon_]
 rfl
theorem qpv_ (x:As [.sl (.int .u8)]):evT Tryz.prog qae_ 6 18446744073709551616 (Ev.get qaq_) 123 q7d_ x=ask_Parse x:=by
 have e1:(fun t28 t2 t2_2 t2_3 t2_4 a a_2 a_3 a_4 a_5 a_6=>(jfn Tryz.prog qae_ 6 18446744073709551616 (Ev.get qaq_) 123 q7d_) 61 [] (qc5_ t28 t2 t2_2 t2_3 t2_4 a a_2 a_3 a_4 a_5 a_6))=q99_:=by funext t28 t2 t2_2 t2_3 t2_4 a a_2 a_3 a_4 a_5 a_6; exact qo1_ t28 t2 t2_2 t2_3 t2_4 a a_2 a_3 a_4 a_5 a_6
 rw [rfn_eq,qoj_,e1]
 rfl
theorem qot_:CtOk Tryz.prog (fun _=>True) 123 ⟨q7d_,ask_Parse⟩:=ct_of_ev (env_cons qf1_ (env_cons qgo_ (env_cons qpi_ env_nil))) qpv_
@[reducible] def qem_:Sh:=⟨[.d (.sl (.int .u8))],[],[.sl (.int .u8)],[.d (.pr (.int .u8) YTT4),.d (.int .u8)],[],0,[.pr (.int .u8) YTT4,.int .u8]⟩
def qlh_:Env:=(cts [(59,(⟨q7e_,ask_shape⟩:Ct)),(123,(⟨q7d_,ask_Parse⟩:Ct))])
def qlg_:List (Nat×Hint):=[]
def q8v_ (b:List Int):Option (As [.pr (.int .u8) YTT4,.int .u8]) :=
 if eqi (Int.ofNat (List.length b)) 0=true then some ((0,0,0,0,[],[]),1,()) else Option.bind (ask_Parse (b,())) fun y=>if eqi y.2.1 0=true then some (y.1,0,()) else Option.bind (at? b 0) fun y=>Option.bind (at? b 0) fun y_1=>Option.bind (ask_shape (y_1,())) fun y_2=>if (!y_2.2.1)=true then some ((y,0,0,0,[],[]),1,()) else some ((y,0,0,0,[],[]),3,())
def ask_Look (x:As [.sl (.int .u8)]):Option (As [.pr (.int .u8) YTT4,.int .u8]):=q8v_ x.1
theorem qpj_ (J:Orc (As [.pr (.int .u8) YTT4,.int .u8])) (x:As [.sl (.int .u8)]):rfn Tryz.prog qlh_ 6 18446744073709551616 (Ev.get qlg_) 52 qem_ J x=q8v_ x.1:=by kernel_rfl
theorem qqc_ (x:As [.sl (.int .u8)]):evT Tryz.prog qlh_ 6 18446744073709551616 (Ev.get qlg_) 52 qem_ x=ask_Look x:=by
 rw [rfn_eq,qpj_]
 rfl
theorem qq3_:CtOk Tryz.prog (fun _=>True) 52 ⟨qem_,ask_Look⟩:=ct_of_ev (env_cons qd3_ (env_cons qot_ env_nil)) qqc_
@[reducible] def q9f_:Sh:=⟨[.d (.pr YTT1 (.pr YTT1 (.pr YTT1 YTT1))),.d (.pr (.sl .bool) YTT10)],[],[.pr YTT1 (.pr YTT1 (.pr YTT1 YTT1)),.pr (.sl .bool) YTT10],[.d (.pr (.pr YTT1 (.sl .bool)) (.pr (.pr YTT1 (.sl .bool)) (.pr (.pr YTT1 (.sl (.int .u16))) (.pr YTT1 (.sl (.int .u16))))))],[],0,[.pr (.pr YTT1 (.sl .bool)) (.pr (.pr YTT1 (.sl .bool)) (.pr (.pr YTT1 (.sl (.int .u16))) (.pr YTT1 (.sl (.int .u16)))))]⟩
def qjh_:Env:=(cts [])
def qjo_:List (Nat×Hint):=[]
def qib_ (s:List YTT5×List YTT5×List YTT5×List YTT5) (m:List Bool×List Bool×List Int×List Int):Option (As [.pr (.pr YTT1 (.sl .bool)) (.pr (.pr YTT1 (.sl .bool)) (.pr (.pr YTT1 (.sl (.int .u16))) (.pr YTT1 (.sl (.int .u16)))))]) :=
 some (((s.1,m.1),(s.2.1,m.2.1),(s.2.2.1,m.2.2.1),s.2.2.2,m.2.2.2),())
def model_open (x:As [.pr YTT1 (.pr YTT1 (.pr YTT1 YTT1)),.pr (.sl .bool) YTT10]):Option (As [.pr (.pr YTT1 (.sl .bool)) (.pr (.pr YTT1 (.sl .bool)) (.pr (.pr YTT1 (.sl (.int .u16))) (.pr YTT1 (.sl (.int .u16)))))]):=qib_ x.1 x.2.1
theorem qnx_ (J:Orc (As [.pr (.pr YTT1 (.sl .bool)) (.pr (.pr YTT1 (.sl .bool)) (.pr (.pr YTT1 (.sl (.int .u16))) (.pr YTT1 (.sl (.int .u16)))))])) (x:As [.pr YTT1 (.pr YTT1 (.pr YTT1 YTT1)),.pr (.sl .bool) YTT10]):rfn Tryz.prog qjh_ 6 18446744073709551616 (Ev.get qjo_) 117 q9f_ J x=qib_ x.1 x.2.1:=by kernel_rfl
theorem qp5_ (x:As [.pr YTT1 (.pr YTT1 (.pr YTT1 YTT1)),.pr (.sl .bool) YTT10]):evT Tryz.prog qjh_ 6 18446744073709551616 (Ev.get qjo_) 117 q9f_ x=model_open x:=by
 rw [rfn_eq,qnx_]
 rfl
theorem qic_:CtOk Tryz.prog (fun _=>True) 117 ⟨q9f_,model_open⟩:=ct_of_ev env_nil qp5_
@[reducible] def q9a_:Sh:=⟨[.d (.int .u8)],[],[.int .u8],[.d (.pr (.int .i64) (.int .i64))],[],0,[.pr (.int .i64) (.int .i64)]⟩
def qjm_:Env:=(cts [])
def qjc_:List (Nat×Hint):=[]
def qb9_ (f:Int):Option (As [.pr (.int .i64) (.int .i64)]) :=
 some (Ev.gdV (.pr (.int .i64) (.int .i64)) (if eqi 1 f=true then some (1,0) else if eqi 2 f=true then some (2,0) else if eqi 3 f=true then some (3,0) else if eqi 4 f=true then some (4,0) else if eqi 5 f=true then some (0,1) else if eqi 6 f=true then some (0,3) else if eqi 15 f=true then some (0,1) else if eqi 16 f=true then some (0,3) else if eqi 23 f=true then some (3,3) else Option.none) (0,0),())
def model_uses (x:As [.int .u8]):Option (As [.pr (.int .i64) (.int .i64)]):=qb9_ x.1
theorem qn5_ (J:Orc (As [.pr (.int .i64) (.int .i64)])) (x:As [.int .u8]):rfn Tryz.prog qjm_ 6 18446744073709551616 (Ev.get qjc_) 124 q9a_ J x=qb9_ x.1:=by kernel_rfl
theorem qo6_ (x:As [.int .u8]):evT Tryz.prog qjm_ 6 18446744073709551616 (Ev.get qjc_) 124 q9a_ x=model_uses x:=by
 rw [rfn_eq,qn5_]
 rfl
theorem qi6_:CtOk Tryz.prog (fun _=>True) 124 ⟨q9a_,model_uses⟩:=ct_of_ev env_nil qo6_
@[reducible] def q7o_:Sh:=⟨[.d (.pr (.int .u8) YTT4)],[],[.pr (.int .u8) YTT4],[.d (.int .i64),.d (.int .i64)],[],0,[.int .i64,.int .i64]⟩
def qgs_:Env:=(cts [])
def qgd_:List (Nat×Hint):=[]
def q90_ (a:Int×Int×Int×Int×List Int×List Bool):Option (As [.int .i64,.int .i64]) :=
 if eqi a.1 23=true then some (cvt .i64 a.2.2.2.1,add .i64 (Int.ofNat (List.length a.2.2.2.2.2)) (Int.ofNat (List.length a.2.2.2.2.1)),()) else some (cvt .i64 a.2.1,add .i64 (Int.ofNat (List.length a.2.2.2.2.2)) (Int.ofNat (List.length a.2.2.2.2.1)),())
def model_target (x:As [.pr (.int .u8) YTT4]):Option (As [.int .i64,.int .i64]):=q90_ x.1
theorem qlf_ (J:Orc (As [.int .i64,.int .i64])) (x:As [.pr (.int .u8) YTT4]):rfn Tryz.prog qgs_ 6 18446744073709551616 (Ev.get qgd_) 126 q7o_ J x=q90_ x.1:=by kernel_rfl
theorem qma_ (x:As [.pr (.int .u8) YTT4]):evT Tryz.prog qgs_ 6 18446744073709551616 (Ev.get qgd_) 126 q7o_ x=model_target x:=by
 rw [rfn_eq,qlf_]
 rfl
theorem qfv_:CtOk Tryz.prog (fun _=>True) 126 ⟨q7o_,model_target⟩:=ct_of_ev env_nil qma_
@[reducible] def qi_:Sh:=⟨[.d (.pr (.int .i64) YTT12)],[],[.pr (.int .i64) YTT12],[.d (.bool)],[],0,[.bool]⟩
def q75_:Env:=(cts [])
def q73_:List (Nat×Hint):=[]
def q6m_ (x:YaA1q0):Option (As [.bool]) :=
 some (x.2.2.1,())
def model_table_bool_readable_z1 (x:As [.pr (.int .i64) YTT12]):Option (As [.bool]):=q6m_ x.1
theorem qc4_ (J:Orc (As [.bool])) (x:As [.pr (.int .i64) YTT12]):rfn Tryz.prog q75_ 6 18446744073709551616 (Ev.get q73_) 259 qi_ J x=q6m_ x.1:=by kernel_rfl
theorem qck_ (x:As [.pr (.int .i64) YTT12]):evT Tryz.prog q75_ 6 18446744073709551616 (Ev.get q73_) 259 qi_ x=model_table_bool_readable_z1 x:=by
 rw [rfn_eq,qc4_]
 rfl
theorem q18_:CtOk Tryz.prog (fun _=>True) 259 ⟨qi_,model_table_bool_readable_z1⟩:=ct_of_ev env_nil qck_
@[reducible] def qj_:Sh:=⟨[.d (.pr (.int .i64) YTT12),.pb 0 0,.pb 1 0],[.box 3 [.d (.int .i64)],.box 3 [.d (.int .i64)]],[.pr (.int .i64) YTT12,.int .i64,.int .i64],[.d (.bool)],[(0,.box 3 [.d (.int .i64)]),(1,.box 3 [.d (.int .i64)])],0,[.bool,.int .i64,.int .i64]⟩
def q74_:Env:=(cts [])
def q78_:List (Nat×Hint):=[]
def q21_ (x:YaA1q0) (v v_2:Int):Option (As [.bool,.int .i64,.int .i64]) :=
 if x.2.2.2.1=true then if (!x.2.2.2.2)=true then some (true,v,v_2,()) else if eqi x.1 v=true then some (eqi x.2.1 v_2,v,v_2,()) else some (false,v,v_2,()) else some (false,v,v_2,())
def model_table_bool_writable_z1 (x:As [.pr (.int .i64) YTT12,.int .i64,.int .i64]):Option (As [.bool,.int .i64,.int .i64]):=q21_ x.1 x.2.1 x.2.2.1
theorem qc3_ (J:Orc (As [.bool,.int .i64,.int .i64])) (x:As [.pr (.int .i64) YTT12,.int .i64,.int .i64]):rfn Tryz.prog q74_ 6 18446744073709551616 (Ev.get q78_) 260 qj_ J x=q21_ x.1 x.2.1 x.2.2.1:=by kernel_rfl
theorem qca_ (x:As [.pr (.int .i64) YTT12,.int .i64,.int .i64]):evT Tryz.prog q74_ 6 18446744073709551616 (Ev.get q78_) 260 qj_ x=model_table_bool_writable_z1 x:=by
 rw [rfn_eq,qc3_]
 rfl
theorem q19_:CtOk Tryz.prog (fun _=>True) 260 ⟨qj_,model_table_bool_writable_z1⟩:=ct_of_ev env_nil qca_
@[reducible] def q10_:Sh:=⟨[.d (.pr (.int .i64) YTT12),.d (.int .i64),.d (.int .i64)],[],[.pr (.int .i64) YTT12,.int .i64,.int .i64],[.d (.int .i64),.d (.int .i64)],[],0,[.int .i64,.int .i64]⟩
def q2h_:Env:=(cts [])
def q2i_:List (Nat×Hint):=[(15,⟨[],[1,3,8]⟩),(30,⟨[],[1,2,3,8,32]⟩),(6,⟨[],[1,2,3,17,25,26,27,28,29,30,31]⟩)]
def qb7_ (at' endV:Int) (t17:Bool) (x:YaA1q0):St:={ fr:=[(1,.d (.int .i64) at'),(2,.d (.int .i64) endV),(3,.pb 0 0),(17,.d .bool t17)],nt:=45,up:=[],own:=[(0,.box 168 [.d (.int .i64) x.1,.d (.int .i64) x.2.1,.d .bool x.2.2.1,.d .bool x.2.2.2.1,.d .bool x.2.2.2.2])],nx:=1,log:=[],ln:=0 }
def qbd_ (at' endV to':Int) (t32:Bool) (x:YaA1q0):St:={ fr:=[(1,.d (.int .i64) at'),(2,.d (.int .i64) endV),(3,.pb 0 0),(8,.d (.int .i64) to'),(32,.d .bool t32)],nt:=45,up:=[],own:=[(0,.box 168 [.d (.int .i64) x.1,.d (.int .i64) x.2.1,.d .bool x.2.2.1,.d .bool x.2.2.2.1,.d .bool x.2.2.2.2])],nx:=1,log:=[],ln:=0 }
def qb6_ (at' to':Int) (x:YaA1q0):St:={ fr:=[(1,.d (.int .i64) at'),(3,.pb 0 0),(8,.d (.int .i64) to')],nt:=45,up:=[],own:=[(0,.box 168 [.d (.int .i64) x.1,.d (.int .i64) x.2.1,.d .bool x.2.2.1,.d .bool x.2.2.2.1,.d .bool x.2.2.2.2])],nx:=1,log:=[],ln:=0 }
def qee_ (j2:Int->Int->Int->Bool->YaA1q0->Option (As [.int .i64,.int .i64])) (at' endV:Int) (t17:Bool) (x:YaA1q0):Option (As [.int .i64,.int .i64]) :=
 if t17=true then some (at',at',()) else if lt x.1 0=true then j2 at' endV endV true x else j2 at' endV endV (lt x.2.1 (Sx.sub .i64 endV x.1)) x
def qb3_ (j3:Int->Int->YaA1q0->Option (As [.int .i64,.int .i64])) (at' endV to':Int) (t32:Bool) (x:YaA1q0):Option (As [.int .i64,.int .i64]) :=
 if t32=true then j3 at' (if lt (add .i64 x.1 x.2.1) endV=true then add .i64 x.1 x.2.1 else endV) x else j3 at' to' x
def qef_ (at' to':Int) (x:YaA1q0):Option (As [.int .i64,.int .i64]) :=
 some (if gt x.1 at'=true then x.1 else at',to',())
def qbe_ (j1:Int->Int->Bool->YaA1q0->Option (As [.int .i64,.int .i64])) (x:YaA1q0) (at' endV:Int):Option (As [.int .i64,.int .i64]) :=
 if lt x.2.1 1=true then j1 at' endV true x else j1 at' endV (ge x.1 endV) x
def q8p_ (at' to':Int) (x:YaA1q0):Option (As [.int .i64,.int .i64]):=qef_ at' to' x
def q6r_ (at' endV to':Int) (t32:Bool) (x:YaA1q0):Option (As [.int .i64,.int .i64]):=qb3_ (q8p_) at' endV to' t32 x
def q6w_ (at' endV:Int) (t17:Bool) (x:YaA1q0):Option (As [.int .i64,.int .i64]):=qee_ (q6r_) at' endV t17 x
def model_meet (x:As [.pr (.int .i64) YTT12,.int .i64,.int .i64]):Option (As [.int .i64,.int .i64]):=qbe_ q6w_ x.1 x.2.1 x.2.2.1
theorem qnc_ (J:Orc (As [.int .i64,.int .i64])) (at' to':Int) (x:YaA1q0):pfn Tryz.prog q2h_ 6 18446744073709551616 (Ev.get q2i_) 261 q10_ J 15 [] (qb6_ at' to' x)=qef_ at' to' x:=by kernel_rfl
theorem qnd_ (J:Orc (As [.int .i64,.int .i64])) (at' endV to':Int) (t32:Bool) (x:YaA1q0):pfn Tryz.prog q2h_ 6 18446744073709551616 (Ev.get q2i_) 261 q10_ J 30 [] (qbd_ at' endV to' t32 x)=qb3_ (fun at' to' x=>J 15 [] (qb6_ at' to' x)) at' endV to' t32 x:=by kernel_rfl
theorem qmz_ (J:Orc (As [.int .i64,.int .i64])) (at' endV:Int) (t17:Bool) (x:YaA1q0):pfn Tryz.prog q2h_ 6 18446744073709551616 (Ev.get q2i_) 261 q10_ J 6 [] (qb7_ at' endV t17 x)=qee_ (fun at' endV to' t32 x=>J 30 [] (qbd_ at' endV to' t32 x)) at' endV t17 x:=by kernel_rfl
theorem qnl_ (J:Orc (As [.int .i64,.int .i64])) (x:As [.pr (.int .i64) YTT12,.int .i64,.int .i64]):rfn Tryz.prog q2h_ 6 18446744073709551616 (Ev.get q2i_) 261 q10_ J x=qbe_ (fun at' endV t17 x=>J 6 [] (qb7_ at' endV t17 x)) x.1 x.2.1 x.2.2.1:=by kernel_rfl
theorem qnj_ (at' to':Int) (x:YaA1q0):jfn Tryz.prog q2h_ 6 18446744073709551616 (Ev.get q2i_) 261 q10_ 15 [] (qb6_ at' to' x)=q8p_ at' to' x:=by
 rw [pfn_eq (by decide)]
 rw [qnc_]
 rfl
theorem qn3_ (at' endV to':Int) (t32:Bool) (x:YaA1q0):jfn Tryz.prog q2h_ 6 18446744073709551616 (Ev.get q2i_) 261 q10_ 30 [] (qbd_ at' endV to' t32 x)=q6r_ at' endV to' t32 x:=by
 rw [pfn_eq (by decide)]
 have e3:(fun at' to' x=>(jfn Tryz.prog q2h_ 6 18446744073709551616 (Ev.get q2i_) 261 q10_) 15 [] (qb6_ at' to' x))=q8p_:=by funext at' to' x; exact qnj_ at' to' x
 rw [qnd_,e3]
 rfl
theorem qnb_ (at' endV:Int) (t17:Bool) (x:YaA1q0):jfn Tryz.prog q2h_ 6 18446744073709551616 (Ev.get q2i_) 261 q10_ 6 [] (qb7_ at' endV t17 x)=q6w_ at' endV t17 x:=by
 rw [pfn_eq (by decide)]
 have e2:(fun at' endV to' t32 x=>(jfn Tryz.prog q2h_ 6 18446744073709551616 (Ev.get q2i_) 261 q10_) 30 [] (qbd_ at' endV to' t32 x))=q6r_:=by funext at' endV to' t32 x; exact qn3_ at' endV to' t32 x
 rw [qmz_,e2]
 rfl
theorem qo4_ (x:As [.pr (.int .i64) YTT12,.int .i64,.int .i64]):evT Tryz.prog q2h_ 6 18446744073709551616 (Ev.get q2i_) 261 q10_ x=model_meet x:=by
 have e1:(fun at' endV t17 x=>(jfn Tryz.prog q2h_ 6 18446744073709551616 (Ev.get q2i_) 261 q10_) 6 [] (qb7_ at' endV t17 x))=q6w_:=by funext at' endV t17 x; exact qnb_ at' endV t17 x
 rw [rfn_eq,qnl_,e1]
 rfl
theorem qbh_:CtOk Tryz.prog (fun _=>True) 261 ⟨q10_,model_meet⟩:=ct_of_ev env_nil qo4_
@[reducible] def qc_:Sh:=⟨[.d (.pr (.int .i64) YTT12)],[],[.pr (.int .i64) YTT12],[.d (.bool)],[],0,[.bool]⟩
def q6f_:Env:=(cts [])
def q68_:List (Nat×Hint):=[]
def q5q_ (x:YaA1q0):Option (As [.bool]) :=
 some (x.2.2.1,())
def model_table_uint16_readable_z1 (x:As [.pr (.int .i64) YTT12]):Option (As [.bool]):=q5q_ x.1
theorem qag_ (J:Orc (As [.bool])) (x:As [.pr (.int .i64) YTT12]):rfn Tryz.prog q6f_ 6 18446744073709551616 (Ev.get q68_) 264 qc_ J x=q5q_ x.1:=by kernel_rfl
theorem qbm_ (x:As [.pr (.int .i64) YTT12]):evT Tryz.prog q6f_ 6 18446744073709551616 (Ev.get q68_) 264 qc_ x=model_table_uint16_readable_z1 x:=by
 rw [rfn_eq,qag_]
 rfl
theorem q12_:CtOk Tryz.prog (fun _=>True) 264 ⟨qc_,model_table_uint16_readable_z1⟩:=ct_of_ev env_nil qbm_
@[reducible] def qd_:Sh:=⟨[.d (.pr (.int .i64) YTT12),.pb 0 0,.pb 1 0],[.box 3 [.d (.int .i64)],.box 3 [.d (.int .i64)]],[.pr (.int .i64) YTT12,.int .i64,.int .i64],[.d (.bool)],[(0,.box 3 [.d (.int .i64)]),(1,.box 3 [.d (.int .i64)])],0,[.bool,.int .i64,.int .i64]⟩
def q63_:Env:=(cts [])
def q69_:List (Nat×Hint):=[]
def q1i_ (x:YaA1q0) (v v_2:Int):Option (As [.bool,.int .i64,.int .i64]) :=
 if x.2.2.2.1=true then if (!x.2.2.2.2)=true then some (true,v,v_2,()) else if eqi x.1 v=true then some (eqi x.2.1 v_2,v,v_2,()) else some (false,v,v_2,()) else some (false,v,v_2,())
def model_table_uint16_writable_z1 (x:As [.pr (.int .i64) YTT12,.int .i64,.int .i64]):Option (As [.bool,.int .i64,.int .i64]):=q1i_ x.1 x.2.1 x.2.2.1
theorem qao_ (J:Orc (As [.bool,.int .i64,.int .i64])) (x:As [.pr (.int .i64) YTT12,.int .i64,.int .i64]):rfn Tryz.prog q63_ 6 18446744073709551616 (Ev.get q69_) 265 qd_ J x=q1i_ x.1 x.2.1 x.2.2.1:=by kernel_rfl
theorem qbj_ (x:As [.pr (.int .i64) YTT12,.int .i64,.int .i64]):evT Tryz.prog q63_ 6 18446744073709551616 (Ev.get q69_) 265 qd_ x=model_table_uint16_writable_z1 x:=by
 rw [rfn_eq,qao_]
 rfl
theorem q14_:CtOk Tryz.prog (fun _=>True) 265 ⟨qd_,model_table_uint16_writable_z1⟩:=ct_of_ev env_nil qbj_
@[reducible] def qa_:Sh:=⟨[.d YTT1,.d (.int .i64),.d (.int .i64),.fn (.func 259) [] []],[],[.sl (.pr (.int .i64) YTT12),.int .i64,.int .i64],[.d (.bool)],[],0,[.bool]⟩
def qp_:Env:=(cts [(259,(⟨qi_,model_table_bool_readable_z1⟩:Ct)),(260,(⟨qj_,model_table_bool_writable_z1⟩:Ct)),(261,(⟨q10_,model_meet⟩:Ct)),(264,(⟨qc_,model_table_uint16_readable_z1⟩:Ct)),(265,(⟨qd_,model_table_uint16_writable_z1⟩:Ct))])
def qo_:List (Nat×Hint):=[(15,⟨[],[10]⟩),(122,⟨[],[1,2,3,9,10,19,20,21]⟩),(125342,⟨[],[1,2,3,9,10,12,14,15,19,20,21]⟩),(501369,⟨[],[1,2,3,9,10,12,14,15,19,20,21]⟩)]
def qz_ (at' many left:Int) (t19:List YTT5) (t20 t21:Int) (met:List Bool):St:={ fr:=[(1,.d (.int .i64) at'),(2,.d (.int .i64) many),(3,.fn (.func 259) [] []),(9,.row 0),(10,.d (.int .i64) left),(19,.d YTT1 t19),(20,.d (.int .i64) t20),(21,.d (.int .i64) t21)],nt:=62,up:=[],own:=[(0,.row .bool 4 met)],nx:=1,log:=[],ln:=0 }
def q83_ (left:Int):St:={ fr:=[(10,.d (.int .i64) left)],nt:=62,up:=[],own:=[],nx:=0,log:=[],ln:=0 }
def q1z_ (at' many left to' i:Int) (t19:List YTT5) (t20 t21:Int) (met:List Bool) (x:YaA1q0):St:={ fr:=[(1,.d (.int .i64) at'),(2,.d (.int .i64) many),(3,.fn (.func 259) [] []),(9,.row 0),(10,.d (.int .i64) left),(12,.pb 1 0),(14,.d (.int .i64) to'),(15,.d (.int .i64) i),(19,.d YTT1 t19),(20,.d (.int .i64) t20),(21,.d (.int .i64) t21)],nt:=62,up:=[],own:=[(0,.row .bool 4 met),(1,.box 168 [.d (.int .i64) x.1,.d (.int .i64) x.2.1,.d .bool x.2.2.1,.d .bool x.2.2.2.1,.d .bool x.2.2.2.2])],nx:=2,log:=[],ln:=0 }
def q7x_ (at' many left to' i:Int) (t19:List YTT5) (t20 t21:Int) (met:List Bool) (x:YaA1q0):St:={ fr:=[(1,.d (.int .i64) at'),(2,.d (.int .i64) many),(3,.fn (.func 259) [] []),(9,.row 0),(10,.d (.int .i64) left),(12,.pb 1 0),(14,.d (.int .i64) to'),(15,.d (.int .i64) i),(19,.d YTT1 t19),(20,.d (.int .i64) t20),(21,.d (.int .i64) t21)],nt:=62,up:=[],own:=[(0,.row .bool 4 met),(1,.box 168 [.d (.int .i64) x.1,.d (.int .i64) x.2.1,.d .bool x.2.2.1,.d .bool x.2.2.2.1,.d .bool x.2.2.2.2])],nx:=2,log:=[],ln:=0 }
def q64_ (j2:Int->Option (As [.bool])) (j3:Int->Int->Int->Int->Int->List YTT5->Int->Int->List Bool->YaA1q0->Option (As [.bool])) (self1:Int->Int->Int->List YTT5->Int->Int->List Bool->Option (As [.bool])) (at' many left:Int) (t19:List YTT5) (t20 t21:Int) (met:List Bool):Option (As [.bool]) :=
 if lt t21 t20=true then Option.bind (at? t19 t21) fun y=>if eqi left 0=true then j2 left else Option.bind (model_meet (y,at',add .i64 at' many,())) fun y_1=>j3 at' many left y_1.2.1 y_1.1 t19 t20 t21 met y else j2 left
def qfd_ (left:Int):Option (As [.bool]) :=
 some (eqi left 0,())
def q6b_ (j4:Int->Int->Int->Int->Int->List YTT5->Int->Int->List Bool->YaA1q0->Option (As [.bool])) (self1:Int->Int->Int->List YTT5->Int->Int->List Bool->Option (As [.bool])) (self3:Int->Int->Int->Int->Int->List YTT5->Int->Int->List Bool->YaA1q0->Option (As [.bool])) (at' many left to' i:Int) (t19:List YTT5) (t20 t21:Int) (met:List Bool) (x:YaA1q0):Option (As [.bool]) :=
 if lt i to'=true then Option.bind (at? met (Sx.sub .i64 i at')) fun x_1=>Option.bind (at? met (Sx.sub .i64 i at')) fun y=>if y=true then j4 at' many left to' i t19 t20 t21 met x else Option.bind (model_table_bool_readable_z1 (x,())) fun y=>if (!y.1)=true then some (false,()) else Option.bind (at? met (Sx.sub .i64 i at')) fun x_2=>Option.bind (at? met (Sx.sub .i64 i at')) fun x_3=>j4 at' many (Sx.sub .i64 left 1) to' i t19 t20 t21 (List.set met (Int.toNat (Sx.sub .i64 i at')) true) x else self1 at' many left t19 t20 (add .i64 t21 1) met
def qbo_ (self1:Int->Int->Int->List YTT5->Int->Int->List Bool->Option (As [.bool])) (self3:Int->Int->Int->Int->Int->List YTT5->Int->Int->List Bool->YaA1q0->Option (As [.bool])) (at' many left to' i:Int) (t19:List YTT5) (t20 t21:Int) (met:List Bool) (x:YaA1q0):Option (As [.bool]) :=
 self3 at' many left to' (add .i64 i 1) t19 t20 t21 met x
def q87_ (j1:Int->Int->Int->List YTT5->Int->Int->List Bool->Option (As [.bool])) (areas:List YTT5) (at' many:Int):Option (As [.bool]) :=
 need (ge many 0) (need (Ev.capOk many many) (need (small (Int.toNat many)) (j1 at' many many areas (Int.ofNat (List.length areas)) 0 (List.replicate (Int.toNat many) false))))
def q4h_ (left:Int):Option (As [.bool]):=qfd_ left
def q3c_ (u1:Int->Int->Int->List YTT5->Int->Int->List Bool->Option (As [.bool])) (u3:Int->Int->Int->Int->Int->List YTT5->Int->Int->List Bool->YaA1q0->Option (As [.bool])) (at' many left to' i:Int) (t19:List YTT5) (t20 t21:Int) (met:List Bool) (x:YaA1q0):Option (As [.bool]):=qbo_ u1 u3 at' many left to' i t19 t20 t21 met x
def q3a_ (u1:Int->Int->Int->List YTT5->Int->Int->List Bool->Option (As [.bool])) (at' many left to' i:Int) (t19:List YTT5) (t20 t21:Int) (met:List Bool) (x:YaA1q0):Option (As [.bool]) :=
 loopF (fun (self:(Int)×(Int)×(Int)×(Int)×(Int)×(List YTT5)×(Int)×(Int)×(List Bool)×YTT5->Option (As [.bool])) (s:(Int)×(Int)×(Int)×(Int)×(Int)×(List YTT5)×(Int)×(Int)×(List Bool)×YTT5)=>q6b_ (q3c_ u1 (fun at' many left to' i t19 t20 t21 met x=>self (at',many,left,to',i,t19,t20,t21,met,x))) u1 (fun at' many left to' i t19 t20 t21 met x=>self (at',many,left,to',i,t19,t20,t21,met,x)) s.1 s.2.1 s.2.2.1 s.2.2.2.1 s.2.2.2.2.1 s.2.2.2.2.2.1 s.2.2.2.2.2.2.1 s.2.2.2.2.2.2.2.1 s.2.2.2.2.2.2.2.2.1 s.2.2.2.2.2.2.2.2.2) 18446744073709551616 (at',many,left,to',i,t19,t20,t21,met,x)
def q60_ (at' many left:Int) (t19:List YTT5) (t20 t21:Int) (met:List Bool):Option (As [.bool]) :=
 loopF (fun (self:(Int)×(Int)×(Int)×(List YTT5)×(Int)×(Int)×(List Bool)->Option (As [.bool])) (s:(Int)×(Int)×(Int)×(List YTT5)×(Int)×(Int)×(List Bool))=>q64_ (q4h_) (q3a_ (fun at' many left t19 t20 t21 met=>self (at',many,left,t19,t20,t21,met))) (fun at' many left t19 t20 t21 met=>self (at',many,left,t19,t20,t21,met)) s.1 s.2.1 s.2.2.1 s.2.2.2.1 s.2.2.2.2.1 s.2.2.2.2.2.1 s.2.2.2.2.2.2) 18446744073709551616 (at',many,left,t19,t20,t21,met)
def model_each_br (x:As [.sl (.pr (.int .i64) YTT12),.int .i64,.int .i64]):Option (As [.bool]):=q87_ q60_ x.1 x.2.1 x.2.2.1
theorem qk8_ (J:Orc (As [.bool])) (left:Int):pfn Tryz.prog qp_ 6 18446744073709551616 (Ev.get qo_) 258 qa_ J 15 [] (q83_ left)=qfd_ left:=by kernel_rfl
theorem qkt_ (J:Orc (As [.bool])) (w1 w3:St->Option (As [.bool])) (at' many left to' i:Int) (t19:List YTT5) (t20 t21:Int) (met:List Bool) (x:YaA1q0):pfn Tryz.prog qp_ 6 18446744073709551616 (Ev.get qo_) 258 qa_ J 501369 [w1,w3] (q7x_ at' many left to' i t19 t20 t21 met x)=qbo_ (fun at' many left t19 t20 t21 met=>w1 (qz_ at' many left t19 t20 t21 met)) (fun at' many left to' i t19 t20 t21 met x=>w3 (q1z_ at' many left to' i t19 t20 t21 met x)) at' many left to' i t19 t20 t21 met x:=by kernel_rfl
theorem qka_ (J:Orc (As [.bool])) (w1 w3:St->Option (As [.bool])) (at' many left to' i:Int) (t19:List YTT5) (t20 t21:Int) (met:List Bool) (x:YaA1q0):pfn Tryz.prog qp_ 6 18446744073709551616 (Ev.get qo_) 258 qa_ J 125342 [w1,w3] (q1z_ at' many left to' i t19 t20 t21 met x)=q6b_ (fun at' many left to' i t19 t20 t21 met x=>J 501369 [w1,w3] (q7x_ at' many left to' i t19 t20 t21 met x)) (fun at' many left t19 t20 t21 met=>w1 (qz_ at' many left t19 t20 t21 met)) (fun at' many left to' i t19 t20 t21 met x=>w3 (q1z_ at' many left to' i t19 t20 t21 met x)) at' many left to' i t19 t20 t21 met x:=by kernel_rfl
theorem qku_ (J:Orc (As [.bool])) (w1:St->Option (As [.bool])) (at' many left:Int) (t19:List YTT5) (t20 t21:Int) (met:List Bool):pfn Tryz.prog qp_ 6 18446744073709551616 (Ev.get qo_) 258 qa_ J 122 [w1] (qz_ at' many left t19 t20 t21 met)=q64_ (fun left=>J 15 [] (q83_ left)) (fun at' many left to' i t19 t20 t21 met x=>J 125342 [w1] (q1z_ at' many left to' i t19 t20 t21 met x)) (fun at' many left t19 t20 t21 met=>w1 (qz_ at' many left t19 t20 t21 met)) at' many left t19 t20 t21 met:=by kernel_rfl
theorem ql6_ (J:Orc (As [.bool])) (x:As [.sl (.pr (.int .i64) YTT12),.int .i64,.int .i64]):rfn Tryz.prog qp_ 6 18446744073709551616 (Ev.get qo_) 258 qa_ J x=q87_ (fun at' many left t19 t20 t21 met=>J 122 [] (qz_ at' many left t19 t20 t21 met)) x.1 x.2.1 x.2.2.1:=by kernel_rfl
theorem qkk_ (left:Int):jfn Tryz.prog qp_ 6 18446744073709551616 (Ev.get qo_) 258 qa_ 15 [] (q83_ left)=q4h_ left:=by
 rw [pfn_eq (by decide)]
 rw [qk8_]
 rfl
theorem qky_ (w1 w3:St->Option (As [.bool])) (at' many left to' i:Int) (t19:List YTT5) (t20 t21:Int) (met:List Bool) (x:YaA1q0):jfn Tryz.prog qp_ 6 18446744073709551616 (Ev.get qo_) 258 qa_ 501369 [w1,w3] (q7x_ at' many left to' i t19 t20 t21 met x)=q3c_ (fun at' many left t19 t20 t21 met=>w1 (qz_ at' many left t19 t20 t21 met)) (fun at' many left to' i t19 t20 t21 met x=>w3 (q1z_ at' many left to' i t19 t20 t21 met x)) at' many left to' i t19 t20 t21 met x:=by
 rw [pfn_eq (by decide)]
 rw [qkt_]
 rfl
theorem qki_ (w1:St->Option (As [.bool])) (at' many left to' i:Int) (t19:List YTT5) (t20 t21:Int) (met:List Bool) (x:YaA1q0):jfn Tryz.prog qp_ 6 18446744073709551616 (Ev.get qo_) 258 qa_ 125342 [w1] (q1z_ at' many left to' i t19 t20 t21 met x)=q3a_ (fun at' many left t19 t20 t21 met=>w1 (qz_ at' many left t19 t20 t21 met)) at' many left to' i t19 t20 t21 met x:=by
 rw [pfn_eq (by decide)]
 rw [pfn_loop (by kernel_rfl)]
 refine loopF_sim (σ:=(Int)×(Int)×(Int)×(Int)×(Int)×(List YTT5)×(Int)×(Int)×(List Bool)×YTT5) (mk:=fun s=>q1z_ s.1 s.2.1 s.2.2.1 s.2.2.2.1 s.2.2.2.2.1 s.2.2.2.2.2.1 s.2.2.2.2.2.2.1 s.2.2.2.2.2.2.2.1 s.2.2.2.2.2.2.2.2.1 s.2.2.2.2.2.2.2.2.2) (fun w3 s=>?_) 18446744073709551616 (at',many,left,to',i,t19,t20,t21,met,x)
 have e4:(fun at' many left to' i t19 t20 t21 met x=>(jfn Tryz.prog qp_ 6 18446744073709551616 (Ev.get qo_) 258 qa_) 501369 [w1,w3] (q7x_ at' many left to' i t19 t20 t21 met x))=q3c_ (fun at' many left t19 t20 t21 met=>w1 (qz_ at' many left t19 t20 t21 met)) (fun at' many left to' i t19 t20 t21 met x=>w3 (q1z_ at' many left to' i t19 t20 t21 met x)):=by funext at' many left to' i t19 t20 t21 met x; exact qky_ w1 w3 at' many left to' i t19 t20 t21 met x
 refine (qka_ _ w1 w3 s.1 s.2.1 s.2.2.1 s.2.2.2.1 s.2.2.2.2.1 s.2.2.2.2.2.1 s.2.2.2.2.2.2.1 s.2.2.2.2.2.2.2.1 s.2.2.2.2.2.2.2.2.1 s.2.2.2.2.2.2.2.2.2).trans ?_
 rw [e4]
theorem ql3_ (at' many left:Int) (t19:List YTT5) (t20 t21:Int) (met:List Bool):jfn Tryz.prog qp_ 6 18446744073709551616 (Ev.get qo_) 258 qa_ 122 [] (qz_ at' many left t19 t20 t21 met)=q60_ at' many left t19 t20 t21 met:=by
 rw [pfn_eq (by decide)]
 rw [pfn_loop (by kernel_rfl)]
 refine loopF_sim (σ:=(Int)×(Int)×(Int)×(List YTT5)×(Int)×(Int)×(List Bool)) (mk:=fun s=>qz_ s.1 s.2.1 s.2.2.1 s.2.2.2.1 s.2.2.2.2.1 s.2.2.2.2.2.1 s.2.2.2.2.2.2) (fun w1 s=>?_) 18446744073709551616 (at',many,left,t19,t20,t21,met)
 have e2:(fun left=>(jfn Tryz.prog qp_ 6 18446744073709551616 (Ev.get qo_) 258 qa_) 15 [] (q83_ left))=q4h_:=funext fun left=>qkk_ left
 have e3:(fun at' many left to' i t19 t20 t21 met x=>(jfn Tryz.prog qp_ 6 18446744073709551616 (Ev.get qo_) 258 qa_) 125342 [w1] (q1z_ at' many left to' i t19 t20 t21 met x))=q3a_ (fun at' many left t19 t20 t21 met=>w1 (qz_ at' many left t19 t20 t21 met)):=by funext at' many left to' i t19 t20 t21 met x; exact qki_ w1 at' many left to' i t19 t20 t21 met x
 refine (qku_ _ w1 s.1 s.2.1 s.2.2.1 s.2.2.2.1 s.2.2.2.2.1 s.2.2.2.2.2.1 s.2.2.2.2.2.2).trans ?_
 rw [e2,e3]
theorem qle_ (x:As [.sl (.pr (.int .i64) YTT12),.int .i64,.int .i64]):evT Tryz.prog qp_ 6 18446744073709551616 (Ev.get qo_) 258 qa_ x=model_each_br x:=by
 have e1:(fun at' many left t19 t20 t21 met=>(jfn Tryz.prog qp_ 6 18446744073709551616 (Ev.get qo_) 258 qa_) 122 [] (qz_ at' many left t19 t20 t21 met))=q60_:=by funext at' many left t19 t20 t21 met; exact ql3_ at' many left t19 t20 t21 met
 rw [rfn_eq,ql6_,e1]
 rfl
theorem q89_:CtOk Tryz.prog (fun _=>True) 258 ⟨qa_,model_each_br⟩:=ct_of_ev (env_cons q18_ (env_cons q19_ (env_cons qbh_ (env_cons q12_ (env_cons q14_ env_nil))))) qle_
end Go.Proofs.Lx
end
