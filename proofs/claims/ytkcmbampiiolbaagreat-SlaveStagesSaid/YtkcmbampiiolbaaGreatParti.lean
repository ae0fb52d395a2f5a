/- Proved in the last of these 13 parts (this is part 9): SlaveStages returns true, whatever the link, the bank, the owner, the transaction and the blocks. Conditions: those of the given statement, and no others. -/
import Derived.Test.YtkcmbampiiolbaaGreatParte
import Derived.Test.YtkcmbampiiolbaaGreatParth
import Derived.Test.YtkcmbampiiolbaaGreatProg
set_option linter.unusedVariables false
set_option linter.unusedSimpArgs false
set_option linter.unusedSectionVars false
section
open Go Go.Proofs Ev Sx
set_option maxRecDepth 100000
namespace Go.Proofs.Lx
@[reducible] def stage_Put_s:Sh:=⟨[.d (.pr (.int .u32) (.pr (.ar 8 .bool) (.ar 8 YTT8))),.d (.int .i64),.d YTT8],[],[.pr (.int .u32) (.pr (.ar 8 .bool) (.ar 8 YTT8)),.int .i64,.pr (.int .i64) (.sl (.int .u16))],[.d (.pr (.int .u32) (.pr (.ar 8 .bool) (.ar 8 YTT8))),.d (.int .i64)],[],0,[.pr (.int .u32) (.pr (.ar 8 .bool) (.ar 8 YTT8)),.int .i64]⟩
abbrev stage_Put_R:=Option (As [.pr (.int .u32) (.pr (.ar 8 .bool) (.ar 8 YTT8)),.int .i64])
def stage_Put_e:Env:=(cts [(75,(⟨stage_number_s,stage_number⟩:Ct)),(76,(⟨bank_Fits_s,bank_Fits⟩:Ct)),(79,(⟨stage_own_s,stage_own⟩:Ct))])
def stage_Put_h:List (Nat×Hint):=[(31,⟨[],[3,6]⟩),(250,⟨[],[3,6,26,27]⟩)]
def stage_Put_k1 (s t6:Int) (t26:List Bool) (t27:Int) (s_2 t6_2:List YTT9):St:={ fr:=[(3,.prw 0 s 25 0),(6,.prw 1 t6 25 0),(26,.d (.ar 8 .bool) t26),(27,.d (.int .i64) t27)],nt:=46,up:=[],own:=[(0,.row (.pr (.int .u32) (.pr (.ar 8 .bool) (.ar 8 YTT8))) 33 s_2),(1,.row (.pr (.int .u32) (.pr (.ar 8 .bool) (.ar 8 YTT8))) 33 t6_2)],nx:=2,log:=[],ln:=0 }
def stage_Put_k2 (s t6:Int) (s_2 t6_2:List YTT9):St:={ fr:=[(3,.prw 0 s 25 0),(6,.prw 1 t6 25 0)],nt:=46,up:=[],own:=[(0,.row (.pr (.int .u32) (.pr (.ar 8 .bool) (.ar 8 YTT8))) 33 s_2),(1,.row (.pr (.int .u32) (.pr (.ar 8 .bool) (.ar 8 YTT8))) 33 t6_2)],nx:=2,log:=[],ln:=0 }
def stage_Put_m1 (j2:Int->Int->List YTT9->List YTT9->stage_Put_R) (self1:Int->Int->List Bool->Int->List YTT9->List YTT9->stage_Put_R) (s t6:Int) (t26:List Bool) (t27:Int) (s_2 t6_2:List YTT9):stage_Put_R :=
 if lt t27 8=true then need (lt t27 8) (Option.bind (at? t26 t27) fun y=>if y=true then need (ge t27 0) (need (lt t27 8) (Option.bind (at? s_2 s) fun y=>Option.bind (at? y.2.2 t27) fun z=>Option.bind (stage_own (z,())) fun y=>need (ge t27 0) (need (lt t27 8) (Option.bind (at? s_2 s) fun x=>Option.bind (at? x.2.2 t27) fun z=>self1 s t6 t26 (add .i64 t27 1) (List.set s_2 (Int.toNat s) (x.1,x.2.1,List.set x.2.2 (Int.toNat t27) y.1)) t6_2)))) else need (ge t27 0) (need (lt t27 8) (Option.bind (at? s_2 s) fun x=>Option.bind (at? x.2.2 t27) fun z=>self1 s t6 t26 (add .i64 t27 1) (List.set s_2 (Int.toNat s) (x.1,x.2.1,List.set x.2.2 (Int.toNat t27) (0,[]))) t6_2))) else j2 s t6 s_2 t6_2
def stage_Put_m2 (s t6:Int) (s_2 t6_2:List YTT9):stage_Put_R :=
 Option.bind (at? s_2 s) fun y=>Option.bind (at? t6_2 t6) fun x=>Option.bind (at? (List.set t6_2 (Int.toNat t6) y) t6) fun y_1=>Option.bind (at? (List.set t6_2 (Int.toNat t6) y) t6) fun y=>some (y,0,())
def stage_Put_m0 (j1:Int->Int->List Bool->Int->List YTT9->List YTT9->stage_Put_R) (s:Int×List Bool×List (Int×List Int)) (n:Int) (x:Int×List Int):stage_Put_R :=
 Option.bind (stage_number (n,())) fun y=>if (!y.1)=true then some (zSt,2,()) else Option.bind (bank_Fits (x,())) fun y=>if (!y.1)=true then some (zSt,20,()) else need (ge n 0) (need (lt n 8) (Option.bind (at? s.2.1 n) fun z=>need (ge n 0) (need (lt n 8) (Option.bind (at? s.2.2 n) fun z=>j1 0 0 (List.set s.2.1 (Int.toNat n) true) 0 [(s.1,List.set s.2.1 (Int.toNat n) true,List.set s.2.2 (Int.toNat n) x)] [zSt]))))
def stage_Put_K2 (s t6:Int) (s_2 t6_2:List YTT9):stage_Put_R:=stage_Put_m2 s t6 s_2 t6_2
def stage_Put_K1 (s t6:Int) (t26:List Bool) (t27:Int) (s_2 t6_2:List YTT9):stage_Put_R :=
 loopF (fun (self:(Int)×(Int)×(List Bool)×(Int)×(List YTT9)×(List YTT9)->stage_Put_R) (s:(Int)×(Int)×(List Bool)×(Int)×(List YTT9)×(List YTT9))=>stage_Put_m1 (stage_Put_K2) (fun s t6 t26 t27 s_2 t6_2=>self (s,t6,t26,t27,s_2,t6_2)) s.1 s.2.1 s.2.2.1 s.2.2.2.1 s.2.2.2.2.1 s.2.2.2.2.2) 18446744073709551616 (s,t6,t26,t27,s_2,t6_2)
def stage_Put (x:As [.pr (.int .u32) (.pr (.ar 8 .bool) (.ar 8 YTT8)),.int .i64,.pr (.int .i64) (.sl (.int .u16))]):stage_Put_R:=stage_Put_m0 stage_Put_K1 x.1 x.2.1 x.2.2.1
theorem stage_Put_c2 (J:Orc (As [.pr (.int .u32) (.pr (.ar 8 .bool) (.ar 8 YTT8)),.int .i64])) (s t6:Int) (s_2 t6_2:List YTT9):pfn Tryz.prog stage_Put_e 6 18446744073709551616 (Ev.get stage_Put_h) 216 stage_Put_s J 31 [] (stage_Put_k2 s t6 s_2 t6_2)=stage_Put_m2 s t6 s_2 t6_2:=by kernel_rfl
theorem stage_Put_c1 (J:Orc (As [.pr (.int .u32) (.pr (.ar 8 .bool) (.ar 8 YTT8)),.int .i64])) (w1:St->stage_Put_R) (s t6:Int) (t26:List Bool) (t27:Int) (s_2 t6_2:List YTT9):pfn Tryz.prog stage_Put_e 6 18446744073709551616 (Ev.get stage_Put_h) 216 stage_Put_s J 250 [w1] (stage_Put_k1 s t6 t26 t27 s_2 t6_2)=stage_Put_m1 (fun s t6 s_2 t6_2=>J 31 [] (stage_Put_k2 s t6 s_2 t6_2)) (fun s t6 t26 t27 s_2 t6_2=>w1 (stage_Put_k1 s t6 t26 t27 s_2 t6_2)) s t6 t26 t27 s_2 t6_2:=by kernel_rfl
theorem stage_Put_c0 (J:Orc (As [.pr (.int .u32) (.pr (.ar 8 .bool) (.ar 8 YTT8)),.int .i64])) (x:As [.pr (.int .u32) (.pr (.ar 8 .bool) (.ar 8 YTT8)),.int .i64,.pr (.int .i64) (.sl (.int .u16))]):rfn Tryz.prog stage_Put_e 6 18446744073709551616 (Ev.get stage_Put_h) 216 stage_Put_s J x=stage_Put_m0 (fun s t6 t26 t27 s_2 t6_2=>J 250 [] (stage_Put_k1 s t6 t26 t27 s_2 t6_2)) x.1 x.2.1 x.2.2.1:=by kernel_rfl
theorem stage_Put_g2 (s t6:Int) (s_2 t6_2:List YTT9):jfn Tryz.prog stage_Put_e 6 18446744073709551616 (Ev.get stage_Put_h) 216 stage_Put_s 31 [] (stage_Put_k2 s t6 s_2 t6_2)=stage_Put_K2 s t6 s_2 t6_2:=by
 rw [pfn_eq (by decide)]
 rw [stage_Put_c2]
 rfl
theorem stage_Put_g1 (s t6:Int) (t26:List Bool) (t27:Int) (s_2 t6_2:List YTT9):jfn Tryz.prog stage_Put_e 6 18446744073709551616 (Ev.get stage_Put_h) 216 stage_Put_s 250 [] (stage_Put_k1 s t6 t26 t27 s_2 t6_2)=stage_Put_K1 s t6 t26 t27 s_2 t6_2:=by
 rw [pfn_eq (by decide)]
 rw [pfn_loop (by kernel_rfl)]
 refine loopF_sim (σ:=(Int)×(Int)×(List Bool)×(Int)×(List YTT9)×(List YTT9)) (mk:=fun s=>stage_Put_k1 s.1 s.2.1 s.2.2.1 s.2.2.2.1 s.2.2.2.2.1 s.2.2.2.2.2) (fun w1 s=>?_) 18446744073709551616 (s,t6,t26,t27,s_2,t6_2)
 have e2:(fun s t6 s_2 t6_2=>(jfn Tryz.prog stage_Put_e 6 18446744073709551616 (Ev.get stage_Put_h) 216 stage_Put_s) 31 [] (stage_Put_k2 s t6 s_2 t6_2))=stage_Put_K2:=by funext s t6 s_2 t6_2; exact stage_Put_g2 s t6 s_2 t6_2
 refine (stage_Put_c1 _ w1 s.1 s.2.1 s.2.2.1 s.2.2.2.1 s.2.2.2.2.1 s.2.2.2.2.2).trans ?_
 rw [e2]
theorem stage_Put_t (x:As [.pr (.int .u32) (.pr (.ar 8 .bool) (.ar 8 YTT8)),.int .i64,.pr (.int .i64) (.sl (.int .u16))]):evT Tryz.prog stage_Put_e 6 18446744073709551616 (Ev.get stage_Put_h) 216 stage_Put_s x=stage_Put x:=by
 have e1:(fun s t6 t26 t27 s_2 t6_2=>(jfn Tryz.prog stage_Put_e 6 18446744073709551616 (Ev.get stage_Put_h) 216 stage_Put_s) 250 [] (stage_Put_k1 s t6 t26 t27 s_2 t6_2))=stage_Put_K1:=by funext s t6 t26 t27 s_2 t6_2; exact stage_Put_g1 s t6 t26 t27 s_2 t6_2
 rw [rfn_eq,stage_Put_c0,e1]
 rfl
theorem stage_Put_ok:CtOk Tryz.prog (fun _=>True) 216 ⟨stage_Put_s,stage_Put⟩:=ct_of_ev (env_cons stage_number_ok (env_cons bank_Fits_ok (env_cons stage_own_ok env_nil))) stage_Put_t
@[reducible] def agent_Put_s:Sh:=⟨[.d (.pr (.sl (.int .u16)) YTT0),.d (.int .u16),.d (.int .u32),.d (.int .i64),.d YTT8],[],[.pr (.sl (.int .u16)) YTT0,.int .u16,.int .u32,.int .i64,.pr (.int .i64) (.sl (.int .u16))],[.d (.pr (.sl (.int .u16)) YTT0),.d (.int .i64)],[],0,[.pr (.sl (.int .u16)) YTT0,.int .i64]⟩
abbrev agent_Put_R:=Option (As [.pr (.sl (.int .u16)) YTT0,.int .i64])
def agent_Put_e:Env:=(cts [(178,(⟨agent_own_s,agent_own⟩:Ct)),(214,(⟨agent_others_s,agent_others⟩:Ct)),(215,(⟨agent_in_s,agent_in⟩:Ct)),(216,(⟨stage_Put_s,stage_Put⟩:Ct)),(217,(⟨agent_taken_s,agent_taken⟩:Ct))])
def agent_Put_h:List (Nat×Hint):=[(14,⟨[],[1,2,3,5,9,10,21]⟩)]
def agent_Put_k1 (owner tx n a t10:Int) (t21:Bool) (a_2:List YTT2) (x:Int×List Int) (t10_2:List YTT2):St:={ fr:=[(1,.d (.int .u16) owner),(2,.d (.int .u32) tx),(3,.d (.int .i64) n),(5,.prw 0 a 32 0),(9,.pb 1 0),(10,.prw 2 t10 32 0),(21,.d .bool t21)],nt:=49,up:=[],own:=[(0,.row (.pr (.sl (.int .u16)) YTT0) 35 a_2),(1,.box 30 [.d (.int .i64) x.1,.d (.sl (.int .u16)) x.2]),(2,.row (.pr (.sl (.int .u16)) YTT0) 35 t10_2)],nx:=3,log:=[],ln:=0 }
def agent_Put_m1 (owner tx n a t10:Int) (t21:Bool) (a_2:List YTT2) (x:Int×List Int) (t10_2:List YTT2):agent_Put_R :=
 if t21=true then Option.bind (at? a_2 a) fun y=>Option.bind (at? t10_2 t10) fun x=>Option.bind (at? (List.set t10_2 (Int.toNat t10) y) t10) fun y_1=>Option.bind (at? (List.set t10_2 (Int.toNat t10) y) t10) fun y=>some (y,2,()) else Option.bind (at? a_2 a) fun y=>Option.bind (agent_others (y,owner,())) fun y=>if y.1=true then Option.bind (at? a_2 a) fun y=>Option.bind (at? t10_2 t10) fun x=>Option.bind (at? (List.set t10_2 (Int.toNat t10) y) t10) fun y_1=>Option.bind (at? (List.set t10_2 (Int.toNat t10) y) t10) fun y=>some (y,22,()) else Option.bind (at? a_2 a) fun y=>Option.bind (agent_in (y,1,tx,())) fun y=>if (!y.1)=true then Option.bind (at? a_2 a) fun y=>Option.bind (at? t10_2 t10) fun x=>Option.bind (at? (List.set t10_2 (Int.toNat t10) y) t10) fun y_1=>Option.bind (at? (List.set t10_2 (Int.toNat t10) y) t10) fun y=>some (y,23,()) else Option.bind (at? a_2 a) fun y=>Option.bind (stage_Put (y.2.2.2.2.2.1,n,x,())) fun y=>if nei y.2.1 0=true then Option.bind (at? a_2 a) fun y_1=>Option.bind (at? t10_2 t10) fun x=>Option.bind (at? (List.set t10_2 (Int.toNat t10) y_1) t10) fun y_2=>Option.bind (at? (List.set t10_2 (Int.toNat t10) y_1) t10) fun y_3=>some (y_3,y.2.1,()) else Option.bind (at? a_2 a) fun x=>Option.bind (at? (List.set a_2 (Int.toNat a) (x.1,x.2.1,x.2.2.1,x.2.2.2.1,x.2.2.2.2.1,y.1,x.2.2.2.2.2.2)) a) fun y=>Option.bind (agent_taken (y,owner,())) fun y=>Option.bind (at? t10_2 t10) fun x=>Option.bind (at? (List.set t10_2 (Int.toNat t10) y.1) t10) fun y_1=>Option.bind (at? (List.set t10_2 (Int.toNat t10) y.1) t10) fun y=>some (y,0,())
def agent_Put_m0 (j1:Int->Int->Int->Int->Int->Bool->List YTT2->Int×List Int->List YTT2->agent_Put_R) (a:List Int×(Int×Int)×Int×Int×Int×YTT9×Int) (owner tx n:Int) (x:Int×List Int):agent_Put_R :=
 Option.bind (agent_own (a,())) fun y=>if eqi owner 0=true then j1 owner tx n 0 0 true [y.1] x [zAg0] else j1 owner tx n 0 0 (eqi tx 0) [y.1] x [zAg0]
def agent_Put_K1 (owner tx n a t10:Int) (t21:Bool) (a_2:List YTT2) (x:Int×List Int) (t10_2:List YTT2):agent_Put_R:=agent_Put_m1 owner tx n a t10 t21 a_2 x t10_2
def agent_Put (x:As [.pr (.sl (.int .u16)) YTT0,.int .u16,.int .u32,.int .i64,.pr (.int .i64) (.sl (.int .u16))]):agent_Put_R:=agent_Put_m0 agent_Put_K1 x.1 x.2.1 x.2.2.1 x.2.2.2.1 x.2.2.2.2.1
theorem agent_Put_c1 (J:Orc (As [.pr (.sl (.int .u16)) YTT0,.int .i64])) (owner tx n a t10:Int) (t21:Bool) (a_2:List YTT2) (x:Int×List Int) (t10_2:List YTT2):pfn Tryz.prog agent_Put_e 6 18446744073709551616 (Ev.get agent_Put_h) 205 agent_Put_s J 14 [] (agent_Put_k1 owner tx n a t10 t21 a_2 x t10_2)=agent_Put_m1 owner tx n a t10 t21 a_2 x t10_2:=by kernel_rfl
theorem agent_Put_c0 (J:Orc (As [.pr (.sl (.int .u16)) YTT0,.int .i64])) (x:As [.pr (.sl (.int .u16)) YTT0,.int .u16,.int .u32,.int .i64,.pr (.int .i64) (.sl (.int .u16))]):rfn Tryz.prog agent_Put_e 6 18446744073709551616 (Ev.get agent_Put_h) 205 agent_Put_s J x=agent_Put_m0 (fun owner tx n a t10 t21 a_2 x t10_2=>J 14 [] (agent_Put_k1 owner tx n a t10 t21 a_2 x t10_2)) x.1 x.2.1 x.2.2.1 x.2.2.2.1 x.2.2.2.2.1:=by kernel_rfl
theorem agent_Put_g1 (owner tx n a t10:Int) (t21:Bool) (a_2:List YTT2) (x:Int×List Int) (t10_2:List YTT2):jfn Tryz.prog agent_Put_e 6 18446744073709551616 (Ev.get agent_Put_h) 205 agent_Put_s 14 [] (agent_Put_k1 owner tx n a t10 t21 a_2 x t10_2)=agent_Put_K1 owner tx n a t10 t21 a_2 x t10_2:=by
 rw [pfn_eq (by decide)]
 rw [agent_Put_c1]
 rfl
theorem agent_Put_t (x:As [.pr (.sl (.int .u16)) YTT0,.int .u16,.int .u32,.int .i64,.pr (.int .i64) (.sl (.int .u16))]):evT Tryz.prog agent_Put_e 6 18446744073709551616 (Ev.get agent_Put_h) 205 agent_Put_s x=agent_Put x:=by
 have e1:(fun owner tx n a t10 t21 a_2 x t10_2=>(jfn Tryz.prog agent_Put_e 6 18446744073709551616 (Ev.get agent_Put_h) 205 agent_Put_s) 14 [] (agent_Put_k1 owner tx n a t10 t21 a_2 x t10_2))=agent_Put_K1:=by funext owner tx n a t10 t21 a_2 x t10_2; exact agent_Put_g1 owner tx n a t10 t21 a_2 x t10_2
 rw [rfn_eq,agent_Put_c0,e1]
 rfl
theorem agent_Put_ok:CtOk Tryz.prog (fun _=>True) 205 ⟨agent_Put_s,agent_Put⟩:=ct_of_ev (env_cons agent_own_ok (env_cons agent_others_ok (env_cons agent_in_ok (env_cons stage_Put_ok (env_cons agent_taken_ok env_nil))))) agent_Put_t
@[reducible] def slave_serve_s:Sh:=⟨[.agg [.d (.int .u8),.d (.int .u8),.d (.sl (.int .u16)),.d (.int .u16),.d (.int .i64),.d (.int .u8),.d (.int .u32),.d (.int .u32),.d (.int .u32),.d (.bool),.d (.bool),.d (.bool),.d (.bool),.d (.bool),.d (.bool),.d (.bool),.d (.bool),.d (.int .i64),.d (.sl (.int .u16)),.d (.int .i64),.d (.sl (.int .u16)),.d (.int .i64),.d (.sl (.int .u16)),.d (.int .i64),.d (.sl (.int .u16)),.d (.int .i64),.d (.sl (.int .u16)),.d (.int .i64),.d (.sl (.int .u16)),.d (.int .i64),.d (.sl (.int .u16)),.d (.int .i64),.d (.sl (.int .u16)),.d (.int .i64),.row 0],.d (.sl (.int .u8))],[.row .bool 4],[.int .u8,.int .u8,.sl (.int .u16),.int .u16,.int .i64,.int .u8,.int .u32,.int .u32,.int .u32,.bool,.bool,.bool,.bool,.bool,.bool,.bool,.bool,.int .i64,.sl (.int .u16),.int .i64,.sl (.int .u16),.int .i64,.sl (.int .u16),.int .i64,.sl (.int .u16),.int .i64,.sl (.int .u16),.int .i64,.sl (.int .u16),.int .i64,.sl (.int .u16),.int .i64,.sl (.int .u16),.int .i64,.sl (.int .u8),.sl .bool],[.d (.pr (.int .u8) (.pr (.int .u8) (.pr (.pr (.sl (.int .u16)) YTT0) (.sl .bool)))),.d (.pr (.int .u8) YTT3)],[],0,[.pr (.int .u8) (.pr (.int .u8) (.pr (.pr (.sl (.int .u16)) YTT0) (.sl .bool))),.pr (.int .u8) YTT3]⟩
abbrev slave_serve_R:=Option (As [.pr (.int .u8) (.pr (.int .u8) (.pr (.pr (.sl (.int .u16)) YTT0) (.sl .bool))),.pr (.int .u8) YTT3])
def slave_serve_e:Env:=(cts [(1000038,Ev.bxCt),(1000194,Ev.bxCt),(24,(⟨stage_Read_s,stage_Read⟩:Ct)),(49,(⟨slave_Space_s,slave_Space⟩:Ct)),(52,(⟨qem_,ask_Look⟩:Ct)),(54,(⟨q20_,model_Check⟩:Ct)),(120,(⟨q56_,reply_Wrong⟩:Ct)),(129,(⟨slave_answer_s,slave_answer⟩:Ct)),(203,(⟨agent_Read_s,agent_Read⟩:Ct)),(204,(⟨agent_Do_s,agent_Do⟩:Ct)),(205,(⟨agent_Put_s,agent_Put⟩:Ct))])
def slave_serve_h:List (Nat×Hint):=[(7,⟨[],[2,4,5,6,7]⟩)]
def slave_serve_k1 (except:Int) (o:List Bool) (s s_2:Int) (s_3:List Int) (s_4 s_5 s_6 s_7 s_8 s_9:Int) (s_10 s_11 s_12 s_13 s_14 s_15 s_16 s_17:Bool) (s_18:Int) (s_19:List Int) (s_20:Int) (s_21:List Int) (s_22:Int) (s_23:List Int) (s_24:Int) (s_25:List Int) (s_26:Int) (s_27:List Int) (s_28:Int) (s_29:List Int) (s_30:Int) (s_31:List Int) (s_32:Int) (s_33:List Int) (s_34 t4 t4_2 t4_3 t4_4 t4_5 t4_6 t4_7 t4_8:Int) (t4_9 t4_10 t4_11 t4_12 t4_13 t4_14 t4_15 t4_16:Bool) (t4_17 t4_18 t4_19 t4_20 t4_21 t4_22 t4_23 t4_24 t4_25 t5 t5_2 t5_3 t5_4:Int) (a:Int×Int×Int×Int×List Int×List Bool):St:={ fr:=[(2,.pb 1 0),(4,.pb 2 0),(5,.pb 3 0),(6,.pb 4 0),(7,.d (.int .u8) except)],nt:=43,up:=[],own:=[(0,.row .bool 4 o),(1,.box 38 [.d (.int .u8) s,.d (.int .u8) s_2,.d (.sl (.int .u16)) s_3,.d (.int .u16) s_4,.d (.int .i64) s_5,.d (.int .u8) s_6,.d (.int .u32) s_7,.d (.int .u32) s_8,.d (.int .u32) s_9,.d .bool s_10,.d .bool s_11,.d .bool s_12,.d .bool s_13,.d .bool s_14,.d .bool s_15,.d .bool s_16,.d .bool s_17,.d (.int .i64) s_18,.d (.sl (.int .u16)) s_19,.d (.int .i64) s_20,.d (.sl (.int .u16)) s_21,.d (.int .i64) s_22,.d (.sl (.int .u16)) s_23,.d (.int .i64) s_24,.d (.sl (.int .u16)) s_25,.d (.int .i64) s_26,.d (.sl (.int .u16)) s_27,.d (.int .i64) s_28,.d (.sl (.int .u16)) s_29,.d (.int .i64) s_30,.d (.sl (.int .u16)) s_31,.d (.int .i64) s_32,.d (.sl (.int .u16)) s_33,.d (.int .i64) s_34,.row 0]),(2,.box 38 [.d (.int .u8) t4,.d (.int .u8) t4_2,.k (Go.Value.slice Option.none 0 0),.d (.int .u16) t4_3,.d (.int .i64) t4_4,.d (.int .u8) t4_5,.d (.int .u32) t4_6,.d (.int .u32) t4_7,.d (.int .u32) t4_8,.d .bool t4_9,.d .bool t4_10,.d .bool t4_11,.d .bool t4_12,.d .bool t4_13,.d .bool t4_14,.d .bool t4_15,.d .bool t4_16,.d (.int .i64) t4_17,.k (Go.Value.slice Option.none 0 0),.d (.int .i64) t4_18,.k (Go.Value.slice Option.none 0 0),.d (.int .i64) t4_19,.k (Go.Value.slice Option.none 0 0),.d (.int .i64) t4_20,.k (Go.Value.slice Option.none 0 0),.d (.int .i64) t4_21,.k (Go.Value.slice Option.none 0 0),.d (.int .i64) t4_22,.k (Go.Value.slice Option.none 0 0),.d (.int .i64) t4_23,.k (Go.Value.slice Option.none 0 0),.d (.int .i64) t4_24,.k (Go.Value.slice Option.none 0 0),.d (.int .i64) t4_25,.k (Go.Value.slice Option.none 0 0)]),(3,.box 46 [.d (.int .u8) t5,.d (.int .u8) t5_2,.k (Go.Value.slice Option.none 0 0),.k (Go.Value.slice Option.none 0 0),.d (.int .u16) t5_3,.d (.int .u16) t5_4]),(4,.box 44 [.d (.int .u8) a.1,.d (.int .u16) a.2.1,.d (.int .u16) a.2.2.1,.d (.int .u16) a.2.2.2.1,.d (.sl (.int .u16)) a.2.2.2.2.1,.d (.sl .bool) a.2.2.2.2.2])],nx:=5,log:=[],ln:=1 }
def slave_serve_m1 (except:Int) (o:List Bool) (s s_2:Int) (s_3:List Int) (s_4 s_5 s_6 s_7 s_8 s_9:Int) (s_10 s_11 s_12 s_13 s_14 s_15 s_16 s_17:Bool) (s_18:Int) (s_19:List Int) (s_20:Int) (s_21:List Int) (s_22:Int) (s_23:List Int) (s_24:Int) (s_25:List Int) (s_26:Int) (s_27:List Int) (s_28:Int) (s_29:List Int) (s_30:Int) (s_31:List Int) (s_32:Int) (s_33:List Int) (s_34 t4 t4_2 t4_3 t4_4 t4_5 t4_6 t4_7 t4_8:Int) (t4_9 t4_10 t4_11 t4_12 t4_13 t4_14 t4_15 t4_16:Bool) (t4_17 t4_18 t4_19 t4_20 t4_21 t4_22 t4_23 t4_24 t4_25 t5 t5_2 t5_3 t5_4:Int) (a:Int×Int×Int×Int×List Int×List Bool):slave_serve_R :=
 (fun (gA:TAg)=>if nei except 0=true then Option.bind (reply_Wrong (a.1,except,())) fun y=>some ((s,s_2,gA,o),y.1,()) else if eqi a.1 5=true then if le (add .i64 (cvt .i64 a.2.1) (Int.ofNat (List.length a.2.2.2.2.2))) (Int.ofNat (List.length o))=true then need (ge a.2.1 0) (need (le a.2.1 (Int.ofNat (List.length o))) (need (le (Int.ofNat (List.length o)) (Int.ofNat (List.length o))) (need (le (a.2.1 + (Int.ofNat (List.length o) - a.2.1)) (Int.ofNat (List.length o))) (Option.bind (slave_answer ((s,s_2,gA,List.take (Int.toNat a.2.1) o++List.take (Int.toNat (Int.ofNat (List.length o) - a.2.1)) a.2.2.2.2.2++List.drop (Int.toNat a.2.1 + List.length (List.take (Int.toNat (Int.ofNat (List.length o) - a.2.1)) a.2.2.2.2.2)) o),a,())) fun y=>some ((s,s_2,gA,List.take (Int.toNat a.2.1) o++List.take (Int.toNat (Int.ofNat (List.length o) - a.2.1)) a.2.2.2.2.2++List.drop (Int.toNat a.2.1 + List.length (List.take (Int.toNat (Int.ofNat (List.length o) - a.2.1)) a.2.2.2.2.2)) o),y.1,()))))) else Option.bind (slave_answer ((s,s_2,gA,o),a,())) fun y=>some ((s,s_2,gA,o),y.1,()) else if eqi a.1 15=true then if le (add .i64 (cvt .i64 a.2.1) (Int.ofNat (List.length a.2.2.2.2.2))) (Int.ofNat (List.length o))=true then need (ge a.2.1 0) (need (le a.2.1 (Int.ofNat (List.length o))) (need (le (Int.ofNat (List.length o)) (Int.ofNat (List.length o))) (need (le (a.2.1 + (Int.ofNat (List.length o) - a.2.1)) (Int.ofNat (List.length o))) (Option.bind (slave_answer ((s,s_2,gA,List.take (Int.toNat a.2.1) o++List.take (Int.toNat (Int.ofNat (List.length o) - a.2.1)) a.2.2.2.2.2++List.drop (Int.toNat a.2.1 + List.length (List.take (Int.toNat (Int.ofNat (List.length o) - a.2.1)) a.2.2.2.2.2)) o),a,())) fun y=>some ((s,s_2,gA,List.take (Int.toNat a.2.1) o++List.take (Int.toNat (Int.ofNat (List.length o) - a.2.1)) a.2.2.2.2.2++List.drop (Int.toNat a.2.1 + List.length (List.take (Int.toNat (Int.ofNat (List.length o) - a.2.1)) a.2.2.2.2.2)) o),y.1,()))))) else Option.bind (slave_answer ((s,s_2,gA,o),a,())) fun y=>some ((s,s_2,gA,o),y.1,()) else if eqi (Int.ofNat (List.length a.2.2.2.2.1)) 0=true then Option.bind (slave_answer ((s,s_2,gA,o),a,())) fun y=>some ((s,s_2,gA,o),y.1,()) else if eqi a.1 23=true then if eqi 272 a.2.2.2.1=true then Option.bind (agent_Read (a.2.2.2.2.1,())) fun y=>if nei y.2.1 0=true then Option.bind (reply_Wrong (a.1,3,())) fun y=>some ((s,s_2,gA,o),y.1,()) else amb (eqAs slave_serve_s.rs) [Option.bind (agent_Do (gA,y.1,())) fun y=>if nei y.2.1 0=true then Option.bind (reply_Wrong (a.1,4,())) fun y=>some ((s,s_2,gA,o),y.1,()) else Option.bind (slave_answer ((s,s_2,(mkAg y.1),o),a,())) fun y_1=>some ((s,s_2,(mkAg y.1),o),y_1.1,()),Option.bind (agent_Do (gA,y.1,())) fun y=>if nei y.2.1 0=true then Option.bind (reply_Wrong (a.1,4,())) fun y=>some ((s,s_2,gA,o),y.1,()) else Option.bind (slave_answer ((s,s_2,(mkAg y.1),o),a,())) fun y_1=>some ((s,s_2,(mkAg y.1),o),y_1.1,())] else if eqi 288 a.2.2.2.1=true then Option.bind (stage_Read (a.2.2.2.2.1,())) fun y=>if nei y.2.2.2.2.1 0=true then Option.bind (reply_Wrong (a.1,3,())) fun y=>some ((s,s_2,gA,o),y.1,()) else amb (eqAs slave_serve_s.rs) [Option.bind (agent_Put (gA,y.1,y.2.1,y.2.2.1,y.2.2.2.1,())) fun y=>if nei y.2.1 0=true then Option.bind (reply_Wrong (a.1,4,())) fun y=>some ((s,s_2,gA,o),y.1,()) else Option.bind (slave_answer ((s,s_2,(mkAg y.1),o),a,())) fun y_1=>some ((s,s_2,(mkAg y.1),o),y_1.1,()),Option.bind (agent_Put (gA,y.1,y.2.1,y.2.2.1,y.2.2.2.1,())) fun y=>if nei y.2.1 0=true then Option.bind (reply_Wrong (a.1,4,())) fun y=>some ((s,s_2,gA,o),y.1,()) else Option.bind (slave_answer ((s,s_2,(mkAg y.1),o),a,())) fun y_1=>some ((s,s_2,(mkAg y.1),o),y_1.1,())] else Option.bind (reply_Wrong (a.1,2,())) fun y=>some ((s,s_2,gA,o),y.1,()) else if eqi 272 a.2.1=true then Option.bind (agent_Read (a.2.2.2.2.1,())) fun y=>if nei y.2.1 0=true then Option.bind (reply_Wrong (a.1,3,())) fun y=>some ((s,s_2,gA,o),y.1,()) else amb (eqAs slave_serve_s.rs) [Option.bind (agent_Do (gA,y.1,())) fun y=>if nei y.2.1 0=true then Option.bind (reply_Wrong (a.1,4,())) fun y=>some ((s,s_2,gA,o),y.1,()) else Option.bind (slave_answer ((s,s_2,(mkAg y.1),o),a,())) fun y_1=>some ((s,s_2,(mkAg y.1),o),y_1.1,()),Option.bind (agent_Do (gA,y.1,())) fun y=>if nei y.2.1 0=true then Option.bind (reply_Wrong (a.1,4,())) fun y=>some ((s,s_2,gA,o),y.1,()) else Option.bind (slave_answer ((s,s_2,(mkAg y.1),o),a,())) fun y_1=>some ((s,s_2,(mkAg y.1),o),y_1.1,())] else if eqi 288 a.2.1=true then Option.bind (stage_Read (a.2.2.2.2.1,())) fun y=>if nei y.2.2.2.2.1 0=true then Option.bind (reply_Wrong (a.1,3,())) fun y=>some ((s,s_2,gA,o),y.1,()) else amb (eqAs slave_serve_s.rs) [Option.bind (agent_Put (gA,y.1,y.2.1,y.2.2.1,y.2.2.2.1,())) fun y=>if nei y.2.1 0=true then Option.bind (reply_Wrong (a.1,4,())) fun y=>some ((s,s_2,gA,o),y.1,()) else Option.bind (slave_answer ((s,s_2,(mkAg y.1),o),a,())) fun y_1=>some ((s,s_2,(mkAg y.1),o),y_1.1,()),Option.bind (agent_Put (gA,y.1,y.2.1,y.2.2.1,y.2.2.2.1,())) fun y=>if nei y.2.1 0=true then Option.bind (reply_Wrong (a.1,4,())) fun y=>some ((s,s_2,gA,o),y.1,()) else Option.bind (slave_answer ((s,s_2,(mkAg y.1),o),a,())) fun y_1=>some ((s,s_2,(mkAg y.1),o),y_1.1,())] else Option.bind (reply_Wrong (a.1,2,())) fun y=>some ((s,s_2,gA,o),y.1,())) (s_3,(s_4,s_5),s_6,s_7,s_8,(s_9,[s_10,s_11,s_12,s_13,s_14,s_15,s_16,s_17],[(s_18,s_19),(s_20,s_21),(s_22,s_23),(s_24,s_25),(s_26,s_27),(s_28,s_29),(s_30,s_31),(s_32,s_33)]),s_34)
def slave_serve_m0 (j1:Int->List Bool->Int->Int->List Int->Int->Int->Int->Int->Int->Int->Bool->Bool->Bool->Bool->Bool->Bool->Bool->Bool->Int->List Int->Int->List Int->Int->List Int->Int->List Int->Int->List Int->Int->List Int->Int->List Int->Int->List Int->Int->Int->Int->Int->Int->Int->Int->Int->Int->Bool->Bool->Bool->Bool->Bool->Bool->Bool->Bool->Int->Int->Int->Int->Int->Int->Int->Int->Int->Int->Int->Int->Int->Int×Int×Int×Int×List Int×List Bool->slave_serve_R) (s pdu:Int) (s_2:List Int) (pdu_2 v v_2 a except d:Int) (v_3 v_4 v_5 v_6 v_7 v_8 v_9 v_10:Bool) (v_11:Int) (v_12:List Int) (v_13:Int) (v_14:List Int) (v_15:Int) (v_16:List Int) (v_17:Int) (v_18:List Int) (v_19:Int) (v_20:List Int) (v_21:Int) (v_22:List Int) (v_23:Int) (v_24:List Int) (v_25:Int) (v_26:List Int) (v_27:Int) (v_28:List Int) (v_29:List Bool):slave_serve_R :=
 Option.bind (ask_Look (v_28,())) fun y=>if eqi y.2.1 0=true then Option.bind (slave_Space ()) fun y_1=>Option.bind (model_Check (y_1.1,y.1,())) fun y_2=>j1 y_2.1 v_29 s pdu s_2 pdu_2 v v_2 a except d v_3 v_4 v_5 v_6 v_7 v_8 v_9 v_10 v_11 v_12 v_13 v_14 v_15 v_16 v_17 v_18 v_19 v_20 v_21 v_22 v_23 v_24 v_25 v_26 v_27 0 0 0 0 0 0 0 0 false false false false false false false false 0 0 0 0 0 0 0 0 0 0 0 0 0 y.1 else j1 y.2.1 v_29 s pdu s_2 pdu_2 v v_2 a except d v_3 v_4 v_5 v_6 v_7 v_8 v_9 v_10 v_11 v_12 v_13 v_14 v_15 v_16 v_17 v_18 v_19 v_20 v_21 v_22 v_23 v_24 v_25 v_26 v_27 0 0 0 0 0 0 0 0 false false false false false false false false 0 0 0 0 0 0 0 0 0 0 0 0 0 y.1
def slave_serve_K1 (except:Int) (o:List Bool) (s s_2:Int) (s_3:List Int) (s_4 s_5 s_6 s_7 s_8 s_9:Int) (s_10 s_11 s_12 s_13 s_14 s_15 s_16 s_17:Bool) (s_18:Int) (s_19:List Int) (s_20:Int) (s_21:List Int) (s_22:Int) (s_23:List Int) (s_24:Int) (s_25:List Int) (s_26:Int) (s_27:List Int) (s_28:Int) (s_29:List Int) (s_30:Int) (s_31:List Int) (s_32:Int) (s_33:List Int) (s_34 t4 t4_2 t4_3 t4_4 t4_5 t4_6 t4_7 t4_8:Int) (t4_9 t4_10 t4_11 t4_12 t4_13 t4_14 t4_15 t4_16:Bool) (t4_17 t4_18 t4_19 t4_20 t4_21 t4_22 t4_23 t4_24 t4_25 t5 t5_2 t5_3 t5_4:Int) (a:Int×Int×Int×Int×List Int×List Bool):slave_serve_R:=slave_serve_m1 except o s s_2 s_3 s_4 s_5 s_6 s_7 s_8 s_9 s_10 s_11 s_12 s_13 s_14 s_15 s_16 s_17 s_18 s_19 s_20 s_21 s_22 s_23 s_24 s_25 s_26 s_27 s_28 s_29 s_30 s_31 s_32 s_33 s_34 t4 t4_2 t4_3 t4_4 t4_5 t4_6 t4_7 t4_8 t4_9 t4_10 t4_11 t4_12 t4_13 t4_14 t4_15 t4_16 t4_17 t4_18 t4_19 t4_20 t4_21 t4_22 t4_23 t4_24 t4_25 t5 t5_2 t5_3 t5_4 a
def slave_serve (x:As [.int .u8,.int .u8,.sl (.int .u16),.int .u16,.int .i64,.int .u8,.int .u32,.int .u32,.int .u32,.bool,.bool,.bool,.bool,.bool,.bool,.bool,.bool,.int .i64,.sl (.int .u16),.int .i64,.sl (.int .u16),.int .i64,.sl (.int .u16),.int .i64,.sl (.int .u16),.int .i64,.sl (.int .u16),.int .i64,.sl (.int .u16),.int .i64,.sl (.int .u16),.int .i64,.sl (.int .u16),.int .i64,.sl (.int .u8),.sl .bool]):slave_serve_R:=slave_serve_m0 slave_serve_K1 x.1 x.2.1 x.2.2.1 x.2.2.2.1 x.2.2.2.2.1 x.2.2.2.2.2.1 x.2.2.2.2.2.2.1 x.2.2.2.2.2.2.2.1 x.2.2.2.2.2.2.2.2.1 x.2.2.2.2.2.2.2.2.2.1 x.2.2.2.2.2.2.2.2.2.2.1 x.2.2.2.2.2.2.2.2.2.2.2.1 x.2.2.2.2.2.2.2.2.2.2.2.2.1 x.2.2.2.2.2.2.2.2.2.2.2.2.2.1 x.2.2.2.2.2.2.2.2.2.2.2.2.2.2.1 x.2.2.2.2.2.2.2.2.2.2.2.2.2.2.2.1 x.2.2.2.2.2.2.2.2.2.2.2.2.2.2.2.2.1 x.2.2.2.2.2.2.2.2.2.2.2.2.2.2.2.2.2.1 x.2.2.2.2.2.2.2.2.2.2.2.2.2.2.2.2.2.2.1 x.2.2.2.2.2.2.2.2.2.2.2.2.2.2.2.2.2.2.2.1 x.2.2.2.2.2.2.2.2.2.2.2.2.2.2.2.2.2.2.2.2.1 x.2.2.2.2.2.2.2.2.2.2.2.2.2.2.2.2.2.2.2.2.2.1 x.2.2.2.2.2.2.2.2.2.2.2.2.2.2.2.2.2.2.2.2.2.2.1 x.2.2.2.2.2.2.2.2.2.2.2.2.2.2.2.2.2.2.2.2.2.2.2.1 x.2.2.2.2.2.2.2.2.2.2.2.2.2.2.2.2.2.2.2.2.2.2.2.2.1 x.2.2.2.2.2.2.2.2.2.2.2.2.2.2.2.2.2.2.2.2.2.2.2.2.2.1 x.2.2.2.2.2.2.2.2.2.2.2.2.2.2.2.2.2.2.2.2.2.2.2.2.2.2.1 x.2.2.2.2.2.2.2.2.2.2.2.2.2.2.2.2.2.2.2.2.2.2.2.2.2.2.2.1 x.2.2.2.2.2.2.2.2.2.2.2.2.2.2.2.2.2.2.2.2.2.2.2.2.2.2.2.2.1 x.2.2.2.2.2.2.2.2.2.2.2.2.2.2.2.2.2.2.2.2.2.2.2.2.2.2.2.2.2.1 x.2.2.2.2.2.2.2.2.2.2.2.2.2.2.2.2.2.2.2.2.2.2.2.2.2.2.2.2.2.2.1 x.2.2.2.2.2.2.2.2.2.2.2.2.2.2.2.2.2.2.2.2.2.2.2.2.2.2.2.2.2.2.2.1 x.2.2.2.2.2.2.2.2.2.2.2.2.2.2.2.2.2.2.2.2.2.2.2.2.2.2.2.2.2.2.2.2.1 x.2.2.2.2.2.2.2.2.2.2.2.2.2.2.2.2.2.2.2.2.2.2.2.2.2.2.2.2.2.2.2.2.2.1 x.2.2.2.2.2.2.2.2.2.2.2.2.2.2.2.2.2.2.2.2.2.2.2.2.2.2.2.2.2.2.2.2.2.2.1 x.2.2.2.2.2.2.2.2.2.2.2.2.2.2.2.2.2.2.2.2.2.2.2.2.2.2.2.2.2.2.2.2.2.2.2.1
theorem slave_serve_c1 (J:Orc (As [.pr (.int .u8) (.pr (.int .u8) (.pr (.pr (.sl (.int .u16)) YTT0) (.sl .bool))),.pr (.int .u8) YTT3])) (except:Int) (o:List Bool) (s s_2:Int) (s_3:List Int) (s_4 s_5 s_6 s_7 s_8 s_9:Int) (s_10 s_11 s_12 s_13 s_14 s_15 s_16 s_17:Bool) (s_18:Int) (s_19:List Int) (s_20:Int) (s_21:List Int) (s_22:Int) (s_23:List Int) (s_24:Int) (s_25:List Int) (s_26:Int) (s_27:List Int) (s_28:Int) (s_29:List Int) (s_30:Int) (s_31:List Int) (s_32:Int) (s_33:List Int) (s_34 t4 t4_2 t4_3 t4_4 t4_5 t4_6 t4_7 t4_8:Int) (t4_9 t4_10 t4_11 t4_12 t4_13 t4_14 t4_15 t4_16:Bool) (t4_17 t4_18 t4_19 t4_20 t4_21 t4_22 t4_23 t4_24 t4_25 t5 t5_2 t5_3 t5_4:Int) (a:Int×Int×Int×Int×List Int×List Bool):pfn Tryz.prog slave_serve_e 6 18446744073709551616 (Ev.get slave_serve_h) 62 slave_serve_s J 7 [] (slave_serve_k1 except o s s_2 s_3 s_4 s_5 s_6 s_7 s_8 s_9 s_10 s_11 s_12 s_13 s_14 s_15 s_16 s_17 s_18 s_19 s_20 s_21 s_22 s_23 s_24 s_25 s_26 s_27 s_28 s_29 s_30 s_31 s_32 s_33 s_34 t4 t4_2 t4_3 t4_4 t4_5 t4_6 t4_7 t4_8 t4_9 t4_10 t4_11 t4_12 t4_13 t4_14 t4_15 t4_16 t4_17 t4_18 t4_19 t4_20 t4_21 t4_22 t4_23 t4_24 t4_25 t5 t5_2 t5_3 t5_4 a)=slave_serve_m1 except o s s_2 s_3 s_4 s_5 s_6 s_7 s_8 s_9 s_10 s_11 s_12 s_13 s_14 s_15 s_16 s_17 s_18 s_19 s_20 s_21 s_22 s_23 s_24 s_25 s_26 s_27 s_28 s_29 s_30 s_31 s_32 s_33 s_34 t4 t4_2 t4_3 t4_4 t4_5 t4_6 t4_7 t4_8 t4_9 t4_10 t4_11 t4_12 t4_13 t4_14 t4_15 t4_16 t4_17 t4_18 t4_19 t4_20 t4_21 t4_22 t4_23 t4_24 t4_25 t5 t5_2 t5_3 t5_4 a:=by kernel_rfl
theorem slave_serve_c0 (J:Orc (As [.pr (.int .u8) (.pr (.int .u8) (.pr (.pr (.sl (.int .u16)) YTT0) (.sl .bool))),.pr (.int .u8) YTT3])) (x:As [.int .u8,.int .u8,.sl (.int .u16),.int .u16,.int .i64,.int .u8,.int .u32,.int .u32,.int .u32,.bool,.bool,.bool,.bool,.bool,.bool,.bool,.bool,.int .i64,.sl (.int .u16),.int .i64,.sl (.int .u16),.int .i64,.sl (.int .u16),.int .i64,.sl (.int .u16),.int .i64,.sl (.int .u16),.int .i64,.sl (.int .u16),.int .i64,.sl (.int .u16),.int .i64,.sl (.int .u16),.int .i64,.sl (.int .u8),.sl .bool]):rfn Tryz.prog slave_serve_e 6 18446744073709551616 (Ev.get slave_serve_h) 62 slave_serve_s J x=slave_serve_m0 (fun except o s s_2 s_3 s_4 s_5 s_6 s_7 s_8 s_9 s_10 s_11 s_12 s_13 s_14 s_15 s_16 s_17 s_18 s_19 s_20 s_21 s_22 s_23 s_24 s_25 s_26 s_27 s_28 s_29 s_30 s_31 s_32 s_33 s_34 t4 t4_2 t4_3 t4_4 t4_5 t4_6 t4_7 t4_8 t4_9 t4_10 t4_11 t4_12 t4_13 t4_14 t4_15 t4_16 t4_17 t4_18 t4_19 t4_20 t4_21 t4_22 t4_23 t4_24 t4_25 t5 t5_2 t5_3 t5_4 a=>J 7 [] (slave_serve_k1 except o s s_2 s_3 s_4 s_5 s_6 s_7 s_8 s_9 s_10 s_11 s_12 s_13 s_14 s_15 s_16 s_17 s_18 s_19 s_20 s_21 s_22 s_23 s_24 s_25 s_26 s_27 s_28 s_29 s_30 s_31 s_32 s_33 s_34 t4 t4_2 t4_3 t4_4 t4_5 t4_6 t4_7 t4_8 t4_9 t4_10 t4_11 t4_12 t4_13 t4_14 t4_15 t4_16 t4_17 t4_18 t4_19 t4_20 t4_21 t4_22 t4_23 t4_24 t4_25 t5 t5_2 t5_3 t5_4 a)) x.1 x.2.1 x.2.2.1 x.2.2.2.1 x.2.2.2.2.1 x.2.2.2.2.2.1 x.2.2.2.2.2.2.1 x.2.2.2.2.2.2.2.1 x.2.2.2.2.2.2.2.2.1 x.2.2.2.2.2.2.2.2.2.1 x.2.2.2.2.2.2.2.2.2.2.1 x.2.2.2.2.2.2.2.2.2.2.2.1 x.2.2.2.2.2.2.2.2.2.2.2.2.1 x.2.2.2.2.2.2.2.2.2.2.2.2.2.1 x.2.2.2.2.2.2.2.2.2.2.2.2.2.2.1 x.2.2.2.2.2.2.2.2.2.2.2.2.2.2.2.1 x.2.2.2.2.2.2.2.2.2.2.2.2.2.2.2.2.1 x.2.2.2.2.2.2.2.2.2.2.2.2.2.2.2.2.2.1 x.2.2.2.2.2.2.2.2.2.2.2.2.2.2.2.2.2.2.1 x.2.2.2.2.2.2.2.2.2.2.2.2.2.2.2.2.2.2.2.1 x.2.2.2.2.2.2.2.2.2.2.2.2.2.2.2.2.2.2.2.2.1 x.2.2.2.2.2.2.2.2.2.2.2.2.2.2.2.2.2.2.2.2.2.1 x.2.2.2.2.2.2.2.2.2.2.2.2.2.2.2.2.2.2.2.2.2.2.1 x.2.2.2.2.2.2.2.2.2.2.2.2.2.2.2.2.2.2.2.2.2.2.2.1 x.2.2.2.2.2.2.2.2.2.2.2.2.2.2.2.2.2.2.2.2.2.2.2.2.1 x.2.2.2.2.2.2.2.2.2.2.2.2.2.2.2.2.2.2.2.2.2.2.2.2.2.1 x.2.2.2.2.2.2.2.2.2.2.2.2.2.2.2.2.2.2.2.2.2.2.2.2.2.2.1 x.2.2.2.2.2.2.2.2.2.2.2.2.2.2.2.2.2.2.2.2.2.2.2.2.2.2.2.1 x.2.2.2.2.2.2.2.2.2.2.2.2.2.2.2.2.2.2.2.2.2.2.2.2.2.2.2.2.1 x.2.2.2.2.2.2.2.2.2.2.2.2.2.2.2.2.2.2.2.2.2.2.2.2.2.2.2.2.2.1 x.2.2.2.2.2.2.2.2.2.2.2.2.2.2.2.2.2.2.2.2.2.2.2.2.2.2.2.2.2.2.1 x.2.2.2.2.2.2.2.2.2.2.2.2.2.2.2.2.2.2.2.2.2.2.2.2.2.2.2.2.2.2.2.1 x.2.2.2.2.2.2.2.2.2.2.2.2.2.2.2.2.2.2.2.2.2.2.2.2.2.2.2.2.2.2.2.2.1 x.2.2.2.2.2.2.2.2.2.2.2.2.2.2.2.2.2.2.2.2.2.2.2.2.2.2.2.2.2.2.2.2.2.1 x.2.2.2.2.2.2.2.2.2.2.2.2.2.2.2.2.2.2.2.2.2.2.2.2.2.2.2.2.2.2.2.2.2.2.1 x.2.2.2.2.2.2.2.2.2.2.2.2.2.2.2.2.2.2.2.2.2.2.2.2.2.2.2.2.2.2.2.2.2.2.2.1:=by kernel_rfl
theorem slave_serve_g1 (except:Int) (o:List Bool) (s s_2:Int) (s_3:List Int) (s_4 s_5 s_6 s_7 s_8 s_9:Int) (s_10 s_11 s_12 s_13 s_14 s_15 s_16 s_17:Bool) (s_18:Int) (s_19:List Int) (s_20:Int) (s_21:List Int) (s_22:Int) (s_23:List Int) (s_24:Int) (s_25:List Int) (s_26:Int) (s_27:List Int) (s_28:Int) (s_29:List Int) (s_30:Int) (s_31:List Int) (s_32:Int) (s_33:List Int) (s_34 t4 t4_2 t4_3 t4_4 t4_5 t4_6 t4_7 t4_8:Int) (t4_9 t4_10 t4_11 t4_12 t4_13 t4_14 t4_15 t4_16:Bool) (t4_17 t4_18 t4_19 t4_20 t4_21 t4_22 t4_23 t4_24 t4_25 t5 t5_2 t5_3 t5_4:Int) (a:Int×Int×Int×Int×List Int×List Bool):jfn Tryz.prog slave_serve_e 6 18446744073709551616 (Ev.get slave_serve_h) 62 slave_serve_s 7 [] (slave_serve_k1 except o s s_2 s_3 s_4 s_5 s_6 s_7 s_8 s_9 s_10 s_11 s_12 s_13 s_14 s_15 s_16 s_17 s_18 s_19 s_20 s_21 s_22 s_23 s_24 s_25 s_26 s_27 s_28 s_29 s_30 s_31 s_32 s_33 s_34 t4 t4_2 t4_3 t4_4 t4_5 t4_6 t4_7 t4_8 t4_9 t4_10 t4_11 t4_12 t4_13 t4_14 t4_15 t4_16 t4_17 t4_18 t4_19 t4_20 t4_21 t4_22 t4_23 t4_24 t4_25 t5 t5_2 t5_3 t5_4 a)=slave_serve_K1 except o s s_2 s_3 s_4 s_5 s_6 s_7 s_8 s_9 s_10 s_11 s_12 s_13 s_14 s_15 s_16 s_17 s_18 s_19 s_20 s_21 s_22 s_23 s_24 s_25 s_26 s_27 s_28 s_29 s_30 s_31 s_32 s_33 s_34 t4 t4_2 t4_3 t4_4 t4_5 t4_6 t4_7 t4_8 t4_9 t4_10 t4_11 t4_12 t4_13 t4_14 t4_15 t4_16 t4_17 t4_18 t4_19 t4_20 t4_21 t4_22 t4_23 t4_24 t4_25 t5 t5_2 t5_3 t5_4 a:=by
 rw [pfn_eq (by decide)]
 rw [slave_serve_c1]
 rfl
theorem slave_serve_t (x:As [.int .u8,.int .u8,.sl (.int .u16),.int .u16,.int .i64,.int .u8,.int .u32,.int .u32,.int .u32,.bool,.bool,.bool,.bool,.bool,.bool,.bool,.bool,.int .i64,.sl (.int .u16),.int .i64,.sl (.int .u16),.int .i64,.sl (.int .u16),.int .i64,.sl (.int .u16),.int .i64,.sl (.int .u16),.int .i64,.sl (.int .u16),.int .i64,.sl (.int .u16),.int .i64,.sl (.int .u16),.int .i64,.sl (.int .u8),.sl .bool]):evT Tryz.prog slave_serve_e 6 18446744073709551616 (Ev.get slave_serve_h) 62 slave_serve_s x=slave_serve x:=by
 have e1:(fun except o s s_2 s_3 s_4 s_5 s_6 s_7 s_8 s_9 s_10 s_11 s_12 s_13 s_14 s_15 s_16 s_17 s_18 s_19 s_20 s_21 s_22 s_23 s_24 s_25 s_26 s_27 s_28 s_29 s_30 s_31 s_32 s_33 s_34 t4 t4_2 t4_3 t4_4 t4_5 t4_6 t4_7 t4_8 t4_9 t4_10 t4_11 t4_12 t4_13 t4_14 t4_15 t4_16 t4_17 t4_18 t4_19 t4_20 t4_21 t4_22 t4_23 t4_24 t4_25 t5 t5_2 t5_3 t5_4 a=>(jfn Tryz.prog slave_serve_e 6 18446744073709551616 (Ev.get slave_serve_h) 62 slave_serve_s) 7 [] (slave_serve_k1 except o s s_2 s_3 s_4 s_5 s_6 s_7 s_8 s_9 s_10 s_11 s_12 s_13 s_14 s_15 s_16 s_17 s_18 s_19 s_20 s_21 s_22 s_23 s_24 s_25 s_26 s_27 s_28 s_29 s_30 s_31 s_32 s_33 s_34 t4 t4_2 t4_3 t4_4 t4_5 t4_6 t4_7 t4_8 t4_9 t4_10 t4_11 t4_12 t4_13 t4_14 t4_15 t4_16 t4_17 t4_18 t4_19 t4_20 t4_21 t4_22 t4_23 t4_24 t4_25 t5 t5_2 t5_3 t5_4 a))=slave_serve_K1:=by funext except o s s_2 s_3 s_4 s_5 s_6 s_7 s_8 s_9 s_10 s_11 s_12 s_13 s_14 s_15 s_16 s_17 s_18 s_19 s_20 s_21 s_22 s_23 s_24 s_25 s_26 s_27 s_28 s_29 s_30 s_31 s_32 s_33 s_34 t4 t4_2 t4_3 t4_4 t4_5 t4_6 t4_7 t4_8 t4_9 t4_10 t4_11 t4_12 t4_13 t4_14 t4_15 t4_16 t4_17 t4_18 t4_19 t4_20 t4_21 t4_22 t4_23 t4_24 t4_25 t5 t5_2 t5_3 t5_4 a; exact slave_serve_g1 except o s s_2 s_3 s_4 s_5 s_6 s_7 s_8 s_9 s_10 s_11 s_12 s_13 s_14 s_15 s_16 s_17 s_18 s_19 s_20 s_21 s_22 s_23 s_24 s_25 s_26 s_27 s_28 s_29 s_30 s_31 s_32 s_33 s_34 t4 t4_2 t4_3 t4_4 t4_5 t4_6 t4_7 t4_8 t4_9 t4_10 t4_11 t4_12 t4_13 t4_14 t4_15 t4_16 t4_17 t4_18 t4_19 t4_20 t4_21 t4_22 t4_23 t4_24 t4_25 t5 t5_2 t5_3 t5_4 a
 rw [rfn_eq,slave_serve_c0,e1]
 rfl
theorem slave_serve_ok:CtOk Tryz.prog (fun _=>True) 62 ⟨slave_serve_s,slave_serve⟩:=ct_of_ev (env_cons Ev.bx_ok (env_cons Ev.bx_ok (env_cons stage_Read_ok (env_cons slave_Space_ok (env_cons qq3_ (env_cons qgt_ (env_cons q9w_ (env_cons slave_answer_ok (env_cons agent_Read_ok (env_cons agent_Do_ok (env_cons agent_Put_ok env_nil))))))))))) slave_serve_t
def slave_own_m1 (self1:Int->Int->Int->List (Int×Int×YTT2×List Bool)->List (Int×Int×YTT2×List Bool)->Option (As [.pr (.int .u8) (.pr (.int .u8) (.pr (.pr (.sl (.int .u16)) YTT0) (.sl .bool)))])) (s t2 t15:Int) (s_2 t2_2:List (Int×Int×YTT2×List Bool)):Option (As [.pr (.int .u8) (.pr (.int .u8) (.pr (.pr (.sl (.int .u16)) YTT0) (.sl .bool)))]) :=
 if lt t15 8=true then need (ge t15 0) (need (lt t15 8) (Option.bind (at? s_2 s) fun y=>Option.bind (at? y.2.2.1.2.2.2.2.2.1.2.2 t15) fun z=>Option.bind (slices_Clone_Guint16 (z.2,())) fun y=>Option.bind (at? s_2 s) fun x=>Option.bind (at? x.2.2.1.2.2.2.2.2.1.2.2 t15) fun z=>self1 s t2 (add .i64 t15 1) (List.set s_2 (Int.toNat s) (x.1,x.2.1,(x.2.2.1.1,x.2.2.1.2.1,x.2.2.1.2.2.1,x.2.2.1.2.2.2.1,x.2.2.1.2.2.2.2.1,(x.2.2.1.2.2.2.2.2.1.1,x.2.2.1.2.2.2.2.2.1.2.1,List.set x.2.2.1.2.2.2.2.2.1.2.2 (Int.toNat t15) (z.1,y.1)),x.2.2.1.2.2.2.2.2.2),x.2.2.2)) t2_2)) else Option.bind (at? s_2 s) fun y=>Option.bind (at? t2_2 t2) fun x=>Option.bind (at? (List.set t2_2 (Int.toNat t2) y) t2) fun y_1=>Option.bind (at? (List.set t2_2 (Int.toNat t2) y) t2) fun y=>some (y,())
def slave_own_m0 (j1:Int->Int->Int->List (Int×Int×YTT2×List Bool)->List (Int×Int×YTT2×List Bool)->Option (As [.pr (.int .u8) (.pr (.int .u8) (.pr (.pr (.sl (.int .u16)) YTT0) (.sl .bool)))])) (s:Int×Int×YTT2×List Bool):Option (As [.pr (.int .u8) (.pr (.int .u8) (.pr (.pr (.sl (.int .u16)) YTT0) (.sl .bool)))]) :=
 Option.bind (slices_Clone_Gbool (s.2.2.2,())) fun y=>Option.bind (slices_Clone_Guint16 (s.2.2.1.1,())) fun y_1=>j1 0 0 0 [(s.1,s.2.1,(y_1.1,s.2.2.1.2),y.1)] [zSl]
def slave_own_K1 (s t2 t15:Int) (s_2 t2_2:List (Int×Int×YTT2×List Bool)):Option (As [.pr (.int .u8) (.pr (.int .u8) (.pr (.pr (.sl (.int .u16)) YTT0) (.sl .bool)))]) :=
 loopF (fun (self:(Int)×(Int)×(Int)×(List (Int×Int×YTT2×List Bool))×(List (Int×Int×YTT2×List Bool))->Option (As [.pr (.int .u8) (.pr (.int .u8) (.pr (.pr (.sl (.int .u16)) YTT0) (.sl .bool)))])) (s:(Int)×(Int)×(Int)×(List (Int×Int×YTT2×List Bool))×(List (Int×Int×YTT2×List Bool)))=>slave_own_m1 (fun s t2 t15 s_2 t2_2=>self (s,t2,t15,s_2,t2_2)) s.1 s.2.1 s.2.2.1 s.2.2.2.1 s.2.2.2.2) 18446744073709551616 (s,t2,t15,s_2,t2_2)
def slave_own (x:As [.pr (.int .u8) (.pr (.int .u8) (.pr (.pr (.sl (.int .u16)) YTT0) (.sl .bool)))]):Option (As [.pr (.int .u8) (.pr (.int .u8) (.pr (.pr (.sl (.int .u16)) YTT0) (.sl .bool)))]):=slave_own_m0 slave_own_K1 x.1
@[reducible] def slave_own_r_s:Sh:=⟨[.d (.pr (.int .u8) (.pr (.int .u8) (.pr (.pr (.sl (.int .u16)) YTT0) (.sl .bool))))],[],[.pr (.int .u8) (.pr (.int .u8) (.pr (.pr (.sl (.int .u16)) YTT0) (.sl .bool)))],[.agg [.d (.int .u8),.d (.int .u8),.d (.sl (.int .u16)),.d (.int .u16),.d (.int .i64),.d (.int .u8),.d (.int .u32),.d (.int .u32),.d (.int .u32),.d (.bool),.d (.bool),.d (.bool),.d (.bool),.d (.bool),.d (.bool),.d (.bool),.d (.bool),.d (.int .i64),.d (.sl (.int .u16)),.d (.int .i64),.d (.sl (.int .u16)),.d (.int .i64),.d (.sl (.int .u16)),.d (.int .i64),.d (.sl (.int .u16)),.d (.int .i64),.d (.sl (.int .u16)),.d (.int .i64),.d (.sl (.int .u16)),.d (.int .i64),.d (.sl (.int .u16)),.d (.int .i64),.d (.sl (.int .u16)),.d (.int .i64),.row 0]],[(0,.row .bool 4)],1,[.int .u8,.int .u8,.sl (.int .u16),.int .u16,.int .i64,.int .u8,.int .u32,.int .u32,.int .u32,.bool,.bool,.bool,.bool,.bool,.bool,.bool,.bool,.int .i64,.sl (.int .u16),.int .i64,.sl (.int .u16),.int .i64,.sl (.int .u16),.int .i64,.sl (.int .u16),.int .i64,.sl (.int .u16),.int .i64,.sl (.int .u16),.int .i64,.sl (.int .u16),.int .i64,.sl (.int .u16),.int .i64,.sl .bool]⟩
def slave_own_r_e:Env:=(cts [(1000038,Ev.bxCt),(1000194,Ev.bxCt),(130,(⟨q23_,slices_Clone_Gbool_r⟩:Ct)),(131,(⟨q13_,slices_Clone_Guint16⟩:Ct))])
def slave_own_r_h:List (Nat×Hint):=[]
def slave_own_r_m0 (s:Int×Int×YTT2×List Bool):Option (As [.int .u8,.int .u8,.sl (.int .u16),.int .u16,.int .i64,.int .u8,.int .u32,.int .u32,.int .u32,.bool,.bool,.bool,.bool,.bool,.bool,.bool,.bool,.int .i64,.sl (.int .u16),.int .i64,.sl (.int .u16),.int .i64,.sl (.int .u16),.int .i64,.sl (.int .u16),.int .i64,.sl (.int .u16),.int .i64,.sl (.int .u16),.int .i64,.sl (.int .u16),.int .i64,.sl (.int .u16),.int .i64,.sl .bool]) :=
 Option.bind (slices_Clone_Gbool_r (s.2.2.2,())) fun y=>Option.bind (slices_Clone_Guint16 (s.2.2.1.1,())) fun y_1=>Option.bind (slices_Clone_Guint16 ((List.getD s.2.2.1.2.2.2.2.2.1.2.2 0 (0,[])).2,())) fun y_2=>Option.bind (slices_Clone_Guint16 ((List.getD s.2.2.1.2.2.2.2.2.1.2.2 1 (0,[])).2,())) fun y_3=>Option.bind (slices_Clone_Guint16 ((List.getD s.2.2.1.2.2.2.2.2.1.2.2 2 (0,[])).2,())) fun y_4=>Option.bind (slices_Clone_Guint16 ((List.getD s.2.2.1.2.2.2.2.2.1.2.2 3 (0,[])).2,())) fun y_5=>Option.bind (slices_Clone_Guint16 ((List.getD s.2.2.1.2.2.2.2.2.1.2.2 4 (0,[])).2,())) fun y_6=>Option.bind (slices_Clone_Guint16 ((List.getD s.2.2.1.2.2.2.2.2.1.2.2 5 (0,[])).2,())) fun y_7=>Option.bind (slices_Clone_Guint16 ((List.getD s.2.2.1.2.2.2.2.2.1.2.2 6 (0,[])).2,())) fun y_8=>Option.bind (slices_Clone_Guint16 ((List.getD s.2.2.1.2.2.2.2.2.1.2.2 7 (0,[])).2,())) fun y_9=>some (s.1,s.2.1,y_1.1,s.2.2.1.2.1.1,s.2.2.1.2.1.2,s.2.2.1.2.2.1,s.2.2.1.2.2.2.1,s.2.2.1.2.2.2.2.1,s.2.2.1.2.2.2.2.2.1.1,List.getD s.2.2.1.2.2.2.2.2.1.2.1 0 false,List.getD s.2.2.1.2.2.2.2.2.1.2.1 1 false,List.getD s.2.2.1.2.2.2.2.2.1.2.1 2 false,List.getD s.2.2.1.2.2.2.2.2.1.2.1 3 false,List.getD s.2.2.1.2.2.2.2.2.1.2.1 4 false,List.getD s.2.2.1.2.2.2.2.2.1.2.1 5 false,List.getD s.2.2.1.2.2.2.2.2.1.2.1 6 false,List.getD s.2.2.1.2.2.2.2.2.1.2.1 7 false,(List.getD s.2.2.1.2.2.2.2.2.1.2.2 0 (0,[])).1,y_2.1,(List.getD s.2.2.1.2.2.2.2.2.1.2.2 1 (0,[])).1,y_3.1,(List.getD s.2.2.1.2.2.2.2.2.1.2.2 2 (0,[])).1,y_4.1,(List.getD s.2.2.1.2.2.2.2.2.1.2.2 3 (0,[])).1,y_5.1,(List.getD s.2.2.1.2.2.2.2.2.1.2.2 4 (0,[])).1,y_6.1,(List.getD s.2.2.1.2.2.2.2.2.1.2.2 5 (0,[])).1,y_7.1,(List.getD s.2.2.1.2.2.2.2.2.1.2.2 6 (0,[])).1,y_8.1,(List.getD s.2.2.1.2.2.2.2.2.1.2.2 7 (0,[])).1,y_9.1,s.2.2.1.2.2.2.2.2.2,y.1,())
def slave_own_r (x:As [.pr (.int .u8) (.pr (.int .u8) (.pr (.pr (.sl (.int .u16)) YTT0) (.sl .bool)))]):Option (As [.int .u8,.int .u8,.sl (.int .u16),.int .u16,.int .i64,.int .u8,.int .u32,.int .u32,.int .u32,.bool,.bool,.bool,.bool,.bool,.bool,.bool,.bool,.int .i64,.sl (.int .u16),.int .i64,.sl (.int .u16),.int .i64,.sl (.int .u16),.int .i64,.sl (.int .u16),.int .i64,.sl (.int .u16),.int .i64,.sl (.int .u16),.int .i64,.sl (.int .u16),.int .i64,.sl (.int .u16),.int .i64,.sl .bool]):=slave_own_r_m0 x.1
theorem slave_own_r_c0 (J:Orc (As [.int .u8,.int .u8,.sl (.int .u16),.int .u16,.int .i64,.int .u8,.int .u32,.int .u32,.int .u32,.bool,.bool,.bool,.bool,.bool,.bool,.bool,.bool,.int .i64,.sl (.int .u16),.int .i64,.sl (.int .u16),.int .i64,.sl (.int .u16),.int .i64,.sl (.int .u16),.int .i64,.sl (.int .u16),.int .i64,.sl (.int .u16),.int .i64,.sl (.int .u16),.int .i64,.sl (.int .u16),.int .i64,.sl .bool])) (x:As [.pr (.int .u8) (.pr (.int .u8) (.pr (.pr (.sl (.int .u16)) YTT0) (.sl .bool)))]):rfn Tryz.prog slave_own_r_e 6 18446744073709551616 (Ev.get slave_own_r_h) 63 slave_own_r_s J x=slave_own_r_m0 x.1:=by kernel_rfl
theorem slave_own_r_t (x:As [.pr (.int .u8) (.pr (.int .u8) (.pr (.pr (.sl (.int .u16)) YTT0) (.sl .bool)))]):evT Tryz.prog slave_own_r_e 6 18446744073709551616 (Ev.get slave_own_r_h) 63 slave_own_r_s x=slave_own_r x:=by
 rw [rfn_eq,slave_own_r_c0]
 rfl
theorem slave_own_r_ok:CtOk Tryz.prog (fun _=>True) 63 ⟨slave_own_r_s,slave_own_r⟩:=ct_of_ev (env_cons Ev.bx_ok (env_cons Ev.bx_ok (env_cons qa9_ (env_cons q4e_ env_nil)))) slave_own_r_t
@[reducible] def q1w_:Sh:=⟨[.d (.sl .bool),.d (.sl .bool)],[],[.sl .bool,.sl .bool],[.d (.bool)],[],0,[.bool]⟩
def q3r_:Env:=(cts [])
def q3x_:List (Nat×Hint):=[(58,⟨[],[0,1,12,13]⟩)]
def q2a_ (s1 s2:List Bool) (t12 t13:Int):St:={ fr:=[(0,.d (.sl .bool) s1),(1,.d (.sl .bool) s2),(12,.d (.int .i64) t12),(13,.d (.int .i64) t13)],nt:=26,up:=[],own:=[],nx:=0,log:=[],ln:=0 }
def q29_ (self1:List Bool->List Bool->Int->Int->Option (As [.bool])) (s1 s2:List Bool) (t12 t13:Int):Option (As [.bool]) :=
 if lt t13 t12=true then Option.bind (at? s1 t13) fun y=>Option.bind (at? s2 t13) fun y_1=>if Sx.neb y y_1=true then some (false,()) else self1 s1 s2 t12 (add .i64 t13 1) else some (true,())
def q55_ (j1:List Bool->List Bool->Int->Int->Option (As [.bool])) (s1 s2:List Bool):Option (As [.bool]) :=
 if nei (Int.ofNat (List.length s1)) (Int.ofNat (List.length s2))=true then some (false,()) else j1 s1 s2 (Int.ofNat (List.length s1)) 0
def q3d_ (s1 s2:List Bool) (t12 t13:Int):Option (As [.bool]) :=
 loopF (fun (self:(List Bool)×(List Bool)×(Int)×(Int)->Option (As [.bool])) (s:(List Bool)×(List Bool)×(Int)×(Int))=>q29_ (fun s1 s2 t12 t13=>self (s1,s2,t12,t13)) s.1 s.2.1 s.2.2.1 s.2.2.2) 18446744073709551616 (s1,s2,t12,t13)
def slices_Equal_Gbool (x:As [.sl .bool,.sl .bool]):Option (As [.bool]):=q55_ q3d_ x.1 x.2.1
theorem qh4_ (J:Orc (As [.bool])) (w1:St->Option (As [.bool])) (s1 s2:List Bool) (t12 t13:Int):pfn Tryz.prog q3r_ 6 18446744073709551616 (Ev.get q3x_) 90 q1w_ J 58 [w1] (q2a_ s1 s2 t12 t13)=q29_ (fun s1 s2 t12 t13=>w1 (q2a_ s1 s2 t12 t13)) s1 s2 t12 t13:=by kernel_rfl
theorem qgq_ (J:Orc (As [.bool])) (x:As [.sl .bool,.sl .bool]):rfn Tryz.prog q3r_ 6 18446744073709551616 (Ev.get q3x_) 90 q1w_ J x=q55_ (fun s1 s2 t12 t13=>J 58 [] (q2a_ s1 s2 t12 t13)) x.1 x.2.1:=by kernel_rfl
theorem qh3_ (s1 s2:List Bool) (t12 t13:Int):jfn Tryz.prog q3r_ 6 18446744073709551616 (Ev.get q3x_) 90 q1w_ 58 [] (q2a_ s1 s2 t12 t13)=q3d_ s1 s2 t12 t13:=by
 rw [pfn_eq (by decide)]
 rw [pfn_loop (by kernel_rfl)]
 refine loopF_sim (σ:=(List Bool)×(List Bool)×(Int)×(Int)) (mk:=fun s=>q2a_ s.1 s.2.1 s.2.2.1 s.2.2.2) (fun w1 s=>?_) 18446744073709551616 (s1,s2,t12,t13)
 refine (qh4_ _ w1 s.1 s.2.1 s.2.2.1 s.2.2.2).trans ?_
 rfl
theorem qhn_ (x:As [.sl .bool,.sl .bool]):evT Tryz.prog q3r_ 6 18446744073709551616 (Ev.get q3x_) 90 q1w_ x=slices_Equal_Gbool x:=by
 have e1:(fun s1 s2 t12 t13=>(jfn Tryz.prog q3r_ 6 18446744073709551616 (Ev.get q3x_) 90 q1w_) 58 [] (q2a_ s1 s2 t12 t13))=q3d_:=by funext s1 s2 t12 t13; exact qh3_ s1 s2 t12 t13
 rw [rfn_eq,qgq_,e1]
 rfl
theorem qgn_:CtOk Tryz.prog (fun _=>True) 90 ⟨q1w_,slices_Equal_Gbool⟩:=ct_of_ev env_nil qhn_
@[reducible] def q2y_:Sh:=⟨[.d (.pr (.int .u8) YTT3),.d (.pr (.int .u8) YTT3)],[],[.pr (.int .u8) YTT3,.pr (.int .u8) YTT3],[.d (.bool)],[],0,[.bool]⟩
def qj9_:Env:=(cts [(80,(⟨q15_,slices_Equal_Guint16⟩:Ct)),(90,(⟨q1w_,slices_Equal_Gbool⟩:Ct))])
def qjk_:List (Nat×Hint):=[]
def qbc_ (a b:Int×Int×List Bool×List Int×Int×Int):Option (As [.bool]) :=
 if eqi a.1 b.1=true then if eqi a.2.1 b.2.1=true then if eqi a.2.2.2.2.1 b.2.2.2.2.1=true then if eqi a.2.2.2.2.2 b.2.2.2.2.2=true then Option.bind (slices_Equal_Gbool (a.2.2.1,b.2.2.1,())) fun y=>if y.1=true then Option.bind (slices_Equal_Guint16 (a.2.2.2.1,b.2.2.2.1,())) fun y=>some (y.1,()) else some (false,()) else some (false,()) else some (false,()) else some (false,()) else some (false,())
def reply_Same (x:As [.pr (.int .u8) YTT3,.pr (.int .u8) YTT3]):Option (As [.bool]):=qbc_ x.1 x.2.1
theorem qmt_ (J:Orc (As [.bool])) (x:As [.pr (.int .u8) YTT3,.pr (.int .u8) YTT3]):rfn Tryz.prog qj9_ 6 18446744073709551616 (Ev.get qjk_) 69 q2y_ J x=qbc_ x.1 x.2.1:=by kernel_rfl
theorem qow_ (x:As [.pr (.int .u8) YTT3,.pr (.int .u8) YTT3]):evT Tryz.prog qj9_ 6 18446744073709551616 (Ev.get qjk_) 69 q2y_ x=reply_Same x:=by
 rw [rfn_eq,qmt_]
 rfl
theorem q57_:CtOk Tryz.prog (fun _=>True) 69 ⟨q2y_,reply_Same⟩:=ct_of_ev (env_cons qa6_ (env_cons qgn_ env_nil)) qow_
@[reducible] def q1p_:Sh:=⟨[.d (.un),.d (.pr (.int .u8) YTT3)],[],[.un,.pr (.int .u8) YTT3],[.d (.bool)],[],0,[.bool]⟩
def qa0_:Env:=(cts [(69,(⟨q2y_,reply_Same⟩:Ct)),(120,(⟨q56_,reply_Wrong⟩:Ct))])
def qa1_:List (Nat×Hint):=[]
def q3t_ (v:Unit) (r:Int×Int×List Bool×List Int×Int×Int):Option (As [.bool]) :=
 if lt r.1 128=true then if ge r.2.1 1=true then if le r.2.1 4=true then Option.bind (reply_Wrong (r.1,r.2.1,())) fun y=>Option.bind (reply_Same (r,y.1,())) fun y=>some (y.1,()) else some (false,()) else some (false,()) else some (false,())
def reply_exception_right (x:As [.un,.pr (.int .u8) YTT3]):Option (As [.bool]):=q3t_ x.1 x.2.1
theorem qf2_ (J:Orc (As [.bool])) (x:As [.un,.pr (.int .u8) YTT3]):rfn Tryz.prog qa0_ 6 18446744073709551616 (Ev.get qa1_) 254 q1p_ J x=q3t_ x.1 x.2.1:=by kernel_rfl
theorem qfk_ (x:As [.un,.pr (.int .u8) YTT3]):evT Tryz.prog qa0_ 6 18446744073709551616 (Ev.get qa1_) 254 q1p_ x=reply_exception_right x:=by
 rw [rfn_eq,qf2_]
 rfl
theorem q6j_:CtOk Tryz.prog (fun _=>True) 254 ⟨q1p_,reply_exception_right⟩:=ct_of_ev (env_cons q57_ (env_cons q9w_ env_nil)) qfk_
@[reducible] def q2p_:Sh:=⟨[.d (.un),.d (.pr (.int .u8) YTT3)],[],[.un,.pr (.int .u8) YTT3],[.d (.sl (.int .u8))],[],0,[.sl (.int .u8)]⟩
def qaa_:Env:=(cts [])
def qa8_:List (Nat×Hint):=[]
def q95_ (v:Unit) (r:Int×Int×List Bool×List Int×Int×Int):Option (As [.sl (.int .u8)]) :=
 some ([add .u8 r.1 128,r.2.1],())
def reply_exception_write (x:As [.un,.pr (.int .u8) YTT3]):Option (As [.sl (.int .u8)]):=q95_ x.1 x.2.1
theorem qf6_ (J:Orc (As [.sl (.int .u8)])) (x:As [.un,.pr (.int .u8) YTT3]):rfn Tryz.prog qaa_ 6 18446744073709551616 (Ev.get qa8_) 255 q2p_ J x=q95_ x.1 x.2.1:=by kernel_rfl
theorem qfj_ (x:As [.un,.pr (.int .u8) YTT3]):evT Tryz.prog qaa_ 6 18446744073709551616 (Ev.get qa8_) 255 q2p_ x=reply_exception_write x:=by
 rw [rfn_eq,qf6_]
 rfl
theorem q94_:CtOk Tryz.prog (fun _=>True) 255 ⟨q2p_,reply_exception_write⟩:=ct_of_ev env_nil qfj_
@[reducible] def q28_:Sh:=⟨[.d (.un),.d (.pr (.int .u8) YTT3)],[],[.un,.pr (.int .u8) YTT3],[.d (.bool)],[],0,[.bool]⟩
def qbr_:Env:=(cts [(69,(⟨q2y_,reply_Same⟩:Ct))])
def qbs_:List (Nat×Hint):=[]
def q4o_ (v:Unit) (r:Int×Int×List Bool×List Int×Int×Int):Option (As [.bool]) :=
 if ge (Int.ofNat (List.length r.2.2.1)) 8=true then if le (Int.ofNat (List.length r.2.2.1)) 2000=true then if eqi (rem (Int.ofNat (List.length r.2.2.1)) 8) 0=true then Option.bind (reply_Same (r,(r.1,0,r.2.2.1,[],0,0),())) fun y=>some (y.1,()) else some (false,()) else some (false,()) else some (false,())
def reply_bitList_right (x:As [.un,.pr (.int .u8) YTT3]):Option (As [.bool]):=q4o_ x.1 x.2.1
theorem qg4_ (J:Orc (As [.bool])) (x:As [.un,.pr (.int .u8) YTT3]):rfn Tryz.prog qbr_ 6 18446744073709551616 (Ev.get qbs_) 267 q28_ J x=q4o_ x.1 x.2.1:=by kernel_rfl
theorem qgr_ (x:As [.un,.pr (.int .u8) YTT3]):evT Tryz.prog qbr_ 6 18446744073709551616 (Ev.get qbs_) 267 q28_ x=reply_bitList_right x:=by
 rw [rfn_eq,qg4_]
 rfl
theorem q7c_:CtOk Tryz.prog (fun _=>True) 267 ⟨q28_,reply_bitList_right⟩:=ct_of_ev (env_cons q57_ env_nil) qgr_
@[reducible] def q3f_:Sh:=⟨[.d (.un),.d (.pr (.int .u8) YTT3)],[],[.un,.pr (.int .u8) YTT3],[.d (.sl (.int .u8))],[],0,[.sl (.int .u8)]⟩
def qc1_:Env:=(cts [(61,(⟨q3n_,ask_Pack⟩:Ct))])
def qbu_:List (Nat×Hint):=[]
def q4m_ (v:Unit) (r:Int×Int×List Bool×List Int×Int×Int):Option (As [.sl (.int .u8)]) :=
 Option.bind (ask_Pack (r.2.2.1,())) fun y=>need (small (Nat.succ (Nat.succ 0) + List.length y.1)) (some (r.1::cvt .u8 (Int.ofNat (List.length y.1))::y.1,()))
def reply_bitList_write (x:As [.un,.pr (.int .u8) YTT3]):Option (As [.sl (.int .u8)]):=q4m_ x.1 x.2.1
theorem qg9_ (J:Orc (As [.sl (.int .u8)])) (x:As [.un,.pr (.int .u8) YTT3]):rfn Tryz.prog qc1_ 6 18446744073709551616 (Ev.get qbu_) 268 q3f_ J x=q4m_ x.1 x.2.1:=by kernel_rfl
theorem qgw_ (x:As [.un,.pr (.int .u8) YTT3]):evT Tryz.prog qc1_ 6 18446744073709551616 (Ev.get qbu_) 268 q3f_ x=reply_bitList_write x:=by
 rw [rfn_eq,qg9_]
 rfl
theorem qan_:CtOk Tryz.prog (fun _=>True) 268 ⟨q3f_,reply_bitList_write⟩:=ct_of_ev (env_cons qk1_ env_nil) qgw_
@[reducible] def q22_:Sh:=⟨[.d (.un),.d (.pr (.int .u8) YTT3)],[],[.un,.pr (.int .u8) YTT3],[.d (.bool)],[],0,[.bool]⟩
def qar_:Env:=(cts [(69,(⟨q2y_,reply_Same⟩:Ct))])
def qak_:List (Nat×Hint):=[]
def q4a_ (v:Unit) (r:Int×Int×List Bool×List Int×Int×Int):Option (As [.bool]) :=
 if ge (Int.ofNat (List.length r.2.2.2.1)) 1=true then if le (Int.ofNat (List.length r.2.2.2.1)) 125=true then Option.bind (reply_Same (r,(r.1,0,[],r.2.2.2.1,0,0),())) fun y=>some (y.1,()) else some (false,()) else some (false,())
def reply_wordList_right (x:As [.un,.pr (.int .u8) YTT3]):Option (As [.bool]):=q4a_ x.1 x.2.1
theorem qfs_ (J:Orc (As [.bool])) (x:As [.un,.pr (.int .u8) YTT3]):rfn Tryz.prog qar_ 6 18446744073709551616 (Ev.get qak_) 270 q22_ J x=q4a_ x.1 x.2.1:=by kernel_rfl
theorem qfx_ (x:As [.un,.pr (.int .u8) YTT3]):evT Tryz.prog qar_ 6 18446744073709551616 (Ev.get qak_) 270 q22_ x=reply_wordList_right x:=by
 rw [rfn_eq,qfs_]
 rfl
theorem q6n_:CtOk Tryz.prog (fun _=>True) 270 ⟨q22_,reply_wordList_right⟩:=ct_of_ev (env_cons q57_ env_nil) qfx_
@[reducible] def q1k_:Sh:=⟨[.row 0,.d (.sl (.int .u16))],[.row (.int .u8) 5],[.sl (.int .u16),.sl (.int .u8)],[.row 1],[(1,.row (.int .u8) 5)],1,[.sl (.int .u8)]⟩
def q79_:Env:=(cts [])
def q77_:List (Nat×Hint):=[(26,⟨[.unl 0],[0,7,8,9]⟩)]
def q4l_ (t7:List Int) (t8 t9:Int) (out:List Int):St:={ fr:=[(0,.row 1),(7,.d (.sl (.int .u16)) t7),(8,.d (.int .i64) t8),(9,.d (.int .i64) t9)],nt:=23,up:=[],own:=[(1,.row (.int .u8) 5 out)],nx:=2,log:=[],ln:=1 }
def q4g_ (self1:List Int->Int->Int->List Int->Option (As [.sl (.int .u8)])) (t7:List Int) (t8 t9:Int) (out:List Int):Option (As [.sl (.int .u8)]) :=
 if lt t9 t8=true then Option.bind (at? t7 t9) fun y=>need (small (List.length out + Nat.succ (Nat.succ 0))) (self1 t7 t8 (add .i64 t9 1) (out++[cvt .u8 (Sx.shr .u16 y 8),cvt .u8 y])) else some (out,())
def q7y_ (j1:List Int->Int->Int->List Int->Option (As [.sl (.int .u8)])) (out l:List Int):Option (As [.sl (.int .u8)]) :=
 j1 out (Int.ofNat (List.length out)) 0 l
def q6i_ (t7:List Int) (t8 t9:Int) (out:List Int):Option (As [.sl (.int .u8)]) :=
 loopF (fun (self:(List Int)×(Int)×(Int)×(List Int)->Option (As [.sl (.int .u8)])) (s:(List Int)×(Int)×(Int)×(List Int))=>q4g_ (fun t7 t8 t9 out=>self (t7,t8,t9,out)) s.1 s.2.1 s.2.2.1 s.2.2.2) 18446744073709551616 (t7,t8,t9,out)
def reply_numbers (x:As [.sl (.int .u16),.sl (.int .u8)]):Option (As [.sl (.int .u8)]):=q7y_ q6i_ x.1 x.2.1
theorem qkz_ (J:Orc (As [.sl (.int .u8)])) (w1:St->Option (As [.sl (.int .u8)])) (t7:List Int) (t8 t9:Int) (out:List Int):pfn Tryz.prog q79_ 6 18446744073709551616 (Ev.get q77_) 273 q1k_ J 26 [w1] (q4l_ t7 t8 t9 out)=q4g_ (fun t7 t8 t9 out=>w1 (q4l_ t7 t8 t9 out)) t7 t8 t9 out:=by kernel_rfl
theorem qkq_ (J:Orc (As [.sl (.int .u8)])) (x:As [.sl (.int .u16),.sl (.int .u8)]):rfn Tryz.prog q79_ 6 18446744073709551616 (Ev.get q77_) 273 q1k_ J x=q7y_ (fun t7 t8 t9 out=>J 26 [] (q4l_ t7 t8 t9 out)) x.1 x.2.1:=by kernel_rfl
theorem qkl_ (t7:List Int) (t8 t9:Int) (out:List Int):jfn Tryz.prog q79_ 6 18446744073709551616 (Ev.get q77_) 273 q1k_ 26 [] (q4l_ t7 t8 t9 out)=q6i_ t7 t8 t9 out:=by
 rw [pfn_eq (by decide)]
 rw [pfn_loop (by kernel_rfl)]
 refine loopF_sim (σ:=(List Int)×(Int)×(Int)×(List Int)) (mk:=fun s=>q4l_ s.1 s.2.1 s.2.2.1 s.2.2.2) (fun w1 s=>?_) 18446744073709551616 (t7,t8,t9,out)
 refine (qkz_ _ w1 s.1 s.2.1 s.2.2.1 s.2.2.2).trans ?_
 rfl
theorem qlc_ (x:As [.sl (.int .u16),.sl (.int .u8)]):evT Tryz.prog q79_ 6 18446744073709551616 (Ev.get q77_) 273 q1k_ x=reply_numbers x:=by
 have e1:(fun t7 t8 t9 out=>(jfn Tryz.prog q79_ 6 18446744073709551616 (Ev.get q77_) 273 q1k_) 26 [] (q4l_ t7 t8 t9 out))=q6i_:=by funext t7 t8 t9 out; exact qkl_ t7 t8 t9 out
 rw [rfn_eq,qkq_,e1]
 rfl
theorem q8h_:CtOk Tryz.prog (fun _=>True) 273 ⟨q1k_,reply_numbers⟩:=ct_of_ev env_nil qlc_
@[reducible] def q2x_:Sh:=⟨[.d (.un),.d (.pr (.int .u8) YTT3)],[],[.un,.pr (.int .u8) YTT3],[.d (.sl (.int .u8))],[],0,[.sl (.int .u8)]⟩
def qat_:Env:=(cts [(273,(⟨q1k_,reply_numbers⟩:Ct))])
def qai_:List (Nat×Hint):=[]
def q4d_ (v:Unit) (r:Int×Int×List Bool×List Int×Int×Int):Option (As [.sl (.int .u8)]) :=
 Option.bind (reply_numbers (r.2.2.2.1,[r.1,cvt .u8 (mul .i64 2 (Int.ofNat (List.length r.2.2.2.1)))],())) fun y=>some (y.1,())
def reply_wordList_write (x:As [.un,.pr (.int .u8) YTT3]):Option (As [.sl (.int .u8)]):=q4d_ x.1 x.2.1
theorem qfu_ (J:Orc (As [.sl (.int .u8)])) (x:As [.un,.pr (.int .u8) YTT3]):rfn Tryz.prog qat_ 6 18446744073709551616 (Ev.get qai_) 271 q2x_ J x=q4d_ x.1 x.2.1:=by kernel_rfl
theorem qg3_ (x:As [.un,.pr (.int .u8) YTT3]):evT Tryz.prog qat_ 6 18446744073709551616 (Ev.get qai_) 271 q2x_ x=reply_wordList_write x:=by
 rw [rfn_eq,qfu_]
 rfl
theorem qa7_:CtOk Tryz.prog (fun _=>True) 271 ⟨q2x_,reply_wordList_write⟩:=ct_of_ev (env_cons q8h_ env_nil) qg3_
@[reducible] def q2l_:Sh:=⟨[.d (.un),.d (.pr (.int .u8) YTT3)],[],[.un,.pr (.int .u8) YTT3],[.d (.bool)],[],0,[.bool]⟩
def qcb_:Env:=(cts [(69,(⟨q2y_,reply_Same⟩:Ct))])
def qcr_:List (Nat×Hint):=[]
def q4y_ (v:Unit) (r:Int×Int×List Bool×List Int×Int×Int):Option (As [.bool]) :=
 if eqi (Int.ofNat (List.length r.2.2.1)) 1=true then Option.bind (reply_Same (r,(r.1,0,r.2.2.1,[],r.2.2.2.2.1,0),())) fun y=>some (y.1,()) else some (false,())
def reply_oneBit_right (x:As [.un,.pr (.int .u8) YTT3]):Option (As [.bool]):=q4y_ x.1 x.2.1
theorem qgl_ (J:Orc (As [.bool])) (x:As [.un,.pr (.int .u8) YTT3]):rfn Tryz.prog qcb_ 6 18446744073709551616 (Ev.get qcr_) 275 q2l_ J x=q4y_ x.1 x.2.1:=by kernel_rfl
theorem qhf_ (x:As [.un,.pr (.int .u8) YTT3]):evT Tryz.prog qcb_ 6 18446744073709551616 (Ev.get qcr_) 275 q2l_ x=reply_oneBit_right x:=by
 rw [rfn_eq,qgl_]
 rfl
theorem q7k_:CtOk Tryz.prog (fun _=>True) 275 ⟨q2l_,reply_oneBit_right⟩:=ct_of_ev (env_cons q57_ env_nil) qhf_
@[reducible] def q1a_:Sh:=⟨[.d (.un),.d (.pr (.int .u8) YTT3)],[],[.un,.pr (.int .u8) YTT3],[.d (.sl (.int .u8))],[],0,[.sl (.int .u8)]⟩
def q3w_:Env:=(cts [(273,(⟨q1k_,reply_numbers⟩:Ct))])
def q3s_:List (Nat×Hint):=[(7,⟨[],[3,5]⟩)]
def q52_ (x r r_2:Int) (r_3:List Bool) (r_4:List Int) (r_5 r_6:Int):St:={ fr:=[(3,.pb 0 0),(5,.d (.int .u16) x)],nt:=18,up:=[],own:=[(0,.box 46 [.d (.int .u8) r,.d (.int .u8) r_2,.d (.sl .bool) r_3,.d (.sl (.int .u16)) r_4,.d (.int .u16) r_5,.d (.int .u16) r_6])],nx:=1,log:=[],ln:=0 }
def q7q_ (x r r_2:Int) (r_3:List Bool) (r_4:List Int) (r_5 r_6:Int):Option (As [.sl (.int .u8)]) :=
 Option.bind (reply_numbers ([r_5,x],[r],())) fun y=>some (y.1,())
def q53_ (j1:Int->Int->Int->List Bool->List Int->Int->Int->Option (As [.sl (.int .u8)])) (v:Unit) (r:Int×Int×List Bool×List Int×Int×Int):Option (As [.sl (.int .u8)]) :=
 Option.bind (at? r.2.2.1 0) fun y=>if y=true then j1 65280 r.1 r.2.1 r.2.2.1 r.2.2.2.1 r.2.2.2.2.1 r.2.2.2.2.2 else j1 0 r.1 r.2.1 r.2.2.1 r.2.2.2.1 r.2.2.2.2.1 r.2.2.2.2.2
def q27_ (x r r_2:Int) (r_3:List Bool) (r_4:List Int) (r_5 r_6:Int):Option (As [.sl (.int .u8)]):=q7q_ x r r_2 r_3 r_4 r_5 r_6
def reply_oneBit_write (x:As [.un,.pr (.int .u8) YTT3]):Option (As [.sl (.int .u8)]):=q53_ q27_ x.1 x.2.1
theorem qh6_ (J:Orc (As [.sl (.int .u8)])) (x r r_2:Int) (r_3:List Bool) (r_4:List Int) (r_5 r_6:Int):pfn Tryz.prog q3w_ 6 18446744073709551616 (Ev.get q3s_) 276 q1a_ J 7 [] (q52_ x r r_2 r_3 r_4 r_5 r_6)=q7q_ x r r_2 r_3 r_4 r_5 r_6:=by kernel_rfl
theorem qh7_ (J:Orc (As [.sl (.int .u8)])) (x:As [.un,.pr (.int .u8) YTT3]):rfn Tryz.prog q3w_ 6 18446744073709551616 (Ev.get q3s_) 276 q1a_ J x=q53_ (fun x r r_2 r_3 r_4 r_5 r_6=>J 7 [] (q52_ x r r_2 r_3 r_4 r_5 r_6)) x.1 x.2.1:=by kernel_rfl
theorem qgu_ (x r r_2:Int) (r_3:List Bool) (r_4:List Int) (r_5 r_6:Int):jfn Tryz.prog q3w_ 6 18446744073709551616 (Ev.get q3s_) 276 q1a_ 7 [] (q52_ x r r_2 r_3 r_4 r_5 r_6)=q27_ x r r_2 r_3 r_4 r_5 r_6:=by
 rw [pfn_eq (by decide)]
 rw [qh6_]
 rfl
theorem qhu_ (x:As [.un,.pr (.int .u8) YTT3]):evT Tryz.prog q3w_ 6 18446744073709551616 (Ev.get q3s_) 276 q1a_ x=reply_oneBit_write x:=by
 have e1:(fun x r r_2 r_3 r_4 r_5 r_6=>(jfn Tryz.prog q3w_ 6 18446744073709551616 (Ev.get q3s_) 276 q1a_) 7 [] (q52_ x r r_2 r_3 r_4 r_5 r_6))=q27_:=by funext x r r_2 r_3 r_4 r_5 r_6; exact qgu_ x r r_2 r_3 r_4 r_5 r_6
 rw [rfn_eq,qh7_,e1]
 rfl
theorem qc2_:CtOk Tryz.prog (fun _=>True) 276 ⟨q1a_,reply_oneBit_write⟩:=ct_of_ev (env_cons q8h_ env_nil) qhu_
@[reducible] def q2b_:Sh:=⟨[.d (.un),.d (.pr (.int .u8) YTT3)],[],[.un,.pr (.int .u8) YTT3],[.d (.bool)],[],0,[.bool]⟩
def qbq_:Env:=(cts [(69,(⟨q2y_,reply_Same⟩:Ct))])
def qbv_:List (Nat×Hint):=[]
def q4t_ (v:Unit) (r:Int×Int×List Bool×List Int×Int×Int):Option (As [.bool]) :=
 if eqi (Int.ofNat (List.length r.2.2.2.1)) 1=true then Option.bind (reply_Same (r,(r.1,0,[],r.2.2.2.1,r.2.2.2.2.1,0),())) fun y=>some (y.1,()) else some (false,())
def reply_oneWord_right (x:As [.un,.pr (.int .u8) YTT3]):Option (As [.bool]):=q4t_ x.1 x.2.1
theorem qga_ (J:Orc (As [.bool])) (x:As [.un,.pr (.int .u8) YTT3]):rfn Tryz.prog qbq_ 6 18446744073709551616 (Ev.get qbv_) 278 q2b_ J x=q4t_ x.1 x.2.1:=by kernel_rfl
theorem qgx_ (x:As [.un,.pr (.int .u8) YTT3]):evT Tryz.prog qbq_ 6 18446744073709551616 (Ev.get qbv_) 278 q2b_ x=reply_oneWord_right x:=by
 rw [rfn_eq,qga_]
 rfl
theorem q7b_:CtOk Tryz.prog (fun _=>True) 278 ⟨q2b_,reply_oneWord_right⟩:=ct_of_ev (env_cons q57_ env_nil) qgx_
@[reducible] def q2c_:Sh:=⟨[.d (.un),.d (.pr (.int .u8) YTT3)],[],[.un,.pr (.int .u8) YTT3],[.d (.sl (.int .u8))],[],0,[.sl (.int .u8)]⟩
def qbw_:Env:=(cts [(273,(⟨q1k_,reply_numbers⟩:Ct))])
def qbx_:List (Nat×Hint):=[]
def q4n_ (v:Unit) (r:Int×Int×List Bool×List Int×Int×Int):Option (As [.sl (.int .u8)]) :=
 Option.bind (at? r.2.2.2.1 0) fun y=>amb (eqAs q2c_.rs) [Option.bind (reply_numbers ([r.2.2.2.2.1,y],[r.1],())) fun y=>some (y.1,()),Option.bind (reply_numbers ([r.2.2.2.2.1,y],[r.1],())) fun y=>some (y.1,())]
def reply_oneWord_write (x:As [.un,.pr (.int .u8) YTT3]):Option (As [.sl (.int .u8)]):=q4n_ x.1 x.2.1
theorem qgb_ (J:Orc (As [.sl (.int .u8)])) (x:As [.un,.pr (.int .u8) YTT3]):rfn Tryz.prog qbw_ 6 18446744073709551616 (Ev.get qbx_) 279 q2c_ J x=q4n_ x.1 x.2.1:=by kernel_rfl
theorem qh9_ (x:As [.un,.pr (.int .u8) YTT3]):evT Tryz.prog qbw_ 6 18446744073709551616 (Ev.get qbx_) 279 q2c_ x=reply_oneWord_write x:=by
 rw [rfn_eq,qgb_]
 rfl
theorem qah_:CtOk Tryz.prog (fun _=>True) 279 ⟨q2c_,reply_oneWord_write⟩:=ct_of_ev (env_cons q8h_ env_nil) qh9_
@[reducible] def q2w_:Sh:=⟨[.d (.wr (.int .u16)),.d (.pr (.int .u8) YTT3)],[],[.wr (.int .u16),.pr (.int .u8) YTT3],[.d (.bool)],[],0,[.bool]⟩
def qd9_:Env:=(cts [(69,(⟨q2y_,reply_Same⟩:Ct))])
def qda_:List (Nat×Hint):=[]
def q5h_ (k:Int) (r:Int×Int×List Bool×List Int×Int×Int):Option (As [.bool]) :=
 if ge r.2.2.2.2.2 1=true then if le r.2.2.2.2.2 k=true then Option.bind (reply_Same (r,(r.1,0,[],[],r.2.2.2.2),())) fun y=>some (y.1,()) else some (false,()) else some (false,())
def reply_count_right (x:As [.wr (.int .u16),.pr (.int .u8) YTT3]):Option (As [.bool]):=q5h_ x.1 x.2.1
theorem qhm_ (J:Orc (As [.bool])) (x:As [.wr (.int .u16),.pr (.int .u8) YTT3]):rfn Tryz.prog qd9_ 6 18446744073709551616 (Ev.get qda_) 281 q2w_ J x=q5h_ x.1 x.2.1:=by kernel_rfl
theorem qiw_ (x:As [.wr (.int .u16),.pr (.int .u8) YTT3]):evT Tryz.prog qd9_ 6 18446744073709551616 (Ev.get qda_) 281 q2w_ x=reply_count_right x:=by
 rw [rfn_eq,qhm_]
 rfl
theorem q84_:CtOk Tryz.prog (fun _=>True) 281 ⟨q2w_,reply_count_right⟩:=ct_of_ev (env_cons q57_ env_nil) qiw_
@[reducible] def q4f_:Sh:=⟨[.d (.wr (.int .u16)),.d (.pr (.int .u8) YTT3)],[],[.wr (.int .u16),.pr (.int .u8) YTT3],[.d (.sl (.int .u8))],[],0,[.sl (.int .u8)]⟩
def qdb_:Env:=(cts [(273,(⟨q1k_,reply_numbers⟩:Ct))])
def qd8_:List (Nat×Hint):=[]
def q5l_ (v:Int) (r:Int×Int×List Bool×List Int×Int×Int):Option (As [.sl (.int .u8)]) :=
 Option.bind (reply_numbers ([r.2.2.2.2.1,r.2.2.2.2.2],[r.1],())) fun y=>some (y.1,())
def reply_count_write (x:As [.wr (.int .u16),.pr (.int .u8) YTT3]):Option (As [.sl (.int .u8)]):=q5l_ x.1 x.2.1
theorem qhv_ (J:Orc (As [.sl (.int .u8)])) (x:As [.wr (.int .u16),.pr (.int .u8) YTT3]):rfn Tryz.prog qdb_ 6 18446744073709551616 (Ev.get qd8_) 282 q4f_ J x=q5l_ x.1 x.2.1:=by kernel_rfl
theorem qix_ (x:As [.wr (.int .u16),.pr (.int .u8) YTT3]):evT Tryz.prog qdb_ 6 18446744073709551616 (Ev.get qd8_) 282 q4f_ x=reply_count_write x:=by
 rw [rfn_eq,qhv_]
 rfl
theorem qd0_:CtOk Tryz.prog (fun _=>True) 282 ⟨q4f_,reply_count_write⟩:=ct_of_ev (env_cons q8h_ env_nil) qix_
@[reducible] def qba_:Sh:=⟨[.d (.pr (.int .u8) YTT3)],[],[.pr (.int .u8) YTT3],[.d (.sl (.int .u8)),.d (.int .i64)],[],0,[.sl (.int .u8),.int .i64]⟩
def qi1_:Env:=(cts [(254,(⟨q1p_,reply_exception_right⟩:Ct)),(255,(⟨q2p_,reply_exception_write⟩:Ct)),(267,(⟨q28_,reply_bitList_right⟩:Ct)),(268,(⟨q3f_,reply_bitList_write⟩:Ct)),(270,(⟨q22_,reply_wordList_right⟩:Ct)),(271,(⟨q2x_,reply_wordList_write⟩:Ct)),(275,(⟨q2l_,reply_oneBit_right⟩:Ct)),(276,(⟨q1a_,reply_oneBit_write⟩:Ct)),(278,(⟨q2b_,reply_oneWord_right⟩:Ct)),(279,(⟨q2c_,reply_oneWord_write⟩:Ct)),(281,(⟨q2w_,reply_count_right⟩:Ct)),(282,(⟨q4f_,reply_count_write⟩:Ct))])
def qi0_:List (Nat×Hint):=[]
def q9u_ (r:Int×Int×List Bool×List Int×Int×Int):Option (As [.sl (.int .u8),.int .i64]) :=
 if nei r.2.1 0=true then Option.bind (reply_exception_right ((),r,())) fun y=>if y.1=true then Option.bind (reply_exception_write ((),r,())) fun y=>some (y.1,0,()) else some ([],13,()) else if eqi r.1 1=true then Option.bind (reply_bitList_right ((),r,())) fun y=>if y.1=true then Option.bind (reply_bitList_write ((),r,())) fun y=>some (y.1,0,()) else some ([],13,()) else if eqi r.1 2=true then Option.bind (reply_bitList_right ((),r,())) fun y=>if y.1=true then Option.bind (reply_bitList_write ((),r,())) fun y=>some (y.1,0,()) else some ([],13,()) else if eqi r.1 3=true then Option.bind (reply_wordList_right ((),r,())) fun y=>if y.1=true then Option.bind (reply_wordList_write ((),r,())) fun y=>some (y.1,0,()) else some ([],13,()) else if eqi r.1 4=true then Option.bind (reply_wordList_right ((),r,())) fun y=>if y.1=true then Option.bind (reply_wordList_write ((),r,())) fun y=>some (y.1,0,()) else some ([],13,()) else if eqi r.1 23=true then Option.bind (reply_wordList_right ((),r,())) fun y=>if y.1=true then Option.bind (reply_wordList_write ((),r,())) fun y=>some (y.1,0,()) else some ([],13,()) else if eqi r.1 5=true then Option.bind (reply_oneBit_right ((),r,())) fun y=>if y.1=true then Option.bind (reply_oneBit_write ((),r,())) fun y=>some (y.1,0,()) else some ([],13,()) else if eqi r.1 6=true then Option.bind (reply_oneWord_right ((),r,())) fun y=>if y.1=true then Option.bind (reply_oneWord_write ((),r,())) fun y=>some (y.1,0,()) else some ([],13,()) else if eqi r.1 15=true then Option.bind (reply_count_right (1968,r,())) fun y=>if y.1=true then Option.bind (reply_count_write (1968,r,())) fun y=>some (y.1,0,()) else some ([],13,()) else if eqi r.1 16=true then Option.bind (reply_count_right (123,r,())) fun y=>if y.1=true then Option.bind (reply_count_write (123,r,())) fun y=>some (y.1,0,()) else some ([],13,()) else some ([],13,())
def reply_Bytes (x:As [.pr (.int .u8) YTT3]):Option (As [.sl (.int .u8),.int .i64]):=q9u_ x.1
theorem qmm_ (J:Orc (As [.sl (.int .u8),.int .i64])) (x:As [.pr (.int .u8) YTT3]):rfn Tryz.prog qi1_ 6 18446744073709551616 (Ev.get qi0_) 64 qba_ J x=q9u_ x.1:=by kernel_rfl
theorem qmq_ (x:As [.pr (.int .u8) YTT3]):evT Tryz.prog qi1_ 6 18446744073709551616 (Ev.get qi0_) 64 qba_ x=reply_Bytes x:=by
 rw [rfn_eq,qmm_]
 rfl
theorem qlm_:CtOk Tryz.prog (fun _=>True) 64 ⟨qba_,reply_Bytes⟩:=ct_of_ev (env_cons q6j_ (env_cons q94_ (env_cons q7c_ (env_cons qan_ (env_cons q6n_ (env_cons qa7_ (env_cons q7k_ (env_cons qc2_ (env_cons q7b_ (env_cons qah_ (env_cons q84_ (env_cons qd0_ env_nil)))))))))))) qmq_
@[reducible] def slave_Serve_s:Sh:=⟨[.d (.pr (.int .u8) (.pr (.int .u8) (.pr (.pr (.sl (.int .u16)) YTT0) (.sl .bool)))),.d (.sl (.int .u8))],[],[.pr (.int .u8) (.pr (.int .u8) (.pr (.pr (.sl (.int .u16)) YTT0) (.sl .bool))),.sl (.int .u8)],[.d (.pr (.int .u8) (.pr (.int .u8) (.pr (.pr (.sl (.int .u16)) YTT0) (.sl .bool)))),.d (.sl (.int .u8))],[],0,[.pr (.int .u8) (.pr (.int .u8) (.pr (.pr (.sl (.int .u16)) YTT0) (.sl .bool))),.sl (.int .u8)]⟩
abbrev slave_Serve_R:=Option (As [.pr (.int .u8) (.pr (.int .u8) (.pr (.pr (.sl (.int .u16)) YTT0) (.sl .bool))),.sl (.int .u8)])
def slave_Serve_e:Env:=(cts [(62,(⟨slave_serve_s,slave_serve⟩:Ct)),(63,(⟨slave_own_r_s,slave_own_r⟩:Ct)),(64,(⟨qba_,reply_Bytes⟩:Ct))])
def slave_Serve_h:List (Nat×Hint):=[]
def slave_Serve_m0 (s:Int×Int×YTT2×List Bool) (pdu:List Int):slave_Serve_R :=
 Option.bind (slave_own_r (s,())) fun y=>Option.bind (slave_serve (y.1,y.2.1,y.2.2.1,y.2.2.2.1,y.2.2.2.2.1,y.2.2.2.2.2.1,y.2.2.2.2.2.2.1,y.2.2.2.2.2.2.2.1,y.2.2.2.2.2.2.2.2.1,y.2.2.2.2.2.2.2.2.2.1,y.2.2.2.2.2.2.2.2.2.2.1,y.2.2.2.2.2.2.2.2.2.2.2.1,y.2.2.2.2.2.2.2.2.2.2.2.2.1,y.2.2.2.2.2.2.2.2.2.2.2.2.2.1,y.2.2.2.2.2.2.2.2.2.2.2.2.2.2.1,y.2.2.2.2.2.2.2.2.2.2.2.2.2.2.2.1,y.2.2.2.2.2.2.2.2.2.2.2.2.2.2.2.2.1,y.2.2.2.2.2.2.2.2.2.2.2.2.2.2.2.2.2.1,y.2.2.2.2.2.2.2.2.2.2.2.2.2.2.2.2.2.2.1,y.2.2.2.2.2.2.2.2.2.2.2.2.2.2.2.2.2.2.2.1,y.2.2.2.2.2.2.2.2.2.2.2.2.2.2.2.2.2.2.2.2.1,y.2.2.2.2.2.2.2.2.2.2.2.2.2.2.2.2.2.2.2.2.2.1,y.2.2.2.2.2.2.2.2.2.2.2.2.2.2.2.2.2.2.2.2.2.2.1,y.2.2.2.2.2.2.2.2.2.2.2.2.2.2.2.2.2.2.2.2.2.2.2.1,y.2.2.2.2.2.2.2.2.2.2.2.2.2.2.2.2.2.2.2.2.2.2.2.2.1,y.2.2.2.2.2.2.2.2.2.2.2.2.2.2.2.2.2.2.2.2.2.2.2.2.2.1,y.2.2.2.2.2.2.2.2.2.2.2.2.2.2.2.2.2.2.2.2.2.2.2.2.2.2.1,y.2.2.2.2.2.2.2.2.2.2.2.2.2.2.2.2.2.2.2.2.2.2.2.2.2.2.2.1,y.2.2.2.2.2.2.2.2.2.2.2.2.2.2.2.2.2.2.2.2.2.2.2.2.2.2.2.2.1,y.2.2.2.2.2.2.2.2.2.2.2.2.2.2.2.2.2.2.2.2.2.2.2.2.2.2.2.2.2.1,y.2.2.2.2.2.2.2.2.2.2.2.2.2.2.2.2.2.2.2.2.2.2.2.2.2.2.2.2.2.2.1,y.2.2.2.2.2.2.2.2.2.2.2.2.2.2.2.2.2.2.2.2.2.2.2.2.2.2.2.2.2.2.2.1,y.2.2.2.2.2.2.2.2.2.2.2.2.2.2.2.2.2.2.2.2.2.2.2.2.2.2.2.2.2.2.2.2.1,y.2.2.2.2.2.2.2.2.2.2.2.2.2.2.2.2.2.2.2.2.2.2.2.2.2.2.2.2.2.2.2.2.2.1,pdu,y.2.2.2.2.2.2.2.2.2.2.2.2.2.2.2.2.2.2.2.2.2.2.2.2.2.2.2.2.2.2.2.2.2.2.1,())) fun y=>Option.bind (reply_Bytes (y.2.1,())) fun y_1=>some (y.1,y_1.1,())
def slave_Serve (x:As [.pr (.int .u8) (.pr (.int .u8) (.pr (.pr (.sl (.int .u16)) YTT0) (.sl .bool))),.sl (.int .u8)]):slave_Serve_R:=slave_Serve_m0 x.1 x.2.1
theorem slave_Serve_c0 (J:Orc (As [.pr (.int .u8) (.pr (.int .u8) (.pr (.pr (.sl (.int .u16)) YTT0) (.sl .bool))),.sl (.int .u8)])) (x:As [.pr (.int .u8) (.pr (.int .u8) (.pr (.pr (.sl (.int .u16)) YTT0) (.sl .bool))),.sl (.int .u8)]):rfn Tryz.prog slave_Serve_e 6 18446744073709551616 (Ev.get slave_Serve_h) 14 slave_Serve_s J x=slave_Serve_m0 x.1 x.2.1:=by kernel_rfl
theorem slave_Serve_t (x:As [.pr (.int .u8) (.pr (.int .u8) (.pr (.pr (.sl (.int .u16)) YTT0) (.sl .bool))),.sl (.int .u8)]):evT Tryz.prog slave_Serve_e 6 18446744073709551616 (Ev.get slave_Serve_h) 14 slave_Serve_s x=slave_Serve x:=by
 rw [rfn_eq,slave_Serve_c0]
 rfl
theorem slave_Serve_ok:CtOk Tryz.prog (fun _=>True) 14 ⟨slave_Serve_s,slave_Serve⟩:=ct_of_ev (env_cons slave_serve_ok (env_cons slave_own_r_ok (env_cons qlm_ env_nil))) slave_Serve_t
@[reducible] def q4p_:Sh:=⟨[.d (.un),.d (.sl (.int .u8))],[],[.un,.sl (.int .u8)],[.d (.pr (.int .u8) YTT3)],[],0,[.pr (.int .u8) YTT3]⟩
def qau_:Env:=(cts [(120,(⟨q56_,reply_Wrong⟩:Ct))])
def qav_:List (Nat×Hint):=[]
def qa3_ (v:Unit) (b:List Int):Option (As [.pr (.int .u8) YTT3]) :=
 Option.bind (at? b 0) fun y=>Option.bind (at? b 1) fun y_1=>Option.bind (reply_Wrong (y,y_1,())) fun y=>some (y.1,())
def reply_exception_read (x:As [.un,.sl (.int .u8)]):Option (As [.pr (.int .u8) YTT3]):=qa3_ x.1 x.2.1
theorem qfl_ (J:Orc (As [.pr (.int .u8) YTT3])) (x:As [.un,.sl (.int .u8)]):rfn Tryz.prog qau_ 6 18446744073709551616 (Ev.get qav_) 253 q4p_ J x=qa3_ x.1 x.2.1:=by kernel_rfl
theorem qg1_ (x:As [.un,.sl (.int .u8)]):evT Tryz.prog qau_ 6 18446744073709551616 (Ev.get qav_) 253 q4p_ x=reply_exception_read x:=by
 rw [rfn_eq,qfl_]
 rfl
theorem qfq_:CtOk Tryz.prog (fun _=>True) 253 ⟨q4p_,reply_exception_read⟩:=ct_of_ev (env_cons q9w_ env_nil) qg1_
@[reducible] def q5o_:Sh:=⟨[.d (.un),.d (.sl (.int .u8))],[],[.un,.sl (.int .u8)],[.d (.pr (.int .u8) YTT3)],[],0,[.pr (.int .u8) YTT3]⟩
def qcd_:Env:=(cts [(212,(⟨q4v_,ask_Unpack⟩:Ct))])
def qcx_:List (Nat×Hint):=[]
def q51_ (v:Unit) (b:List Int):Option (As [.pr (.int .u8) YTT3]) :=
 Option.bind (at? b 0) fun y=>Option.bind (cut b 2 (Int.ofNat (List.length b))) fun y_1=>Option.bind (ask_Unpack (y_1,())) fun y_2=>some ((y,0,y_2.1,[],0,0),())
def reply_bitList_read (x:As [.un,.sl (.int .u8)]):Option (As [.pr (.int .u8) YTT3]):=q51_ x.1 x.2.1
theorem qh8_ (J:Orc (As [.pr (.int .u8) YTT3])) (x:As [.un,.sl (.int .u8)]):rfn Tryz.prog qcd_ 6 18446744073709551616 (Ev.get qcx_) 266 q5o_ J x=q51_ x.1 x.2.1:=by kernel_rfl
theorem qhs_ (x:As [.un,.sl (.int .u8)]):evT Tryz.prog qcd_ 6 18446744073709551616 (Ev.get qcx_) 266 q5o_ x=reply_bitList_read x:=by
 rw [rfn_eq,qh8_]
 rfl
theorem qgz_:CtOk Tryz.prog (fun _=>True) 266 ⟨q5o_,reply_bitList_read⟩:=ct_of_ev (env_cons qi3_ env_nil) qhs_
@[reducible] def q32_:Sh:=⟨[.d (.sl (.int .u8))],[],[.sl (.int .u8)],[.d (.sl (.int .u16))],[],0,[.sl (.int .u16)]⟩
def q97_:Env:=(cts [])
def q9b_:List (Nat×Hint):=[(58,⟨[],[0,3,10,11]⟩)]
def q6p_ (b:List Int) (t10 t11:Int) (l:List Int):St:={ fr:=[(0,.d (.sl (.int .u8)) b),(3,.row 0),(10,.d (.int .i64) t10),(11,.d (.int .i64) t11)],nt:=34,up:=[],own:=[(0,.row (.int .u16) 23 l)],nx:=1,log:=[],ln:=0 }
def q6t_ (self1:List Int->Int->Int->List Int->Option (As [.sl (.int .u16)])) (b:List Int) (t10 t11:Int) (l:List Int):Option (As [.sl (.int .u16)]) :=
 if lt t11 t10=true then Option.bind (at? b (mul .i64 2 t11)) fun y=>Option.bind (at? b (add .i64 (mul .i64 2 t11) 1)) fun y_1=>Option.bind (at? l t11) fun x=>Option.bind (at? l t11) fun x=>self1 b t10 (add .i64 t11 1) (List.set l (Int.toNat t11) (Sx.bor .u16 (Sx.shl .u16 (cvt .u16 y) 8) (cvt .u16 y_1))) else some (l,())
def qay_ (j1:List Int->Int->Int->List Int->Option (As [.sl (.int .u16)])) (b:List Int):Option (As [.sl (.int .u16)]) :=
 need (ge (quo .i64 (Int.ofNat (List.length b)) 2) 0) (need (Ev.capOk (quo .i64 (Int.ofNat (List.length b)) 2) (quo .i64 (Int.ofNat (List.length b)) 2)) (need (small (Int.toNat (quo .i64 (Int.ofNat (List.length b)) 2))) (j1 b (Int.ofNat (List.length (List.replicate (α:=Int) (Int.toNat (quo .i64 (Int.ofNat (List.length b)) 2)) 0))) 0 (List.replicate (Int.toNat (quo .i64 (Int.ofNat (List.length b)) 2)) 0))))
def q8k_ (b:List Int) (t10 t11:Int) (l:List Int):Option (As [.sl (.int .u16)]) :=
 loopF (fun (self:(List Int)×(Int)×(Int)×(List Int)->Option (As [.sl (.int .u16)])) (s:(List Int)×(Int)×(Int)×(List Int))=>q6t_ (fun b t10 t11 l=>self (b,t10,t11,l)) s.1 s.2.1 s.2.2.1 s.2.2.2) 18446744073709551616 (b,t10,t11,l)
def reply_list (x:As [.sl (.int .u8)]):Option (As [.sl (.int .u16)]):=qay_ q8k_ x.1
theorem qnu_ (J:Orc (As [.sl (.int .u16)])) (w1:St->Option (As [.sl (.int .u16)])) (b:List Int) (t10 t11:Int) (l:List Int):pfn Tryz.prog q97_ 6 18446744073709551616 (Ev.get q9b_) 272 q32_ J 58 [w1] (q6p_ b t10 t11 l)=q6t_ (fun b t10 t11 l=>w1 (q6p_ b t10 t11 l)) b t10 t11 l:=by kernel_rfl
theorem qnv_ (J:Orc (As [.sl (.int .u16)])) (x:As [.sl (.int .u8)]):rfn Tryz.prog q97_ 6 18446744073709551616 (Ev.get q9b_) 272 q32_ J x=qay_ (fun b t10 t11 l=>J 58 [] (q6p_ b t10 t11 l)) x.1:=by kernel_rfl
theorem qms_ (b:List Int) (t10 t11:Int) (l:List Int):jfn Tryz.prog q97_ 6 18446744073709551616 (Ev.get q9b_) 272 q32_ 58 [] (q6p_ b t10 t11 l)=q8k_ b t10 t11 l:=by
 rw [pfn_eq (by decide)]
 rw [pfn_loop (by kernel_rfl)]
 refine loopF_sim (σ:=(List Int)×(Int)×(Int)×(List Int)) (mk:=fun s=>q6p_ s.1 s.2.1 s.2.2.1 s.2.2.2) (fun w1 s=>?_) 18446744073709551616 (b,t10,t11,l)
 refine (qnu_ _ w1 s.1 s.2.1 s.2.2.1 s.2.2.2).trans ?_
 rfl
theorem qo2_ (x:As [.sl (.int .u8)]):evT Tryz.prog q97_ 6 18446744073709551616 (Ev.get q9b_) 272 q32_ x=reply_list x:=by
 have e1:(fun b t10 t11 l=>(jfn Tryz.prog q97_ 6 18446744073709551616 (Ev.get q9b_) 272 q32_) 58 [] (q6p_ b t10 t11 l))=q8k_:=by funext b t10 t11 l; exact qms_ b t10 t11 l
 rw [rfn_eq,qnv_,e1]
 rfl
theorem qb4_:CtOk Tryz.prog (fun _=>True) 272 ⟨q32_,reply_list⟩:=ct_of_ev env_nil qo2_
@[reducible] def q54_:Sh:=⟨[.d (.un),.d (.sl (.int .u8))],[],[.un,.sl (.int .u8)],[.d (.pr (.int .u8) YTT3)],[],0,[.pr (.int .u8) YTT3]⟩
def qc0_:Env:=(cts [(272,(⟨q32_,reply_list⟩:Ct))])
def qbz_:List (Nat×Hint):=[]
def q4q_ (v:Unit) (b:List Int):Option (As [.pr (.int .u8) YTT3]) :=
 Option.bind (at? b 0) fun y=>Option.bind (cut b 2 (Int.ofNat (List.length b))) fun y_1=>Option.bind (reply_list (y_1,())) fun y_2=>some ((y,0,[],y_2.1,0,0),())
def reply_wordList_read (x:As [.un,.sl (.int .u8)]):Option (As [.pr (.int .u8) YTT3]):=q4q_ x.1 x.2.1
theorem qg7_ (J:Orc (As [.pr (.int .u8) YTT3])) (x:As [.un,.sl (.int .u8)]):rfn Tryz.prog qc0_ 6 18446744073709551616 (Ev.get qbz_) 269 q54_ J x=q4q_ x.1 x.2.1:=by kernel_rfl
theorem qgv_ (x:As [.un,.sl (.int .u8)]):evT Tryz.prog qc0_ 6 18446744073709551616 (Ev.get qbz_) 269 q54_ x=reply_wordList_read x:=by
 rw [rfn_eq,qg7_]
 rfl
theorem qg2_:CtOk Tryz.prog (fun _=>True) 269 ⟨q54_,reply_wordList_read⟩:=ct_of_ev (env_cons qb4_ env_nil) qgv_
@[reducible] def q6k_:Sh:=⟨[.d (.un),.d (.sl (.int .u8))],[],[.un,.sl (.int .u8)],[.d (.pr (.int .u8) YTT3)],[],0,[.pr (.int .u8) YTT3]⟩
def qdd_:Env:=(cts [(272,(⟨q32_,reply_list⟩:Ct))])
def qdc_:List (Nat×Hint):=[]
def q5i_ (v:Unit) (b:List Int):Option (As [.pr (.int .u8) YTT3]) :=
 Option.bind (cut b 1 (Int.ofNat (List.length b))) fun y=>Option.bind (reply_list (y,())) fun y=>if lt (Int.ofNat (List.length y.1)) 2=true then some ((0,0,[],[],0,0),()) else Option.bind (at? b 0) fun y_1=>Option.bind (at? y.1 0) fun y_2=>Option.bind (at? y.1 1) fun y=>some ((y_1,0,[eqi y 65280],[],y_2,0),())
def reply_oneBit_read (x:As [.un,.sl (.int .u8)]):Option (As [.pr (.int .u8) YTT3]):=q5i_ x.1 x.2.1
theorem qhc_ (J:Orc (As [.pr (.int .u8) YTT3])) (x:As [.un,.sl (.int .u8)]):rfn Tryz.prog qdd_ 6 18446744073709551616 (Ev.get qdc_) 274 q6k_ J x=q5i_ x.1 x.2.1:=by kernel_rfl
theorem qiu_ (x:As [.un,.sl (.int .u8)]):evT Tryz.prog qdd_ 6 18446744073709551616 (Ev.get qdc_) 274 q6k_ x=reply_oneBit_read x:=by
 rw [rfn_eq,qhc_]
 rfl
theorem qho_:CtOk Tryz.prog (fun _=>True) 274 ⟨q6k_,reply_oneBit_read⟩:=ct_of_ev (env_cons qb4_ env_nil) qiu_
@[reducible] def q5p_:Sh:=⟨[.d (.un),.d (.sl (.int .u8))],[],[.un,.sl (.int .u8)],[.d (.pr (.int .u8) YTT3)],[],0,[.pr (.int .u8) YTT3]⟩
def qcq_:Env:=(cts [(272,(⟨q32_,reply_list⟩:Ct))])
def qcf_:List (Nat×Hint):=[]
def q50_ (v:Unit) (b:List Int):Option (As [.pr (.int .u8) YTT3]) :=
 Option.bind (cut b 1 (Int.ofNat (List.length b))) fun y=>Option.bind (reply_list (y,())) fun y=>if lt (Int.ofNat (List.length y.1)) 2=true then some ((0,0,[],[],0,0),()) else Option.bind (at? b 0) fun y_1=>Option.bind (at? y.1 0) fun y_2=>Option.bind (at? y.1 1) fun y=>some ((y_1,0,[],[y],y_2,0),())
def reply_oneWord_read (x:As [.un,.sl (.int .u8)]):Option (As [.pr (.int .u8) YTT3]):=q50_ x.1 x.2.1
theorem qgh_ (J:Orc (As [.pr (.int .u8) YTT3])) (x:As [.un,.sl (.int .u8)]):rfn Tryz.prog qcq_ 6 18446744073709551616 (Ev.get qcf_) 277 q5p_ J x=q50_ x.1 x.2.1:=by kernel_rfl
theorem qhp_ (x:As [.un,.sl (.int .u8)]):evT Tryz.prog qcq_ 6 18446744073709551616 (Ev.get qcf_) 277 q5p_ x=reply_oneWord_read x:=by
 rw [rfn_eq,qgh_]
 rfl
theorem qgy_:CtOk Tryz.prog (fun _=>True) 277 ⟨q5p_,reply_oneWord_read⟩:=ct_of_ev (env_cons qb4_ env_nil) qhp_
@[reducible] def q7a_:Sh:=⟨[.d (.wr (.int .u16)),.d (.sl (.int .u8))],[],[.wr (.int .u16),.sl (.int .u8)],[.d (.pr (.int .u8) YTT3)],[],0,[.pr (.int .u8) YTT3]⟩
def qe5_:Env:=(cts [(272,(⟨q32_,reply_list⟩:Ct))])
def qdv_:List (Nat×Hint):=[]
def q6l_ (v:Int) (b:List Int):Option (As [.pr (.int .u8) YTT3]) :=
 Option.bind (cut b 1 (Int.ofNat (List.length b))) fun y=>Option.bind (reply_list (y,())) fun y=>if lt (Int.ofNat (List.length y.1)) 2=true then some ((0,0,[],[],0,0),()) else Option.bind (at? b 0) fun y_1=>Option.bind (at? y.1 0) fun y_2=>Option.bind (at? y.1 1) fun y=>some ((y_1,0,[],[],y_2,y),())
def reply_count_read (x:As [.wr (.int .u16),.sl (.int .u8)]):Option (As [.pr (.int .u8) YTT3]):=q6l_ x.1 x.2.1
theorem qj4_ (J:Orc (As [.pr (.int .u8) YTT3])) (x:As [.wr (.int .u16),.sl (.int .u8)]):rfn Tryz.prog qe5_ 6 18446744073709551616 (Ev.get qdv_) 280 q7a_ J x=q6l_ x.1 x.2.1:=by kernel_rfl
theorem qjn_ (x:As [.wr (.int .u16),.sl (.int .u8)]):evT Tryz.prog qe5_ 6 18446744073709551616 (Ev.get qdv_) 280 q7a_ x=reply_count_read x:=by
 rw [rfn_eq,qj4_]
 rfl
theorem qiz_:CtOk Tryz.prog (fun _=>True) 280 ⟨q7a_,reply_count_read⟩:=ct_of_ev (env_cons qb4_ env_nil) qjn_
@[reducible] def q46_:Sh:=⟨[.d (.sl (.int .u8))],[],[.sl (.int .u8)],[.d (.pr (.int .u8) YTT3),.d (.int .i64)],[],0,[.pr (.int .u8) YTT3,.int .i64]⟩
def q8s_:Env:=(cts [(66,(⟨q8o_,bytes_Equal⟩:Ct)),(253,(⟨q4p_,reply_exception_read⟩:Ct)),(254,(⟨q1p_,reply_exception_right⟩:Ct)),(255,(⟨q2p_,reply_exception_write⟩:Ct)),(266,(⟨q5o_,reply_bitList_read⟩:Ct)),(267,(⟨q28_,reply_bitList_right⟩:Ct)),(268,(⟨q3f_,reply_bitList_write⟩:Ct)),(269,(⟨q54_,reply_wordList_read⟩:Ct)),(270,(⟨q22_,reply_wordList_right⟩:Ct)),(271,(⟨q2x_,reply_wordList_write⟩:Ct)),(274,(⟨q6k_,reply_oneBit_read⟩:Ct)),(275,(⟨q2l_,reply_oneBit_right⟩:Ct)),(276,(⟨q1a_,reply_oneBit_write⟩:Ct)),(277,(⟨q5p_,reply_oneWord_read⟩:Ct)),(278,(⟨q2b_,reply_oneWord_right⟩:Ct)),(279,(⟨q2c_,reply_oneWord_write⟩:Ct)),(280,(⟨q7a_,reply_count_read⟩:Ct)),(281,(⟨q2w_,reply_count_right⟩:Ct)),(282,(⟨q4f_,reply_count_write⟩:Ct))])
def q8n_:List (Nat×Hint):=[(6,⟨[],[0,2,15,42,43,44,45,46,47]⟩)]
def q9k_ (b:List Int) (t15:Bool) (t2 t2_2 t2_3 t2_4:Int):St:={ fr:=[(0,.d (.sl (.int .u8)) b),(2,.pb 0 0),(15,.d .bool t15)],nt:=51,up:=[],own:=[(0,.box 46 [.d (.int .u8) t2,.d (.int .u8) t2_2,.k (Go.Value.slice Option.none 0 0),.k (Go.Value.slice Option.none 0 0),.d (.int .u16) t2_3,.d (.int .u16) t2_4])],nx:=1,log:=[],ln:=0 }
def qdi_ (b:List Int) (t15:Bool) (t2 t2_2 t2_3 t2_4:Int):Option (As [.pr (.int .u8) YTT3,.int .i64]) :=
 if t15=true then some ((0,0,[],[],0,0),13,()) else Option.bind (at? b 0) fun y=>if lt y 128=true then Option.bind (at? b 0) fun y=>if eqi y 1=true then Option.bind (reply_bitList_read ((),b,())) fun y=>Option.bind (reply_bitList_right ((),y.1,())) fun y_1=>if (!y_1.1)=true then some ((0,0,[],[],0,0),13,()) else Option.bind (reply_bitList_write ((),y.1,())) fun y_2=>Option.bind (bytes_Equal (y_2.1,b,())) fun y_3=>if (!y_3.1)=true then some ((0,0,[],[],0,0),13,()) else some (y.1,0,()) else if eqi y 2=true then Option.bind (reply_bitList_read ((),b,())) fun y=>Option.bind (reply_bitList_right ((),y.1,())) fun y_1=>if (!y_1.1)=true then some ((0,0,[],[],0,0),13,()) else Option.bind (reply_bitList_write ((),y.1,())) fun y_2=>Option.bind (bytes_Equal (y_2.1,b,())) fun y_3=>if (!y_3.1)=true then some ((0,0,[],[],0,0),13,()) else some (y.1,0,()) else if eqi y 3=true then Option.bind (reply_wordList_read ((),b,())) fun y=>Option.bind (reply_wordList_right ((),y.1,())) fun y_1=>if (!y_1.1)=true then some ((0,0,[],[],0,0),13,()) else Option.bind (reply_wordList_write ((),y.1,())) fun y_2=>Option.bind (bytes_Equal (y_2.1,b,())) fun y_3=>if (!y_3.1)=true then some ((0,0,[],[],0,0),13,()) else some (y.1,0,()) else if eqi y 4=true then Option.bind (reply_wordList_read ((),b,())) fun y=>Option.bind (reply_wordList_right ((),y.1,())) fun y_1=>if (!y_1.1)=true then some ((0,0,[],[],0,0),13,()) else Option.bind (reply_wordList_write ((),y.1,())) fun y_2=>Option.bind (bytes_Equal (y_2.1,b,())) fun y_3=>if (!y_3.1)=true then some ((0,0,[],[],0,0),13,()) else some (y.1,0,()) else if eqi y 23=true then Option.bind (reply_wordList_read ((),b,())) fun y=>Option.bind (reply_wordList_right ((),y.1,())) fun y_1=>if (!y_1.1)=true then some ((0,0,[],[],0,0),13,()) else Option.bind (reply_wordList_write ((),y.1,())) fun y_2=>Option.bind (bytes_Equal (y_2.1,b,())) fun y_3=>if (!y_3.1)=true then some ((0,0,[],[],0,0),13,()) else some (y.1,0,()) else if eqi y 5=true then Option.bind (reply_oneBit_read ((),b,())) fun y=>Option.bind (reply_oneBit_right ((),y.1,())) fun y_1=>if (!y_1.1)=true then some ((0,0,[],[],0,0),13,()) else Option.bind (reply_oneBit_write ((),y.1,())) fun y_2=>Option.bind (bytes_Equal (y_2.1,b,())) fun y_3=>if (!y_3.1)=true then some ((0,0,[],[],0,0),13,()) else some (y.1,0,()) else if eqi y 6=true then Option.bind (reply_oneWord_read ((),b,())) fun y=>Option.bind (reply_oneWord_right ((),y.1,())) fun y_1=>if (!y_1.1)=true then some ((0,0,[],[],0,0),13,()) else Option.bind (reply_oneWord_write ((),y.1,())) fun y_2=>Option.bind (bytes_Equal (y_2.1,b,())) fun y_3=>if (!y_3.1)=true then some ((0,0,[],[],0,0),13,()) else some (y.1,0,()) else if eqi y 15=true then Option.bind (reply_count_read (1968,b,())) fun y=>Option.bind (reply_count_right (1968,y.1,())) fun y_1=>if (!y_1.1)=true then some ((0,0,[],[],0,0),13,()) else Option.bind (reply_count_write (1968,y.1,())) fun y_2=>Option.bind (bytes_Equal (y_2.1,b,())) fun y_3=>if (!y_3.1)=true then some ((0,0,[],[],0,0),13,()) else some (y.1,0,()) else if eqi y 16=true then Option.bind (reply_count_read (123,b,())) fun y=>Option.bind (reply_count_right (123,y.1,())) fun y_1=>if (!y_1.1)=true then some ((0,0,[],[],0,0),13,()) else Option.bind (reply_count_write (123,y.1,())) fun y_2=>Option.bind (bytes_Equal (y_2.1,b,())) fun y_3=>if (!y_3.1)=true then some ((0,0,[],[],0,0),13,()) else some (y.1,0,()) else some ((0,0,[],[],0,0),13,()) else Option.bind (reply_exception_read ((),b,())) fun y=>Option.bind (reply_exception_right ((),y.1,())) fun y_1=>if (!y_1.1)=true then some ((0,0,[],[],0,0),13,()) else Option.bind (reply_exception_write ((),y.1,())) fun y_2=>Option.bind (bytes_Equal (y_2.1,b,())) fun y_3=>if (!y_3.1)=true then some ((0,0,[],[],0,0),13,()) else some (y.1,0,())
def q9n_ (j1:List Int->Bool->Int->Int->Int->Int->Option (As [.pr (.int .u8) YTT3,.int .i64])) (b:List Int):Option (As [.pr (.int .u8) YTT3,.int .i64]) :=
 if lt (Int.ofNat (List.length b)) 2=true then j1 b true 0 0 0 0 else j1 b (gt (Int.ofNat (List.length b)) 253) 0 0 0 0
def q7l_ (b:List Int) (t15:Bool) (t2 t2_2 t2_3 t2_4:Int):Option (As [.pr (.int .u8) YTT3,.int .i64]):=qdi_ b t15 t2 t2_2 t2_3 t2_4
def reply_Parse (x:As [.sl (.int .u8)]):Option (As [.pr (.int .u8) YTT3,.int .i64]):=q9n_ q7l_ x.1
theorem qlq_ (J:Orc (As [.pr (.int .u8) YTT3,.int .i64])) (b:List Int) (t15:Bool) (t2 t2_2 t2_3 t2_4:Int):pfn Tryz.prog q8s_ 6 18446744073709551616 (Ev.get q8n_) 15 q46_ J 6 [] (q9k_ b t15 t2 t2_2 t2_3 t2_4)=qdi_ b t15 t2 t2_2 t2_3 t2_4:=by kernel_rfl
theorem qml_ (J:Orc (As [.pr (.int .u8) YTT3,.int .i64])) (x:As [.sl (.int .u8)]):rfn Tryz.prog q8s_ 6 18446744073709551616 (Ev.get q8n_) 15 q46_ J x=q9n_ (fun b t15 t2 t2_2 t2_3 t2_4=>J 6 [] (q9k_ b t15 t2 t2_2 t2_3 t2_4)) x.1:=by kernel_rfl
theorem qlt_ (b:List Int) (t15:Bool) (t2 t2_2 t2_3 t2_4:Int):jfn Tryz.prog q8s_ 6 18446744073709551616 (Ev.get q8n_) 15 q46_ 6 [] (q9k_ b t15 t2 t2_2 t2_3 t2_4)=q7l_ b t15 t2 t2_2 t2_3 t2_4:=by
 rw [pfn_eq (by decide)]
 rw [qlq_]
 rfl
theorem qng_ (x:As [.sl (.int .u8)]):evT Tryz.prog q8s_ 6 18446744073709551616 (Ev.get q8n_) 15 q46_ x=reply_Parse x:=by
 have e1:(fun b t15 t2 t2_2 t2_3 t2_4=>(jfn Tryz.prog q8s_ 6 18446744073709551616 (Ev.get q8n_) 15 q46_) 6 [] (q9k_ b t15 t2 t2_2 t2_3 t2_4))=q7l_:=by funext b t15 t2 t2_2 t2_3 t2_4; exact qlt_ b t15 t2 t2_2 t2_3 t2_4
 rw [rfn_eq,qml_,e1]
 rfl
theorem qh1_:CtOk Tryz.prog (fun _=>True) 15 ⟨q46_,reply_Parse⟩:=ct_of_ev (env_cons qgo_ (env_cons qfq_ (env_cons q6j_ (env_cons q94_ (env_cons qgz_ (env_cons q7c_ (env_cons qan_ (env_cons qg2_ (env_cons q6n_ (env_cons qa7_ (env_cons qho_ (env_cons q7k_ (env_cons qc2_ (env_cons qgy_ (env_cons q7b_ (env_cons qah_ (env_cons qiz_ (env_cons q84_ (env_cons qd0_ env_nil))))))))))))))))))) qng_
@[reducible] def q82_:Sh:=⟨[.d (.pr (.int .u8) YTT4),.pb 0 0],[.box 38 [.d (.int .u8),.d (.int .u8),.d (.sl (.int .u16)),.d (.int .u16),.d (.int .i64),.d (.int .u8),.d (.int .u32),.d (.int .u32),.d (.int .u32),.d (.bool),.d (.bool),.d (.bool),.d (.bool),.d (.bool),.d (.bool),.d (.bool),.d (.bool),.d (.int .i64),.d (.sl (.int .u16)),.d (.int .i64),.d (.sl (.int .u16)),.d (.int .i64),.d (.sl (.int .u16)),.d (.int .i64),.d (.sl (.int .u16)),.d (.int .i64),.d (.sl (.int .u16)),.d (.int .i64),.d (.sl (.int .u16)),.d (.int .i64),.d (.sl (.int .u16)),.d (.int .i64),.d (.sl (.int .u16)),.d (.int .i64),.d (.sl .bool)]],[.pr (.int .u8) YTT4,.int .u8,.int .u8,.sl (.int .u16),.int .u16,.int .i64,.int .u8,.int .u32,.int .u32,.int .u32,.bool,.bool,.bool,.bool,.bool,.bool,.bool,.bool,.int .i64,.sl (.int .u16),.int .i64,.sl (.int .u16),.int .i64,.sl (.int .u16),.int .i64,.sl (.int .u16),.int .i64,.sl (.int .u16),.int .i64,.sl (.int .u16),.int .i64,.sl (.int .u16),.int .i64,.sl (.int .u16),.int .i64,.sl .bool],[.d (.pr (.int .u8) YTT3)],[(0,.box 38 [.d (.int .u8),.d (.int .u8),.d (.sl (.int .u16)),.d (.int .u16),.d (.int .i64),.d (.int .u8),.d (.int .u32),.d (.int .u32),.d (.int .u32),.d (.bool),.d (.bool),.d (.bool),.d (.bool),.d (.bool),.d (.bool),.d (.bool),.d (.bool),.d (.int .i64),.d (.sl (.int .u16)),.d (.int .i64),.d (.sl (.int .u16)),.d (.int .i64),.d (.sl (.int .u16)),.d (.int .i64),.d (.sl (.int .u16)),.d (.int .i64),.d (.sl (.int .u16)),.d (.int .i64),.d (.sl (.int .u16)),.d (.int .i64),.d (.sl (.int .u16)),.d (.int .i64),.d (.sl (.int .u16)),.d (.int .i64),.d (.sl .bool)])],0,[.pr (.int .u8) YTT3,.int .u8,.int .u8,.sl (.int .u16),.int .u16,.int .i64,.int .u8,.int .u32,.int .u32,.int .u32,.bool,.bool,.bool,.bool,.bool,.bool,.bool,.bool,.int .i64,.sl (.int .u16),.int .i64,.sl (.int .u16),.int .i64,.sl (.int .u16),.int .i64,.sl (.int .u16),.int .i64,.sl (.int .u16),.int .i64,.sl (.int .u16),.int .i64,.sl (.int .u16),.int .i64,.sl (.int .u16),.int .i64,.sl .bool]⟩
def qff_:Env:=(cts [(1000038,Ev.bxCt),(13,(⟨qv_,ask_Bytes⟩:Ct)),(14,(⟨slave_Serve_s,slave_Serve⟩:Ct)),(15,(⟨q46_,reply_Parse⟩:Ct))])
def qf8_:List (Nat×Hint):=[]
def qel_ (a:Int×Int×Int×Int×List Int×List Bool) (v a_2:Int) (v_2:List Int) (b v_3 next out r v_4:Int) (v_5 v_6 v_7 v_8 v_9 v_10 v_11 v_12:Bool) (v_13:Int) (v_14:List Int) (v_15:Int) (v_16:List Int) (v_17:Int) (v_18:List Int) (v_19:Int) (v_20:List Int) (v_21:Int) (v_22:List Int) (x:Int) (x_2:List Int) (x_3:Int) (x_4:List Int) (x_5:Int) (x_6:List Int) (x_7:Int) (x_8:List Bool):Option (As [.pr (.int .u8) YTT3,.int .u8,.int .u8,.sl (.int .u16),.int .u16,.int .i64,.int .u8,.int .u32,.int .u32,.int .u32,.bool,.bool,.bool,.bool,.bool,.bool,.bool,.bool,.int .i64,.sl (.int .u16),.int .i64,.sl (.int .u16),.int .i64,.sl (.int .u16),.int .i64,.sl (.int .u16),.int .i64,.sl (.int .u16),.int .i64,.sl (.int .u16),.int .i64,.sl (.int .u16),.int .i64,.sl (.int .u16),.int .i64,.sl .bool]) :=
 Option.bind (ask_Bytes (a,())) fun y=>Option.bind (slave_Serve ((v,a_2,(v_2,(b,v_3),next,out,r,(v_4,[v_5,v_6,v_7,v_8,v_9,v_10,v_11,v_12],[(v_13,v_14),(v_15,v_16),(v_17,v_18),(v_19,v_20),(v_21,v_22),(x,x_2),(x_3,x_4),(x_5,x_6)]),x_7),x_8),y.1,())) fun y=>Option.bind (reply_Parse (y.2.1,())) fun y_1=>some (y_1.1,pkS y.1)
def law21_awake_z1 (x:As [.pr (.int .u8) YTT4,.int .u8,.int .u8,.sl (.int .u16),.int .u16,.int .i64,.int .u8,.int .u32,.int .u32,.int .u32,.bool,.bool,.bool,.bool,.bool,.bool,.bool,.bool,.int .i64,.sl (.int .u16),.int .i64,.sl (.int .u16),.int .i64,.sl (.int .u16),.int .i64,.sl (.int .u16),.int .i64,.sl (.int .u16),.int .i64,.sl (.int .u16),.int .i64,.sl (.int .u16),.int .i64,.sl (.int .u16),.int .i64,.sl .bool]):Option (As [.pr (.int .u8) YTT3,.int .u8,.int .u8,.sl (.int .u16),.int .u16,.int .i64,.int .u8,.int .u32,.int .u32,.int .u32,.bool,.bool,.bool,.bool,.bool,.bool,.bool,.bool,.int .i64,.sl (.int .u16),.int .i64,.sl (.int .u16),.int .i64,.sl (.int .u16),.int .i64,.sl (.int .u16),.int .i64,.sl (.int .u16),.int .i64,.sl (.int .u16),.int .i64,.sl (.int .u16),.int .i64,.sl (.int .u16),.int .i64,.sl .bool]):=qel_ x.1 x.2.1 x.2.2.1 x.2.2.2.1 x.2.2.2.2.1 x.2.2.2.2.2.1 x.2.2.2.2.2.2.1 x.2.2.2.2.2.2.2.1 x.2.2.2.2.2.2.2.2.1 x.2.2.2.2.2.2.2.2.2.1 x.2.2.2.2.2.2.2.2.2.2.1 x.2.2.2.2.2.2.2.2.2.2.2.1 x.2.2.2.2.2.2.2.2.2.2.2.2.1 x.2.2.2.2.2.2.2.2.2.2.2.2.2.1 x.2.2.2.2.2.2.2.2.2.2.2.2.2.2.1 x.2.2.2.2.2.2.2.2.2.2.2.2.2.2.2.1 x.2.2.2.2.2.2.2.2.2.2.2.2.2.2.2.2.1 x.2.2.2.2.2.2.2.2.2.2.2.2.2.2.2.2.2.1 x.2.2.2.2.2.2.2.2.2.2.2.2.2.2.2.2.2.2.1 x.2.2.2.2.2.2.2.2.2.2.2.2.2.2.2.2.2.2.2.1 x.2.2.2.2.2.2.2.2.2.2.2.2.2.2.2.2.2.2.2.2.1 x.2.2.2.2.2.2.2.2.2.2.2.2.2.2.2.2.2.2.2.2.2.1 x.2.2.2.2.2.2.2.2.2.2.2.2.2.2.2.2.2.2.2.2.2.2.1 x.2.2.2.2.2.2.2.2.2.2.2.2.2.2.2.2.2.2.2.2.2.2.2.1 x.2.2.2.2.2.2.2.2.2.2.2.2.2.2.2.2.2.2.2.2.2.2.2.2.1 x.2.2.2.2.2.2.2.2.2.2.2.2.2.2.2.2.2.2.2.2.2.2.2.2.2.1 x.2.2.2.2.2.2.2.2.2.2.2.2.2.2.2.2.2.2.2.2.2.2.2.2.2.2.1 x.2.2.2.2.2.2.2.2.2.2.2.2.2.2.2.2.2.2.2.2.2.2.2.2.2.2.2.1 x.2.2.2.2.2.2.2.2.2.2.2.2.2.2.2.2.2.2.2.2.2.2.2.2.2.2.2.2.1 x.2.2.2.2.2.2.2.2.2.2.2.2.2.2.2.2.2.2.2.2.2.2.2.2.2.2.2.2.2.1 x.2.2.2.2.2.2.2.2.2.2.2.2.2.2.2.2.2.2.2.2.2.2.2.2.2.2.2.2.2.2.1 x.2.2.2.2.2.2.2.2.2.2.2.2.2.2.2.2.2.2.2.2.2.2.2.2.2.2.2.2.2.2.2.1 x.2.2.2.2.2.2.2.2.2.2.2.2.2.2.2.2.2.2.2.2.2.2.2.2.2.2.2.2.2.2.2.2.1 x.2.2.2.2.2.2.2.2.2.2.2.2.2.2.2.2.2.2.2.2.2.2.2.2.2.2.2.2.2.2.2.2.2.1 x.2.2.2.2.2.2.2.2.2.2.2.2.2.2.2.2.2.2.2.2.2.2.2.2.2.2.2.2.2.2.2.2.2.2.1 x.2.2.2.2.2.2.2.2.2.2.2.2.2.2.2.2.2.2.2.2.2.2.2.2.2.2.2.2.2.2.2.2.2.2.2.1
theorem qjq_ (J:Orc (As [.pr (.int .u8) YTT3,.int .u8,.int .u8,.sl (.int .u16),.int .u16,.int .i64,.int .u8,.int .u32,.int .u32,.int .u32,.bool,.bool,.bool,.bool,.bool,.bool,.bool,.bool,.int .i64,.sl (.int .u16),.int .i64,.sl (.int .u16),.int .i64,.sl (.int .u16),.int .i64,.sl (.int .u16),.int .i64,.sl (.int .u16),.int .i64,.sl (.int .u16),.int .i64,.sl (.int .u16),.int .i64,.sl (.int .u16),.int .i64,.sl .bool])) (x:As [.pr (.int .u8) YTT4,.int .u8,.int .u8,.sl (.int .u16),.int .u16,.int .i64,.int .u8,.int .u32,.int .u32,.int .u32,.bool,.bool,.bool,.bool,.bool,.bool,.bool,.bool,.int .i64,.sl (.int .u16),.int .i64,.sl (.int .u16),.int .i64,.sl (.int .u16),.int .i64,.sl (.int .u16),.int .i64,.sl (.int .u16),.int .i64,.sl (.int .u16),.int .i64,.sl (.int .u16),.int .i64,.sl (.int .u16),.int .i64,.sl .bool]):rfn Tryz.prog qff_ 6 18446744073709551616 (Ev.get qf8_) 56 q82_ J x=qel_ x.1 x.2.1 x.2.2.1 x.2.2.2.1 x.2.2.2.2.1 x.2.2.2.2.2.1 x.2.2.2.2.2.2.1 x.2.2.2.2.2.2.2.1 x.2.2.2.2.2.2.2.2.1 x.2.2.2.2.2.2.2.2.2.1 x.2.2.2.2.2.2.2.2.2.2.1 x.2.2.2.2.2.2.2.2.2.2.2.1 x.2.2.2.2.2.2.2.2.2.2.2.2.1 x.2.2.2.2.2.2.2.2.2.2.2.2.2.1 x.2.2.2.2.2.2.2.2.2.2.2.2.2.2.1 x.2.2.2.2.2.2.2.2.2.2.2.2.2.2.2.1 x.2.2.2.2.2.2.2.2.2.2.2.2.2.2.2.2.1 x.2.2.2.2.2.2.2.2.2.2.2.2.2.2.2.2.2.1 x.2.2.2.2.2.2.2.2.2.2.2.2.2.2.2.2.2.2.1 x.2.2.2.2.2.2.2.2.2.2.2.2.2.2.2.2.2.2.2.1 x.2.2.2.2.2.2.2.2.2.2.2.2.2.2.2.2.2.2.2.2.1 x.2.2.2.2.2.2.2.2.2.2.2.2.2.2.2.2.2.2.2.2.2.1 x.2.2.2.2.2.2.2.2.2.2.2.2.2.2.2.2.2.2.2.2.2.2.1 x.2.2.2.2.2.2.2.2.2.2.2.2.2.2.2.2.2.2.2.2.2.2.2.1 x.2.2.2.2.2.2.2.2.2.2.2.2.2.2.2.2.2.2.2.2.2.2.2.2.1 x.2.2.2.2.2.2.2.2.2.2.2.2.2.2.2.2.2.2.2.2.2.2.2.2.2.1 x.2.2.2.2.2.2.2.2.2.2.2.2.2.2.2.2.2.2.2.2.2.2.2.2.2.2.1 x.2.2.2.2.2.2.2.2.2.2.2.2.2.2.2.2.2.2.2.2.2.2.2.2.2.2.2.1 x.2.2.2.2.2.2.2.2.2.2.2.2.2.2.2.2.2.2.2.2.2.2.2.2.2.2.2.2.1 x.2.2.2.2.2.2.2.2.2.2.2.2.2.2.2.2.2.2.2.2.2.2.2.2.2.2.2.2.2.1 x.2.2.2.2.2.2.2.2.2.2.2.2.2.2.2.2.2.2.2.2.2.2.2.2.2.2.2.2.2.2.1 x.2.2.2.2.2.2.2.2.2.2.2.2.2.2.2.2.2.2.2.2.2.2.2.2.2.2.2.2.2.2.2.1 x.2.2.2.2.2.2.2.2.2.2.2.2.2.2.2.2.2.2.2.2.2.2.2.2.2.2.2.2.2.2.2.2.1 x.2.2.2.2.2.2.2.2.2.2.2.2.2.2.2.2.2.2.2.2.2.2.2.2.2.2.2.2.2.2.2.2.2.1 x.2.2.2.2.2.2.2.2.2.2.2.2.2.2.2.2.2.2.2.2.2.2.2.2.2.2.2.2.2.2.2.2.2.2.1 x.2.2.2.2.2.2.2.2.2.2.2.2.2.2.2.2.2.2.2.2.2.2.2.2.2.2.2.2.2.2.2.2.2.2.2.1:=by kernel_rfl
theorem qkw_ (x:As [.pr (.int .u8) YTT4,.int .u8,.int .u8,.sl (.int .u16),.int .u16,.int .i64,.int .u8,.int .u32,.int .u32,.int .u32,.bool,.bool,.bool,.bool,.bool,.bool,.bool,.bool,.int .i64,.sl (.int .u16),.int .i64,.sl (.int .u16),.int .i64,.sl (.int .u16),.int .i64,.sl (.int .u16),.int .i64,.sl (.int .u16),.int .i64,.sl (.int .u16),.int .i64,.sl (.int .u16),.int .i64,.sl (.int .u16),.int .i64,.sl .bool]):evT Tryz.prog qff_ 6 18446744073709551616 (Ev.get qf8_) 56 q82_ x=law21_awake_z1 x:=by
 rw [rfn_eq,qjq_]
 rfl
theorem qjw_:CtOk Tryz.prog (fun _=>True) 56 ⟨q82_,law21_awake_z1⟩:=ct_of_ev (env_cons Ev.bx_ok (env_cons qf1_ (env_cons slave_Serve_ok (env_cons qh1_ env_nil)))) qkw_
@[reducible] def qbb_:Sh:=⟨[.d (.pr (.int .u16) YTT6)],[],[.pr (.int .u16) YTT6],[.d (.sl (.int .u16))],[],0,[.sl (.int .u16)]⟩
def qil_:Env:=(cts [])
def qik_:List (Nat×Hint):=[]
def qgi_ (c:Int×Int×Int×Int×Int):Option (As [.sl (.int .u16)]) :=
 some ([c.1,cvt .u16 c.2.1,cvt .u16 (quo .u32 c.2.2.1 65536),cvt .u16 (rem c.2.2.1 65536),c.2.2.2.1,cvt .u16 (quo .u32 c.2.2.2.2 65536),cvt .u16 (rem c.2.2.2.2 65536),0],())
def ref20_Words (x:As [.pr (.int .u16) YTT6]):Option (As [.sl (.int .u16)]):=qgi_ x.1
theorem qm6_ (J:Orc (As [.sl (.int .u16)])) (x:As [.pr (.int .u16) YTT6]):rfn Tryz.prog qil_ 6 18446744073709551616 (Ev.get qik_) 57 qbb_ J x=qgi_ x.1:=by kernel_rfl
theorem qmu_ (x:As [.pr (.int .u16) YTT6]):evT Tryz.prog qil_ 6 18446744073709551616 (Ev.get qik_) 57 qbb_ x=ref20_Words x:=by
 rw [rfn_eq,qm6_]
 rfl
theorem qmo_:CtOk Tryz.prog (fun _=>True) 57 ⟨qbb_,ref20_Words⟩:=ct_of_ev env_nil qmu_
@[reducible] def qb8_:Sh:=⟨[],[],[],[.d (.bool)],[],0,[.bool]⟩
def qih_:Env:=(cts [(1000038,Ev.bxCt),(20,(⟨low_Words_s,low_Words⟩:Ct)),(35,(⟨slave_New_s,slave_New⟩:Ct)),(56,(⟨q82_,law21_awake_z1⟩:Ct)),(57,(⟨qbb_,ref20_Words⟩:Ct))])
def qi7_:List (Nat×Hint):=[]
def qge_:Option (As [.bool]) :=
 Option.bind (slave_New (3,1,[0,0,0,0,0,0,0,0,0,0,0,0,0,0,0,0,0,0,0,0,0,0,0,0,0,0,0,0,0,0,0,0,0,0,0,0,0,0,0,0,0,0,0,0,0,0,0,0,0,0,0,0,0,0,0,0,0,0,0,0,0,0,0,0],5,())) fun y=>if nei y.2.1 0=true then some (false,()) else Option.bind (law21_awake_z1 ((3,256,8,0,[],[]),pkS y.1)) fun y=>Option.bind (ref20_Words ((7,1,1,0,0),())) fun y_1=>Option.bind (law21_awake_z1 ((23,256,8,272,y_1.1,[]),y.2)) fun y_2=>Option.bind (law21_awake_z1 ((6,272,0,0,[1],[]),y_2.2)) fun y_3=>Option.bind (ref20_Words ((8,1,2,0,0),())) fun y_4=>Option.bind (law21_awake_z1 ((16,272,8,0,y_4.1,[]),y_3.2)) fun y_5=>Option.bind (low_Words (y.1.2.2.2.1,[0,0,0,0,0,0,0,0],())) fun y=>if y.1=true then Option.bind (low_Words (y_2.1.2.2.2.1,[7,1,0,1,0,0,0,0],())) fun y=>if y.1=true then if eqi y_3.1.2.1 2=true then some (eqi y_5.1.2.1 4,()) else some (false,()) else some (false,()) else some (false,())
def law21_awake (x:As []):Option (As [.bool]):=qge_
theorem qmf_ (J:Orc (As [.bool])) (x:As []):rfn Tryz.prog qih_ 6 18446744073709551616 (Ev.get qi7_) 10 qb8_ J x=qge_:=by kernel_rfl
theorem qna_ (x:As []):evT Tryz.prog qih_ 6 18446744073709551616 (Ev.get qi7_) 10 qb8_ x=law21_awake x:=by
 rw [rfn_eq,qmf_]
 rfl
theorem qlp_:CtOk Tryz.prog (fun _=>True) 10 ⟨qb8_,law21_awake⟩:=ct_of_ev (env_cons Ev.bx_ok (env_cons low_Words_ok (env_cons slave_New_ok (env_cons qjw_ (env_cons qmo_ env_nil))))) qna_
def low_Few_m0 (words:List Int) (bits:List Bool):Option (As [.bool]) :=
 if le (Int.ofNat (List.length words)) 200=true then some (le (Int.ofNat (List.length bits)) 2100,()) else some (false,())
def low_Few (x:As [.sl (.int .u16),.sl .bool]):Option (As [.bool]):=low_Few_m0 x.1 x.2.1
def qof_ (j2:List YTT7->Int->List YTT7->Int->Int->Bool->Option (As [.bool])) (j3:List YTT7->Int->Option (As [.bool])) (self1:List YTT7->Int->List YTT7->Int->Int->Option (As [.bool])) (l:List YTT7) (most:Int) (t7:List YTT7) (t8 t9:Int):Option (As [.bool]) :=
 if lt t9 t8=true then Option.bind (at? t7 t9) fun y=>if gt (Int.ofNat (List.length y.2.1)) 300=true then j2 l most t7 t8 t9 true else Option.bind (low_Few (y.2.2.1.2.2.2.2.1,y.2.2.1.2.2.2.2.2,())) fun y=>j2 l most t7 t8 t9 !y.1 else j3 l most
def qp7_ (self1:List YTT7->Int->List YTT7->Int->Int->Option (As [.bool])) (l:List YTT7) (most:Int) (t7:List YTT7) (t8 t9:Int) (t26:Bool):Option (As [.bool]) :=
 if t26=true then some (false,()) else self1 l most t7 t8 (add .i64 t9 1)
def qpc_ (l:List YTT7) (most:Int):Option (As [.bool]) :=
 some (le (Int.ofNat (List.length l)) most,())
def qov_ (j1:List YTT7->Int->List YTT7->Int->Int->Option (As [.bool])) (l:List YTT7) (most:Int):Option (As [.bool]) :=
 j1 l most l (Int.ofNat (List.length l)) 0
def qp0_ (u1:List YTT7->Int->List YTT7->Int->Int->Option (As [.bool])) (l:List YTT7) (most:Int) (t7:List YTT7) (t8 t9:Int) (t26:Bool):Option (As [.bool]):=qp7_ u1 l most t7 t8 t9 t26
def qoy_ (l:List YTT7) (most:Int):Option (As [.bool]):=qpc_ l most
def qp8_ (l:List YTT7) (most:Int) (t7:List YTT7) (t8 t9:Int):Option (As [.bool]) :=
 loopF (fun (self:(List YTT7)×(Int)×(List YTT7)×(Int)×(Int)->Option (As [.bool])) (s:(List YTT7)×(Int)×(List YTT7)×(Int)×(Int))=>qof_ (qp0_ (fun l most t7 t8 t9=>self (l,most,t7,t8,t9))) (qoy_) (fun l most t7 t8 t9=>self (l,most,t7,t8,t9)) s.1 s.2.1 s.2.2.1 s.2.2.2.1 s.2.2.2.2) 18446744073709551616 (l,most,t7,t8,t9)
def law21_Few (x:As [.sl (.pr (.int .u8) (.pr (.sl (.int .u8)) (.pr (.pr (.int .u8) YTT4) (.pr (.int .u16) YTT6)))),.int .i64]):Option (As [.bool]):=qov_ qp8_ x.1 x.2.1
def qmv_ (unit:Int):Option (As [.bool]) :=
 if ge unit 1=true then some (le unit 247,()) else some (false,())
def rtu_isUnit (x:As [.int .u8]):Option (As [.bool]):=qmv_ x.1
end Go.Proofs.Lx
end
section
open Go Go.Proofs Ev Sx
set_option maxRecDepth 100000
namespace Go.Proofs.Lx
abbrev YaAq0:Type:=Int×Int×YTT2×List Bool
def qo0_ (j2:Int->Int->Int->Int->List Int->List Int->Option (As [.ar 16 (.int .u16)])) (self1:Int->List Int->List Int->Option (As [.ar 16 (.int .u16)])) (t5:Int) (t0 t:List Int):Option (As [.ar 16 (.int .u16)]) :=
 if lt t5 16=true then j2 t5 (cvt .u16 t5) t5 0 t0 t else need (eqi (Int.ofNat (List.length t)) 16) (need (eqi (Int.ofNat (List.length t0)) (Int.ofNat (List.length t))) (need (eqi 16 (Int.ofNat (List.length t * 1))) (need (eqi (Int.ofNat (List.length t)) 16) (need (eqi (Int.ofNat (List.length t)) 16) (some (t,()))))))
def qou_ (j3:Int->Int->Int->List Int->List Int->Option (As [.ar 16 (.int .u16)])) (self1:Int->List Int->List Int->Option (As [.ar 16 (.int .u16)])) (self2:Int->Int->Int->Int->List Int->List Int->Option (As [.ar 16 (.int .u16)])) (i x t5 t10:Int) (t0 t:List Int):Option (As [.ar 16 (.int .u16)]) :=
 if lt t10 4=true then if eqi (Sx.band .u16 x 1) 1=true then self2 i (Sx.bxor .u16 (Sx.shr .u16 x 1) 40961) t5 (add .i64 t10 1) t0 t else self2 i (Sx.shr .u16 x 1) t5 (add .i64 t10 1) t0 t else j3 i x t5 t0 t
def qo7_ (self1:Int->List Int->List Int->Option (As [.ar 16 (.int .u16)])) (i x t5:Int) (t0 t:List Int):Option (As [.ar 16 (.int .u16)]) :=
 need (lt i 16) (Option.bind (at? t i) fun x_1=>Option.bind (at? t i) fun x_2=>self1 (add .i64 t5 1) t0 (List.set t (Int.toNat i) x))
def qo3_ (j1:Int->List Int->List Int->Option (As [.ar 16 (.int .u16)])):Option (As [.ar 16 (.int .u16)]) :=
 j1 0 (List.replicate 16 0) (List.replicate 16 0)
def qoz_ (u1:Int->List Int->List Int->Option (As [.ar 16 (.int .u16)])) (i x t5:Int) (t0 t:List Int):Option (As [.ar 16 (.int .u16)]):=qo7_ u1 i x t5 t0 t
def qpb_ (u1:Int->List Int->List Int->Option (As [.ar 16 (.int .u16)])) (i x t5 t10:Int) (t0 t:List Int):Option (As [.ar 16 (.int .u16)]) :=
 loopF (fun (self:(Int)×(Int)×(Int)×(Int)×(List Int)×(List Int)->Option (As [.ar 16 (.int .u16)])) (s:(Int)×(Int)×(Int)×(Int)×(List Int)×(List Int))=>qou_ (qoz_ u1) u1 (fun i x t5 t10 t0 t=>self (i,x,t5,t10,t0,t)) s.1 s.2.1 s.2.2.1 s.2.2.2.1 s.2.2.2.2.1 s.2.2.2.2.2) 18446744073709551616 (i,x,t5,t10,t0,t)
def qog_ (t5:Int) (t0 t:List Int):Option (As [.ar 16 (.int .u16)]) :=
 loopF (fun (self:(Int)×(List Int)×(List Int)->Option (As [.ar 16 (.int .u16)])) (s:(Int)×(List Int)×(List Int))=>qo0_ (qpb_ (fun t5 t0 t=>self (t5,t0,t))) (fun t5 t0 t=>self (t5,t0,t)) s.1 s.2.1 s.2.2) 18446744073709551616 (t5,t0,t)
def crc_table (x:As []):Option (As [.ar 16 (.int .u16)]):=qo3_ qog_
def qph_ (t sum:Int) (c:List Int):Option (As [.int .u16,.sl (.int .u16)]) :=
 need (lt (Sx.band .u16 (Sx.bxor .u16 t (cvt .u16 sum)) 15) 16) (Option.bind (at? c (Sx.band .u16 (Sx.bxor .u16 t (cvt .u16 sum)) 15)) fun x=>Option.bind (at? c (Sx.band .u16 (Sx.bxor .u16 t (cvt .u16 sum)) 15)) fun y=>need (lt (Sx.band .u16 (Sx.bxor .u16 (Sx.shr .u16 (Sx.bxor .u16 t (cvt .u16 sum)) 4) y) 15) 16) (Option.bind (at? c (Sx.band .u16 (Sx.bxor .u16 (Sx.shr .u16 (Sx.bxor .u16 t (cvt .u16 sum)) 4) y) 15)) fun x=>Option.bind (at? c (Sx.band .u16 (Sx.bxor .u16 (Sx.shr .u16 (Sx.bxor .u16 t (cvt .u16 sum)) 4) y) 15)) fun y_1=>some (Sx.bxor .u16 (Sx.shr .u16 (Sx.bxor .u16 (Sx.shr .u16 (Sx.bxor .u16 t (cvt .u16 sum)) 4) y) 4) y_1,c,())))
def crc_step (x:As [.int .u16,.int .u8,.sl (.int .u16)]):Option (As [.int .u16,.sl (.int .u16)]):=qph_ x.1 x.2.1 x.2.2.1
def qqf_ (self1:List Int->Int->Int->Int->List Int->Option (As [.int .u16])) (b:List Int) (sum t8 t9:Int) (t:List Int):Option (As [.int .u16]) :=
 if lt t9 t8=true then Option.bind (at? b t9) fun y=>Option.bind (crc_step (sum,y,t,())) fun y=>self1 b y.1 t8 (add .i64 t9 1) y.2.1 else some (sum,())
def qqa_ (j1:List Int->Int->Int->Int->List Int->Option (As [.int .u16])) (b:List Int):Option (As [.int .u16]) :=
 Option.bind (crc_table ()) fun y=>need (eqi 16 (Int.ofNat (List.length y.1))) (need (eqi 16 (Int.ofNat (List.length y.1 * 1))) (j1 b 65535 (Int.ofNat (List.length b)) 0 y.1))
def qq8_ (b:List Int) (sum t8 t9:Int) (t:List Int):Option (As [.int .u16]) :=
 loopF (fun (self:(List Int)×(Int)×(Int)×(Int)×(List Int)->Option (As [.int .u16])) (s:(List Int)×(Int)×(Int)×(Int)×(List Int))=>qqf_ (fun b sum t8 t9 t=>self (b,sum,t8,t9,t)) s.1 s.2.1 s.2.2.1 s.2.2.2.1 s.2.2.2.2) 18446744073709551616 (b,sum,t8,t9,t)
def crc_Sum (x:As [.sl (.int .u8)]):Option (As [.int .u16]):=qqa_ qq8_ x.1
def qqe_ (b:List Int):Option (As [.sl (.int .u8)]) :=
 Option.bind (crc_Sum (b,())) fun y=>need (Ev.capOk 0 (add .i64 (Int.ofNat (List.length b)) 2)) (need (small (Int.toNat (add .i64 (Int.ofNat (List.length b)) 2))) (need (small (0 + List.length b)) (need (small (List.length b + Nat.succ (Nat.succ 0))) (some (b++[cvt .u8 y.1,cvt .u8 (Sx.shr .u16 y.1 8)],())))))
def crc_Put (x:As [.sl (.int .u8)]):Option (As [.sl (.int .u8)]):=qqe_ x.1
def qol_ (unit:Int) (pdu:List Int) (t18:Bool):Option (As [.sl (.int .u8),.int .i64]) :=
 if t18=true then some ([],2,()) else need (small (Nat.succ 0 + List.length pdu)) (Option.bind (crc_Put (unit::pdu,())) fun y=>some (y.1,0,()))
def qp9_ (j1:Int->List Int->Bool->Option (As [.sl (.int .u8),.int .i64])) (unit:Int) (pdu:List Int):Option (As [.sl (.int .u8),.int .i64]) :=
 Option.bind (rtu_isUnit (unit,())) fun y=>if (!y.1)=true then j1 unit pdu true else if lt (Int.ofNat (List.length pdu)) 1=true then j1 unit pdu true else j1 unit pdu (gt (Int.ofNat (List.length pdu)) 253)
def qpe_ (unit:Int) (pdu:List Int) (t18:Bool):Option (As [.sl (.int .u8),.int .i64]):=qol_ unit pdu t18
def rtu_Bytes (x:As [.int .u8,.sl (.int .u8)]):Option (As [.sl (.int .u8),.int .i64]):=qp9_ qpe_ x.1 x.2.1
def qqg_ (b:List Int):Option (As [.sl (.int .u8),.int .i64]) :=
 if lt (Int.ofNat (List.length b)) 2=true then some ([],10,()) else Option.bind (cut b 0 (Sx.sub .i64 (Int.ofNat (List.length b)) 2)) fun y=>Option.bind (at? b (Sx.sub .i64 (Int.ofNat (List.length b)) 2)) fun y_1=>Option.bind (at? b (add .i64 (Sx.sub .i64 (Int.ofNat (List.length b)) 2) 1)) fun y_2=>Option.bind (crc_Sum (y,())) fun y=>if nei y.1 (Sx.bor .u16 (cvt .u16 y_1) (Sx.shl .u16 (cvt .u16 y_2) 8))=true then some ([],11,()) else need (ge (Sx.sub .i64 (Int.ofNat (List.length b)) 2) 0) (need (Ev.capOk (Sx.sub .i64 (Int.ofNat (List.length b)) 2) (Sx.sub .i64 (Int.ofNat (List.length b)) 2)) (need (small (Int.toNat (Sx.sub .i64 (Int.ofNat (List.length b)) 2))) (need (le (Int.ofNat (0 + List.length (List.replicate (α:=Int) (Int.toNat (Sx.sub .i64 (Int.ofNat (List.length b)) 2)) 0))) (Int.ofNat (List.length (List.replicate (α:=Int) (Int.toNat (Sx.sub .i64 (Int.ofNat (List.length b)) 2)) 0)))) (some (List.take (Int.toNat (Int.ofNat (List.length (List.replicate (α:=Int) (Int.toNat (Sx.sub .i64 (Int.ofNat (List.length b)) 2)) 0)))) b++List.drop (0 + List.length (List.take (Int.toNat (Int.ofNat (List.length (List.replicate (α:=Int) (Int.toNat (Sx.sub .i64 (Int.ofNat (List.length b)) 2)) 0)))) b)) (List.replicate (Int.toNat (Sx.sub .i64 (Int.ofNat (List.length b)) 2)) 0),0,())))))
def crc_Cut (x:As [.sl (.int .u8)]):Option (As [.sl (.int .u8),.int .i64]):=qqg_ x.1
def qp6_ (b:List Int) (t14:Bool):Option (As [.int .u8,.sl (.int .u8),.int .i64]) :=
 if t14=true then some (0,[],10,()) else Option.bind (crc_Cut (b,())) fun y=>if nei y.2.1 0=true then some (0,[],y.2.1,()) else Option.bind (at? y.1 0) fun y_1=>Option.bind (rtu_isUnit (y_1,())) fun y_2=>if (!y_2.1)=true then some (0,[],10,()) else Option.bind (at? y.1 0) fun y_3=>Option.bind (cut y.1 1 (Int.ofNat (List.length y.1))) fun y_4=>need (le (Int.ofNat (List.length y.1)) (Int.ofNat (List.length y.1))) (need (le (Int.ofNat (List.length y.1)) (Int.ofNat (List.length y.1))) (some (y_3,y_4,0,())))
def qoh_ (j1:List Int->Bool->Option (As [.int .u8,.sl (.int .u8),.int .i64])) (b:List Int):Option (As [.int .u8,.sl (.int .u8),.int .i64]) :=
 if lt (Int.ofNat (List.length b)) 4=true then j1 b true else j1 b (gt (Int.ofNat (List.length b)) 256)
def qp2_ (b:List Int) (t14:Bool):Option (As [.int .u8,.sl (.int .u8),.int .i64]):=qp6_ b t14
def rtu_Parse (x:As [.sl (.int .u8)]):Option (As [.int .u8,.sl (.int .u8),.int .i64]):=qoh_ qp2_ x.1
def qm8_ (j2:List Int->Int->Bool->Option (As [.bool])) (self1:List Int->Int->Option (As [.bool])) (b:List Int) (i:Int):Option (As [.bool]) :=
 if lt i 6=true then j2 b i (lt i (Int.ofNat (List.length b))) else j2 b i false
def qmn_ (j3:List Int->Int->Bool->Option (As [.bool])) (self1:List Int->Int->Option (As [.bool])) (b:List Int) (i:Int) (t11:Bool):Option (As [.bool]) :=
 if t11=true then if lt i 5=true then Option.bind (at? b i) fun y=>j3 b i (nei y 0) else j3 b i false else some (true,())
def qm9_ (j4:List Int->Int->Bool->Option (As [.bool])) (self1:List Int->Int->Option (As [.bool])) (b:List Int) (i:Int) (t22:Bool):Option (As [.bool]) :=
 if t22=true then some (false,()) else if eqi i 5=true then Option.bind (at? b i) fun y=>if lt y 2=true then j4 b i true else Option.bind (at? b i) fun y=>j4 b i (gt (cvt .i64 y) 254) else j4 b i false
def qmk_ (self1:List Int->Int->Option (As [.bool])) (b:List Int) (i:Int) (t39:Bool):Option (As [.bool]) :=
 if t39=true then some (false,()) else self1 b (add .i64 i 1)
def qm5_ (j1:List Int->Int->Option (As [.bool])) (b:List Int):Option (As [.bool]) :=
 j1 b 2
def qls_ (u1:List Int->Int->Option (As [.bool])) (b:List Int) (i:Int) (t39:Bool):Option (As [.bool]):=qmk_ u1 b i t39
def qmi_ (u1:List Int->Int->Option (As [.bool])) (b:List Int) (i:Int) (t22:Bool):Option (As [.bool]):=qm9_ (qls_ u1) u1 b i t22
def qlx_ (u1:List Int->Int->Option (As [.bool])) (b:List Int) (i:Int) (t11:Bool):Option (As [.bool]):=qmn_ (qmi_ u1) u1 b i t11
def qlj_ (b:List Int) (i:Int):Option (As [.bool]) :=
 loopF (fun (self:(List Int)×(Int)->Option (As [.bool])) (s:(List Int)×(Int))=>qm8_ (qlx_ (fun b i=>self (b,i))) (fun b i=>self (b,i)) s.1 s.2) 18446744073709551616 (b,i)
def mbap_begins (x:As [.sl (.int .u8)]):Option (As [.bool]):=qm5_ qlj_ x.1
def qnk_ (b:List Int) (t13:Bool) (t2 t2_2:Int):Option (As [.pr (.int .u16) YTT14,.int .i64]) :=
 if t13=true then some ((0,0,[]),0,()) else Option.bind (at? b 5) fun y=>if lt (Int.ofNat (List.length b)) (add .i64 6 (cvt .i64 y))=true then some ((0,0,[]),0,()) else need (ge (Sx.sub .i64 (add .i64 6 (cvt .i64 y)) 7) 0) (need (Ev.capOk (Sx.sub .i64 (add .i64 6 (cvt .i64 y)) 7) (Sx.sub .i64 (add .i64 6 (cvt .i64 y)) 7)) (need (small (Int.toNat (Sx.sub .i64 (add .i64 6 (cvt .i64 y)) 7))) (Option.bind (cut b 7 (add .i64 6 (cvt .i64 y))) fun y_1=>need (le (Int.ofNat (0 + List.length (List.replicate (α:=Int) (Int.toNat (Sx.sub .i64 (add .i64 6 (cvt .i64 y)) 7)) 0))) (Int.ofNat (List.length (List.replicate (α:=Int) (Int.toNat (Sx.sub .i64 (add .i64 6 (cvt .i64 y)) 7)) 0)))) (Option.bind (at? b 0) fun y_2=>Option.bind (at? b 1) fun y_3=>Option.bind (at? b 6) fun y_4=>some ((Sx.bor .u16 (Sx.shl .u16 (cvt .u16 y_2) 8) (cvt .u16 y_3),y_4,List.take (Int.toNat (Int.ofNat (List.length (List.replicate (α:=Int) (Int.toNat (Sx.sub .i64 (add .i64 6 (cvt .i64 y)) 7)) 0)))) y_1++List.drop (0 + List.length (List.take (Int.toNat (Int.ofNat (List.length (List.replicate (α:=Int) (Int.toNat (Sx.sub .i64 (add .i64 6 (cvt .i64 y)) 7)) 0)))) y_1)) (List.replicate (Int.toNat (Sx.sub .i64 (add .i64 6 (cvt .i64 y)) 7)) 0)),add .i64 6 (cvt .i64 y),())))))
def qnq_ (j1:List Int->Bool->Int->Int->Option (As [.pr (.int .u16) YTT14,.int .i64])) (b:List Int):Option (As [.pr (.int .u16) YTT14,.int .i64]) :=
 if le (Int.ofNat (List.length b)) 7=true then j1 b true 0 0 else Option.bind (mbap_begins (b,())) fun y=>j1 b (!y.1) 0 0
def qni_ (b:List Int) (t13:Bool) (t2 t2_2:Int):Option (As [.pr (.int .u16) YTT14,.int .i64]):=qnk_ b t13 t2 t2_2
def mbap_first (x:As [.sl (.int .u8)]):Option (As [.pr (.int .u16) YTT14,.int .i64]):=qnq_ qni_ x.1
def qnn_ (t18:Bool) (t2 t2_2:Int) (x:Int×Int×List Int):Option (As [.pr (.int .u16) YTT14,.int .i64]) :=
 if t18=true then some ((0,0,[]),10,()) else some (x,0,())
def qno_ (j1:Bool->Int->Int->Int×Int×List Int->Option (As [.pr (.int .u16) YTT14,.int .i64])) (b:List Int):Option (As [.pr (.int .u16) YTT14,.int .i64]) :=
 Option.bind (mbap_first (b,())) fun y=>if eqi y.2.1 0=true then j1 true 0 0 y.1 else j1 (nei y.2.1 (Int.ofNat (List.length b))) 0 0 y.1
def qmy_ (t18:Bool) (t2 t2_2:Int) (x:Int×Int×List Int):Option (As [.pr (.int .u16) YTT14,.int .i64]):=qnn_ t18 t2 t2_2 x
def mbap_Parse (x:As [.sl (.int .u8)]):Option (As [.pr (.int .u16) YTT14,.int .i64]):=qno_ qmy_ x.1
def qop_ (n:Int) (t14:Bool) (x:Int×Int×List Int):Option (As [.sl (.int .u8),.int .i64]) :=
 if t14=true then some ([],2,()) else need (Ev.capOk 0 (add .i64 7 n)) (need (small (Int.toNat (add .i64 7 n))) (need (small (0 + Nat.succ (Nat.succ (Nat.succ (Nat.succ (Nat.succ (Nat.succ (Nat.succ 0)))))))) (need (small (Nat.succ (Nat.succ (Nat.succ (Nat.succ (Nat.succ (Nat.succ (Nat.succ 0)))))) + List.length x.2.2)) (some (cvt .u8 (Sx.shr .u16 x.1 8)::cvt .u8 x.1::0::0::0::cvt .u8 (add .i64 n 1)::x.2.1::x.2.2,0,())))))
def qpg_ (j1:Int->Bool->Int×Int×List Int->Option (As [.sl (.int .u8),.int .i64])) (x:Int×Int×List Int):Option (As [.sl (.int .u8),.int .i64]) :=
 if lt (Int.ofNat (List.length x.2.2)) 1=true then j1 (Int.ofNat (List.length x.2.2)) true x else j1 (Int.ofNat (List.length x.2.2)) (gt (Int.ofNat (List.length x.2.2)) 253) x
def qpf_ (n:Int) (t14:Bool) (x:Int×Int×List Int):Option (As [.sl (.int .u8),.int .i64]):=qop_ n t14 x
def mbap_Pack (x:As [.pr (.int .u16) YTT14]):Option (As [.sl (.int .u8),.int .i64]):=qpg_ qpf_ x.1
def slave_Take_m1 (s t4:Int) (t31:Bool) (s_2 t4_2:List (YaAq0)) (x:Int×Int×List Int):slave_Serve_R :=
 if t31=true then Option.bind (at? s_2 s) fun y=>Option.bind (slave_own (y,())) fun y=>Option.bind (at? t4_2 t4) fun x=>Option.bind (at? (List.set t4_2 (Int.toNat t4) y.1) t4) fun y_1=>Option.bind (at? (List.set t4_2 (Int.toNat t4) y.1) t4) fun y=>some (y,[],()) else Option.bind (at? s_2 s) fun y=>Option.bind (slave_Serve (y,x.2.2,())) fun y=>Option.bind (at? s_2 s) fun x_1=>Option.bind (mbap_Pack ((x.1,x.2.1,y.2.1),())) fun y_1=>Option.bind (at? (List.set s_2 (Int.toNat s) y.1) s) fun y=>Option.bind (at? t4_2 t4) fun x=>Option.bind (at? (List.set t4_2 (Int.toNat t4) y) t4) fun y_2=>Option.bind (at? (List.set t4_2 (Int.toNat t4) y) t4) fun y=>some (y,y_1.1,())
def slave_Take_m2 (s t4 unit:Int) (pdu:List Int) (t62:Bool) (s_2 t4_2:List (YaAq0)):slave_Serve_R :=
 if t62=true then Option.bind (at? s_2 s) fun y=>Option.bind (slave_own (y,())) fun y=>Option.bind (at? t4_2 t4) fun x=>Option.bind (at? (List.set t4_2 (Int.toNat t4) y.1) t4) fun y_1=>Option.bind (at? (List.set t4_2 (Int.toNat t4) y.1) t4) fun y=>some (y,[],()) else Option.bind (at? s_2 s) fun y=>Option.bind (slave_Serve (y,pdu,())) fun y=>Option.bind (at? s_2 s) fun x=>Option.bind (rtu_Bytes (unit,y.2.1,())) fun y_1=>Option.bind (at? (List.set s_2 (Int.toNat s) y.1) s) fun y=>Option.bind (at? t4_2 t4) fun x=>Option.bind (at? (List.set t4_2 (Int.toNat t4) y) t4) fun y_2=>Option.bind (at? (List.set t4_2 (Int.toNat t4) y) t4) fun y=>some (y,y_1.1,())
def slave_Take_m0 (j1:Int->Int->Bool->List (YaAq0)->List (YaAq0)->Int×Int×List Int->slave_Serve_R) (j2:Int->Int->Int->List Int->Bool->List (YaAq0)->List (YaAq0)->slave_Serve_R) (s:YaAq0) (frame:List Int):slave_Serve_R :=
 if eqi s.2.1 2=true then Option.bind (mbap_Parse (frame,())) fun y=>if nei y.2.1 0=true then j1 0 0 true [s] [zSl] y.1 else j1 0 0 (nei y.1.2.1 s.1) [s] [zSl] y.1 else Option.bind (rtu_Parse (frame,())) fun y=>if nei y.2.2.1 0=true then j2 0 0 y.1 y.2.1 true [s] [zSl] else j2 0 0 y.1 y.2.1 (nei y.1 s.1) [s] [zSl]
def slave_Take_K1 (s t4:Int) (t31:Bool) (s_2 t4_2:List (YaAq0)) (x:Int×Int×List Int):slave_Serve_R:=slave_Take_m1 s t4 t31 s_2 t4_2 x
def slave_Take_K2 (s t4 unit:Int) (pdu:List Int) (t62:Bool) (s_2 t4_2:List (YaAq0)):slave_Serve_R:=slave_Take_m2 s t4 unit pdu t62 s_2 t4_2
def slave_Take (x:As [.pr (.int .u8) (.pr (.int .u8) (.pr (.pr (.sl (.int .u16)) YTT0) (.sl .bool))),.sl (.int .u8)]):slave_Serve_R:=slave_Take_m0 slave_Take_K1 slave_Take_K2 x.1 x.2.1
def lease_Tick_m1 (t14:Bool) (l t2:Int×Int):Option (As [.pr (.int .u16) (.int .i64),.bool]) :=
 if t14=true then some (l,false,()) else if eqi (Sx.sub .i64 l.2 1) 0=true then some ((0,0),true,()) else some ((l.1,Sx.sub .i64 l.2 1),false,())
def lease_Tick_m0 (j1:Bool->Int×Int->Int×Int->Option (As [.pr (.int .u16) (.int .i64),.bool])) (l:Int×Int):Option (As [.pr (.int .u16) (.int .i64),.bool]) :=
 Option.bind (lease_counted (l,())) fun y=>Option.bind (lease_Free (y.1,())) fun y_1=>if y_1.1=true then j1 true y.1 (0,0) else Option.bind (lease_held (y.1.1,())) fun y_2=>j1 (eqi y.1.1 y_2.1.1 && (eqi y.1.2 y_2.1.2 && true)) y.1 (0,0)
def lease_Tick_K1 (t14:Bool) (l t2:Int×Int):Option (As [.pr (.int .u16) (.int .i64),.bool]):=lease_Tick_m1 t14 l t2
def lease_Tick (x:As [.pr (.int .u16) (.int .i64)]):Option (As [.pr (.int .u16) (.int .i64),.bool]):=lease_Tick_m0 lease_Tick_K1 x.1
def agent_Tick_m0 (a:List Int×(Int×Int)×Int×Int×Int×YTT9×Int):Option (As [.pr (.sl (.int .u16)) YTT0]) :=
 Option.bind (agent_own (a,())) fun y=>Option.bind (lease_Tick (y.1.2.1,())) fun y_1=>if y_1.2.1=true then Option.bind (agent_freed (y.1,())) fun y=>some (y.1,()) else some ((y.1.1,y_1.1,y.1.2.2),())
def agent_Tick (x:As [.pr (.sl (.int .u16)) YTT0]):Option (As [.pr (.sl (.int .u16)) YTT0]):=agent_Tick_m0 x.1
def slave_Tick_m0 (s:YaAq0):Option (As [.pr (.int .u8) (.pr (.int .u8) (.pr (.pr (.sl (.int .u16)) YTT0) (.sl .bool)))]) :=
 Option.bind (slave_own (s,())) fun y=>Option.bind (agent_Tick (y.1.2.2.1,())) fun y_1=>some ((y.1.1,y.1.2.1,y_1.1,y.1.2.2.2),())
def slave_Tick (x:As [.pr (.int .u8) (.pr (.int .u8) (.pr (.pr (.sl (.int .u16)) YTT0) (.sl .bool)))]):Option (As [.pr (.int .u8) (.pr (.int .u8) (.pr (.pr (.sl (.int .u16)) YTT0) (.sl .bool)))]):=slave_Tick_m0 x.1
def agent_Boot_m0 (a:List Int×(Int×Int)×Int×Int×Int×YTT9×Int):Option (As [.pr (.sl (.int .u16)) YTT0]) :=
 Option.bind (agent_own (a,())) fun y=>if eqi y.1.2.2.1 1=true then Option.bind (agent_freed (y.1,())) fun y=>some (y.1,()) else some (y.1,())
def agent_Boot (x:As [.pr (.sl (.int .u16)) YTT0]):Option (As [.pr (.sl (.int .u16)) YTT0]):=agent_Boot_m0 x.1
def slave_Boot_m0 (s:YaAq0):Option (As [.pr (.int .u8) (.pr (.int .u8) (.pr (.pr (.sl (.int .u16)) YTT0) (.sl .bool)))]) :=
 Option.bind (slave_own (s,())) fun y=>Option.bind (agent_Boot (y.1.2.2.1,())) fun y_1=>some ((y.1.1,y.1.2.1,y_1.1,[false,false,false,false,false,false,false,false,false,false,false,false,false,false,false,false]),())
def slave_Boot (x:As [.pr (.int .u8) (.pr (.int .u8) (.pr (.pr (.sl (.int .u16)) YTT0) (.sl .bool)))]):Option (As [.pr (.int .u8) (.pr (.int .u8) (.pr (.pr (.sl (.int .u16)) YTT0) (.sl .bool)))]):=slave_Boot_m0 x.1
def bank_Same_z1_m0 (x y:Int×List Int):Option (As [.bool]) :=
 if eqi x.1 y.1=true then Option.bind (slices_Equal_Guint16 (x.2,y.2,())) fun y=>some (y.1,()) else some (false,())
def bank_Same_z1 (x:As [.pr (.int .i64) (.sl (.int .u16)),.pr (.int .i64) (.sl (.int .u16))]):Option (As [.bool]):=bank_Same_z1_m0 x.1 x.2.1
def qco_ (self1:List (Int×List Int)->List (Int×List Int)->Int->Int->Option (As [.bool])) (s2 t15:List (Int×List Int)) (t16 t17:Int):Option (As [.bool]) :=
 if lt t17 t16=true then Option.bind (at? t15 t17) fun y=>Option.bind (at? s2 t17) fun y_1=>Option.bind (bank_Same_z1 (y,y_1,())) fun y=>if (!y.1)=true then some (false,()) else self1 s2 t15 t16 (add .i64 t17 1) else some (true,())
def qd1_ (j1:List (Int×List Int)->List (Int×List Int)->Int->Int->Option (As [.bool])) (s1 s2:List (Int×List Int)):Option (As [.bool]) :=
 if nei (Int.ofNat (List.length s1)) (Int.ofNat (List.length s2))=true then some (false,()) else j1 s2 s1 (Int.ofNat (List.length s1)) 0
def qcg_ (s2 t15:List (Int×List Int)) (t16 t17:Int):Option (As [.bool]) :=
 loopF (fun (self:(List (Int×List Int))×(List (Int×List Int))×(Int)×(Int)->Option (As [.bool])) (s:(List (Int×List Int))×(List (Int×List Int))×(Int)×(Int))=>qco_ (fun s2 t15 t16 t17=>self (s2,t15,t16,t17)) s.1 s.2.1 s.2.2.1 s.2.2.2) 18446744073709551616 (s2,t15,t16,t17)
def slices_EqualFunc_Gapi_Block (x:As [.sl YTT8,.sl YTT8]):Option (As [.bool]):=qd1_ qcg_ x.1 x.2.1
def bank_Same_m0 (a b:List (Int×List Int)):Option (As [.bool]) :=
 Option.bind (slices_EqualFunc_Gapi_Block (a,b,())) fun y=>some (y.1,())
def bank_Same (x:As [.sl YTT8,.sl YTT8]):Option (As [.bool]):=bank_Same_m0 x.1 x.2.1
def stage_Same_m0 (a b:Int×List Bool×List (Int×List Int)):Option (As [.bool]) :=
 if eqi a.1 b.1=true then if (Sx.eqb (List.getD a.2.1 0 false) (List.getD b.2.1 0 false) && (Sx.eqb (List.getD a.2.1 1 false) (List.getD b.2.1 1 false) && (Sx.eqb (List.getD a.2.1 2 false) (List.getD b.2.1 2 false) && (Sx.eqb (List.getD a.2.1 3 false) (List.getD b.2.1 3 false) && (Sx.eqb (List.getD a.2.1 4 false) (List.getD b.2.1 4 false) && (Sx.eqb (List.getD a.2.1 5 false) (List.getD b.2.1 5 false) && (Sx.eqb (List.getD a.2.1 6 false) (List.getD b.2.1 6 false) && (Sx.eqb (List.getD a.2.1 7 false) (List.getD b.2.1 7 false) && true))))))))=true then Option.bind (stage_Blocks (a,())) fun y=>Option.bind (stage_Blocks (b,())) fun y_1=>Option.bind (bank_Same (y.1,y_1.1,())) fun y=>some (y.1,()) else some (false,()) else some (false,())
def stage_Same (x:As [.pr (.int .u32) (.pr (.ar 8 .bool) (.ar 8 YTT8)),.pr (.int .u32) (.pr (.ar 8 .bool) (.ar 8 YTT8))]):Option (As [.bool]):=stage_Same_m0 x.1 x.2.1
def agent_Same_m0 (a b:List Int×(Int×Int)×Int×Int×Int×YTT9×Int):Option (As [.bool]) :=
 Option.bind (slices_Equal_Guint16 (a.1,b.1,())) fun y=>if y.1=true then if (eqi a.2.1.1 b.2.1.1 && (eqi a.2.1.2 b.2.1.2 && true))=true then if eqi a.2.2.1 b.2.2.1=true then if eqi a.2.2.2.1 b.2.2.2.1=true then if eqi a.2.2.2.2.1 b.2.2.2.2.1=true then Option.bind (stage_Same (a.2.2.2.2.2.1,b.2.2.2.2.2.1,())) fun y=>if y.1=true then some (eqi a.2.2.2.2.2.2 b.2.2.2.2.2.2,()) else some (false,()) else some (false,()) else some (false,()) else some (false,()) else some (false,()) else some (false,())
def agent_Same (x:As [.pr (.sl (.int .u16)) YTT0,.pr (.sl (.int .u16)) YTT0]):Option (As [.bool]):=agent_Same_m0 x.1 x.2.1
def slave_Same_m0 (a b:YaAq0):Option (As [.bool]) :=
 if eqi a.1 b.1=true then if eqi a.2.1 b.2.1=true then Option.bind (agent_Same (a.2.2.1,b.2.2.1,())) fun y=>if y.1=true then Option.bind (slices_Equal_Gbool (a.2.2.2,b.2.2.2,())) fun y=>some (y.1,()) else some (false,()) else some (false,()) else some (false,())
def slave_Same (x:As [.pr (.int .u8) (.pr (.int .u8) (.pr (.pr (.sl (.int .u16)) YTT0) (.sl .bool))),.pr (.int .u8) (.pr (.int .u8) (.pr (.pr (.sl (.int .u16)) YTT0) (.sl .bool)))]):Option (As [.bool]):=slave_Same_m0 x.1 x.2.1
def low_Bits_m1 (self1:List Bool->List Bool->Int->Int->Option (As [.bool])) (a b:List Bool) (t12 t13:Int):Option (As [.bool]) :=
 if lt t13 t12=true then Option.bind (at? a t13) fun y=>Option.bind (at? b t13) fun y_1=>if Sx.neb y y_1=true then some (false,()) else self1 a b t12 (add .i64 t13 1) else some (true,())
def low_Bits_m0 (j1:List Bool->List Bool->Int->Int->Option (As [.bool])) (a b:List Bool):Option (As [.bool]) :=
 if nei (Int.ofNat (List.length a)) (Int.ofNat (List.length b))=true then some (false,()) else j1 a b (Int.ofNat (List.length a)) 0
def low_Bits_K1 (a b:List Bool) (t12 t13:Int):Option (As [.bool]) :=
 loopF (fun (self:(List Bool)×(List Bool)×(Int)×(Int)->Option (As [.bool])) (s:(List Bool)×(List Bool)×(Int)×(Int))=>low_Bits_m1 (fun a b t12 t13=>self (a,b,t12,t13)) s.1 s.2.1 s.2.2.1 s.2.2.2) 18446744073709551616 (a,b,t12,t13)
def low_Bits (x:As [.sl .bool,.sl .bool]):Option (As [.bool]):=low_Bits_m0 low_Bits_K1 x.1 x.2.1
def low_Same_m0 (a b:List Int):Option (As [.bool]) :=
 some (eqs (Sx.toS a) (Sx.toS b),())
def low_Same (x:As [.sl (.int .u8),.sl (.int .u8)]):Option (As [.bool]):=low_Same_m0 x.1 x.2.1
@[reducible] def qb5_:Sh:=⟨[.d (.pr (.int .u8) YTT3)],[],[.pr (.int .u8) YTT3],[.d (.bool)],[],0,[.bool]⟩
def qim_:Env:=(cts [(254,(⟨q1p_,reply_exception_right⟩:Ct)),(267,(⟨q28_,reply_bitList_right⟩:Ct)),(270,(⟨q22_,reply_wordList_right⟩:Ct)),(275,(⟨q2l_,reply_oneBit_right⟩:Ct)),(278,(⟨q2b_,reply_oneWord_right⟩:Ct)),(281,(⟨q2w_,reply_count_right⟩:Ct))])
def qi9_:List (Nat×Hint):=[]
def q9t_ (r:Int×Int×List Bool×List Int×Int×Int):Option (As [.bool]) :=
 if nei r.2.1 0=true then Option.bind (reply_exception_right ((),r,())) fun y=>some (y.1,()) else if eqi r.1 1=true then Option.bind (reply_bitList_right ((),r,())) fun y=>some (y.1,()) else if eqi r.1 2=true then Option.bind (reply_bitList_right ((),r,())) fun y=>some (y.1,()) else if eqi r.1 3=true then Option.bind (reply_wordList_right ((),r,())) fun y=>some (y.1,()) else if eqi r.1 4=true then Option.bind (reply_wordList_right ((),r,())) fun y=>some (y.1,()) else if eqi r.1 23=true then Option.bind (reply_wordList_right ((),r,())) fun y=>some (y.1,()) else if eqi r.1 5=true then Option.bind (reply_oneBit_right ((),r,())) fun y=>some (y.1,()) else if eqi r.1 6=true then Option.bind (reply_oneWord_right ((),r,())) fun y=>some (y.1,()) else if eqi r.1 15=true then Option.bind (reply_count_right (1968,r,())) fun y=>some (y.1,()) else if eqi r.1 16=true then Option.bind (reply_count_right (123,r,())) fun y=>some (y.1,()) else some (false,())
def reply_Right (x:As [.pr (.int .u8) YTT3]):Option (As [.bool]):=q9t_ x.1
theorem qmj_ (J:Orc (As [.bool])) (x:As [.pr (.int .u8) YTT3]):rfn Tryz.prog qim_ 6 18446744073709551616 (Ev.get qi9_) 67 qb5_ J x=q9t_ x.1:=by kernel_rfl
theorem qnm_ (x:As [.pr (.int .u8) YTT3]):evT Tryz.prog qim_ 6 18446744073709551616 (Ev.get qi9_) 67 qb5_ x=reply_Right x:=by
 rw [rfn_eq,qmj_]
 rfl
theorem qm0_:CtOk Tryz.prog (fun _=>True) 67 ⟨qb5_,reply_Right⟩:=ct_of_ev (env_cons q6j_ (env_cons q7c_ (env_cons q6n_ (env_cons q7k_ (env_cons q7b_ (env_cons q84_ env_nil)))))) qnm_
@[reducible] def q6h_:Sh:=⟨[.d (.pr (.int .u8) YTT4),.d (.pr (.int .u8) YTT3)],[],[.pr (.int .u8) YTT4,.pr (.int .u8) YTT3],[.d (.bool)],[],0,[.bool]⟩
def q9i_:Env:=(cts [(58,(⟨q24_,ask_Right⟩:Ct)),(67,(⟨qb5_,reply_Right⟩:Ct)),(68,(⟨q1g_,reply_Echo⟩:Ct)),(69,(⟨q2y_,reply_Same⟩:Ct)),(70,(⟨q2q_,slices_Contains_Gbool⟩:Ct))])
def q9d_:List (Nat×Hint):=[(6,⟨[],[2,3,22,51,52,53,54,55,56]⟩)]
def qb1_ (t22:Bool) (a a_2 a_3 a_4:Int) (a_5:List Int) (a_6:List Bool) (r r_2:Int) (r_3:List Bool) (r_4:List Int) (r_5 r_6:Int):St:={ fr:=[(2,.pb 0 0),(3,.pb 1 0),(22,.d .bool t22)],nt:=63,up:=[],own:=[(0,.box 44 [.d (.int .u8) a,.d (.int .u16) a_2,.d (.int .u16) a_3,.d (.int .u16) a_4,.d (.sl (.int .u16)) a_5,.d (.sl .bool) a_6]),(1,.box 46 [.d (.int .u8) r,.d (.int .u8) r_2,.d (.sl .bool) r_3,.d (.sl (.int .u16)) r_4,.d (.int .u16) r_5,.d (.int .u16) r_6])],nx:=2,log:=[],ln:=0 }
def qeh_ (t22:Bool) (a a_2 a_3 a_4:Int) (a_5:List Int) (a_6:List Bool) (r r_2:Int) (r_3:List Bool) (r_4:List Int) (r_5 r_6:Int):Option (As [.bool]) :=
 if t22=true then some (false,()) else if nei r_2 0=true then some (true,()) else Option.bind (reply_Echo ((a,a_2,a_3,a_4,a_5,a_6),())) fun y=>if y.2.1=true then Option.bind (reply_Same (y.1,(r,r_2,r_3,r_4,r_5,r_6),())) fun y=>some (y.1,()) else if gt (Int.ofNat (List.length r_3)) 0=true then if eqi (Int.ofNat (List.length r_3)) (mul .i64 (quo .i64 (add .i64 (cvt .i64 a_3) 7) 8) 8)=true then Option.bind (cut r_3 (cvt .i64 a_3) (Int.ofNat (List.length r_3))) fun y=>Option.bind (slices_Contains_Gbool (y,true,())) fun y=>some (!y.1,()) else some (false,()) else some (eqi (Int.ofNat (List.length r_4)) (cvt .i64 a_3),())
def qb2_ (j1:Bool->Int->Int->Int->Int->List Int->List Bool->Int->Int->List Bool->List Int->Int->Int->Option (As [.bool])) (a:Int×Int×Int×Int×List Int×List Bool) (r:Int×Int×List Bool×List Int×Int×Int):Option (As [.bool]) :=
 Option.bind (ask_Right (a,())) fun y=>if (!y.1)=true then j1 true a.1 a.2.1 a.2.2.1 a.2.2.2.1 a.2.2.2.2.1 a.2.2.2.2.2 r.1 r.2.1 r.2.2.1 r.2.2.2.1 r.2.2.2.2.1 r.2.2.2.2.2 else Option.bind (reply_Right (r,())) fun y=>if (!y.1)=true then j1 true a.1 a.2.1 a.2.2.1 a.2.2.2.1 a.2.2.2.2.1 a.2.2.2.2.2 r.1 r.2.1 r.2.2.1 r.2.2.2.1 r.2.2.2.2.1 r.2.2.2.2.2 else j1 (nei a.1 r.1) a.1 a.2.1 a.2.2.1 a.2.2.2.1 a.2.2.2.2.1 a.2.2.2.2.2 r.1 r.2.1 r.2.2.1 r.2.2.2.1 r.2.2.2.2.1 r.2.2.2.2.2
def q6s_ (t22:Bool) (a a_2 a_3 a_4:Int) (a_5:List Int) (a_6:List Bool) (r r_2:Int) (r_3:List Bool) (r_4:List Int) (r_5 r_6:Int):Option (As [.bool]):=qeh_ t22 a a_2 a_3 a_4 a_5 a_6 r r_2 r_3 r_4 r_5 r_6
def reply_Fits (x:As [.pr (.int .u8) YTT4,.pr (.int .u8) YTT3]):Option (As [.bool]):=qb2_ q6s_ x.1 x.2.1
theorem qn1_ (J:Orc (As [.bool])) (t22:Bool) (a a_2 a_3 a_4:Int) (a_5:List Int) (a_6:List Bool) (r r_2:Int) (r_3:List Bool) (r_4:List Int) (r_5 r_6:Int):pfn Tryz.prog q9i_ 6 18446744073709551616 (Ev.get q9d_) 16 q6h_ J 6 [] (qb1_ t22 a a_2 a_3 a_4 a_5 a_6 r r_2 r_3 r_4 r_5 r_6)=qeh_ t22 a a_2 a_3 a_4 a_5 a_6 r r_2 r_3 r_4 r_5 r_6:=by kernel_rfl
theorem qn7_ (J:Orc (As [.bool])) (x:As [.pr (.int .u8) YTT4,.pr (.int .u8) YTT3]):rfn Tryz.prog q9i_ 6 18446744073709551616 (Ev.get q9d_) 16 q6h_ J x=qb2_ (fun t22 a a_2 a_3 a_4 a_5 a_6 r r_2 r_3 r_4 r_5 r_6=>J 6 [] (qb1_ t22 a a_2 a_3 a_4 a_5 a_6 r r_2 r_3 r_4 r_5 r_6)) x.1 x.2.1:=by kernel_rfl
theorem qnf_ (t22:Bool) (a a_2 a_3 a_4:Int) (a_5:List Int) (a_6:List Bool) (r r_2:Int) (r_3:List Bool) (r_4:List Int) (r_5 r_6:Int):jfn Tryz.prog q9i_ 6 18446744073709551616 (Ev.get q9d_) 16 q6h_ 6 [] (qb1_ t22 a a_2 a_3 a_4 a_5 a_6 r r_2 r_3 r_4 r_5 r_6)=q6s_ t22 a a_2 a_3 a_4 a_5 a_6 r r_2 r_3 r_4 r_5 r_6:=by
 rw [pfn_eq (by decide)]
 rw [qn1_]
 rfl
theorem qp1_ (x:As [.pr (.int .u8) YTT4,.pr (.int .u8) YTT3]):evT Tryz.prog q9i_ 6 18446744073709551616 (Ev.get q9d_) 16 q6h_ x=reply_Fits x:=by
 have e1:(fun t22 a a_2 a_3 a_4 a_5 a_6 r r_2 r_3 r_4 r_5 r_6=>(jfn Tryz.prog q9i_ 6 18446744073709551616 (Ev.get q9d_) 16 q6h_) 6 [] (qb1_ t22 a a_2 a_3 a_4 a_5 a_6 r r_2 r_3 r_4 r_5 r_6))=q6s_:=by funext t22 a a_2 a_3 a_4 a_5 a_6 r r_2 r_3 r_4 r_5 r_6; exact qnf_ t22 a a_2 a_3 a_4 a_5 a_6 r r_2 r_3 r_4 r_5 r_6
 rw [rfn_eq,qn7_,e1]
 rfl
theorem qn2_:CtOk Tryz.prog (fun _=>True) 16 ⟨q6h_,reply_Fits⟩:=ct_of_ev (env_cons qcp_ (env_cons qm0_ (env_cons qeg_ (env_cons q57_ (env_cons q9h_ env_nil))))) qp1_
def qln_ (s:List YTT5×List YTT5×List YTT5×List YTT5) (m:List Bool×List Bool×List Int×List Int) (pdu:List Int):Option (As [.pr (.sl .bool) YTT10,.sl (.int .u8)]) :=
 Option.bind (ask_Look (pdu,())) fun y=>if nei y.2.1 0=true then Option.bind (reply_Wrong (y.1.1,y.2.1,())) fun y=>Option.bind (reply_Bytes (y.1,())) fun y=>Option.bind (model_own (m,())) fun y_1=>some (y_1.1,y.1,()) else Option.bind (model_Do (s,m,y.1,())) fun y=>Option.bind (reply_Bytes (y.2.1,())) fun y_1=>some (y.1,y_1.1,())
def model_Serve (x:As [.pr YTT1 (.pr YTT1 (.pr YTT1 YTT1)),.pr (.sl .bool) YTT10,.sl (.int .u8)]):Option (As [.pr (.sl .bool) YTT10,.sl (.int .u8)]):=qln_ x.1 x.2.1 x.2.2.1
@[reducible] def agent_Words_s:Sh:=⟨[.d (.pr (.int .u16) YTT6)],[],[.pr (.int .u16) YTT6],[.d (.sl (.int .u16))],[],0,[.sl (.int .u16)]⟩
def agent_Words_e:Env:=(cts [(71,(⟨q6u_,words_Parts⟩:Ct))])
def agent_Words_h:List (Nat×Hint):=[]
def agent_Words_m0 (c:Int×Int×Int×Int×Int):Option (As [.sl (.int .u16)]) :=
 Option.bind (words_Parts (c.2.2.1,())) fun y=>Option.bind (words_Parts (c.2.2.2.2,())) fun y_1=>some ([c.1,cvt .u16 c.2.1,y.1,y.2.1,c.2.2.2.1,y_1.1,y_1.2.1,0],())
def agent_Words (x:As [.pr (.int .u16) YTT6]):Option (As [.sl (.int .u16)]):=agent_Words_m0 x.1
theorem agent_Words_c0 (J:Orc (As [.sl (.int .u16)])) (x:As [.pr (.int .u16) YTT6]):rfn Tryz.prog agent_Words_e 6 18446744073709551616 (Ev.get agent_Words_h) 18 agent_Words_s J x=agent_Words_m0 x.1:=by kernel_rfl
theorem agent_Words_t (x:As [.pr (.int .u16) YTT6]):evT Tryz.prog agent_Words_e 6 18446744073709551616 (Ev.get agent_Words_h) 18 agent_Words_s x=agent_Words x:=by
 rw [rfn_eq,agent_Words_c0]
 rfl
theorem agent_Words_ok:CtOk Tryz.prog (fun _=>True) 18 ⟨agent_Words_s,agent_Words⟩:=ct_of_ev (env_cons qdj_ env_nil) agent_Words_t
@[reducible] def stage_Words_s:Sh:=⟨[.d (.int .u16),.d (.int .u32),.d (.int .i64),.d YTT8],[],[.int .u16,.int .u32,.int .i64,.pr (.int .i64) (.sl (.int .u16))],[.d (.sl (.int .u16)),.d (.int .i64)],[],0,[.sl (.int .u16),.int .i64]⟩
def stage_Words_e:Env:=(cts [(75,(⟨stage_number_s,stage_number⟩:Ct)),(76,(⟨bank_Fits_s,bank_Fits⟩:Ct)),(77,(⟨stage_tagged_s,stage_tagged⟩:Ct))])
def stage_Words_h:List (Nat×Hint):=[]
def stage_Words_m0 (owner tx n:Int) (x:Int×List Int):Option (As [.sl (.int .u16),.int .i64]) :=
 Option.bind (stage_number (n,())) fun y=>if (!y.1)=true then some ([],2,()) else Option.bind (bank_Fits (x,())) fun y=>if (!y.1)=true then some ([],20,()) else Option.bind (stage_tagged (owner,tx,n,x,())) fun y=>some (y.1,0,())
def stage_Words (x:As [.int .u16,.int .u32,.int .i64,.pr (.int .i64) (.sl (.int .u16))]):Option (As [.sl (.int .u16),.int .i64]):=stage_Words_m0 x.1 x.2.1 x.2.2.1 x.2.2.2.1
theorem stage_Words_c0 (J:Orc (As [.sl (.int .u16),.int .i64])) (x:As [.int .u16,.int .u32,.int .i64,.pr (.int .i64) (.sl (.int .u16))]):rfn Tryz.prog stage_Words_e 6 18446744073709551616 (Ev.get stage_Words_h) 21 stage_Words_s J x=stage_Words_m0 x.1 x.2.1 x.2.2.1 x.2.2.2.1:=by kernel_rfl
theorem stage_Words_t (x:As [.int .u16,.int .u32,.int .i64,.pr (.int .i64) (.sl (.int .u16))]):evT Tryz.prog stage_Words_e 6 18446744073709551616 (Ev.get stage_Words_h) 21 stage_Words_s x=stage_Words x:=by
 rw [rfn_eq,stage_Words_c0]
 rfl
theorem stage_Words_ok:CtOk Tryz.prog (fun _=>True) 21 ⟨stage_Words_s,stage_Words⟩:=ct_of_ev (env_cons stage_number_ok (env_cons bank_Fits_ok (env_cons stage_tagged_ok env_nil))) stage_Words_t
def qjy_ (a:Int×Int×Int×Int×List Int×List Bool):Option (As [.sl (.int .u8),.bool]) :=
 Option.bind (ask_Bytes (a,())) fun y=>some (y.1,eqi y.2.1 0,())
def qjs_ (j1:Int×Int×Int×Int×List Int×List Bool->Option (As [.sl (.int .u8),.bool])) (o:Int×List Int×YTT16×Int×Int×Int×Int×Int):Option (As [.sl (.int .u8),.bool]) :=
 if eqi (rem o.1 6) 0=true then some (o.2.1,true,()) else if eqi (rem o.1 6) 5=true then Option.bind (ref20_Words (o.2.2.2,())) fun y=>if eqi (rem o.2.2.2.2.2.2.1 2) 1=true then Option.bind (ref20_Words (o.2.2.2,())) fun y=>j1 (16,272,8,0,y.1,[]) else j1 (23,256,8,272,y.1,[]) else if eqi (rem o.1 6) 2=true then j1 o.2.2.1 else some ([],false,())
def qjx_ (a:Int×Int×Int×Int×List Int×List Bool):Option (As [.sl (.int .u8),.bool]):=qjy_ a
def law21_Op_Bytes (x:As [.pr (.int .u8) (.pr (.sl (.int .u8)) (.pr (.pr (.int .u8) YTT4) (.pr (.int .u16) YTT6)))]):Option (As [.sl (.int .u8),.bool]):=qjs_ qjx_ x.1
def ql2_ (o:Int×List Int×YTT16×Int×Int×Int×Int×Int) (s:YaAq0):Option (As [.pr (.int .u8) (.pr (.int .u8) (.pr (.pr (.sl (.int .u16)) YTT0) (.sl .bool))),.sl (.int .u8)]) :=
 Option.bind (law21_Op_Bytes (o,())) fun y=>if y.2.1=true then Option.bind (slave_Serve (s,y.1,())) fun y=>some (y.1,y.2.1,()) else if eqi (rem o.1 6) 1=true then Option.bind (slave_Take (s,o.2.1,())) fun y=>some (y.1,y.2.1,()) else if eqi (rem o.1 6) 3=true then Option.bind (slave_Tick (s,())) fun y=>some (y.1,[],()) else if eqi (rem o.1 6) 4=true then Option.bind (slave_Boot (s,())) fun y=>some (y.1,[],()) else some (s,[],())
def law21_Op_Does (x:As [.pr (.int .u8) (.pr (.sl (.int .u8)) (.pr (.pr (.int .u8) YTT4) (.pr (.int .u16) YTT6))),.pr (.int .u8) (.pr (.int .u8) (.pr (.pr (.sl (.int .u16)) YTT0) (.sl .bool)))]):Option (As [.pr (.int .u8) (.pr (.int .u8) (.pr (.pr (.sl (.int .u16)) YTT0) (.sl .bool))),.sl (.int .u8)]):=ql2_ x.1 x.2.1
end Go.Proofs.Lx
end
