/- Proved in the last of these 15 parts (this is part 9): TalkOwned. Conditions: those of the given statement, and no others. -/
import Derived.Test.YtljkanofaahagaaGreatPartd
import Derived.Test.YtljkanofaahagaaGreatParth
import Derived.Test.YtljkanofaahagaaGreatProg
import Derived.Test.YtljkanofaahagaaGreatParte
set_option linter.unusedVariables false
set_option linter.unusedSimpArgs false
set_option linter.unusedSectionVars false
open Option renaming bind → zC, none → zH
open List renaming replicate → zE, length → zG
open Int renaming ofNat → zF, toNat → zI
open Go.Value renaming slice → zK
noncomputable section
open Go Go.Proofs Ev Sx
set_option maxRecDepth 100000
namespace Go.Proofs.Lx
abbrev TaA5q0:Type:=List Int×(Int×Int)×Int×Int×Int×YTT12×Int
abbrev TaA5q1:Type:=Int×Int×Int×Int×List Int×List Bool
abbrev TaA5q2:Type:=Int×Int×YTT4×List Bool
@[reducible] def q3k_:Sh:=⟨[.d (.pr YTT6 (.sl .bool)),.d (.bool)],[],[.pr YTT6 (.sl .bool),.bool],[.d (.bool)],[],0,[.bool]⟩
def q5b_:Env:=(cts [])
def q57_:List (Nat×Hint):=[(122,⟨[],[1,2,5,13,14,15,24,25,26,27,28,29,32,33,34,37,38,39,40,41,42,43,44,45,49,50]⟩),(31334,⟨[.agd 50 .bool],[1,2,7,13,14,15,51]⟩),(15666,⟨[.agd 25 (.int .i64),.agd 27 (.sl .bool),.agd 28 (.int .i64),.agd 29 .bool,.agd 33 (.int .i64),.agd 34 .bool,.agd 38 (.int .i64),.agd 40 (.sl .bool),.agd 41 (.int .i64),.agd 43 (.int .i64),.agd 44 (.int .i64),.agd 45 .bool],[1,2,7,13,14,15,46]⟩)]
@[reducible] def zI0:Type:=List YTT9×List Bool
def q1a_ (fixed:Bool) (endV:Int) (t13:List YTT9) (t14 t15:Int) (t:zI0):St:=⟨[(1,dB fixed),(2,.pb 0 0),(5,dI endV),(13,.d YTT6 t13),(14,dI t14),(15,dI t15)],58,[],[(0,.box 271 [.d YTT6 t.1,.d (.sl .bool) t.2])],1,[],0⟩
@[reducible] def zI1:Type:=Int×Int×Bool×Bool×Bool
def q7k_ (fixed:Bool) (t13:List YTT9) (t14 t15:Int) (t46:Bool) (t:zI0) (x:zI1):St:=⟨[(1,dB fixed),(2,.pb 0 0),(7,.pb 1 0),(13,.d YTT6 t13),(14,dI t14),(15,dI t15),(46,dB t46)],58,[],[(0,.box 271 [.d YTT6 t.1,.d (.sl .bool) t.2]),(1,.box 250 [dI x.1,dI x.2.1,dB x.2.2.1,dB x.2.2.2.1,dB x.2.2.2.2])],2,[],0⟩
def q7q_ (fixed:Bool) (t13:List YTT9) (t14 t15:Int) (t51:Bool) (t:zI0) (x:zI1):St:=⟨[(1,dB fixed),(2,.pb 0 0),(7,.pb 1 0),(13,.d YTT6 t13),(14,dI t14),(15,dI t15),(51,dB t51)],58,[],[(0,.box 271 [.d YTT6 t.1,.d (.sl .bool) t.2]),(1,.box 250 [dI x.1,dI x.2.1,dB x.2.2.1,dB x.2.2.2.1,dB x.2.2.2.2])],2,[],0⟩
@[reducible] def zI2:Type:=Bool->List YTT9->Int->Int->Bool->List YTT9×List Bool->Int×Int×Bool×Bool×Bool->Option (As [.bool])
@[reducible] def zI3:Type:=Bool->Int->List YTT9->Int->Int->List YTT9×List Bool->Option (As [.bool])
def q2z_ (j2:zI2) (self1:zI3) (fixed:Bool) (endV:Int) (t13:List YTT9) (t14 t15:Int) (t:zI0):Option (As [.bool]) :=
 if lt t15 t14=true then zC (at? t13 t15) fun y=>if lt y.1 endV=true then j2 fixed t13 t14 t15 true t y else if gt y.1 (zF (zG t.2))=true then j2 fixed t13 t14 t15 true t y else if lt y.2.1 1=true then j2 fixed t13 t14 t15 true t y else j2 fixed t13 t14 t15 (gt y.2.1 (Sx.sub .i64 (zF (zG t.2)) y.1)) t y else some (true,())
def q7p_ (j3:zI2) (self1:zI3) (fixed:Bool) (t13:List YTT9) (t14 t15:Int) (t46:Bool) (t:zI0) (x:zI1):Option (As [.bool]) :=
 if t46=true then some (false,()) else if fixed=true then j3 fixed t13 t14 t15 x.2.2.2.1 t x else j3 fixed t13 t14 t15 false t x
def q7l_ (self1:zI3) (fixed:Bool) (t13:List YTT9) (t14 t15:Int) (t51:Bool) (t:zI0) (x:zI1):Option (As [.bool]) :=
 if t51=true then some (false,()) else self1 fixed (add .i64 x.1 x.2.1) t13 t14 (add .i64 t15 1) t
def q4w_ (j1:zI3) (t:zI0) (fixed:Bool):Option (As [.bool]) :=
 if gt (zF (zG t.2)) 65536=true then some (false,()) else j1 fixed 0 t.1 (zF (zG t.1)) 0 t
def q4x_ (u1:zI3):=q7l_ u1
def q4y_ (u1:zI3):=q7p_ (q4x_ u1) u1
def q2b_ (fixed:Bool) (endV:Int) (t13:List YTT9) (t14 t15:Int) (t:zI0):Option (As [.bool]) :=
 loopF (fun self s=>q2z_ (q4y_ (fun fixed endV t13 t14 t15 t=>self (fixed,endV,t13,t14,t15,t))) (fun fixed endV t13 t14 t15 t=>self (fixed,endV,t13,t14,t15,t)) s.1 s.2.1 s.2.2.1 s.2.2.2.1 s.2.2.2.2.1 s.2.2.2.2.2) 18446744073709551616 (fixed,endV,t13,t14,t15,t)
def q47_ (x:As [.pr YTT6 (.sl .bool),.bool]):Option (As [.bool]):=q4w_ q2b_ x.1 x.2.1
abbrev model_table_bool_right_P:=zp q5b_ q57_ 279 q3k_
theorem qwj_ {J w1 a b c d e f g}:model_table_bool_right_P J 31334 [w1] (q7q_ a b c d e f g)=q7l_ (C w1 q1a_) a b c d e f g:=by kernel_rfl
theorem qwi_ {J w1 a b c d e f g}:model_table_bool_right_P J 15666 [w1] (q7k_ a b c d e f g)=q7p_ (C (J 31334 [w1]) q7q_) (C w1 q1a_) a b c d e f g:=by kernel_rfl
theorem qws_ {J w1 a b c d e f}:model_table_bool_right_P J 122 [w1] (q1a_ a b c d e f)=q2z_ (C (J 15666 [w1]) q7k_) (C w1 q1a_) a b c d e f:=by kernel_rfl
theorem qx2_ (J:Orc (As [.bool])) (x:As [.pr YTT6 (.sl .bool),.bool]):rfn Tryz.prog q5b_ 6 18446744073709551616 (Ev.get q57_) 279 q3k_ J x=q4w_ (C (J 122 []) q1a_) x.1 x.2.1:=by kernel_rfl
abbrev model_table_bool_right_J:=zj q5b_ q57_ 279 q3k_
theorem qx8_ {w1}:C (model_table_bool_right_J 31334 [w1]) q7q_=q4x_ (C w1 q1a_):=gNC (by decide) fun _=>qwj_
theorem qx3_ {w1}:C (model_table_bool_right_J 15666 [w1]) q7k_=q4y_ (C w1 q1a_):=gNC (by decide) fun _=>qwi_.trans (by rw [qx8_] <;> kernel_rfl)
theorem qwr_:C (model_table_bool_right_J 122 []) q1a_=q2b_:=gLC (by decide) (by kernel_rfl) (fun _=>by unfold q2b_; rfl) fun _ _=>qws_.trans (by rw [qx3_] <;> kernel_rfl)
theorem qxk_ (x:As [.pr YTT6 (.sl .bool),.bool]):evT Tryz.prog q5b_ 6 18446744073709551616 (Ev.get q57_) 279 q3k_ x=q47_ x:=by
 rw [qb_,qx2_,qwr_] <;> rfl
theorem qwv_:CtOk Tryz.prog (fun _=>True) 279 ⟨q3k_,q47_⟩:=q7_ q2_ qxk_
@[reducible] def q2t_:Sh:=⟨[.d (.pr YTT6 (.sl (.int .u16))),.d (.bool)],[],[.pr YTT6 (.sl (.int .u16)),.bool],[.d (.bool)],[],0,[.bool]⟩
def q4d_:Env:=(cts [])
def q4a_:List (Nat×Hint):=[(122,⟨[],[1,2,5,13,14,15,24,25,26,27,28,29,32,33,34,37,38,39,40,41,42,43,44,45,49,50]⟩),(31334,⟨[.agd 50 .bool],[1,2,7,13,14,15,51]⟩),(15666,⟨[.agd 25 (.int .i64),.agd 27 (.sl (.int .u16)),.agd 28 (.int .i64),.agd 29 .bool,.agd 33 (.int .i64),.agd 34 .bool,.agd 38 (.int .i64),.agd 40 (.sl (.int .u16)),.agd 41 (.int .i64),.agd 43 (.int .i64),.agd 44 (.int .i64),.agd 45 .bool],[1,2,7,13,14,15,46]⟩)]
@[reducible] def zI4:Type:=List YTT9×List Int
def q16_ (fixed:Bool) (endV:Int) (t13:List YTT9) (t14 t15:Int) (t:zI4):St:=⟨[(1,dB fixed),(2,.pb 0 0),(5,dI endV),(13,.d YTT6 t13),(14,dI t14),(15,dI t15)],58,[],[(0,.box 273 [.d YTT6 t.1,dW t.2])],1,[],0⟩
def q6p_ (fixed:Bool) (t13:List YTT9) (t14 t15:Int) (t46:Bool) (t:zI4) (x:zI1):St:=⟨[(1,dB fixed),(2,.pb 0 0),(7,.pb 1 0),(13,.d YTT6 t13),(14,dI t14),(15,dI t15),(46,dB t46)],58,[],[(0,.box 273 [.d YTT6 t.1,dW t.2]),(1,.box 250 [dI x.1,dI x.2.1,dB x.2.2.1,dB x.2.2.2.1,dB x.2.2.2.2])],2,[],0⟩
def q6f_ (fixed:Bool) (t13:List YTT9) (t14 t15:Int) (t51:Bool) (t:zI4) (x:zI1):St:=⟨[(1,dB fixed),(2,.pb 0 0),(7,.pb 1 0),(13,.d YTT6 t13),(14,dI t14),(15,dI t15),(51,dB t51)],58,[],[(0,.box 273 [.d YTT6 t.1,dW t.2]),(1,.box 250 [dI x.1,dI x.2.1,dB x.2.2.1,dB x.2.2.2.1,dB x.2.2.2.2])],2,[],0⟩
@[reducible] def zI5:Type:=Bool->List YTT9->Int->Int->Bool->List YTT9×List Int->Int×Int×Bool×Bool×Bool->Option (As [.bool])
@[reducible] def zI6:Type:=Bool->Int->List YTT9->Int->Int->List YTT9×List Int->Option (As [.bool])
def q2n_ (j2:zI5) (self1:zI6) (fixed:Bool) (endV:Int) (t13:List YTT9) (t14 t15:Int) (t:zI4):Option (As [.bool]) :=
 if lt t15 t14=true then zC (at? t13 t15) fun y=>if lt y.1 endV=true then j2 fixed t13 t14 t15 true t y else if gt y.1 (zF (zG t.2))=true then j2 fixed t13 t14 t15 true t y else if lt y.2.1 1=true then j2 fixed t13 t14 t15 true t y else j2 fixed t13 t14 t15 (gt y.2.1 (Sx.sub .i64 (zF (zG t.2)) y.1)) t y else some (true,())
def q6g_ (j3:zI5) (self1:zI6) (fixed:Bool) (t13:List YTT9) (t14 t15:Int) (t46:Bool) (t:zI4) (x:zI1):Option (As [.bool]) :=
 if t46=true then some (false,()) else if fixed=true then j3 fixed t13 t14 t15 x.2.2.2.1 t x else j3 fixed t13 t14 t15 false t x
def q6j_ (self1:zI6) (fixed:Bool) (t13:List YTT9) (t14 t15:Int) (t51:Bool) (t:zI4) (x:zI1):Option (As [.bool]) :=
 if t51=true then some (false,()) else self1 fixed (add .i64 x.1 x.2.1) t13 t14 (add .i64 t15 1) t
def q3u_ (j1:zI6) (t:zI4) (fixed:Bool):Option (As [.bool]) :=
 if gt (zF (zG t.2)) 65536=true then some (false,()) else j1 fixed 0 t.1 (zF (zG t.1)) 0 t
def q3y_ (u1:zI6):=q6j_ u1
def q3x_ (u1:zI6):=q6g_ (q3y_ u1) u1
def q1w_ (fixed:Bool) (endV:Int) (t13:List YTT9) (t14 t15:Int) (t:zI4):Option (As [.bool]) :=
 loopF (fun self s=>q2n_ (q3x_ (fun fixed endV t13 t14 t15 t=>self (fixed,endV,t13,t14,t15,t))) (fun fixed endV t13 t14 t15 t=>self (fixed,endV,t13,t14,t15,t)) s.1 s.2.1 s.2.2.1 s.2.2.2.1 s.2.2.2.2.1 s.2.2.2.2.2) 18446744073709551616 (fixed,endV,t13,t14,t15,t)
def q3d_ (x:As [.pr YTT6 (.sl (.int .u16)),.bool]):Option (As [.bool]):=q3u_ q1w_ x.1 x.2.1
abbrev model_table_uint16_right_P:=zp q4d_ q4a_ 280 q2t_
theorem qv1_ {J w1 a b c d e f g}:model_table_uint16_right_P J 31334 [w1] (q6f_ a b c d e f g)=q6j_ (C w1 q16_) a b c d e f g:=by kernel_rfl
theorem quv_ {J w1 a b c d e f g}:model_table_uint16_right_P J 15666 [w1] (q6p_ a b c d e f g)=q6g_ (C (J 31334 [w1]) q6f_) (C w1 q16_) a b c d e f g:=by kernel_rfl
theorem qul_ {J w1 a b c d e f}:model_table_uint16_right_P J 122 [w1] (q16_ a b c d e f)=q2n_ (C (J 15666 [w1]) q6p_) (C w1 q16_) a b c d e f:=by kernel_rfl
theorem que_ (J:Orc (As [.bool])) (x:As [.pr YTT6 (.sl (.int .u16)),.bool]):rfn Tryz.prog q4d_ 6 18446744073709551616 (Ev.get q4a_) 280 q2t_ J x=q3u_ (C (J 122 []) q16_) x.1 x.2.1:=by kernel_rfl
abbrev model_table_uint16_right_J:=zj q4d_ q4a_ 280 q2t_
theorem qut_ {w1}:C (model_table_uint16_right_J 31334 [w1]) q6f_=q3y_ (C w1 q16_):=gNC (by decide) fun _=>qv1_
theorem qum_ {w1}:C (model_table_uint16_right_J 15666 [w1]) q6p_=q3x_ (C w1 q16_):=gNC (by decide) fun _=>quv_.trans (by rw [qut_] <;> kernel_rfl)
theorem qup_:C (model_table_uint16_right_J 122 []) q16_=q1w_:=gLC (by decide) (by kernel_rfl) (fun _=>by unfold q1w_; rfl) fun _ _=>qul_.trans (by rw [qum_] <;> kernel_rfl)
theorem qwe_ (x:As [.pr YTT6 (.sl (.int .u16)),.bool]):evT Tryz.prog q4d_ 6 18446744073709551616 (Ev.get q4a_) 280 q2t_ x=q3d_ x:=by
 rw [qb_,que_,qup_] <;> rfl
theorem quo_:CtOk Tryz.prog (fun _=>True) 280 ⟨q2t_,q3d_⟩:=q7_ q2_ qwe_
@[reducible] def q13o_:Sh:=⟨[.d (.pr YTT6 (.pr YTT6 (.pr YTT6 YTT6))),.d (.pr (.sl .bool) YTT15)],[],[.pr YTT6 (.pr YTT6 (.pr YTT6 YTT6)),.pr (.sl .bool) YTT15],[.d (.bool)],[],0,[.bool]⟩
def qrz_ (s:List YTT9×List YTT9×List YTT9×List YTT9) (m:List Bool×List Bool×List Int×List Int):Option (As [.bool]) :=
 zC (qi5_ (s,m,())) fun y=>zC (q47_ (y.1.1,false,())) fun y_1=>if y_1.1=true then zC (q47_ (y.1.2.1,true,())) fun y_2=>if y_2.1=true then zC (q3d_ (y.1.2.2.1,false,())) fun y_3=>if y_3.1=true then zC (q3d_ (y.1.2.2.2,true,())) fun y=>some (y.1,()) else some (false,()) else some (false,()) else some (false,())
def qt7_ (x:As [.pr YTT6 (.pr YTT6 (.pr YTT6 YTT6)),.pr (.sl .bool) YTT15]):Option (As [.bool]):=qrz_ x.1 x.2.1
theorem q1da_:CtOk Tryz.prog (fun _=>True) 257 ⟨q13o_,qt7_⟩:=ctn (q0_ q145_ (q0_ qwv_ (q0_ quo_ q2_))) 6 fun J x=>by kernel_rfl
@[reducible] def qzm_:Sh:=⟨[.d (.pr YTT6 (.sl .bool)),.d (.int .i64),.d (.int .i64),.d (.int .i64)],[],[.pr YTT6 (.sl .bool),.int .i64,.int .i64,.int .i64],[.d (.sl .bool)],[],0,[.sl .bool]⟩
def q91_ (t:zI0) (at' many step:Int):Option (As [.sl .bool]) :=
 need (nei step 0) (need (ge (mul .i64 (quo .i64 (Sx.sub .i64 (add .i64 many step) 1) step) step) 0) (need (Ev.capOk (mul .i64 (quo .i64 (Sx.sub .i64 (add .i64 many step) 1) step) step) (mul .i64 (quo .i64 (Sx.sub .i64 (add .i64 many step) 1) step) step)) (need (small (zI (mul .i64 (quo .i64 (Sx.sub .i64 (add .i64 many step) 1) step) step))) (zC (cut t.2 at' (add .i64 at' many)) fun y=>need (le (zF (0 + zG (zE (zI (mul .i64 (quo .i64 (Sx.sub .i64 (add .i64 many step) 1) step) step)) false))) (zF (zG (zE (zI (mul .i64 (quo .i64 (Sx.sub .i64 (add .i64 many step) 1) step) step)) false)))) (some (List.take (zI (zF (zG (zE (zI (mul .i64 (quo .i64 (Sx.sub .i64 (add .i64 many step) 1) step) step)) false)))) y++List.drop (0 + zG (List.take (zI (zF (zG (zE (zI (mul .i64 (quo .i64 (Sx.sub .i64 (add .i64 many step) 1) step) step)) false)))) y)) (zE (zI (mul .i64 (quo .i64 (Sx.sub .i64 (add .i64 many step) 1) step) step)) false),()))))))
def q6u_ (x:As [.pr YTT6 (.sl .bool),.int .i64,.int .i64,.int .i64]):Option (As [.sl .bool]):=q91_ x.1 x.2.1 x.2.2.1 x.2.2.2.1
theorem qy5_:CtOk Tryz.prog (fun _=>True) 281 ⟨qzm_,q6u_⟩:=ctn q2_ 6 fun J x=>by kernel_rfl
@[reducible] def qx5_:Sh:=⟨[.d (.pr YTT6 (.sl (.int .u16))),.d (.int .i64),.d (.int .i64),.d (.int .i64)],[],[.pr YTT6 (.sl (.int .u16)),.int .i64,.int .i64,.int .i64],[.d (.sl (.int .u16))],[],0,[.sl (.int .u16)]⟩
def q76_ (t:zI4) (at' many step:Int):Option (As [.sl (.int .u16)]) :=
 need (nei step 0) (need (ge (mul .i64 (quo .i64 (Sx.sub .i64 (add .i64 many step) 1) step) step) 0) (need (Ev.capOk (mul .i64 (quo .i64 (Sx.sub .i64 (add .i64 many step) 1) step) step) (mul .i64 (quo .i64 (Sx.sub .i64 (add .i64 many step) 1) step) step)) (need (small (zI (mul .i64 (quo .i64 (Sx.sub .i64 (add .i64 many step) 1) step) step))) (zC (cut t.2 at' (add .i64 at' many)) fun y=>need (le (zF (0 + zG (zE (α:=Int) (zI (mul .i64 (quo .i64 (Sx.sub .i64 (add .i64 many step) 1) step) step)) 0))) (zF (zG (zE (α:=Int) (zI (mul .i64 (quo .i64 (Sx.sub .i64 (add .i64 many step) 1) step) step)) 0)))) (some (List.take (zI (zF (zG (zE (α:=Int) (zI (mul .i64 (quo .i64 (Sx.sub .i64 (add .i64 many step) 1) step) step)) 0)))) y++List.drop (0 + zG (List.take (zI (zF (zG (zE (α:=Int) (zI (mul .i64 (quo .i64 (Sx.sub .i64 (add .i64 many step) 1) step) step)) 0)))) y)) (zE (zI (mul .i64 (quo .i64 (Sx.sub .i64 (add .i64 many step) 1) step) step)) 0),()))))))
def q5k_ (x:As [.pr YTT6 (.sl (.int .u16)),.int .i64,.int .i64,.int .i64]):Option (As [.sl (.int .u16)]):=q76_ x.1 x.2.1 x.2.2.1 x.2.2.2.1
theorem qw9_:CtOk Tryz.prog (fun _=>True) 282 ⟨qx5_,q5k_⟩:=ctn q2_ 6 fun J x=>by kernel_rfl
@[reducible] def qmv_:Sh:=⟨[.d (.pr (.pr YTT6 (.sl .bool)) (.pr (.pr YTT6 (.sl .bool)) (.pr (.pr YTT6 (.sl (.int .u16))) (.pr YTT6 (.sl (.int .u16)))))),.d (.int .i64),.d (.pr (.int .u8) YTT7)],[],[.pr (.pr YTT6 (.sl .bool)) (.pr (.pr YTT6 (.sl .bool)) (.pr (.pr YTT6 (.sl (.int .u16))) (.pr YTT6 (.sl (.int .u16))))),.int .i64,.pr (.int .u8) YTT7],[.d (.pr (.int .u8) YTT5)],[],0,[.pr (.int .u8) YTT5]⟩
def qb5_ (v:(List YTT9×List Bool)×(List YTT9×List Bool)×(List YTT9×List Int)×List YTT9×List Int) (p:Int) (a:TaA5q1):Option (As [.pr (.int .u8) YTT5]) :=
 if eqi p 1=true then zC (q6u_ (v.1,cvt .i64 a.2.1,cvt .i64 a.2.2.1,8,())) fun y=>some ((a.1,0,y.1,[],0,0),()) else if eqi p 2=true then zC (q6u_ (v.2.1,cvt .i64 a.2.1,cvt .i64 a.2.2.1,8,())) fun y=>some ((a.1,0,y.1,[],0,0),()) else if eqi p 3=true then zC (q5k_ (v.2.2.1,cvt .i64 a.2.1,cvt .i64 a.2.2.1,1,())) fun y=>some ((a.1,0,[],y.1,0,0),()) else if eqi p 4=true then zC (q5k_ (v.2.2.2,cvt .i64 a.2.1,cvt .i64 a.2.2.1,1,())) fun y=>some ((a.1,0,[],y.1,0,0),()) else some ((a.1,0,[],[],0,0),())
def q5o_ (x:As [.pr (.pr YTT6 (.sl .bool)) (.pr (.pr YTT6 (.sl .bool)) (.pr (.pr YTT6 (.sl (.int .u16))) (.pr YTT6 (.sl (.int .u16))))),.int .i64,.pr (.int .u8) YTT7]):Option (As [.pr (.int .u8) YTT5]):=qb5_ x.1 x.2.1 x.2.2.1
theorem q10s_:CtOk Tryz.prog (fun _=>True) 260 ⟨qmv_,q5o_⟩:=ctn (q0_ qy5_ (q0_ qw9_ q2_)) 6 fun J x=>by kernel_rfl
@[reducible] def qh8_:Sh:=⟨[.d (.pr YTT6 (.pr YTT6 (.pr YTT6 YTT6))),.d (.pr (.sl .bool) YTT15),.d (.pr (.int .u8) YTT7)],[],[.pr YTT6 (.pr YTT6 (.pr YTT6 YTT6)),.pr (.sl .bool) YTT15,.pr (.int .u8) YTT7],[.d (.pr (.sl .bool) YTT15),.d (.pr (.int .u8) YTT5)],[],0,[.pr (.sl .bool) YTT15,.pr (.int .u8) YTT5]⟩
def qxa_:Env:=(cts [(45,(⟨q54_,q29_⟩:Ct)),(113,(⟨q65_,q2s_⟩:Ct)),(164,(⟨q77_,q7u_⟩:Ct)),(166,(⟨qv3_,qi_⟩:Ct)),(201,(⟨q6t_,q49_⟩:Ct)),(222,(⟨qxx_,qif_⟩:Ct)),(224,(⟨qry_,q8q_⟩:Ct)),(257,(⟨q13o_,qt7_⟩:Ct)),(260,(⟨qmv_,q5o_⟩:Ct))])
def qwl_:List (Nat×Hint):=[(255,⟨[],[5,6,7,8,10,11]⟩)]
def q10w_ (a:TaA5q1) (t7 t7_2 t7_3 t7_4:Int) (o o_2:List Bool) (o_3 o_4:List Int) (v v_2 v_3 v_4:List YTT9) (u:Int×Int):St:=⟨[(5,.pb 0 0),(6,.pb 1 0),(7,.pb 2 0),(8,.pb 3 0),(10,.pb 8 0),(11,.pb 9 0)],79,[],[(0,.box 27 [d8 a.1,d6 a.2.1,d6 a.2.2.1,d6 a.2.2.2.1,dW a.2.2.2.2.1,.d (.sl .bool) a.2.2.2.2.2]),(1,.box 196 [.k (zK zH 0 0),.k (zK zH 0 0),.k (zK zH 0 0),.k (zK zH 0 0)]),(2,.box 109 [d8 t7,d8 t7_2,.k (zK zH 0 0),.k (zK zH 0 0),d6 t7_3,d6 t7_4]),(3,.box 196 [.row 4,.row 5,.row 6,.row 7]),(4,.row .bool 4 o),(5,.row .bool 4 o_2),(6,.row (.int .u16) 25 o_3),(7,.row (.int .u16) 25 o_4),(8,.box 275 [.d YTT6 v,.row 4,.d YTT6 v_2,.row 5,.d YTT6 v_3,.row 6,.d YTT6 v_4,.row 7]),(9,.box 279 [dI u.1,dI u.2])],10,[],0⟩
def q18l_ (a:TaA5q1) (t7 t7_2 t7_3 t7_4:Int) (o o_2:List Bool) (o_3 o_4:List Int) (v v_2 v_3 v_4:List YTT9) (u:Int×Int):Option (As [.pr (.sl .bool) YTT15,.pr (.int .u8) YTT5]) :=
 zC (q49_ (a,())) fun y=>if y.2.1=true then some ((o,o_2,o_3,o_4),y.1,()) else zC (q5o_ (((v,o),(v_2,o_2),(v_3,o_3),v_4,o_4),u.1,a,())) fun y=>some ((o,o_2,o_3,o_4),y.1,())
def qu0_ (j1:TaA5q1->Int->Int->Int->Int->List Bool->List Bool->List Int->List Int->List YTT9->List YTT9->List YTT9->List YTT9->Int×Int->Option (As [.pr (.sl .bool) YTT15,.pr (.int .u8) YTT5])) (s:List YTT9×List YTT9×List YTT9×List YTT9) (m:List Bool×List Bool×List Int×List Int) (a:TaA5q1):Option (As [.pr (.sl .bool) YTT15,.pr (.int .u8) YTT5]) :=
 zC (q2s_ (m.1,())) fun y=>zC (q2s_ (m.2.1,())) fun y_1=>zC (q29_ (m.2.2.1,())) fun y_2=>zC (q29_ (m.2.2.2,())) fun y_3=>zC (q7u_ (s,a,())) fun y_4=>if nei y_4.1 0=true then zC (qi_ (a.1,y_4.1,())) fun y_5=>some ((y.1,y_1.1,y_2.1,y_3.1),y_5.1,()) else zC (qt7_ (s,m,())) fun y_5=>if (!y_5.1)=true then zC (qi_ (a.1,4,())) fun y_6=>some ((y.1,y_1.1,y_2.1,y_3.1),y_6.1,()) else zC (qif_ (a.1,())) fun y_6=>zC (q8q_ (a,())) fun y_7=>if eqi y_6.1.2 1=true then need (ge y_7.1 0) (need (le y_7.1 (zF (zG y.1))) (need (le (zF (zG y.1)) (zF (zG y.1))) (need (le (y_7.1 + (zF (zG y.1) - y_7.1)) (zF (zG y.1))) (j1 a 0 0 0 0 (List.take (zI y_7.1) y.1++List.take (zI (zF (zG y.1) - y_7.1)) a.2.2.2.2.2++List.drop (zI y_7.1 + zG (List.take (zI (zF (zG y.1) - y_7.1)) a.2.2.2.2.2)) y.1) y_1.1 y_2.1 y_3.1 s.1 s.2.1 s.2.2.1 s.2.2.2 y_6.1)))) else if eqi y_6.1.2 3=true then need (ge y_7.1 0) (need (le y_7.1 (zF (zG y_2.1))) (need (le (zF (zG y_2.1)) (zF (zG y_2.1))) (need (le (y_7.1 + (zF (zG y_2.1) - y_7.1)) (zF (zG y_2.1))) (j1 a 0 0 0 0 y.1 y_1.1 (List.take (zI y_7.1) y_2.1++List.take (zI (zF (zG y_2.1) - y_7.1)) a.2.2.2.2.1++List.drop (zI y_7.1 + zG (List.take (zI (zF (zG y_2.1) - y_7.1)) a.2.2.2.2.1)) y_2.1) y_3.1 s.1 s.2.1 s.2.2.1 s.2.2.2 y_6.1)))) else j1 a 0 0 0 0 y.1 y_1.1 y_2.1 y_3.1 s.1 s.2.1 s.2.2.1 s.2.2.2 y_6.1
def qja_:=q18l_
def q1j_ (x:As [.pr YTT6 (.pr YTT6 (.pr YTT6 YTT6)),.pr (.sl .bool) YTT15,.pr (.int .u8) YTT7]):Option (As [.pr (.sl .bool) YTT15,.pr (.int .u8) YTT5]):=qu0_ qja_ x.1 x.2.1 x.2.2.1
abbrev model_Do_P:=zp qxa_ qwl_ 227 qh8_
theorem q1mj_ {J a b c d e f g h i j k l m n}:model_Do_P J 255 [] (q10w_ a b c d e f g h i j k l m n)=q18l_ a b c d e f g h i j k l m n:=by kernel_rfl
theorem q1nj_ (J:Orc (As [.pr (.sl .bool) YTT15,.pr (.int .u8) YTT5])) (x:As [.pr YTT6 (.pr YTT6 (.pr YTT6 YTT6)),.pr (.sl .bool) YTT15,.pr (.int .u8) YTT7]):rfn Tryz.prog qxa_ 6 18446744073709551616 (Ev.get qwl_) 227 qh8_ J x=qu0_ (C (J 255 []) q10w_) x.1 x.2.1 x.2.2.1:=by kernel_rfl
abbrev model_Do_J:=zj qxa_ qwl_ 227 qh8_
theorem q1n3_:C (model_Do_J 255 []) q10w_=qja_:=gNC (by decide) fun _=>q1mj_
theorem q1od_ (x:As [.pr YTT6 (.pr YTT6 (.pr YTT6 YTT6)),.pr (.sl .bool) YTT15,.pr (.int .u8) YTT7]):evT Tryz.prog qxa_ 6 18446744073709551616 (Ev.get qwl_) 227 qh8_ x=q1j_ x:=by
 rw [qb_,q1nj_,q1n3_] <;> rfl
theorem q1ne_:CtOk Tryz.prog (fun _=>True) 227 ⟨qh8_,q1j_⟩:=q7_ (q0_ qfj_ (q0_ qix_ (q0_ q11y_ (q0_ qie_ (q0_ qw5_ (q0_ q13p_ (q0_ q10b_ (q0_ q1da_ (q0_ q10s_ q2_))))))))) q1od_
@[reducible] def q15u_:Sh:=⟨[.d (.int .u16)],[],[.int .u16],[.d (.pr (.int .u16) (.int .i64))],[],0,[.pr (.int .u16) (.int .i64)]⟩
def q1g1_ (owner:Int):Option (As [.pr (.int .u16) (.int .i64)]) :=
 some ((owner,-1),())
def qd9_ (x:As [.int .u16]):Option (As [.pr (.int .u16) (.int .i64)]):=q1g1_ x.1
theorem qvm_:CtOk Tryz.prog (fun _=>True) 229 ⟨q15u_,qd9_⟩:=ctn q2_ 6 fun J x=>by kernel_rfl
@[reducible] def q1gg_:Sh:=⟨[.d (.pr (.int .u16) (.int .i64))],[],[.pr (.int .u16) (.int .i64)],[.d (.bool)],[],0,[.bool]⟩
def qrv_ (l:Int×Int):Option (As [.bool]) :=
 if eqi l.1 0=true then some (eqi l.1 0 && (eqi l.2 0 && true),()) else if ge l.2 1=true then some (true,()) else zC (qd9_ (l.1,())) fun y=>some (eqi l.1 y.1.1 && (eqi l.2 y.1.2 && true),())
def q10r_ (x:As [.pr (.int .u16) (.int .i64)]):Option (As [.bool]):=qrv_ x.1
theorem q1ey_:CtOk Tryz.prog (fun _=>True) 240 ⟨q1gg_,q10r_⟩:=ctn (q0_ qvm_ q2_) 6 fun J x=>by kernel_rfl
@[reducible] def q109_:Sh:=⟨[.d (.pr (.int .u16) (.int .i64))],[],[.pr (.int .u16) (.int .i64)],[.d (.pr (.int .u16) (.int .i64))],[],0,[.pr (.int .u16) (.int .i64)]⟩
def qlw_ (l:Int×Int):Option (As [.pr (.int .u16) (.int .i64)]) :=
 zC (q10r_ (l,())) fun y=>if (!y.1)=true then some ((0,0),()) else some (l,())
def q9y_ (x:As [.pr (.int .u16) (.int .i64)]):Option (As [.pr (.int .u16) (.int .i64)]):=qlw_ x.1
theorem qm8_:CtOk Tryz.prog (fun _=>True) 198 ⟨q109_,q9y_⟩:=ctn (q0_ q1ey_ q2_) 6 fun J x=>by kernel_rfl
@[reducible] def qge_:Sh:=⟨[.d (.pr (.int .u16) (.int .i64))],[],[.pr (.int .u16) (.int .i64)],[.d (.bool)],[],0,[.bool]⟩
def qva_ (l:Int×Int):Option (As [.bool]) :=
 zC (q9y_ (l,())) fun y=>some (eqi y.1.1 0 && (eqi y.1.2 0 && true),())
def q6c_ (x:As [.pr (.int .u16) (.int .i64)]):Option (As [.bool]):=qva_ x.1
theorem qlg_:CtOk Tryz.prog (fun _=>True) 150 ⟨qge_,q6c_⟩:=ctn (q0_ qm8_ q2_) 6 fun J x=>by kernel_rfl
@[reducible] def q9k_:Sh:=⟨[.d (.pr (.int .u32) (.pr (.ar 8 .bool) (.ar 8 YTT8)))],[],[.pr (.int .u32) (.pr (.ar 8 .bool) (.ar 8 YTT8))],[.d (.int .i64)],[],0,[.int .i64]⟩
def qla_:Env:=(cts [(2000041,Ev.bxCt)])
def qkr_:List (Nat×Hint):=[(58,⟨[],[3,7,8]⟩)]
def qiw_ (n:Int) (t7:List Bool) (t8:Int):St:=⟨[(3,dI n),(7,.d (.ar 8 .bool) t7),(8,dI t8)],16,[],[],0,[],0⟩
def q81_ (self1:Int->List Bool->Int->Option (As [.int .i64])) (n:Int) (t7:List Bool) (t8:Int):Option (As [.int .i64]) :=
 if lt t8 8=true then need (lt t8 8) (zC (at? t7 t8) fun y=>if y=true then self1 (add .i64 n 1) t7 (add .i64 t8 1) else self1 n t7 (add .i64 t8 1)) else some (n,())
@[reducible] def zI7:Type:=Int×List Bool×List (Int×List Int)
def q136_ (j1:Int->List Bool->Int->Option (As [.int .i64])) (s:zI7):Option (As [.int .i64]) :=
 j1 0 s.2.1 0
def qcn_ (n:Int) (t7:List Bool) (t8:Int):Option (As [.int .i64]) :=
 loopF (fun self s=>q81_ (fun n t7 t8=>self (n,t7,t8)) s.1 s.2.1 s.2.2) 18446744073709551616 (n,t7,t8)
def qj6_ (x:As [.pr (.int .u32) (.pr (.ar 8 .bool) (.ar 8 YTT8))]):Option (As [.int .i64]):=q136_ qcn_ x.1
abbrev agent_there_P:=zp qla_ qkr_ 149 q9k_
theorem q1e5_ {J w1 a b c}:agent_there_P J 58 [w1] (qiw_ a b c)=q81_ (C w1 qiw_) a b c:=by kernel_rfl
theorem q1d9_ (J:Orc (As [.int .i64])) (x:As [.pr (.int .u32) (.pr (.ar 8 .bool) (.ar 8 YTT8))]):rfn Tryz.prog qla_ 6 18446744073709551616 (Ev.get qkr_) 149 q9k_ J x=q136_ (C (J 58 []) qiw_) x.1:=by kernel_rfl
abbrev agent_there_J:=zj qla_ qkr_ 149 q9k_
theorem q1d0_:C (agent_there_J 58 []) qiw_=qcn_:=gLC (by decide) (by kernel_rfl) (fun _=>by unfold qcn_; rfl) fun _ _=>q1e5_.trans (by kernel_rfl)
theorem q1g6_ (x:As [.pr (.int .u32) (.pr (.ar 8 .bool) (.ar 8 YTT8))]):evT Tryz.prog qla_ 6 18446744073709551616 (Ev.get qkr_) 149 q9k_ x=qj6_ x:=by
 rw [qb_,q1d9_,q1d0_] <;> rfl
theorem q1f0_:CtOk Tryz.prog (fun _=>True) 149 ⟨q9k_,qj6_⟩:=q7_ (q0_ Ev.bx_ok q2_) q1g6_
@[reducible] def q86_:Sh:=⟨[.d (.pr (.sl (.int .u16)) YTT1)],[],[.pr (.sl (.int .u16)) YTT1],[.d (.sl (.int .u16))],[],0,[.sl (.int .u16)]⟩
def qi2_:Env:=(cts [(2000043,Ev.bxCt),(149,(⟨q9k_,qj6_⟩:Ct)),(150,(⟨qge_,q6c_⟩:Ct)),(269,(⟨q148_,q80_⟩:Ct))])
def qi6_:List (Nat×Hint):=[(7,⟨[],[1,3]⟩)]
def qoh_ (a:TaA5q0) (owner:Int):St:=⟨[(1,.pe (.pr (.sl (.int .u16)) YTT1) a),(3,d6 owner)],39,[],[],0,[],0⟩
def qfs_ (a:TaA5q0) (owner:Int):Option (As [.sl (.int .u16)]) :=
 zC (q80_ (a.2.2.2.1,())) fun y=>zC (q80_ (a.2.2.2.2.1,())) fun y_1=>zC (qj6_ (a.2.2.2.2.2.1,())) fun y_2=>some ([owner,cvt .u16 a.2.2.1,y.1,y.2.1,y_1.1,y_1.2.1,cvt .u16 y_2.1,0],())
def qg7_ (j1:TaA5q0->Int->Option (As [.sl (.int .u16)])) (a:TaA5q0):Option (As [.sl (.int .u16)]) :=
 zC (q6c_ (a.2.1,())) fun y=>if y.1=true then j1 a 0 else j1 a a.2.1.1
def qg9_:=qfs_
def q6_ (x:As [.pr (.sl (.int .u16)) YTT1]):Option (As [.sl (.int .u16)]):=qg7_ qg9_ x.1
abbrev agent_Status_P:=zp qi2_ qi6_ 261 q86_
theorem q1b9_ {J a b}:agent_Status_P J 7 [] (qoh_ a b)=qfs_ a b:=by kernel_rfl
theorem q1b8_ (J:Orc (As [.sl (.int .u16)])) (x:As [.pr (.sl (.int .u16)) YTT1]):rfn Tryz.prog qi2_ 6 18446744073709551616 (Ev.get qi6_) 261 q86_ J x=qg7_ (C (J 7 []) qoh_) x.1:=by kernel_rfl
abbrev agent_Status_J:=zj qi2_ qi6_ 261 q86_
theorem q1bo_:C (agent_Status_J 7 []) qoh_=qg9_:=gNC (by decide) fun _=>q1b9_
theorem q1cl_ (x:As [.pr (.sl (.int .u16)) YTT1]):evT Tryz.prog qi2_ 6 18446744073709551616 (Ev.get qi6_) 261 q86_ x=q6_ x:=by
 rw [qb_,q1b8_,q1bo_] <;> rfl
theorem q1aw_:CtOk Tryz.prog (fun _=>True) 261 ⟨q86_,q6_⟩:=q7_ (q0_ Ev.bx_ok (q0_ q1f0_ (q0_ qlg_ (q0_ qqo_ q2_)))) q1cl_
@[reducible] def qcl_:Sh:=⟨[.d (.pr (.int .u32) (.pr (.ar 8 .bool) (.ar 8 YTT8))),.d (.int .u16),.d (.int .i64)],[],[.pr (.int .u32) (.pr (.ar 8 .bool) (.ar 8 YTT8)),.int .u16,.int .i64],[.d (.sl (.int .u16))],[],0,[.sl (.int .u16)]⟩
def qnn_:Env:=(cts [(2000041,Ev.bxCt),(283,(⟨qqt_,q8s_⟩:Ct)),(284,(⟨q11v_,qgi_⟩:Ct))])
def qn9_:List (Nat×Hint):=[(6,⟨[],[1,2,3,16]⟩)]
def qw0_ (owner n:Int) (s:zI7) (t16:Bool):St:=⟨[(1,d6 owner),(2,dI n),(3,.pe (.pr (.int .u32) (.pr (.ar 8 .bool) (.ar 8 YTT8))) s),(16,dB t16)],27,[],[],0,[],0⟩
def qlr_ (owner n:Int) (s:zI7) (t16:Bool):Option (As [.sl (.int .u16)]) :=
 if t16=true then some ([0,0,0,0,0,0,0,0,0,0,0,0,0,0,0,0,0,0,0,0],()) else zC (at? s.2.2 n) fun y=>zC (qgi_ (owner,s.1,n,y,())) fun y=>some (y.1,())
def qkn_ (j1:Int->Int->Int×List Bool×List (Int×List Int)->Bool->Option (As [.sl (.int .u16)])) (s:zI7) (owner n:Int):Option (As [.sl (.int .u16)]) :=
 zC (q8s_ (n,())) fun y=>if (!y.1)=true then j1 owner n s true else zC (at? s.2.1 n) fun y=>j1 owner n s !y
def qw7_:=qlr_
def qqa_ (x:As [.pr (.int .u32) (.pr (.ar 8 .bool) (.ar 8 YTT8)),.int .u16,.int .i64]):Option (As [.sl (.int .u16)]):=qkn_ qw7_ x.1 x.2.1 x.2.2.1
abbrev stage_Back_P:=zp qnn_ qn9_ 262 qcl_
theorem q1h1_ {J a b c d}:stage_Back_P J 6 [] (qw0_ a b c d)=qlr_ a b c d:=by kernel_rfl
theorem q1fo_ (J:Orc (As [.sl (.int .u16)])) (x:As [.pr (.int .u32) (.pr (.ar 8 .bool) (.ar 8 YTT8)),.int .u16,.int .i64]):rfn Tryz.prog qnn_ 6 18446744073709551616 (Ev.get qn9_) 262 qcl_ J x=qkn_ (C (J 6 []) qw0_) x.1 x.2.1 x.2.2.1:=by kernel_rfl
abbrev stage_Back_J:=zj qnn_ qn9_ 262 qcl_
theorem q1hk_:C (stage_Back_J 6 []) qw0_=qw7_:=gNC (by decide) fun _=>q1h1_
theorem q1lf_ (x:As [.pr (.int .u32) (.pr (.ar 8 .bool) (.ar 8 YTT8)),.int .u16,.int .i64]):evT Tryz.prog qnn_ 6 18446744073709551616 (Ev.get qn9_) 262 qcl_ x=qqa_ x:=by
 rw [qb_,q1fo_,q1hk_] <;> rfl
theorem q1fk_:CtOk Tryz.prog (fun _=>True) 262 ⟨qcl_,qqa_⟩:=q7_ (q0_ Ev.bx_ok (q0_ qn8_ (q0_ qzx_ q2_))) q1lf_
@[reducible] def q3_:Sh:=⟨[.d (.pr (.int .u8) (.pr (.int .u8) (.pr (.pr (.sl (.int .u16)) YTT1) (.sl .bool))))],[],[.pr (.int .u8) (.pr (.int .u8) (.pr (.pr (.sl (.int .u16)) YTT1) (.sl .bool)))],[.d (.pr (.sl .bool) YTT15)],[],0,[.pr (.sl .bool) YTT15]⟩
def qss_:Env:=(cts [(2000045,Ev.bxCt),(150,(⟨qge_,q6c_⟩:Ct)),(199,(⟨q9e_,q35_⟩:Ct)),(261,(⟨q86_,q6_⟩:Ct)),(262,(⟨qcl_,qqa_⟩:Ct))])
def qsd_:List (Nat×Hint):=[(3,⟨[],[1,2,3]⟩),(15,⟨[],[1,2,3]⟩),(4090,⟨[],[1,2,3,57]⟩)]
def qxf_ (s:TaA5q2) (m:List Int) (o o_2:List Bool) (o_3:List Int):St:=⟨[(1,.pe (.pr (.int .u8) (.pr (.int .u8) (.pr (.pr (.sl (.int .u16)) YTT1) (.sl .bool)))) s),(2,.pb 0 0),(3,.pb 1 0)],78,[],[(0,.box 196 [.k (zK zH 0 0),.k (zK zH 0 0),.k (zK zH 0 0),.k (zK zH 0 0)]),(1,.box 196 [.row 2,.row 3,.row 4,dW m]),(2,.row .bool 4 o),(3,.row .bool 4 o_2),(4,.row (.int .u16) 25 o_3)],5,[],0⟩
def qys_ (s:TaA5q2) (m:List Int) (o o_2:List Bool) (o_3:List Int):St:=⟨[(1,.pe (.pr (.int .u8) (.pr (.int .u8) (.pr (.pr (.sl (.int .u16)) YTT1) (.sl .bool)))) s),(2,.pb 0 0),(3,.pb 1 0)],78,[],[(0,.box 196 [.k (zK zH 0 0),.k (zK zH 0 0),.k (zK zH 0 0),.k (zK zH 0 0)]),(1,.box 196 [.row 2,.row 3,.row 4,dW m]),(2,.row .bool 4 o),(3,.row .bool 4 o_2),(4,.row (.int .u16) 25 o_3)],5,[],0⟩
def qpm_ (s:TaA5q2) (t57:Int) (m:List Int) (o o_2:List Bool) (o_3:List Int):St:=⟨[(1,.pe (.pr (.int .u8) (.pr (.int .u8) (.pr (.pr (.sl (.int .u16)) YTT1) (.sl .bool)))) s),(2,.pb 0 0),(3,.pb 1 0),(57,dI t57)],78,[],[(0,.box 196 [.k (zK zH 0 0),.k (zK zH 0 0),.k (zK zH 0 0),.k (zK zH 0 0)]),(1,.box 196 [.row 2,.row 3,.row 4,dW m]),(2,.row .bool 4 o),(3,.row .bool 4 o_2),(4,.row (.int .u16) 25 o_3)],5,[],0⟩
def qq8_ (j2:TaA5q2->List Int->List Bool->List Bool->List Int->Option (As [.pr (.sl .bool) YTT15])) (s:TaA5q2) (m:List Int) (o o_2:List Bool) (o_3:List Int):Option (As [.pr (.sl .bool) YTT15]) :=
 need (le (zF (0 + zG o)) (zF (zG o))) (if le s.2.2.1.2.2.1 2=true then zC (at? o_2 s.2.2.1.2.2.1) fun x=>zC (at? o_2 s.2.2.1.2.2.1) fun x=>j2 s m (List.take (zI (zF (zG o))) s.2.2.2++List.drop (0 + zG (List.take (zI (zF (zG o))) s.2.2.2)) o) (List.set o_2 (zI s.2.2.1.2.2.1) true) o_3 else j2 s m (List.take (zI (zF (zG o))) s.2.2.2++List.drop (0 + zG (List.take (zI (zF (zG o))) s.2.2.2)) o) o_2 o_3)
def qpf_ (j3:TaA5q2->Int->List Int->List Bool->List Bool->List Int->Option (As [.pr (.sl .bool) YTT15])) (s:TaA5q2) (m:List Int) (o o_2:List Bool) (o_3:List Int):Option (As [.pr (.sl .bool) YTT15]) :=
 zC (q6c_ (s.2.2.1.2.1,())) fun y=>zC (at? o_2 4) fun x=>zC (at? o_2 4) fun x=>zC (q35_ (List.take 8 (List.drop 0 s.2.2.1.2.2.2.2.2.1.2.1),true,())) fun y_1=>zC (at? (List.set o_2 4 !y.1) 5) fun x=>zC (at? (List.set o_2 4 !y.1) 5) fun x=>need (le (zF (zG o_3)) (zF (zG o_3))) (need (le 64 (zF (zG o_3 + 0))) (need (le 64 (zF (zG o_3))) (need (le 256 (zF (zG (List.take 64 s.2.2.1.1++List.drop (0 + zG (List.take 64 s.2.2.1.1)) o_3)))) (need (le (zF (zG (List.take 64 s.2.2.1.1++List.drop (0 + zG (List.take 64 s.2.2.1.1)) o_3))) (zF (zG (List.take 64 s.2.2.1.1++List.drop (0 + zG (List.take 64 s.2.2.1.1)) o_3)))) (need (le (256 + (zF (zG (List.take 64 s.2.2.1.1++List.drop (0 + zG (List.take 64 s.2.2.1.1)) o_3)) - 256)) (zF (zG (List.take 64 s.2.2.1.1++List.drop (0 + zG (List.take 64 s.2.2.1.1)) o_3)))) (j3 s 0 m o (List.set (List.set o_2 4 !y.1) 5 y_1.1) (List.take 256 (List.take 64 s.2.2.1.1++List.drop (0 + zG (List.take 64 s.2.2.1.1)) o_3)++List.take (zI (zF (zG (List.take 64 s.2.2.1.1++List.drop (0 + zG (List.take 64 s.2.2.1.1)) o_3)) - 256)) m++List.drop (256 + zG (List.take (zI (zF (zG (List.take 64 s.2.2.1.1++List.drop (0 + zG (List.take 64 s.2.2.1.1)) o_3)) - 256)) m)) (List.take 64 s.2.2.1.1++List.drop (0 + zG (List.take 64 s.2.2.1.1)) o_3))))))))
def qn1_ (self3:TaA5q2->Int->List Int->List Bool->List Bool->List Int->Option (As [.pr (.sl .bool) YTT15])) (s:TaA5q2) (t57:Int) (m:List Int) (o o_2:List Bool) (o_3:List Int):Option (As [.pr (.sl .bool) YTT15]) :=
 if lt t57 8=true then need (ge (add .i64 512 (mul .i64 t57 32)) 0) (need (le (add .i64 512 (mul .i64 t57 32)) (zF (zG o_3))) (need (le (zF (zG o_3)) (zF (zG o_3))) (zC (at? m 0) fun y=>zC (qqa_ (s.2.2.1.2.2.2.2.2.1,y,t57,())) fun y=>need (le (add .i64 512 (mul .i64 t57 32) + (zF (zG o_3) - add .i64 512 (mul .i64 t57 32))) (zF (zG o_3))) (self3 s (add .i64 t57 1) m o o_2 (List.take (zI (add .i64 512 (mul .i64 t57 32))) o_3++List.take (zI (zF (zG o_3) - add .i64 512 (mul .i64 t57 32))) y.1++List.drop (zI (add .i64 512 (mul .i64 t57 32)) + zG (List.take (zI (zF (zG o_3) - add .i64 512 (mul .i64 t57 32))) y.1)) o_3))))) else some ((o,o_2,o_3,m),())
def qpa_ (j1:TaA5q2->List Int->List Bool->List Bool->List Int->Option (As [.pr (.sl .bool) YTT15])) (s:TaA5q2):Option (As [.pr (.sl .bool) YTT15]) :=
 amb (eqAs q3_.rs) [amb (eqAs q3_.rs) [amb (eqAs q3_.rs) [amb (eqAs q3_.rs) [zC (q6_ (s.2.2.1,())) fun y=>j1 s y.1 (zE 16 false) (zE 8 false) (zE 756 0),zC (q6_ (s.2.2.1,())) fun y=>j1 s y.1 (zE 16 false) (zE 8 false) (zE 756 0)],amb (eqAs q3_.rs) [zC (q6_ (s.2.2.1,())) fun y=>amb (eqAs q3_.rs) [j1 s y.1 (zE 16 false) (zE 8 false) (zE 756 0),j1 s y.1 (zE 16 false) (zE 8 false) (zE 756 0)],amb (eqAs q3_.rs) [zC (q6_ (s.2.2.1,())) fun y=>j1 s y.1 (zE 16 false) (zE 8 false) (zE 756 0),zC (q6_ (s.2.2.1,())) fun y=>j1 s y.1 (zE 16 false) (zE 8 false) (zE 756 0)]]],amb (eqAs q3_.rs) [amb (eqAs q3_.rs) [amb (eqAs q3_.rs) [zC (q6_ (s.2.2.1,())) fun y=>j1 s y.1 (zE 16 false) (zE 8 false) (zE 756 0),zC (q6_ (s.2.2.1,())) fun y=>j1 s y.1 (zE 16 false) (zE 8 false) (zE 756 0)],amb (eqAs q3_.rs) [zC (q6_ (s.2.2.1,())) fun y=>amb (eqAs q3_.rs) [j1 s y.1 (zE 16 false) (zE 8 false) (zE 756 0),j1 s y.1 (zE 16 false) (zE 8 false) (zE 756 0)],amb (eqAs q3_.rs) [zC (q6_ (s.2.2.1,())) fun y=>j1 s y.1 (zE 16 false) (zE 8 false) (zE 756 0),zC (q6_ (s.2.2.1,())) fun y=>j1 s y.1 (zE 16 false) (zE 8 false) (zE 756 0)]]],amb (eqAs q3_.rs) [zC (q6_ (s.2.2.1,())) fun y=>amb (eqAs q3_.rs) [amb (eqAs q3_.rs) [j1 s y.1 (zE 16 false) (zE 8 false) (zE 756 0),j1 s y.1 (zE 16 false) (zE 8 false) (zE 756 0)],amb (eqAs q3_.rs) [amb (eqAs q3_.rs) [j1 s y.1 (zE 16 false) (zE 8 false) (zE 756 0),j1 s y.1 (zE 16 false) (zE 8 false) (zE 756 0)],amb (eqAs q3_.rs) [j1 s y.1 (zE 16 false) (zE 8 false) (zE 756 0),j1 s y.1 (zE 16 false) (zE 8 false) (zE 756 0)]]],amb (eqAs q3_.rs) [amb (eqAs q3_.rs) [zC (q6_ (s.2.2.1,())) fun y=>j1 s y.1 (zE 16 false) (zE 8 false) (zE 756 0),zC (q6_ (s.2.2.1,())) fun y=>j1 s y.1 (zE 16 false) (zE 8 false) (zE 756 0)],amb (eqAs q3_.rs) [amb (eqAs q3_.rs) [zC (q6_ (s.2.2.1,())) fun y=>j1 s y.1 (zE 16 false) (zE 8 false) (zE 756 0),zC (q6_ (s.2.2.1,())) fun y=>j1 s y.1 (zE 16 false) (zE 8 false) (zE 756 0)],zC (q6_ (s.2.2.1,())) fun y=>amb (eqAs q3_.rs) [j1 s y.1 (zE 16 false) (zE 8 false) (zE 756 0),j1 s y.1 (zE 16 false) (zE 8 false) (zE 756 0)]]]]]],amb (eqAs q3_.rs) [amb (eqAs q3_.rs) [amb (eqAs q3_.rs) [amb (eqAs q3_.rs) [zC (q6_ (s.2.2.1,())) fun y=>j1 s y.1 (zE 16 false) (zE 8 false) (zE 756 0),zC (q6_ (s.2.2.1,())) fun y=>j1 s y.1 (zE 16 false) (zE 8 false) (zE 756 0)],amb (eqAs q3_.rs) [zC (q6_ (s.2.2.1,())) fun y=>amb (eqAs q3_.rs) [j1 s y.1 (zE 16 false) (zE 8 false) (zE 756 0),j1 s y.1 (zE 16 false) (zE 8 false) (zE 756 0)],amb (eqAs q3_.rs) [zC (q6_ (s.2.2.1,())) fun y=>j1 s y.1 (zE 16 false) (zE 8 false) (zE 756 0),zC (q6_ (s.2.2.1,())) fun y=>j1 s y.1 (zE 16 false) (zE 8 false) (zE 756 0)]]],amb (eqAs q3_.rs) [amb (eqAs q3_.rs) [amb (eqAs q3_.rs) [zC (q6_ (s.2.2.1,())) fun y=>j1 s y.1 (zE 16 false) (zE 8 false) (zE 756 0),zC (q6_ (s.2.2.1,())) fun y=>j1 s y.1 (zE 16 false) (zE 8 false) (zE 756 0)],amb (eqAs q3_.rs) [zC (q6_ (s.2.2.1,())) fun y=>amb (eqAs q3_.rs) [j1 s y.1 (zE 16 false) (zE 8 false) (zE 756 0),j1 s y.1 (zE 16 false) (zE 8 false) (zE 756 0)],amb (eqAs q3_.rs) [zC (q6_ (s.2.2.1,())) fun y=>j1 s y.1 (zE 16 false) (zE 8 false) (zE 756 0),zC (q6_ (s.2.2.1,())) fun y=>j1 s y.1 (zE 16 false) (zE 8 false) (zE 756 0)]]],amb (eqAs q3_.rs) [zC (q6_ (s.2.2.1,())) fun y=>amb (eqAs q3_.rs) [amb (eqAs q3_.rs) [j1 s y.1 (zE 16 false) (zE 8 false) (zE 756 0),j1 s y.1 (zE 16 false) (zE 8 false) (zE 756 0)],amb (eqAs q3_.rs) [amb (eqAs q3_.rs) [j1 s y.1 (zE 16 false) (zE 8 false) (zE 756 0),j1 s y.1 (zE 16 false) (zE 8 false) (zE 756 0)],amb (eqAs q3_.rs) [j1 s y.1 (zE 16 false) (zE 8 false) (zE 756 0),j1 s y.1 (zE 16 false) (zE 8 false) (zE 756 0)]]],amb (eqAs q3_.rs) [amb (eqAs q3_.rs) [zC (q6_ (s.2.2.1,())) fun y=>j1 s y.1 (zE 16 false) (zE 8 false) (zE 756 0),zC (q6_ (s.2.2.1,())) fun y=>j1 s y.1 (zE 16 false) (zE 8 false) (zE 756 0)],amb (eqAs q3_.rs) [amb (eqAs q3_.rs) [zC (q6_ (s.2.2.1,())) fun y=>j1 s y.1 (zE 16 false) (zE 8 false) (zE 756 0),zC (q6_ (s.2.2.1,())) fun y=>j1 s y.1 (zE 16 false) (zE 8 false) (zE 756 0)],zC (q6_ (s.2.2.1,())) fun y=>amb (eqAs q3_.rs) [j1 s y.1 (zE 16 false) (zE 8 false) (zE 756 0),j1 s y.1 (zE 16 false) (zE 8 false) (zE 756 0)]]]]]],amb (eqAs q3_.rs) [amb (eqAs q3_.rs) [amb (eqAs q3_.rs) [amb (eqAs q3_.rs) [zC (q6_ (s.2.2.1,())) fun y=>j1 s y.1 (zE 16 false) (zE 8 false) (zE 756 0),zC (q6_ (s.2.2.1,())) fun y=>j1 s y.1 (zE 16 false) (zE 8 false) (zE 756 0)],amb (eqAs q3_.rs) [zC (q6_ (s.2.2.1,())) fun y=>amb (eqAs q3_.rs) [j1 s y.1 (zE 16 false) (zE 8 false) (zE 756 0),j1 s y.1 (zE 16 false) (zE 8 false) (zE 756 0)],amb (eqAs q3_.rs) [zC (q6_ (s.2.2.1,())) fun y=>j1 s y.1 (zE 16 false) (zE 8 false) (zE 756 0),zC (q6_ (s.2.2.1,())) fun y=>j1 s y.1 (zE 16 false) (zE 8 false) (zE 756 0)]]],amb (eqAs q3_.rs) [amb (eqAs q3_.rs) [amb (eqAs q3_.rs) [zC (q6_ (s.2.2.1,())) fun y=>j1 s y.1 (zE 16 false) (zE 8 false) (zE 756 0),zC (q6_ (s.2.2.1,())) fun y=>j1 s y.1 (zE 16 false) (zE 8 false) (zE 756 0)],amb (eqAs q3_.rs) [zC (q6_ (s.2.2.1,())) fun y=>amb (eqAs q3_.rs) [j1 s y.1 (zE 16 false) (zE 8 false) (zE 756 0),j1 s y.1 (zE 16 false) (zE 8 false) (zE 756 0)],amb (eqAs q3_.rs) [zC (q6_ (s.2.2.1,())) fun y=>j1 s y.1 (zE 16 false) (zE 8 false) (zE 756 0),zC (q6_ (s.2.2.1,())) fun y=>j1 s y.1 (zE 16 false) (zE 8 false) (zE 756 0)]]],amb (eqAs q3_.rs) [zC (q6_ (s.2.2.1,())) fun y=>amb (eqAs q3_.rs) [amb (eqAs q3_.rs) [j1 s y.1 (zE 16 false) (zE 8 false) (zE 756 0),j1 s y.1 (zE 16 false) (zE 8 false) (zE 756 0)],amb (eqAs q3_.rs) [amb (eqAs q3_.rs) [j1 s y.1 (zE 16 false) (zE 8 false) (zE 756 0),j1 s y.1 (zE 16 false) (zE 8 false) (zE 756 0)],amb (eqAs q3_.rs) [j1 s y.1 (zE 16 false) (zE 8 false) (zE 756 0),j1 s y.1 (zE 16 false) (zE 8 false) (zE 756 0)]]],amb (eqAs q3_.rs) [amb (eqAs q3_.rs) [zC (q6_ (s.2.2.1,())) fun y=>j1 s y.1 (zE 16 false) (zE 8 false) (zE 756 0),zC (q6_ (s.2.2.1,())) fun y=>j1 s y.1 (zE 16 false) (zE 8 false) (zE 756 0)],amb (eqAs q3_.rs) [amb (eqAs q3_.rs) [zC (q6_ (s.2.2.1,())) fun y=>j1 s y.1 (zE 16 false) (zE 8 false) (zE 756 0),zC (q6_ (s.2.2.1,())) fun y=>j1 s y.1 (zE 16 false) (zE 8 false) (zE 756 0)],zC (q6_ (s.2.2.1,())) fun y=>amb (eqAs q3_.rs) [j1 s y.1 (zE 16 false) (zE 8 false) (zE 756 0),j1 s y.1 (zE 16 false) (zE 8 false) (zE 756 0)]]]]]],amb (eqAs q3_.rs) [zC (q6_ (s.2.2.1,())) fun y=>amb (eqAs q3_.rs) [amb (eqAs q3_.rs) [amb (eqAs q3_.rs) [j1 s y.1 (zE 16 false) (zE 8 false) (zE 756 0),j1 s y.1 (zE 16 false) (zE 8 false) (zE 756 0)],amb (eqAs q3_.rs) [amb (eqAs q3_.rs) [j1 s y.1 (zE 16 false) (zE 8 false) (zE 756 0),j1 s y.1 (zE 16 false) (zE 8 false) (zE 756 0)],amb (eqAs q3_.rs) [j1 s y.1 (zE 16 false) (zE 8 false) (zE 756 0),j1 s y.1 (zE 16 false) (zE 8 false) (zE 756 0)]]],amb (eqAs q3_.rs) [amb (eqAs q3_.rs) [amb (eqAs q3_.rs) [j1 s y.1 (zE 16 false) (zE 8 false) (zE 756 0),j1 s y.1 (zE 16 false) (zE 8 false) (zE 756 0)],amb (eqAs q3_.rs) [amb (eqAs q3_.rs) [j1 s y.1 (zE 16 false) (zE 8 false) (zE 756 0),j1 s y.1 (zE 16 false) (zE 8 false) (zE 756 0)],amb (eqAs q3_.rs) [j1 s y.1 (zE 16 false) (zE 8 false) (zE 756 0),j1 s y.1 (zE 16 false) (zE 8 false) (zE 756 0)]]],amb (eqAs q3_.rs) [amb (eqAs q3_.rs) [amb (eqAs q3_.rs) [j1 s y.1 (zE 16 false) (zE 8 false) (zE 756 0),j1 s y.1 (zE 16 false) (zE 8 false) (zE 756 0)],amb (eqAs q3_.rs) [amb (eqAs q3_.rs) [j1 s y.1 (zE 16 false) (zE 8 false) (zE 756 0),j1 s y.1 (zE 16 false) (zE 8 false) (zE 756 0)],amb (eqAs q3_.rs) [j1 s y.1 (zE 16 false) (zE 8 false) (zE 756 0),j1 s y.1 (zE 16 false) (zE 8 false) (zE 756 0)]]],amb (eqAs q3_.rs) [amb (eqAs q3_.rs) [j1 s y.1 (zE 16 false) (zE 8 false) (zE 756 0),j1 s y.1 (zE 16 false) (zE 8 false) (zE 756 0)],amb (eqAs q3_.rs) [amb (eqAs q3_.rs) [j1 s y.1 (zE 16 false) (zE 8 false) (zE 756 0),j1 s y.1 (zE 16 false) (zE 8 false) (zE 756 0)],amb (eqAs q3_.rs) [j1 s y.1 (zE 16 false) (zE 8 false) (zE 756 0),j1 s y.1 (zE 16 false) (zE 8 false) (zE 756 0)]]]]]],amb (eqAs q3_.rs) [amb (eqAs q3_.rs) [amb (eqAs q3_.rs) [zC (q6_ (s.2.2.1,())) fun y=>j1 s y.1 (zE 16 false) (zE 8 false) (zE 756 0),zC (q6_ (s.2.2.1,())) fun y=>j1 s y.1 (zE 16 false) (zE 8 false) (zE 756 0)],amb (eqAs q3_.rs) [amb (eqAs q3_.rs) [zC (q6_ (s.2.2.1,())) fun y=>j1 s y.1 (zE 16 false) (zE 8 false) (zE 756 0),zC (q6_ (s.2.2.1,())) fun y=>j1 s y.1 (zE 16 false) (zE 8 false) (zE 756 0)],zC (q6_ (s.2.2.1,())) fun y=>amb (eqAs q3_.rs) [j1 s y.1 (zE 16 false) (zE 8 false) (zE 756 0),j1 s y.1 (zE 16 false) (zE 8 false) (zE 756 0)]]],amb (eqAs q3_.rs) [amb (eqAs q3_.rs) [amb (eqAs q3_.rs) [zC (q6_ (s.2.2.1,())) fun y=>j1 s y.1 (zE 16 false) (zE 8 false) (zE 756 0),zC (q6_ (s.2.2.1,())) fun y=>j1 s y.1 (zE 16 false) (zE 8 false) (zE 756 0)],amb (eqAs q3_.rs) [amb (eqAs q3_.rs) [zC (q6_ (s.2.2.1,())) fun y=>j1 s y.1 (zE 16 false) (zE 8 false) (zE 756 0),zC (q6_ (s.2.2.1,())) fun y=>j1 s y.1 (zE 16 false) (zE 8 false) (zE 756 0)],zC (q6_ (s.2.2.1,())) fun y=>amb (eqAs q3_.rs) [j1 s y.1 (zE 16 false) (zE 8 false) (zE 756 0),j1 s y.1 (zE 16 false) (zE 8 false) (zE 756 0)]]],amb (eqAs q3_.rs) [amb (eqAs q3_.rs) [amb (eqAs q3_.rs) [zC (q6_ (s.2.2.1,())) fun y=>j1 s y.1 (zE 16 false) (zE 8 false) (zE 756 0),zC (q6_ (s.2.2.1,())) fun y=>j1 s y.1 (zE 16 false) (zE 8 false) (zE 756 0)],amb (eqAs q3_.rs) [amb (eqAs q3_.rs) [zC (q6_ (s.2.2.1,())) fun y=>j1 s y.1 (zE 16 false) (zE 8 false) (zE 756 0),zC (q6_ (s.2.2.1,())) fun y=>j1 s y.1 (zE 16 false) (zE 8 false) (zE 756 0)],zC (q6_ (s.2.2.1,())) fun y=>amb (eqAs q3_.rs) [j1 s y.1 (zE 16 false) (zE 8 false) (zE 756 0),j1 s y.1 (zE 16 false) (zE 8 false) (zE 756 0)]]],zC (q6_ (s.2.2.1,())) fun y=>amb (eqAs q3_.rs) [amb (eqAs q3_.rs) [j1 s y.1 (zE 16 false) (zE 8 false) (zE 756 0),j1 s y.1 (zE 16 false) (zE 8 false) (zE 756 0)],amb (eqAs q3_.rs) [amb (eqAs q3_.rs) [j1 s y.1 (zE 16 false) (zE 8 false) (zE 756 0),j1 s y.1 (zE 16 false) (zE 8 false) (zE 756 0)],amb (eqAs q3_.rs) [j1 s y.1 (zE 16 false) (zE 8 false) (zE 756 0),j1 s y.1 (zE 16 false) (zE 8 false) (zE 756 0)]]]]]]]]]]
def qcm_ (s:TaA5q2) (t57:Int) (m:List Int) (o o_2:List Bool) (o_3:List Int):Option (As [.pr (.sl .bool) YTT15]) :=
 loopF (fun self s=>qn1_ (fun s t57 m o o_2 o_3=>self (s,t57,m,o,o_2,o_3)) s.1 s.2.1 s.2.2.1 s.2.2.2.1 s.2.2.2.2.1 s.2.2.2.2.2) 18446744073709551616 (s,t57,m,o,o_2,o_3)
def qyz_:=qpf_ (qcm_)
def qz0_:=qq8_ (qyz_)
def q3f_ (x:As [.pr (.int .u8) (.pr (.int .u8) (.pr (.pr (.sl (.int .u16)) YTT1) (.sl .bool)))]):Option (As [.pr (.sl .bool) YTT15]):=qpa_ qz0_ x.1
abbrev slave_Mem_P:=zp qss_ qsd_ 228 q3_
theorem q1ik_ {J w3 a b c d e f}:slave_Mem_P J 4090 [w3] (qpm_ a b c d e f)=qn1_ (C w3 qpm_) a b c d e f:=by kernel_rfl
theorem q1l2_ {J a b c d e}:slave_Mem_P J 15 [] (qys_ a b c d e)=qpf_ (C (J 4090 []) qpm_) a b c d e:=by kernel_rfl
theorem q1lb_ {J a b c d e}:slave_Mem_P J 3 [] (qxf_ a b c d e)=qq8_ (C (J 15 []) qys_) a b c d e:=by kernel_rfl
theorem q1k0_ (J:Orc (As [.pr (.sl .bool) YTT15])) (x:As [.pr (.int .u8) (.pr (.int .u8) (.pr (.pr (.sl (.int .u16)) YTT1) (.sl .bool)))]):rfn Tryz.prog qss_ 6 18446744073709551616 (Ev.get qsd_) 228 q3_ J x=qpa_ (C (J 3 []) qxf_) x.1:=by kernel_rfl
abbrev slave_Mem_J:=zj qss_ qsd_ 228 q3_
theorem q1ki_:C (slave_Mem_J 4090 []) qpm_=qcm_:=gLC (by decide) (by kernel_rfl) (fun _=>by unfold qcm_; rfl) fun _ _=>q1ik_.trans (by kernel_rfl)
theorem q1ku_:C (slave_Mem_J 15 []) qys_=qyz_:=gNC (by decide) fun _=>q1l2_.trans (by rw [q1ki_] <;> kernel_rfl)
theorem q1lv_:C (slave_Mem_J 3 []) qxf_=qz0_:=gNC (by decide) fun _=>q1lb_.trans (by rw [q1ku_] <;> kernel_rfl)
theorem q1np_ (x:As [.pr (.int .u8) (.pr (.int .u8) (.pr (.pr (.sl (.int .u16)) YTT1) (.sl .bool)))]):evT Tryz.prog qss_ 6 18446744073709551616 (Ev.get qsd_) 228 q3_ x=q3f_ x:=by
 rw [qb_,q1k0_,q1lv_] <;> rfl
theorem q1js_:CtOk Tryz.prog (fun _=>True) 228 ⟨q3_,q3f_⟩:=q7_ (q0_ Ev.bx_ok (q0_ qlg_ (q0_ qgt_ (q0_ q1aw_ (q0_ q1fk_ q2_))))) q1np_
@[reducible] def qh_:Sh:=⟨[.d (.pr (.int .u8) (.pr (.int .u8) (.pr (.pr (.sl (.int .u16)) YTT1) (.sl .bool)))),.d (.pr (.int .u8) YTT7)],[],[.pr (.int .u8) (.pr (.int .u8) (.pr (.pr (.sl (.int .u16)) YTT1) (.sl .bool))),.pr (.int .u8) YTT7],[.d (.pr (.int .u8) YTT5)],[],0,[.pr (.int .u8) YTT5]⟩
def qhp_:Env:=(cts [(2000045,Ev.bxCt),(165,(⟨q75_,q3m_⟩:Ct)),(201,(⟨q6t_,q49_⟩:Ct)),(227,(⟨qh8_,q1j_⟩:Ct)),(228,(⟨q3_,q3f_⟩:Ct))])
def qio_:List (Nat×Hint):=[(15,⟨[],[2,3,4,7]⟩),(31,⟨[],[3,4,9]⟩)]
def qnm_ (s:TaA5q2) (a:TaA5q1) (t4 t4_2 t4_3 t4_4 read read_2 read_3 read_4:Int):St:=⟨[(2,.pe (.pr (.int .u8) (.pr (.int .u8) (.pr (.pr (.sl (.int .u16)) YTT1) (.sl .bool)))) s),(3,.pb 0 0),(4,.pb 1 0),(7,.pb 2 0)],40,[],[(0,.box 27 [d8 a.1,d6 a.2.1,d6 a.2.2.1,d6 a.2.2.2.1,dW a.2.2.2.2.1,.d (.sl .bool) a.2.2.2.2.2]),(1,.box 109 [d8 t4,d8 t4_2,.k (zK zH 0 0),.k (zK zH 0 0),d6 t4_3,d6 t4_4]),(2,.box 27 [d8 read,d6 read_2,d6 read_3,d6 read_4,.k (zK zH 0 0),.k (zK zH 0 0)])],3,[],0⟩
def qp2_ (a:TaA5q1) (t4 t4_2 t4_3 t4_4:Int) (r:Int×Int×List Bool×List Int×Int×Int):St:=⟨[(3,.pb 0 0),(4,.pb 1 0),(9,.pb 2 0)],40,[],[(0,.box 27 [d8 a.1,d6 a.2.1,d6 a.2.2.1,d6 a.2.2.2.1,dW a.2.2.2.2.1,.d (.sl .bool) a.2.2.2.2.2]),(1,.box 109 [d8 t4,d8 t4_2,.k (zK zH 0 0),.k (zK zH 0 0),d6 t4_3,d6 t4_4]),(2,.box 109 [d8 r.1,d8 r.2.1,.d (.sl .bool) r.2.2.1,dW r.2.2.2.1,d6 r.2.2.2.2.1,d6 r.2.2.2.2.2])],3,[],0⟩
def qfb_ (j2:TaA5q1->Int->Int->Int->Int->Int×Int×List Bool×List Int×Int×Int->Option (As [.pr (.int .u8) YTT5])) (s:TaA5q2) (a:TaA5q1) (t4 t4_2 t4_3 t4_4 read read_2 read_3 read_4:Int):Option (As [.pr (.int .u8) YTT5]) :=
 amb (eqAs qh_.rs) [zC (q3m_ ()) fun y=>amb (eqAs qh_.rs) [zC (q3f_ (s,())) fun y_1=>amb (eqAs qh_.rs) [zC (q1j_ (y.1,y_1.1,(read,read_2,read_3,read_4,[],[]),())) fun y=>amb (eqAs qh_.rs) [j2 a t4 t4_2 t4_3 t4_4 y.2.1,j2 a t4 t4_2 t4_3 t4_4 y.2.1],amb (eqAs qh_.rs) [amb (eqAs qh_.rs) [zC (q1j_ (y.1,y_1.1,(read,read_2,read_3,read_4,[],[]),())) fun y=>j2 a t4 t4_2 t4_3 t4_4 y.2.1,zC (q1j_ (y.1,y_1.1,(read,read_2,read_3,read_4,[],[]),())) fun y=>j2 a t4 t4_2 t4_3 t4_4 y.2.1],amb (eqAs qh_.rs) [zC (q1j_ (y.1,y_1.1,(read,read_2,read_3,read_4,[],[]),())) fun y=>j2 a t4 t4_2 t4_3 t4_4 y.2.1,zC (q1j_ (y.1,y_1.1,(read,read_2,read_3,read_4,[],[]),())) fun y=>j2 a t4 t4_2 t4_3 t4_4 y.2.1]]],amb (eqAs qh_.rs) [amb (eqAs qh_.rs) [zC (q3f_ (s,())) fun y_1=>amb (eqAs qh_.rs) [zC (q1j_ (y.1,y_1.1,(read,read_2,read_3,read_4,[],[]),())) fun y=>j2 a t4 t4_2 t4_3 t4_4 y.2.1,zC (q1j_ (y.1,y_1.1,(read,read_2,read_3,read_4,[],[]),())) fun y=>j2 a t4 t4_2 t4_3 t4_4 y.2.1],zC (q3f_ (s,())) fun y_1=>zC (q1j_ (y.1,y_1.1,(read,read_2,read_3,read_4,[],[]),())) fun y=>j2 a t4 t4_2 t4_3 t4_4 y.2.1],amb (eqAs qh_.rs) [zC (q3f_ (s,())) fun y_1=>amb (eqAs qh_.rs) [zC (q1j_ (y.1,y_1.1,(read,read_2,read_3,read_4,[],[]),())) fun y=>j2 a t4 t4_2 t4_3 t4_4 y.2.1,zC (q1j_ (y.1,y_1.1,(read,read_2,read_3,read_4,[],[]),())) fun y=>j2 a t4 t4_2 t4_3 t4_4 y.2.1],zC (q3f_ (s,())) fun y_1=>zC (q1j_ (y.1,y_1.1,(read,read_2,read_3,read_4,[],[]),())) fun y=>j2 a t4 t4_2 t4_3 t4_4 y.2.1]]],amb (eqAs qh_.rs) [amb (eqAs qh_.rs) [zC (q3m_ ()) fun y=>amb (eqAs qh_.rs) [zC (q3f_ (s,())) fun y_1=>amb (eqAs qh_.rs) [zC (q1j_ (y.1,y_1.1,(read,read_2,read_3,read_4,[],[]),())) fun y=>j2 a t4 t4_2 t4_3 t4_4 y.2.1,zC (q1j_ (y.1,y_1.1,(read,read_2,read_3,read_4,[],[]),())) fun y=>j2 a t4 t4_2 t4_3 t4_4 y.2.1],zC (q3f_ (s,())) fun y_1=>zC (q1j_ (y.1,y_1.1,(read,read_2,read_3,read_4,[],[]),())) fun y=>j2 a t4 t4_2 t4_3 t4_4 y.2.1],zC (q3m_ ()) fun y=>zC (q3f_ (s,())) fun y_1=>zC (q1j_ (y.1,y_1.1,(read,read_2,read_3,read_4,[],[]),())) fun y=>j2 a t4 t4_2 t4_3 t4_4 y.2.1],amb (eqAs qh_.rs) [zC (q3m_ ()) fun y=>amb (eqAs qh_.rs) [zC (q3f_ (s,())) fun y_1=>amb (eqAs qh_.rs) [zC (q1j_ (y.1,y_1.1,(read,read_2,read_3,read_4,[],[]),())) fun y=>j2 a t4 t4_2 t4_3 t4_4 y.2.1,zC (q1j_ (y.1,y_1.1,(read,read_2,read_3,read_4,[],[]),())) fun y=>j2 a t4 t4_2 t4_3 t4_4 y.2.1],zC (q3f_ (s,())) fun y_1=>zC (q1j_ (y.1,y_1.1,(read,read_2,read_3,read_4,[],[]),())) fun y=>j2 a t4 t4_2 t4_3 t4_4 y.2.1],zC (q3m_ ()) fun y=>zC (q3f_ (s,())) fun y_1=>zC (q1j_ (y.1,y_1.1,(read,read_2,read_3,read_4,[],[]),())) fun y=>j2 a t4 t4_2 t4_3 t4_4 y.2.1]]]
def qzq_ (a:TaA5q1) (t4 t4_2 t4_3 t4_4:Int) (r:Int×Int×List Bool×List Int×Int×Int):Option (As [.pr (.int .u8) YTT5]) :=
 some ((a.1,r.2),())
def qg3_ (j1:TaA5q2->TaA5q1->Int->Int->Int->Int->Int->Int->Int->Int->Option (As [.pr (.int .u8) YTT5])) (s:TaA5q2) (a:TaA5q1):Option (As [.pr (.int .u8) YTT5]) :=
 zC (q49_ (a,())) fun y=>if y.2.1=true then some (y.1,()) else if eqi a.1 23=true then j1 s a 0 0 0 0 3 a.2.1 a.2.2.1 0 else j1 s a 0 0 0 0 a.1 a.2.1 a.2.2.1 0
def qn7_:=qzq_
def qfh_:=qfb_ (qn7_)
def qp_ (x:As [.pr (.int .u8) (.pr (.int .u8) (.pr (.pr (.sl (.int .u16)) YTT1) (.sl .bool))),.pr (.int .u8) YTT7]):Option (As [.pr (.int .u8) YTT5]):=qg3_ qfh_ x.1 x.2.1
abbrev slave_answer_P:=zp qhp_ qio_ 168 qh_
theorem q1aj_ {J a b c d e f}:slave_answer_P J 31 [] (qp2_ a b c d e f)=qzq_ a b c d e f:=by kernel_rfl
theorem q1ao_ {J a b c d e f g h i j}:slave_answer_P J 15 [] (qnm_ a b c d e f g h i j)=qfb_ (C (J 31 []) qp2_) a b c d e f g h i j:=by kernel_rfl
theorem q1b4_ (J:Orc (As [.pr (.int .u8) YTT5])) (x:As [.pr (.int .u8) (.pr (.int .u8) (.pr (.pr (.sl (.int .u16)) YTT1) (.sl .bool))),.pr (.int .u8) YTT7]):rfn Tryz.prog qhp_ 6 18446744073709551616 (Ev.get qio_) 168 qh_ J x=qg3_ (C (J 15 []) qnm_) x.1 x.2.1:=by kernel_rfl
abbrev slave_answer_J:=zj qhp_ qio_ 168 qh_
theorem q1be_:C (slave_answer_J 31 []) qp2_=qn7_:=gNC (by decide) fun _=>q1aj_
theorem q1al_:C (slave_answer_J 15 []) qnm_=qfh_:=gNC (by decide) fun _=>q1ao_.trans (by rw [q1be_] <;> kernel_rfl)
theorem q1et_ (x:As [.pr (.int .u8) (.pr (.int .u8) (.pr (.pr (.sl (.int .u16)) YTT1) (.sl .bool))),.pr (.int .u8) YTT7]):evT Tryz.prog qhp_ 6 18446744073709551616 (Ev.get qio_) 168 qh_ x=qp_ x:=by
 rw [qb_,q1b4_,q1al_] <;> rfl
theorem q1as_:CtOk Tryz.prog (fun _=>True) 168 ⟨qh_,qp_⟩:=q7_ (q0_ Ev.bx_ok (q0_ q12t_ (q0_ qw5_ (q0_ q1ne_ (q0_ q1js_ q2_))))) q1et_
@[reducible] def qbu_:Sh:=⟨[.d (.sl (.int .u16))],[],[.sl (.int .u16)],[.d (.pr (.int .u16) YTT11),.d (.int .i64)],[],0,[.pr (.int .u16) YTT11,.int .i64]⟩
def qo8_:Env:=(cts [(270,(⟨qn0_,q31_⟩:Ct))])
def qnb_:List (Nat×Hint):=[(6,⟨[],[0,2,18]⟩)]
@[reducible] def zI8:Type:=Int×Int×Int×Int×Int
def qvw_ (w:List Int) (t18:Bool) (t2:zI8):St:=⟨[(0,dW w),(2,.pb 0 0),(18,dB t18)],45,[],[(0,.box 104 [d6 t2.1,d8 t2.2.1,d2 t2.2.2.1,d6 t2.2.2.2.1,d2 t2.2.2.2.2])],1,[],0⟩
def qk6_ (w:List Int) (t18:Bool) (t2:zI8):Option (As [.pr (.int .u16) YTT11,.int .i64]) :=
 if t18=true then some ((0,0,0,0,0),2,()) else zC (at? w 0) fun y=>zC (at? w 1) fun y_1=>zC (at? w 2) fun y_2=>zC (at? w 3) fun y_3=>zC (at? w 4) fun y_4=>zC (at? w 5) fun y_5=>zC (at? w 6) fun y_6=>zC (q31_ (y_2,y_3,())) fun y_7=>zC (q31_ (y_5,y_6,())) fun y_8=>some ((y,cvt .u8 y_1,y_7.1,y_4,y_8.1),0,())
def qkq_ (j1:List Int->Bool->Int×Int×Int×Int×Int->Option (As [.pr (.int .u16) YTT11,.int .i64])) (w:List Int):Option (As [.pr (.int .u16) YTT11,.int .i64]) :=
 if nei (zF (zG w)) 8=true then j1 w true (0,0,0,0,0) else zC (at? w 7) fun y=>if nei y 0=true then j1 w true (0,0,0,0,0) else zC (at? w 1) fun y=>j1 w (ge y 256) (0,0,0,0,0)
def qkc_:=qk6_
def qdi_ (x:As [.sl (.int .u16)]):Option (As [.pr (.int .u16) YTT11,.int .i64]):=qkq_ qkc_ x.1
abbrev agent_Read_P:=zp qo8_ qnb_ 252 qbu_
theorem q1fv_ {J a b c}:agent_Read_P J 6 [] (qvw_ a b c)=qk6_ a b c:=by kernel_rfl
theorem q1hi_ (J:Orc (As [.pr (.int .u16) YTT11,.int .i64])) (x:As [.sl (.int .u16)]):rfn Tryz.prog qo8_ 6 18446744073709551616 (Ev.get qnb_) 252 qbu_ J x=qkq_ (C (J 6 []) qvw_) x.1:=by kernel_rfl
abbrev agent_Read_J:=zj qo8_ qnb_ 252 qbu_
theorem q1gc_:C (agent_Read_J 6 []) qvw_=qkc_:=gNC (by decide) fun _=>q1fv_
theorem q1jq_ (x:As [.sl (.int .u16)]):evT Tryz.prog qo8_ 6 18446744073709551616 (Ev.get qnb_) 252 qbu_ x=qdi_ x:=by
 rw [qb_,q1hi_,q1gc_] <;> rfl
theorem q1go_:CtOk Tryz.prog (fun _=>True) 252 ⟨qbu_,qdi_⟩:=q7_ (q0_ qvt_ q2_) q1jq_
@[reducible] def qeu_:Sh:=⟨[.d (.pr (.sl (.int .u16)) YTT1)],[],[.pr (.sl (.int .u16)) YTT1],[.d (.pr (.sl (.int .u16)) YTT1)],[],0,[.pr (.sl (.int .u16)) YTT1]⟩
def qtc_:Env:=(cts [(45,(⟨q2w_,qc_⟩:Ct))])
def qsu_:List (Nat×Hint):=[(58,⟨[],[1,2,12,13]⟩),(7475,⟨[.frb 5],[1,2,3,5,12,13]⟩)]
def qcp_ (a t2:Int) (t12:List Bool) (t13:Int) (a_2 t2_2:List YTT4):St:=⟨[(1,.prw 0 a 32 0),(2,.prw 1 t2 32 0),(12,.d (.ar 8 .bool) t12),(13,dI t13)],41,[],[(0,.row (.pr (.sl (.int .u16)) YTT1) 43 a_2),(1,.row (.pr (.sl (.int .u16)) YTT1) 43 t2_2)],2,[],0⟩
def qxr_ (a t2 i:Int) (t12:List Bool) (t13:Int) (a_2 t2_2:List YTT4) (x:Int×List Int):St:=⟨[(1,.prw 0 a 32 0),(2,.prw 1 t2 32 0),(3,dI i),(5,.pb 2 0),(12,.d (.ar 8 .bool) t12),(13,dI t13)],41,[],[(0,.row (.pr (.sl (.int .u16)) YTT1) 43 a_2),(1,.row (.pr (.sl (.int .u16)) YTT1) 43 t2_2),(2,.box 38 [dI x.1,dW x.2])],3,[],0⟩
@[reducible] def zI9:Type:=Int->Int->List Bool->Int->List YTT4->List YTT4->Option (As [.pr (.sl (.int .u16)) YTT1])
def qc9_ (j2:Int->Int->Int->List Bool->Int->List YTT4->List YTT4->Int×List Int->Option (As [.pr (.sl (.int .u16)) YTT1])) (self1:zI9) (a t2:Int) (t12:List Bool) (t13:Int) (a_2 t2_2:List YTT4):Option (As [.pr (.sl (.int .u16)) YTT1]) :=
 if lt t13 8=true then need (lt t13 8) (zC (at? t12 t13) fun y=>if y=true then need (ge t13 0) (need (lt t13 8) (zC (at? a_2 a) fun y=>zC (at? y.2.2.2.2.2.1.2.2 t13) fun z=>need (ge t13 0) (need (lt t13 8) (zC (at? a_2 a) fun y=>zC (at? y.2.2.2.2.2.1.2.2 t13) fun z_1=>zC (qc_ (z_1.2,())) fun y=>j2 a t2 t13 t12 t13 a_2 t2_2 (z.1,y.1))))) else j2 a t2 t13 t12 t13 a_2 t2_2 (0,[])) else zC (at? a_2 a) fun y=>zC (at? t2_2 t2) fun x=>zC (at? (List.set t2_2 (zI t2) y) t2) fun y_1=>zC (at? (List.set t2_2 (zI t2) y) t2) fun y=>some (y,())
def qo1_ (self1:zI9) (a t2 i:Int) (t12:List Bool) (t13:Int) (a_2 t2_2:List YTT4) (x:Int×List Int):Option (As [.pr (.sl (.int .u16)) YTT1]) :=
 need (ge i 0) (need (lt i 8) (zC (at? a_2 a) fun x_1=>zC (at? x_1.2.2.2.2.2.1.2.2 i) fun z=>self1 a t2 t12 (add .i64 t13 1) (List.set a_2 (zI a) (x_1.1,x_1.2.1,x_1.2.2.1,x_1.2.2.2.1,x_1.2.2.2.2.1,(x_1.2.2.2.2.2.1.1,x_1.2.2.2.2.2.1.2.1,List.set x_1.2.2.2.2.2.1.2.2 (zI i) x),x_1.2.2.2.2.2.2)) t2_2))
def qpw_ (j1:zI9) (a:TaA5q0):Option (As [.pr (.sl (.int .u16)) YTT1]) :=
 zC (qc_ (a.1,())) fun y=>j1 0 0 a.2.2.2.2.2.1.2.1 0 [(y.1,a.2)] [zAg0]
def qh1_ (u1:zI9):=qo1_ u1
def qbv_ (a t2:Int) (t12:List Bool) (t13:Int) (a_2 t2_2:List YTT4):Option (As [.pr (.sl (.int .u16)) YTT1]) :=
 loopF (fun self s=>qc9_ (qh1_ (fun a t2 t12 t13 a_2 t2_2=>self (a,t2,t12,t13,a_2,t2_2))) (fun a t2 t12 t13 a_2 t2_2=>self (a,t2,t12,t13,a_2,t2_2)) s.1 s.2.1 s.2.2.1 s.2.2.2.1 s.2.2.2.2.1 s.2.2.2.2.2) 18446744073709551616 (a,t2,t12,t13,a_2,t2_2)
def qmk_ (x:As [.pr (.sl (.int .u16)) YTT1]):Option (As [.pr (.sl (.int .u16)) YTT1]):=qpw_ qbv_ x.1
abbrev agent_own_P:=zp qtc_ qsu_ 171 qeu_
theorem q1ll_ {J w1 a b c d e f g h}:agent_own_P J 7475 [w1] (qxr_ a b c d e f g h)=qo1_ (C w1 qcp_) a b c d e f g h:=by kernel_rfl
theorem q1kf_ {J w1 a b c d e f}:agent_own_P J 58 [w1] (qcp_ a b c d e f)=qc9_ (C (J 7475 [w1]) qxr_) (C w1 qcp_) a b c d e f:=by kernel_rfl
theorem q1md_ (J:Orc (As [.pr (.sl (.int .u16)) YTT1])) (x:As [.pr (.sl (.int .u16)) YTT1]):rfn Tryz.prog qtc_ 6 18446744073709551616 (Ev.get qsu_) 171 qeu_ J x=qpw_ (C (J 58 []) qcp_) x.1:=by kernel_rfl
abbrev agent_own_J:=zj qtc_ qsu_ 171 qeu_
theorem q1kz_ {w1}:C (agent_own_J 7475 [w1]) qxr_=qh1_ (C w1 qcp_):=gNC (by decide) fun _=>q1ll_
theorem q1kp_:C (agent_own_J 58 []) qcp_=qbv_:=gLC (by decide) (by kernel_rfl) (fun _=>by unfold qbv_; rfl) fun _ _=>q1kf_.trans (by rw [q1kz_] <;> kernel_rfl)
theorem q1mw_ (x:As [.pr (.sl (.int .u16)) YTT1]):evT Tryz.prog qtc_ 6 18446744073709551616 (Ev.get qsu_) 171 qeu_ x=qmk_ x:=by
 rw [qb_,q1md_,q1kp_] <;> rfl
theorem q17n_:CtOk Tryz.prog (fun _=>True) 171 ⟨qeu_,qmk_⟩:=q7_ (q0_ q1h_ q2_) q1mw_
@[reducible] def q12i_:Sh:=⟨[.d (.pr (.sl (.int .u16)) YTT1),.d (.int .u16)],[],[.pr (.sl (.int .u16)) YTT1,.int .u16],[.d (.bool)],[],0,[.bool]⟩
def q1dt_:Env:=(cts [(2000043,Ev.bxCt),(150,(⟨qge_,q6c_⟩:Ct))])
def qnr_ (a:TaA5q0) (owner:Int):Option (As [.bool]) :=
 zC (q6c_ (a.2.1,())) fun y=>if (!y.1)=true then some (nei a.2.1.1 owner,()) else some (false,())
def q2u_ (x:As [.pr (.sl (.int .u16)) YTT1,.int .u16]):Option (As [.bool]):=qnr_ x.1 x.2.1
theorem qzz_:CtOk Tryz.prog (fun _=>True) 275 ⟨q12i_,q2u_⟩:=ctn (env:=q1dt_) (q0_ Ev.bx_ok (q0_ qlg_ q2_)) 6 fun J x=>by kernel_rfl
@[reducible] def q1bl_:Sh:=⟨[.d (.pr (.sl (.int .u16)) YTT1),.d (.pr (.int .u16) YTT11)],[],[.pr (.sl (.int .u16)) YTT1,.pr (.int .u16) YTT11],[.d (.bool)],[],0,[.bool]⟩
def q1au_:Env:=(cts [(2000043,Ev.bxCt)])
def qmh_ (a:TaA5q0) (c:zI8):Option (As [.bool]) :=
 if le c.2.2.1 a.2.2.2.2.1=true then some (true,()) else if nei a.2.2.1 0=true then some (lt c.2.2.1 a.2.2.2.1,()) else some (false,())
def qld_ (x:As [.pr (.sl (.int .u16)) YTT1,.pr (.int .u16) YTT11]):Option (As [.bool]):=qmh_ x.1 x.2.1
theorem q1ad_:CtOk Tryz.prog (fun _=>True) 289 ⟨q1bl_,qld_⟩:=ctn (env:=q1au_) (q0_ Ev.bx_ok q2_) 6 fun J x=>by kernel_rfl
@[reducible] def q147_:Sh:=⟨[.d (.pr (.sl (.int .u16)) YTT1)],[],[.pr (.sl (.int .u16)) YTT1],[.d (.pr (.sl (.int .u16)) YTT1)],[],0,[.pr (.sl (.int .u16)) YTT1]⟩
def q1ej_ (a:TaA5q0):Option (As [.pr (.sl (.int .u16)) YTT1]) :=
 some ((a.1,(0,0),0,0,a.2.2.2.2.1,zSt,a.2.2.2.2.2.2),())
def qeq_ (x:As [.pr (.sl (.int .u16)) YTT1]):Option (As [.pr (.sl (.int .u16)) YTT1]):=q1ej_ x.1
theorem qr8_:CtOk Tryz.prog (fun _=>True) 173 ⟨q147_,qeq_⟩:=ctn q2_ 6 fun J x=>by kernel_rfl
@[reducible] def qga_:Sh:=⟨[.d (.pr (.int .u16) (.int .i64)),.d (.int .u16),.d (.int .i64)],[],[.pr (.int .u16) (.int .i64),.int .u16,.int .i64],[.d (.pr (.int .u16) (.int .i64)),.d (.int .i64)],[],0,[.pr (.int .u16) (.int .i64),.int .i64]⟩
def qnl_:Env:=(cts [(150,(⟨qge_,q6c_⟩:Ct)),(198,(⟨q109_,q9y_⟩:Ct)),(229,(⟨q15u_,qd9_⟩:Ct))])
def qny_:List (Nat×Hint):=[(30,⟨[],[1,2,3,6,25]⟩),(14,⟨[],[1,2,3,6,15,21,22,23,24]⟩)]
def qvp_ (owner ticks:Int) (t15:Bool) (l t6:Int×Int):St:=⟨[(1,d6 owner),(2,dI ticks),(3,.pb 0 0),(6,.pb 1 0),(15,dB t15)],35,[],[(0,.box 35 [d6 l.1,dI l.2]),(1,.box 35 [d6 t6.1,dI t6.2])],2,[],0⟩
def qw2_ (owner ticks:Int) (t25:Bool) (l t6:Int×Int):St:=⟨[(1,d6 owner),(2,dI ticks),(3,.pb 0 0),(6,.pb 1 0),(25,dB t25)],35,[],[(0,.box 35 [d6 l.1,dI l.2]),(1,.box 35 [d6 t6.1,dI t6.2])],2,[],0⟩
@[reducible] def zI10:Type:=Int->Int->Bool->Int×Int->Int×Int->Option (As [.pr (.int .u16) (.int .i64),.int .i64])
def qk3_ (j2:zI10) (owner ticks:Int) (t15:Bool) (l t6:Int×Int):Option (As [.pr (.int .u16) (.int .i64),.int .i64]) :=
 if t15=true then some (l,2,()) else zC (q6c_ (l,())) fun y=>if (!y.1)=true then j2 owner ticks (nei l.1 owner) l t6 else j2 owner ticks false l t6
def qkl_ (owner ticks:Int) (t25:Bool) (l t6:Int×Int):Option (As [.pr (.int .u16) (.int .i64),.int .i64]) :=
 if t25=true then some (l,22,()) else zC (qd9_ (owner,())) fun y=>if (eqi l.1 y.1.1 && (eqi l.2 y.1.2 && true))=true then some (l,0,()) else some ((owner,ticks),0,())
def ql4_ (j1:zI10) (l:Int×Int) (owner ticks:Int):Option (As [.pr (.int .u16) (.int .i64),.int .i64]) :=
 zC (q9y_ (l,())) fun y=>if eqi owner 0=true then j1 owner ticks true y.1 (0,0) else j1 owner ticks (lt ticks 1) y.1 (0,0)
def qkw_:=qkl_
def qvv_:=qk3_ (qkw_)
def qxb_ (x:As [.pr (.int .u16) (.int .i64),.int .u16,.int .i64]):Option (As [.pr (.int .u16) (.int .i64),.int .i64]):=ql4_ qvv_ x.1 x.2.1 x.2.2.1
abbrev lease_Take_P:=zp qnl_ qny_ 297 qga_
theorem q1hq_ {J a b c d e}:lease_Take_P J 30 [] (qw2_ a b c d e)=qkl_ a b c d e:=by kernel_rfl
theorem q1gn_ {J a b c d e}:lease_Take_P J 14 [] (qvp_ a b c d e)=qk3_ (C (J 30 []) qw2_) a b c d e:=by kernel_rfl
theorem q1i3_ (J:Orc (As [.pr (.int .u16) (.int .i64),.int .i64])) (x:As [.pr (.int .u16) (.int .i64),.int .u16,.int .i64]):rfn Tryz.prog qnl_ 6 18446744073709551616 (Ev.get qny_) 297 qga_ J x=ql4_ (C (J 14 []) qvp_) x.1 x.2.1 x.2.2.1:=by kernel_rfl
abbrev lease_Take_J:=zj qnl_ qny_ 297 qga_
theorem q1hu_:C (lease_Take_J 30 []) qw2_=qkw_:=gNC (by decide) fun _=>q1hq_
theorem q1gk_:C (lease_Take_J 14 []) qvp_=qvv_:=gNC (by decide) fun _=>q1gn_.trans (by rw [q1hu_] <;> kernel_rfl)
theorem q1kb_ (x:As [.pr (.int .u16) (.int .i64),.int .u16,.int .i64]):evT Tryz.prog qnl_ 6 18446744073709551616 (Ev.get qny_) 297 qga_ x=qxb_ x:=by
 rw [qb_,q1i3_,q1gk_] <;> rfl
theorem q1gw_:CtOk Tryz.prog (fun _=>True) 297 ⟨qga_,qxb_⟩:=q7_ (q0_ qlg_ (q0_ qm8_ (q0_ qvm_ q2_))) q1kb_
@[reducible] def q14c_:Sh:=⟨[.d (.pr (.sl (.int .u16)) YTT1),.d (.int .u16)],[],[.pr (.sl (.int .u16)) YTT1,.int .u16],[.d (.pr (.sl (.int .u16)) YTT1)],[],0,[.pr (.sl (.int .u16)) YTT1]⟩
def qs9_ (a:TaA5q0) (owner:Int):Option (As [.pr (.sl (.int .u16)) YTT1]) :=
 zC (qxb_ (a.2.1,owner,a.2.2.2.2.2.2,())) fun y=>some ((a.1,y.1,a.2.2),())
def qb1_ (x:As [.pr (.sl (.int .u16)) YTT1,.int .u16]):Option (As [.pr (.sl (.int .u16)) YTT1]):=qs9_ x.1 x.2.1
theorem q12u_:CtOk Tryz.prog (fun _=>True) 278 ⟨q14c_,qb1_⟩:=ctn (q0_ q1gw_ q2_) 6 fun J x=>by kernel_rfl
@[reducible] def q1fz_:Sh:=⟨[.d (.pr (.sl (.int .u16)) YTT1),.d (.pr (.int .u16) YTT11)],[],[.pr (.sl (.int .u16)) YTT1,.pr (.int .u16) YTT11],[.d (.pr (.sl (.int .u16)) YTT1)],[],0,[.pr (.sl (.int .u16)) YTT1]⟩
def qr5_ (a:TaA5q0) (c:zI8):Option (As [.pr (.sl (.int .u16)) YTT1]) :=
 if eqi c.2.2.1 a.2.2.2.1=true then zC (qb1_ (a,c.1,())) fun y=>some (y.1,()) else zC (qeq_ (a,())) fun y=>zC (qb1_ (y.1,c.1,())) fun y=>some ((y.1.1,y.1.2.1,1,c.2.2.1,y.1.2.2.2.2.1,(c.2.2.1,y.1.2.2.2.2.2.1.2),y.1.2.2.2.2.2.2),())
def qt8_ (x:As [.pr (.sl (.int .u16)) YTT1,.pr (.int .u16) YTT11]):Option (As [.pr (.sl (.int .u16)) YTT1]):=qr5_ x.1 x.2.1
theorem q1f7_:CtOk Tryz.prog (fun _=>True) 290 ⟨q1fz_,qt8_⟩:=ctn (q0_ qr8_ (q0_ q12u_ q2_)) 6 fun J x=>by kernel_rfl
@[reducible] def qwz_:Sh:=⟨[.d (.pr (.sl (.int .u16)) YTT1),.d (.int .u8),.d (.int .u32)],[],[.pr (.sl (.int .u16)) YTT1,.int .u8,.int .u32],[.d (.bool)],[],0,[.bool]⟩
def q1oi_:Env:=(cts [(2000043,Ev.bxCt)])
def q10i_ (a:TaA5q0) (phase tx:Int):Option (As [.bool]) :=
 if eqi a.2.2.1 phase=true then some (eqi a.2.2.2.1 tx,()) else some (false,())
def qdp_ (x:As [.pr (.sl (.int .u16)) YTT1,.int .u8,.int .u32]):Option (As [.bool]):=q10i_ x.1 x.2.1 x.2.2.1
theorem q114_:CtOk Tryz.prog (fun _=>True) 276 ⟨qwz_,qdp_⟩:=ctn (env:=q1oi_) (q0_ Ev.bx_ok q2_) 6 fun J x=>by kernel_rfl
@[reducible] def qu7_:Sh:=⟨[.d YTT8],[],[.pr (.int .i64) (.sl (.int .u16))],[.d YTT8],[],0,[.pr (.int .i64) (.sl (.int .u16))]⟩
def qxn_ (x:Int×List Int):Option (As [.pr (.int .i64) (.sl (.int .u16))]) :=
 zC (qc_ (x.2,())) fun y=>some ((x.1,y.1),())
def qd0_ (x:As [.pr (.int .i64) (.sl (.int .u16))]):Option (As [.pr (.int .i64) (.sl (.int .u16))]):=qxn_ x.1
theorem qyu_:CtOk Tryz.prog (fun _=>True) 91 ⟨qu7_,qd0_⟩:=ctn (q0_ q1h_ q2_) 6 fun J x=>by kernel_rfl
@[reducible] def q5v_:Sh:=⟨[.d (.pr (.int .u32) (.pr (.ar 8 .bool) (.ar 8 YTT8)))],[],[.pr (.int .u32) (.pr (.ar 8 .bool) (.ar 8 YTT8))],[.d (.sl YTT8)],[],0,[.sl YTT8]⟩
def qi1_:Env:=(cts [(2000041,Ev.bxCt),(91,(⟨qu7_,qd0_⟩:Ct))])
def qih_:List (Nat×Hint):=[(58,⟨[.row 3 38],[1,3,7,8]⟩)]
def qfy_ (s:zI7) (t7:List Bool) (t8:Int) (l:List (Int×List Int)):St:=⟨[(1,.pe (.pr (.int .u32) (.pr (.ar 8 .bool) (.ar 8 YTT8))) s),(3,.row 0),(7,.d (.ar 8 .bool) t7),(8,dI t8)],23,[],[(0,.row YTT8 38 l)],1,[],0⟩
@[reducible] def zI11:Type:=Int×List Bool×List (Int×List Int)->List Bool->Int->List (Int×List Int)->Option (As [.sl YTT8])
def q6x_ (self1:zI11) (s:zI7) (t7:List Bool) (t8:Int) (l:List (Int×List Int)):Option (As [.sl YTT8]) :=
 if lt t8 8=true then need (lt t8 8) (zC (at? t7 t8) fun y=>if y=true then zC (at? s.2.2 t8) fun y=>zC (qd0_ (y,())) fun y=>need (small (zG l + Nat.succ 0)) (self1 s t7 (add .i64 t8 1) (l++[y.1])) else self1 s t7 (add .i64 t8 1) l) else some (l,())
def q10a_ (j1:zI11) (s:zI7):Option (As [.sl YTT8]) :=
 j1 s s.2.1 0 []
def qa0_ (s:zI7) (t7:List Bool) (t8:Int) (l:List (Int×List Int)):Option (As [.sl YTT8]) :=
 loopF (fun self s=>q6x_ (fun s t7 t8 l=>self (s,t7,t8,l)) s.1 s.2.1 s.2.2.1 s.2.2.2) 18446744073709551616 (s,t7,t8,l)
def q51_ (x:As [.pr (.int .u32) (.pr (.ar 8 .bool) (.ar 8 YTT8))]):Option (As [.sl YTT8]):=q10a_ qa0_ x.1
abbrev stage_Blocks_P:=zp qi1_ qih_ 41 q5v_
theorem q1bf_ {J w1 a b c d}:stage_Blocks_P J 58 [w1] (qfy_ a b c d)=q6x_ (C w1 qfy_) a b c d:=by kernel_rfl
theorem q1bv_ (J:Orc (As [.sl YTT8])) (x:As [.pr (.int .u32) (.pr (.ar 8 .bool) (.ar 8 YTT8))]):rfn Tryz.prog qi1_ 6 18446744073709551616 (Ev.get qih_) 41 q5v_ J x=q10a_ (C (J 58 []) qfy_) x.1:=by kernel_rfl
abbrev stage_Blocks_J:=zj qi1_ qih_ 41 q5v_
theorem q1b6_:C (stage_Blocks_J 58 []) qfy_=qa0_:=gLC (by decide) (by kernel_rfl) (fun _=>by unfold qa0_; rfl) fun _ _=>q1bf_.trans (by kernel_rfl)
theorem q1d3_ (x:As [.pr (.int .u32) (.pr (.ar 8 .bool) (.ar 8 YTT8))]):evT Tryz.prog qi1_ 6 18446744073709551616 (Ev.get qih_) 41 q5v_ x=q51_ x:=by
 rw [qb_,q1bv_,q1b6_] <;> rfl
theorem qnv_:CtOk Tryz.prog (fun _=>True) 41 ⟨q5v_,q51_⟩:=q7_ (q0_ Ev.bx_ok (q0_ qyu_ q2_)) q1d3_
@[reducible] def q9x_:Sh:=⟨[.d (.pr (.int .u32) (.pr (.ar 8 .bool) (.ar 8 YTT8))),.d (.int .i64),.d (.int .u32)],[],[.pr (.int .u32) (.pr (.ar 8 .bool) (.ar 8 YTT8)),.int .i64,.int .u32],[.d (.bool)],[],0,[.bool]⟩
def ql3_:Env:=(cts [(2000041,Ev.bxCt),(41,(⟨q5v_,q51_⟩:Ct)),(242,(⟨qb4_,qgo_⟩:Ct))])
def qlm_:List (Nat×Hint):=[(7,⟨[],[2,3]⟩),(58,⟨[],[1,2,3,16,17]⟩),(6,⟨[],[1,2,3,14]⟩)]
def qs4_ (count check:Int) (s:zI7) (t14:Bool):St:=⟨[(1,dI count),(2,d2 check),(3,.pe (.pr (.int .u32) (.pr (.ar 8 .bool) (.ar 8 YTT8))) s),(14,dB t14)],32,[],[],0,[],0⟩
def qhl_ (count check:Int) (s:zI7) (t16:List Bool) (t17:Int):St:=⟨[(1,dI count),(2,d2 check),(3,.pe (.pr (.int .u32) (.pr (.ar 8 .bool) (.ar 8 YTT8))) s),(16,.d (.ar 8 .bool) t16),(17,dI t17)],32,[],[],0,[],0⟩
def qs1_ (check:Int) (s:zI7):St:=⟨[(2,d2 check),(3,.pe (.pr (.int .u32) (.pr (.ar 8 .bool) (.ar 8 YTT8))) s)],32,[],[],0,[],0⟩
@[reducible] def zI12:Type:=Int->Int->Int×List Bool×List (Int×List Int)->List Bool->Int->Option (As [.bool])
def q11p_ (j2:zI12) (count check:Int) (s:zI7) (t14:Bool):Option (As [.bool]) :=
 if t14=true then some (false,()) else j2 count check s s.2.1 0
def q5z_ (j3:Int->Int×List Bool×List (Int×List Int)->Option (As [.bool])) (self2:zI12) (count check:Int) (s:zI7) (t16:List Bool) (t17:Int):Option (As [.bool]) :=
 if lt t17 8=true then need (lt t17 8) (zC (at? t16 t17) fun y=>if Sx.neb y (lt t17 count)=true then some (false,()) else self2 count check s t16 (add .i64 t17 1)) else j3 check s
def qi3_ (check:Int) (s:zI7):Option (As [.bool]) :=
 zC (q51_ (s,())) fun y=>zC (qgo_ (y.1,())) fun y=>some (eqi y.1 check,())
def qi7_ (j1:Int->Int->Int×List Bool×List (Int×List Int)->Bool->Option (As [.bool])) (s:zI7) (count check:Int):Option (As [.bool]) :=
 if lt count 0=true then j1 count check s true else j1 count check s (gt count 8)
def q4t_:=qi3_
def qct_ (count check:Int) (s:zI7) (t16:List Bool) (t17:Int):Option (As [.bool]) :=
 loopF (fun self s=>q5z_ (q4t_) (fun count check s t16 t17=>self (count,check,s,t16,t17)) s.1 s.2.1 s.2.2.1 s.2.2.2.1 s.2.2.2.2) 18446744073709551616 (count,check,s,t16,t17)
def qhg_:=q11p_ (qct_)
def qjk_ (x:As [.pr (.int .u32) (.pr (.ar 8 .bool) (.ar 8 YTT8)),.int .i64,.int .u32]):Option (As [.bool]):=qi7_ qhg_ x.1 x.2.1 x.2.2.1
abbrev stage_Whole_P:=zp ql3_ qlm_ 299 q9x_
theorem q1c2_ {J a b}:stage_Whole_P J 7 [] (qs1_ a b)=qi3_ a b:=by kernel_rfl
theorem q1ex_ {J w2 a b c d e}:stage_Whole_P J 58 [w2] (qhl_ a b c d e)=q5z_ (C (J 7 []) qs1_) (C w2 qhl_) a b c d e:=by kernel_rfl
theorem q1em_ {J a b c d}:stage_Whole_P J 6 [] (qs4_ a b c d)=q11p_ (C (J 58 []) qhl_) a b c d:=by kernel_rfl
theorem q1d7_ (J:Orc (As [.bool])) (x:As [.pr (.int .u32) (.pr (.ar 8 .bool) (.ar 8 YTT8)),.int .i64,.int .u32]):rfn Tryz.prog ql3_ 6 18446744073709551616 (Ev.get qlm_) 299 q9x_ J x=qi7_ (C (J 6 []) qs4_) x.1 x.2.1 x.2.2.1:=by kernel_rfl
abbrev stage_Whole_J:=zj ql3_ qlm_ 299 q9x_
theorem q1f9_:C (stage_Whole_J 7 []) qs1_=q4t_:=gNC (by decide) fun _=>q1c2_
theorem q1fa_:C (stage_Whole_J 58 []) qhl_=qct_:=gLC (by decide) (by kernel_rfl) (fun _=>by unfold qct_; rfl) fun _ _=>q1ex_.trans (by rw [q1f9_] <;> kernel_rfl)
theorem q1ci_:C (stage_Whole_J 6 []) qs4_=qhg_:=gNC (by decide) fun _=>q1em_.trans (by rw [q1fa_] <;> kernel_rfl)
theorem q1gs_ (x:As [.pr (.int .u32) (.pr (.ar 8 .bool) (.ar 8 YTT8)),.int .i64,.int .u32]):evT Tryz.prog ql3_ 6 18446744073709551616 (Ev.get qlm_) 299 q9x_ x=qjk_ x:=by
 rw [qb_,q1d7_,q1ci_] <;> rfl
theorem q1di_:CtOk Tryz.prog (fun _=>True) 299 ⟨q9x_,qjk_⟩:=q7_ (q0_ Ev.bx_ok (q0_ qnv_ (q0_ q15k_ q2_))) q1gs_
@[reducible] def q18c_:Sh:=⟨[.d (.pr (.sl (.int .u16)) YTT1),.d (.pr (.int .u16) YTT11)],[],[.pr (.sl (.int .u16)) YTT1,.pr (.int .u16) YTT11],[.d (.bool)],[],0,[.bool]⟩
def q183_:Env:=(cts [(2000043,Ev.bxCt),(276,(⟨qwz_,qdp_⟩:Ct)),(299,(⟨q9x_,qjk_⟩:Ct))])
def qh5_ (a:TaA5q0) (c:zI8):Option (As [.bool]) :=
 zC (qdp_ (a,2,c.2.2.1,())) fun y=>if y.1=true then some (false,()) else zC (qdp_ (a,1,c.2.2.1,())) fun y=>if (!y.1)=true then some (true,()) else zC (qjk_ (a.2.2.2.2.2.1,cvt .i64 c.2.2.2.1,c.2.2.2.2,())) fun y=>some (!y.1,())
def qfk_ (x:As [.pr (.sl (.int .u16)) YTT1,.pr (.int .u16) YTT11]):Option (As [.bool]):=qh5_ x.1 x.2.1
theorem q17h_:CtOk Tryz.prog (fun _=>True) 291 ⟨q18c_,qfk_⟩:=ctn (env:=q183_) (q0_ Ev.bx_ok (q0_ q114_ (q0_ q1di_ q2_))) 6 fun J x=>by kernel_rfl
@[reducible] def q1ix_:Sh:=⟨[.d (.pr (.int .u16) (.int .i64)),.d (.int .u16)],[],[.pr (.int .u16) (.int .i64),.int .u16],[.d (.pr (.int .u16) (.int .i64)),.d (.int .i64)],[],0,[.pr (.int .u16) (.int .i64),.int .i64]⟩
def qwb_ (l:Int×Int) (owner:Int):Option (As [.pr (.int .u16) (.int .i64),.int .i64]) :=
 zC (q9y_ (l,())) fun y=>if eqi owner 0=true then some (y.1,2,()) else if nei y.1.1 owner=true then some (y.1,22,()) else zC (qd9_ (owner,())) fun y=>some (y.1,0,())
def q13g_ (x:As [.pr (.int .u16) (.int .i64),.int .u16]):Option (As [.pr (.int .u16) (.int .i64),.int .i64]):=qwb_ x.1 x.2.1
theorem q1g3_:CtOk Tryz.prog (fun _=>True) 300 ⟨q1ix_,q13g_⟩:=ctn (q0_ qm8_ (q0_ qvm_ q2_)) 6 fun J x=>by kernel_rfl
end Go.Proofs.Lx
end
