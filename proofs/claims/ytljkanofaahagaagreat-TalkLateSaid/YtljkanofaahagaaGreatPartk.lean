/- Proved in the last of these 15 parts (this is part 11): TalkLate. Conditions: those of the given statement, and no others. -/
import Derived.Test.YtljkanofaahagaaGreatPartd
import Derived.Test.YtljkanofaahagaaGreatPartj
import Derived.Test.YtljkanofaahagaaGreatProg
import Derived.Test.YtljkanofaahagaaGreatParte
set_option linter.unusedVariables false
set_option linter.unusedSimpArgs false
set_option linter.unusedSectionVars false
open Option renaming bind → zC, bind_some → zD
open List renaming replicate → zE, length → zG, getD → zJ, getElem?_eq_getElem → zV, getD_eq_getElem?_getD → zX, length_append → zZ, length_replicate → kD
open Int renaming ofNat → zF, toNat → zI, eq_ofNat_of_zero_le → zN, toNat_natCast → zQ
open Bool renaming and_eq_true → zO
noncomputable section
open Go Go.Proofs Ev Sx
set_option maxRecDepth 100000
namespace Go.Proofs.Lx
abbrev TaAq0:Type:=YTT3×Int×Int×List (Int×List Int)×Int×Int×Int×Int×Int
abbrev TaAq1:Type:=Int×Int×YTT4×List Bool
@[reducible] def q48_:Sh:=⟨[],[],[],[.d (.bool)],[],0,[.bool]⟩
def qk7_:Env:=(cts [(1000048,Ev.bxCt),(9000046,Ev.bxCt),(9999999,Ev.bxCt),(9,(⟨q77_,qal_⟩:Ct)),(10,(⟨q1o_,q1a_⟩:Ct)),(16,(⟨q1x_,q2l_⟩:Ct)),(19,(⟨q10s_,qmn_⟩:Ct)),(25,(⟨q88_,q3o_⟩:Ct)),(46,(⟨q10r_,q7q_⟩:Ct)),(47,(⟨q16d_,qmk_⟩:Ct))])
def qk4_:List (Nat×Hint):=[(31,⟨[],[1,3,51,52,53,54,57,58,59,60,61,81,82,94,95,96,99,100,101,104,105,106,109,110]⟩),(255,⟨[],[5,6,7,8,81,82,94,95,96,99,100,101,104,105,106,109,110]⟩),(1023,⟨[],[5,6,7,8,10,94,95,96,99,100,101,104,105,106,109,110]⟩),(4092,⟨[],[5,6,7,8,10,81,82,94,95,96,99,100,101,104,105,106,109,110]⟩),(16368,⟨[.agd 81 (.int .i64),.agd 82 .bool],[5,6,7,8,10,83]⟩),(126,⟨[],[1,62,81,82,94,95,96,99,100,101,104,105,106,109,110]⟩),(124,⟨[],[1,3,30,31,51,52,53,54,57,58,59,60,61,81,82,94,95,96,99,100,101,104,105,106,109,110]⟩),(496,⟨[.agd 30 (.int .i64),.agd 31 .bool],[1,3,32]⟩),(14,⟨[],[1,24,30,31,51,52,53,54,57,58,59,60,61,81,82,94,95,96,99,100,101,104,105,106,109,110]⟩)]
@[reducible] def zK0:Type:=List (Bool×List Int)
def qqp_ (t24:Bool) (p:(TaAq0)×(TaAq1)×Unit×Int×Int×List aH) (o:zK0):St:=⟨[(1,.pb 0 0),(24,dB t24)],112,[],[(0,.box 48 (talkC p.1 (slC p.2.1 [.row 1,d2 p.2.2.2.1,d2 p.2.2.2.2.1,.d bY p.2.2.2.2.2]))),(1,.que YTT14 63 o)],2,[],0⟩
def q81_ (frames:Int) (p:(TaAq0)×(TaAq1)×Unit×Int×Int×List aH) (o:zK0):St:=⟨[(1,.pb 0 0),(3,dI frames)],112,[],[(0,.box 48 (talkC p.1 (slC p.2.1 [.row 1,d2 p.2.2.2.1,d2 p.2.2.2.2.1,.d bY p.2.2.2.2.2]))),(1,.que YTT14 63 o)],2,[],0⟩
def qrf_ (frames:Int) (t32:Bool) (p:(TaAq0)×(TaAq1)×Unit×Int×Int×List aH) (o:zK0):St:=⟨[(1,.pb 0 0),(3,dI frames),(32,dB t32)],112,[],[(0,.box 48 (talkC p.1 (slC p.2.1 [.row 1,d2 p.2.2.2.1,d2 p.2.2.2.2.1,.d bY p.2.2.2.2.2]))),(1,.que YTT14 63 o)],2,[],0⟩
def qs8_ (frames:Int) (p:(TaAq0)×(TaAq1)×Unit×Int×Int×List aH) (o:zK0):St:=⟨[(1,.pb 0 0),(3,dI frames)],112,[],[(0,.box 48 (talkC p.1 (slC p.2.1 [.row 1,d2 p.2.2.2.1,d2 p.2.2.2.2.1,.d bY p.2.2.2.2.2]))),(1,.que YTT14 63 o)],2,[],0⟩
def qru_ (t62:Bool) (p:(TaAq0)×(TaAq1)×Unit×Int×Int×List aH) (o:zK0):St:=⟨[(1,.pb 0 0),(62,dB t62)],112,[],[(0,.box 48 (talkC p.1 (slC p.2.1 [.row 1,d2 p.2.2.2.1,d2 p.2.2.2.2.1,.d bY p.2.2.2.2.2]))),(1,.que YTT14 63 o)],2,[],0⟩
def qr3_ (b:List Int) (e:Int) (t u:TaAq0):St:=⟨[(5,.pb 0 0),(6,dL b),(7,dI e),(8,.pb 1 0)],112,[],[(0,.box 33 (talkC t [])),(1,.box 33 (talkC u []))],2,[],0⟩
def q7z_ (b:List Int) (e ticks:Int) (t u:TaAq0):St:=⟨[(5,.pb 0 0),(6,dL b),(7,dI e),(8,.pb 1 0),(10,dI ticks)],112,[],[(0,.box 33 (talkC t [])),(1,.box 33 (talkC u []))],2,[],0⟩
def qsb_ (b:List Int) (e ticks:Int) (t83:Bool) (t u:TaAq0):St:=⟨[(5,.pb 0 0),(6,dL b),(7,dI e),(8,.pb 1 0),(10,dI ticks),(83,dB t83)],112,[],[(0,.box 33 (talkC t [])),(1,.box 33 (talkC u []))],2,[],0⟩
def qqr_ (b:List Int) (e ticks:Int) (t u:TaAq0):St:=⟨[(5,.pb 0 0),(6,dL b),(7,dI e),(8,.pb 1 0),(10,dI ticks)],112,[],[(0,.box 33 (talkC t [])),(1,.box 33 (talkC u []))],2,[],0⟩
def q11q_ (j2:Int->(TaAq0)×(TaAq1)×Unit×Int×Int×List aH->List (Bool×List Int)->Option aF) (t24:Bool) (p:(TaAq0)×(TaAq1)×Unit×Int×Int×List aH) (o:zK0):Option aF :=
 if t24=true then some (false,()) else j2 0 p o
def q12h_ (j3:Int->Bool->(TaAq0)×(TaAq1)×Unit×Int×Int×List aH->List (Bool×List Int)->Option aF) (self2:Int->(TaAq0)×(TaAq1)×Unit×Int×Int×List aH->List (Bool×List Int)->Option aF) (frames:Int) (p:(TaAq0)×(TaAq1)×Unit×Int×Int×List aH) (o:zK0):Option aF :=
 if gt (zF (zG o)) 0=true then j3 frames (lt frames 50) p o else j3 frames false p o
def q133_ (j4 self2:Int->(TaAq0)×(TaAq1)×Unit×Int×Int×List aH->List (Bool×List Int)->Option aF) (frames:Int) (t32:Bool) (p:(TaAq0)×(TaAq1)×Unit×Int×Int×List aH) (o:zK0):Option aF :=
 if t32=true then zC (at? o 0) fun x=>zC (at? o 0) fun y=>need (le 1 (zF (zG o))) (need (le (zF (zG o)) (zF (zG o))) (need (lt 0 (zF (zG o))) (if (!y.1)=true then zC (q2l_ (y,p.1,(mkSl p.2.1),p.2.2.2.1,p.2.2.2.2.1,p.2.2.2.2.2,List.take (zI (zF (zG o) - 1)) (List.drop 1 o),())) fun y=>self2 (add .i64 frames 1) (y.1,y.2.1,(),y.2.2.1,y.2.2.2.1,y.2.2.2.2.1) y.2.2.2.2.2.1 else zC (q2l_ (y,p.1,(mkSl p.2.1),p.2.2.2.1,p.2.2.2.2.1,p.2.2.2.2.2,List.take (zI (zF (zG o) - 1)) (List.drop 1 o),())) fun y=>self2 frames (y.1,y.2.1,(),y.2.2.1,y.2.2.2.1,y.2.2.2.2.1) y.2.2.2.2.2.1))) else j4 frames p o
def q126_ (j5:Bool->(TaAq0)×(TaAq1)×Unit×Int×Int×List aH->List (Bool×List Int)->Option aF) (frames:Int) (p:(TaAq0)×(TaAq1)×Unit×Int×Int×List aH) (o:zK0):Option aF :=
 if nei frames 4=true then j5 true p o else if nei p.1.2.2.2.2.2.2.2.2 1=true then j5 true p o else j5 (nei p.2.1.2.2.1.2.2.1 2) p o
def q11g_ (j6:List Int->Int->TaAq0->TaAq0->Option aF) (t62:Bool) (p:(TaAq0)×(TaAq1)×Unit×Int×Int×List aH) (o:zK0):Option aF :=
 if t62=true then some (false,()) else zC (q3o_ (p.1,1,9,[],())) fun y=>amb (eqAs q48_.rs) [amb (eqAs q48_.rs) [zC (qmk_ ([9,151,4],())) fun y_1=>amb (eqAs q48_.rs) [zC (q7q_ (y.1,y_1.1,())) fun y_2=>j6 y.2.1 y.2.2.1 y.1 y_2.1,zC (q7q_ (y.1,y_1.1,())) fun y_2=>j6 y.2.1 y.2.2.1 y.1 y_2.1],zC (qmk_ ([9,151,4],())) fun y_1=>zC (q7q_ (y.1,y_1.1,())) fun y_2=>j6 y.2.1 y.2.2.1 y.1 y_2.1],zC (qmk_ ([9,151,4],())) fun y_1=>zC (q7q_ (y.1,y_1.1,())) fun y_2=>j6 y.2.1 y.2.2.1 y.1 y_2.1]
def q125_ (j7:List Int->Int->Int->TaAq0->TaAq0->Option aF) (b:List Int) (e:Int) (t u:TaAq0):Option aF :=
 j7 b e 0 t u
def q127_ (j8:List Int->Int->Int->Bool->TaAq0->TaAq0->Option aF) (self7:List Int->Int->Int->TaAq0->TaAq0->Option aF) (b:List Int) (e ticks:Int) (t u:TaAq0):Option aF :=
 if eqi t.2.2.2.2.2.2.2.2 0=true then j8 b e ticks (lt ticks 50) t u else j8 b e ticks false t u
def q12o_ (j9 self7:List Int->Int->Int->TaAq0->TaAq0->Option aF) (b:List Int) (e ticks:Int) (t83:Bool) (t u:TaAq0):Option aF :=
 if t83=true then zC (qmn_ (t,())) fun y=>self7 b e (add .i64 ticks 1) y.1 u else j9 b e ticks t u
def q11p_ (b:List Int) (e ticks:Int) (t u:TaAq0):Option aF :=
 if eqi e 0=true then if gt (zF (zG b)) 0=true then if eqi u.2.2.2.2.2.2.2.2 2=true then if eqi t.2.2.2.2.2.2.2.2 2=true then some (eqi ticks 4,()) else some (false,()) else some (false,()) else some (false,()) else some (false,())
def q123_ (j1:Bool->(TaAq0)×(TaAq1)×Unit×Int×Int×List aH->List (Bool×List Int)->Option aF):Option aF :=
 zC (qal_ (0,1,1,[],[[(5,[9])]],())) fun y=>if (!y.2.2.2.2.2.1)=true then j1 true (y.1,y.2.1,(),y.2.2.1,y.2.2.2.1,y.2.2.2.2.1) y.2.2.2.2.2.2.1 else zC (q1a_ (false,y.1,(mkSl y.2.1),y.2.2.1,y.2.2.2.1,y.2.2.2.2.1,y.2.2.2.2.2.2.1,())) fun y=>j1 (!y.1) (y.2.1,y.2.2.1,(),y.2.2.2.1,y.2.2.2.2.1,y.2.2.2.2.2.1) y.2.2.2.2.2.2.1
def q11z_:=q11p_
def q11u_ (u7:List Int->Int->Int->TaAq0->TaAq0->Option aF):=q12o_ (q11z_) u7
def qqu_ (b:List Int) (e ticks:Int) (t u:TaAq0):Option aF :=
 loopF (fun self s=>q127_ (q11u_ (fun b e ticks t u=>self (b,e,ticks,t,u))) (fun b e ticks t u=>self (b,e,ticks,t,u)) s.1 s.2.1 s.2.2.1 s.2.2.2.1 s.2.2.2.2) 18446744073709551616 (b,e,ticks,t,u)
def q128_:=q125_ (qqu_)
def q12g_:=q11g_ (q128_)
def q11h_:=q126_ (q12g_)
def q11s_ (u2:Int->(TaAq0)×(TaAq1)×Unit×Int×Int×List aH->List (Bool×List Int)->Option aF):=q133_ (q11h_) u2
def qqz_ (frames:Int) (p:(TaAq0)×(TaAq1)×Unit×Int×Int×List aH) (o:zK0):Option aF :=
 loopF (fun self s=>q12h_ (q11s_ (fun frames p o=>self (frames,p,o))) (fun frames p o=>self (frames,p,o)) s.1 s.2.1 s.2.2) 18446744073709551616 (frames,p,o)
def q11b_:=q11q_ (qqz_)
def qeg_ (x:As []):Option aF:=q123_ q11b_
abbrev pBp:=zp qk7_ qk4_ 15 q48_
theorem q1e9_ {J a b c d e}:pBp J 1023 [] (qqr_ a b c d e)=q11p_ a b c d e:=by kernel_rfl
theorem q1d9_ {J w7 a b c d e f}:pBp J 16368 [w7] (qsb_ a b c d e f)=q12o_ (C (J 1023 []) qqr_) (C w7 q7z_) a b c d e f:=by kernel_rfl
theorem q1eg_ {J w7 a b c d e}:pBp J 4092 [w7] (q7z_ a b c d e)=q127_ (C (J 16368 [w7]) qsb_) (C w7 q7z_) a b c d e:=by kernel_rfl
theorem q1d4_ {J a b c d}:pBp J 255 [] (qr3_ a b c d)=q125_ (C (J 4092 []) q7z_) a b c d:=by kernel_rfl
theorem q1cl_ {J a b c}:pBp J 126 [] (qru_ a b c)=q11g_ (C (J 255 []) qr3_) a b c:=by kernel_rfl
theorem q1cn_ {J a b c}:pBp J 31 [] (qs8_ a b c)=q126_ (C (J 126 []) qru_) a b c:=by kernel_rfl
theorem q1by_ {J w2 a b c d}:pBp J 496 [w2] (qrf_ a b c d)=q133_ (C (J 31 []) qs8_) (C w2 q81_) a b c d:=by kernel_rfl
theorem q1ee_ {J w2 a b c}:pBp J 124 [w2] (q81_ a b c)=q12h_ (C (J 496 [w2]) qrf_) (C w2 q81_) a b c:=by kernel_rfl
theorem q1do_ {J a b c}:pBp J 14 [] (qqp_ a b c)=q11q_ (C (J 124 []) q81_) a b c:=by kernel_rfl
abbrev pBo:=zj qk7_ qk4_ 15 q48_
theorem q1ea_:C (pBo 1023 []) qqr_=q11z_:=gNC (by decide) fun _=>q1e9_
theorem q1ce_ {w7}:C (pBo 16368 [w7]) qsb_=q11u_ (C w7 q7z_):=gNC (by decide) fun _=>q1d9_.trans (by rw [q1ea_] <;> kernel_rfl)
theorem q1d5_:C (pBo 4092 []) q7z_=qqu_:=gLC (by decide) (by kernel_rfl) (fun _=>by unfold qqu_; rfl) fun _ _=>q1eg_.trans (by rw [q1ce_] <;> kernel_rfl)
theorem q1es_:C (pBo 255 []) qr3_=q128_:=gNC (by decide) fun _=>q1d4_.trans (by rw [q1d5_] <;> kernel_rfl)
theorem q1bs_:C (pBo 126 []) qru_=q12g_:=gNC (by decide) fun _=>q1cl_.trans (by rw [q1es_] <;> kernel_rfl)
theorem q1e0_:C (pBo 31 []) qs8_=q11h_:=gNC (by decide) fun _=>q1cn_.trans (by rw [q1bs_] <;> kernel_rfl)
theorem q1dj_ {w2}:C (pBo 496 [w2]) qrf_=q11s_ (C w2 q81_):=gNC (by decide) fun _=>q1by_.trans (by rw [q1e0_] <;> kernel_rfl)
theorem q1cm_:C (pBo 124 []) q81_=qqz_:=gLC (by decide) (by kernel_rfl) (fun _=>by unfold qqz_; rfl) fun _ _=>q1ee_.trans (by rw [q1dj_] <;> kernel_rfl)
theorem q1dh_:C (pBo 14 []) qqp_=q11b_:=gNC (by decide) fun _=>q1do_.trans (by rw [q1cm_] <;> kernel_rfl)
theorem q1dl_:CtOk Tryz.prog (fun _=>True) 15 ⟨q48_,qeg_⟩:=zcc (env:=qk7_) (d:=6) (hs:=Ev.get qk4_) (q0_ Ev.bx_ok (q0_ Ev.bx_ok (q0_ Ev.bx_ok (q0_ q11j_ (q0_ qqk_ (q0_ qg9_ (q0_ q176_ (q0_ q13y_ (q0_ q159_ (q0_ q1ao_ q1_)))))))))) (fun J x=>q123_ (C (J 14 []) qqp_)) (fun _ _=>by kernel_rfl) fun _=>by rw [q1dh_] <;> rfl
@[reducible] def eG:List Ty:=[.int .i64,.pr aD YTT2,.pr (.int .u8) aA,.int .u32,.int .u32,.sl (.sl YTT8),.sl YTT14]
@[reducible] def q5f_:Sh:=⟨[.pb 0 0,.d (.int .i64)],[(prG 1),.que YTT14 63],eG,[.d (.bool)],[(0,(prG 2)),(2,.que YTT14 63)],1,aE⟩
def qb7_:Env:=(cts [(1000048,Ev.bxCt),(9000046,Ev.bxCt),(9999999,Ev.bxCt),(16,(⟨q1x_,q2l_⟩:Ct))])
def qb9_:List (Nat×Hint):=[(3,⟨[],[0]⟩),(26,⟨[.quw 0 57 63],[0,6,7]⟩)]
def qag_ (t6 t7:Int) (p:(TaAq0)×(TaAq1)×Unit×Int×Int×List aH) (o:zK0):St:=⟨[(0,.pb 0 0),(6,dI t6),(7,dI t7)],39,[],[(0,.box 48 (talkC p.1 (slC p.2.1 [.row 2,d2 p.2.2.2.1,d2 p.2.2.2.2.1,.d bY p.2.2.2.2.2]))),(2,.que YTT14 63 o)],3,[],2⟩
def qgy_ (p:(TaAq0)×(TaAq1)×Unit×Int×Int×List aH) (o:zK0):St:=⟨[(0,.pb 0 0)],39,[],[(0,.box 48 (talkC p.1 (slC p.2.1 [.row 2,d2 p.2.2.2.1,d2 p.2.2.2.2.1,.d bY p.2.2.2.2.2]))),(2,.que YTT14 63 o)],3,[],2⟩
def q26_ (j2:(TaAq0)×(TaAq1)×Unit×Int×Int×List aH->List (Bool×List Int)->Option cO) (self1:Int->Int->(TaAq0)×(TaAq1)×Unit×Int×Int×List aH->List (Bool×List Int)->Option cO) (t6 t7:Int) (p:(TaAq0)×(TaAq1)×Unit×Int×Int×List aH) (o:zK0):Option cO :=
 if lt t7 t6=true then if eqi (zF (zG o)) 0=true then some (true,p.1,(mkSl p.2.1),p.2.2.2.1,p.2.2.2.2.1,p.2.2.2.2.2,o,()) else zC (at? o 0) fun x=>zC (at? o 0) fun y=>need (le 1 (zF (zG o))) (need (le (zF (zG o)) (zF (zG o))) (need (lt 0 (zF (zG o))) (zC (q2l_ (y,p.1,(mkSl p.2.1),p.2.2.2.1,p.2.2.2.2.1,p.2.2.2.2.2,List.take (zI (zF (zG o) - 1)) (List.drop 1 o),())) fun y=>self1 t6 (add .i64 t7 1) (y.1,y.2.1,(),y.2.2.1,y.2.2.2.1,y.2.2.2.2.1) y.2.2.2.2.2.1))) else j2 p o
def qa5_ (p:(TaAq0)×(TaAq1)×Unit×Int×Int×List aH) (o:zK0):Option cO :=
 some (eqi (zF (zG o)) 0,p.1,(mkSl p.2.1),p.2.2.2.1,p.2.2.2.2.1,p.2.2.2.2.2,o,())
def quo_ (j1:Int->Int->(TaAq0)×(TaAq1)×Unit×Int×Int×List aH->List (Bool×List Int)->Option cO) (p:Int) (most:TaAq0) (p_2:TaAq1) (most_2 v:Int) (m:List aH) (v_2:zK0):Option cO :=
 j1 p 0 (most,p_2,(),most_2,v,m) v_2
def q4q_:=qa5_
def qgl_ (t6 t7:Int) (p:(TaAq0)×(TaAq1)×Unit×Int×Int×List aH) (o:zK0):Option cO :=
 loopF (fun self s=>q26_ (q4q_) (fun t6 t7 p o=>self (t6,t7,p,o)) s.1 s.2.1 s.2.2.1 s.2.2.2) 18446744073709551616 (t6,t7,p,o)
def q27_ (x:As eG):Option cO:=quo_ qgl_ x.1 x.2.1 x.2.2.1 x.2.2.2.1 x.2.2.2.2.1 x.2.2.2.2.2.1 x.2.2.2.2.2.2.1
abbrev pBh:=zp qb7_ qb9_ 11 q5f_
theorem q15k_ {J a b}:pBh J 3 [] (qgy_ a b)=qa5_ a b:=by kernel_rfl
theorem q174_ {J w1 a b c d}:pBh J 26 [w1] (qag_ a b c d)=q26_ (C (J 3 []) qgy_) (C w1 qag_) a b c d:=by kernel_rfl
abbrev pBg:=zj qb7_ qb9_ 11 q5f_
theorem q15f_:C (pBg 3 []) qgy_=q4q_:=gNC (by decide) fun _=>q15k_
theorem q16x_:C (pBg 26 []) qag_=qgl_:=gLC (by decide) (by kernel_rfl) (fun _=>by unfold qgl_; rfl) fun _ _=>q174_.trans (by rw [q15f_] <;> kernel_rfl)
theorem q15x_:CtOk Tryz.prog (fun _=>True) 11 ⟨q5f_,q27_⟩:=zcc (env:=qb7_) (d:=6) (hs:=Ev.get qb9_) (q0_ Ev.bx_ok (q0_ Ev.bx_ok (q0_ Ev.bx_ok (q0_ qg9_ q1_)))) (fun J x=>quo_ (C (J 26 []) qag_) x.1 x.2.1 x.2.2.1 x.2.2.2.1 x.2.2.2.2.1 x.2.2.2.2.2.1 x.2.2.2.2.2.2.1) (fun _ _=>by kernel_rfl) fun _=>by rw [q16x_] <;> rfl
@[reducible] def qbt_:Sh:=⟨[.d YTT8],[],bQ,[.d (.bool)],[],0,[.bool]⟩
def qnc_:Env:=(cts [])
def qoy_:List (Nat×Hint):=[(58,⟨[],[1,3]⟩),(6,⟨[],[1,17]⟩)]
def qve_ (t17:Bool) (x:Int×List Int):St:=⟨[(1,.pb 0 0),(17,dB t17)],30,[],[(0,.box 38 [dI x.1,dW x.2])],1,[],0⟩
def qe6_ (i:Int) (x:Int×List Int):St:=⟨[(1,.pb 0 0),(3,dI i)],30,[],[(0,.box 38 [dI x.1,dW x.2])],1,[],0⟩
def q13v_ (j2:Int->Int×List Int->Option aF) (t17:Bool) (x:Int×List Int):Option aF :=
 if t17=true then some (false,()) else j2 0 x
def q13w_ (self2:Int->Int×List Int->Option aF) (i:Int) (x:Int×List Int):Option aF :=
 if lt i (zF (zG x.2))=true then if gt (add .i64 x.1 i) 63=true then some (false,()) else self2 (add .i64 i 1) x else some (true,())
def q146_ (j1:Bool->Int×List Int->Option aF) (x:Int×List Int):Option aF :=
 if gt (zF (zG x.2)) 14=true then j1 true x else if lt x.1 0=true then j1 true x else j1 (gt x.1 63) x
def q144_ (i:Int) (x:Int×List Int):Option aF :=
 loopF (fun self s=>q13w_ (fun i x=>self (i,x)) s.1 s.2) 18446744073709551616 (i,x)
def q13n_:=q13v_ (q144_)
def qwn_ (x:As bQ):Option aF:=q146_ q13n_ x.1
abbrev pCx:=zp qnc_ qoy_ 76 qbt_
theorem q1gp_ {J w2 i x}:pCx J 58 [w2] (qe6_ i x)=q13w_ (fun i x=>w2 (qe6_ i x)) i x:=by kernel_rfl
theorem q1g2_ {J t17 x}:pCx J 6 [] (qve_ t17 x)=q13v_ (fun i x=>J 58 [] (qe6_ i x)) t17 x:=by kernel_rfl
theorem q1f9_ (J:Orc aF) (x:As bQ):rfn Tryz.prog qnc_ 6 18446744073709551616 (Ev.get qoy_) 76 qbt_ J x=q146_ (fun t17 x=>J 6 [] (qve_ t17 x)) x.1:=by kernel_rfl
abbrev pCw:=zj qnc_ qoy_ 76 qbt_
theorem q1ga_ (i:Int) (x:Int×List Int):pCw 58 [] (qe6_ i x)=q144_ i x:=gL (σ:=(Int)×(Int×List Int)) (mk:=fun s=>qe6_ s.1 s.2) (by decide) (by kernel_rfl) (fun w2 s=>q1gp_) (i,x)
theorem q1gc_ (t17:Bool) (x:Int×List Int):pCw 6 [] (qve_ t17 x)=q13n_ t17 x:=gN (by decide) (q1g2_.trans (by simp only [q1ga_]; rfl))
theorem q1ii_ (x:As bQ):evT Tryz.prog qnc_ 6 18446744073709551616 (Ev.get qoy_) 76 qbt_ x=qwn_ x:=by
 rw [qb_,q1f9_]
 simp only [q1gc_]
 rfl
theorem q1gf_:CtOk Tryz.prog (fun _=>True) 76 ⟨qbt_,qwn_⟩:=q7_ q1_ q1ii_
@[reducible] def qei_:Sh:=⟨[.d YTT8],[],bQ,[.d aC],[],0,aK⟩
def qts_:Env:=(cts [(76,(⟨qbt_,qwn_⟩:Ct))])
def qt4_:List (Nat×Hint):=[(506,⟨[],[1,3,4]⟩)]
def qpq_ (i:Int) (x:Int×List Int) (out:List Int):St:=⟨[(1,.pb 0 0),(3,.row 1),(4,dI i)],38,[],[(0,.box 38 [dI x.1,dW x.2]),(1,.row (.int .u16) 25 out)],2,[],0⟩
@[reducible] def zK1:Type:=Int->Int×List Int->List Int->Option bL
def q15a_ (self1:zK1) (i:Int) (x:Int×List Int) (out:List Int):Option bL :=
 if lt i (zF (zG x.2))=true then zC (at? x.2 i) fun y=>zC (at? out (add .i64 2 i)) fun x_1=>zC (at? out (add .i64 2 i)) fun x_2=>self1 (add .i64 i 1) x (List.set out (zI (add .i64 2 i)) y) else some (out,())
def q15o_ (j1:zK1) (x:Int×List Int):Option bL :=
 zC (qwn_ (x,())) fun y=>if (!y.1)=true then some ([0,0,0,0,0,0,0,0,0,0,0,0,0,0,0,0],()) else j1 0 x [cvt .u16 x.1,cvt .u16 (zF (zG x.2)),0,0,0,0,0,0,0,0,0,0,0,0,0,0]
def qyh_ (i:Int) (x:Int×List Int) (out:List Int):Option bL :=
 loopF (fun self s=>q15a_ (fun i x out=>self (i,x,out)) s.1 s.2.1 s.2.2) 18446744073709551616 (i,x,out)
def qzm_ (x:As bQ):Option bL:=q15o_ qyh_ x.1
abbrev pCz:=zp qts_ qt4_ 103 qei_
theorem q1jm_ {J w1 a b c}:pCz J 506 [w1] (qpq_ a b c)=q15a_ (C w1 qpq_) a b c:=by kernel_rfl
abbrev pCy:=zj qts_ qt4_ 103 qei_
theorem q1lv_:C (pCy 506 []) qpq_=qyh_:=gLC (by decide) (by kernel_rfl) (fun _=>by unfold qyh_; rfl) fun _ _=>q1jm_.trans (by kernel_rfl)
theorem q1jx_:CtOk Tryz.prog (fun _=>True) 103 ⟨qei_,qzm_⟩:=zcc (env:=qts_) (d:=6) (hs:=Ev.get qt4_) (q0_ q1gf_ q1_) (fun J x=>q15o_ (C (J 506 []) qpq_) x.1) (fun _ _=>by kernel_rfl) fun _=>by rw [q1lv_] <;> rfl
@[reducible] def qes_:Sh:=⟨[.d (.int .u32),.d (.int .u8)],[],[.int .u32,.int .u8],[.d (.int .u32)],[],0,[.int .u32]⟩
def qtk_:Env:=(cts [])
def qsd_:List (Nat×Hint):=[(58,⟨[],[0,5]⟩),(233,⟨[],[0,5]⟩)]
def qc3_ (sum i:Int):St:=⟨[(0,d2 sum),(5,dI i)],24,[],[],0,[],0⟩
def qy5_ (sum i:Int):St:=⟨[(0,d2 sum),(5,dI i)],24,[],[],0,[],0⟩
@[reducible] def zK2:Type:=Int->Int->Option aQ
def q16r_ (j2 self1:zK2) (sum i:Int):Option aQ :=
 if lt i 8=true then if eqi (rem sum 2) 1=true then j2 (Sx.bxor .u32 (quo .u32 sum 2) 3988292384) i else j2 (quo .u32 sum 2) i else some (sum,())
def q164_ (self1:zK2) (sum i:Int):Option aQ :=
 self1 sum (add .i64 i 1)
def q163_ (j1:zK2) (sum b:Int):Option aQ :=
 j1 (Sx.bxor .u32 sum (cvt .u32 b)) 0
def q15m_ (u1:zK2):=q164_ u1
def qxv_ (sum i:Int):Option aQ :=
 loopF (fun self s=>q16r_ (q15m_ (fun sum i=>self (sum,i))) (fun sum i=>self (sum,i)) s.1 s.2) 18446744073709551616 (sum,i)
def q107_ (x:As [.int .u32,.int .u8]):Option aQ:=q163_ qxv_ x.1 x.2.1
abbrev pCr:=zp qtk_ qsd_ 250 qes_
theorem q1ip_ {J w1 a b}:pCr J 233 [w1] (qy5_ a b)=q164_ (C w1 qc3_) a b:=by kernel_rfl
theorem q1ly_ {J w1 a b}:pCr J 58 [w1] (qc3_ a b)=q16r_ (C (J 233 [w1]) qy5_) (C w1 qc3_) a b:=by kernel_rfl
abbrev pCq:=zj qtk_ qsd_ 250 qes_
theorem q1jk_ {w1}:C (pCq 233 [w1]) qy5_=q15m_ (C w1 qc3_):=gNC (by decide) fun _=>q1ip_
theorem q1kw_:C (pCq 58 []) qc3_=qxv_:=gLC (by decide) (by kernel_rfl) (fun _=>by unfold qxv_; rfl) fun _ _=>q1ly_.trans (by rw [q1jk_] <;> kernel_rfl)
theorem q1jn_:CtOk Tryz.prog (fun _=>True) 250 ⟨qes_,q107_⟩:=zcc (env:=qtk_) (d:=6) (hs:=Ev.get qsd_) q1_ (fun J x=>q163_ (C (J 58 []) qc3_) x.1 x.2.1) (fun _ _=>by kernel_rfl) fun _=>by rw [q1kw_] <;> rfl
@[reducible] def qjl_:Sh:=⟨[.d (.int .u32),.d aJ],[],[.int .u32,.sl (.int .u8)],[.d (.int .u32)],[],0,[.int .u32]⟩
def qtz_:Env:=(cts [(250,(⟨qes_,q107_⟩:Ct))])
def qtl_:List (Nat×Hint):=[(26,⟨[],[0,1,5]⟩)]
def qot_ (sum:Int) (b:List Int) (i:Int):St:=⟨[(0,d2 sum),(1,dL b),(5,dI i)],19,[],[],0,[],0⟩
def q157_ (self1:Int->List Int->Int->Option aQ) (sum:Int) (b:List Int) (i:Int):Option aQ :=
 if lt i (zF (zG b))=true then zC (at? b i) fun y=>zC (q107_ (sum,y,())) fun y=>self1 y.1 b (add .i64 i 1) else some (sum,())
def q171_ (j1:Int->List Int->Int->Option aQ) (sum:Int) (b:List Int):Option aQ :=
 j1 sum b 0
def qyf_ (sum:Int) (b:List Int) (i:Int):Option aQ :=
 loopF (fun self s=>q157_ (fun sum b i=>self (sum,b,i)) s.1 s.2.1 s.2.2) 18446744073709551616 (sum,b,i)
def q16y_ (x:As [.int .u32,.sl (.int .u8)]):Option aQ:=q171_ qyf_ x.1 x.2.1
abbrev pCt:=zp qtz_ qtl_ 219 qjl_
theorem q1j0_ {J w1 a b c}:pCt J 26 [w1] (qot_ a b c)=q157_ (C w1 qot_) a b c:=by kernel_rfl
abbrev pCs:=zj qtz_ qtl_ 219 qjl_
theorem q1k2_:C (pCs 26 []) qot_=qyf_:=gLC (by decide) (by kernel_rfl) (fun _=>by unfold qyf_; rfl) fun _ _=>q1j0_.trans (by kernel_rfl)
theorem q1i2_:CtOk Tryz.prog (fun _=>True) 219 ⟨qjl_,q16y_⟩:=zcc (env:=qtz_) (d:=6) (hs:=Ev.get qtl_) (q0_ q1jn_ q1_) (fun J x=>q171_ (C (J 26 []) qot_) x.1 x.2.1) (fun _ _=>by kernel_rfl) fun _=>by rw [q1k2_] <;> rfl
@[reducible] def q13m_:Sh:=⟨[.d aJ],[],aI,[.d (.int .u32)],[],0,[.int .u32]⟩
def q1eq_ (b:List Int):Option aQ :=
 zC (q16y_ (4294967295,b,())) fun y=>some (Sx.bxor .u32 y.1 4294967295,())
def q10p_ (x:As aI):Option aQ:=q1eq_ x.1
theorem q1ds_:CtOk Tryz.prog (fun _=>True) 161 ⟨q13m_,q10p_⟩:=ctn (q0_ q1i2_ q1_) 6 fun J x=>by kernel_rfl
@[reducible] def q9o_:Sh:=⟨[.d aC],[],aK,[.d (.int .u32)],[],0,[.int .u32]⟩
def qlc_:Env:=(cts [(161,(⟨q13m_,q10p_⟩:Ct))])
def qjs_:List (Nat×Hint):=[(7,⟨[],[3]⟩),(58,⟨[.row 3 5],[0,3,4]⟩)]
def qi6_ (l:List Int) (i:Int) (b:List Int):St:=⟨[(0,dW l),(3,.row 0),(4,dI i)],28,[],[(0,.row (.int .u8) 5 b)],1,[],0⟩
def qrr_ (b:List Int):St:=⟨[(3,.row 0)],28,[],[(0,.row (.int .u8) 5 b)],1,[],0⟩
def q12r_ (j2:List Int->Option aQ) (self1:List Int->Int->List Int->Option aQ) (l:List Int) (i:Int) (b:List Int):Option aQ :=
 if lt i (zF (zG l))=true then zC (at? l i) fun y=>zC (at? l i) fun y_1=>need (small (zG b + Nat.succ (Nat.succ 0))) (self1 l (add .i64 i 1) (b++[cvt .u8 (quo .u16 y 256),cvt .u8 (rem y_1 256)])) else j2 b
def q12t_ (b:List Int):Option aQ :=
 zC (q10p_ (b,())) fun y=>some (y.1,())
def q11a_ (j1:List Int->Int->List Int->Option aQ) (l:List Int):Option aQ :=
 j1 l 0 []
def q12e_:=q12t_
def qrd_ (l:List Int) (i:Int) (b:List Int):Option aQ :=
 loopF (fun self s=>q12r_ (q12e_) (fun l i b=>self (l,i,b)) s.1 s.2.1 s.2.2) 18446744073709551616 (l,i,b)
def qsp_ (x:As aK):Option aQ:=q11a_ qrd_ x.1
abbrev pCv:=zp qlc_ qjs_ 104 q9o_
theorem q1dr_ {J a}:pCv J 7 [] (qrr_ a)=q12t_ a:=by kernel_rfl
theorem q1dy_ {J w1 a b c}:pCv J 58 [w1] (qi6_ a b c)=q12r_ (C (J 7 []) qrr_) (C w1 qi6_) a b c:=by kernel_rfl
abbrev pCu:=zj qlc_ qjs_ 104 q9o_
theorem q1cw_:C (pCu 7 []) qrr_=q12e_:=gNC (by decide) fun _=>q1dr_
theorem q1bx_:C (pCu 58 []) qi6_=qrd_:=gLC (by decide) (by kernel_rfl) (fun _=>by unfold qrd_; rfl) fun _ _=>q1dy_.trans (by rw [q1cw_] <;> kernel_rfl)
theorem q1bw_:CtOk Tryz.prog (fun _=>True) 104 ⟨q9o_,qsp_⟩:=zcc (env:=qlc_) (d:=6) (hs:=Ev.get qjs_) (q0_ q1ds_ q1_) (fun J x=>q11a_ (C (J 58 []) qi6_) x.1) (fun _ _=>by kernel_rfl) fun _=>by rw [q1bx_] <;> rfl
@[reducible] def qew_:Sh:=⟨[.d (.sl YTT8)],[],[.sl YTT8],[.d (.int .u32)],[],0,[.int .u32]⟩
def qty_:Env:=(cts [(103,(⟨qei_,qzm_⟩:Ct)),(104,(⟨q9o_,qsp_⟩:Ct))])
def qsw_:List (Nat×Hint):=[(7,⟨[],[3]⟩),(58,⟨[.row 3 25],[0,3,4]⟩)]
@[reducible] def zK3:Type:=List (Int×List Int)
def qps_ (l:zK3) (i:Int) (all:List Int):St:=⟨[(0,.d (.sl YTT8) l),(3,.row 0),(4,dI i)],20,[],[(0,.row (.int .u16) 25 all)],1,[],0⟩
def qxd_ (all:List Int):St:=⟨[(3,.row 0)],20,[],[(0,.row (.int .u16) 25 all)],1,[],0⟩
@[reducible] def zK4:Type:=List (Int×List Int)->Int->List Int->Option aQ
def q16n_ (j2:List Int->Option aQ) (self1:zK4) (l:zK3) (i:Int) (all:List Int):Option aQ :=
 if lt i (zF (zG l))=true then zC (at? l i) fun y=>zC (qzm_ (y,())) fun y=>need (small (zG all + zG y.1)) (self1 l (add .i64 i 1) (all++y.1)) else j2 all
def q15i_ (all:List Int):Option aQ :=
 zC (qsp_ (all,())) fun y=>some (y.1,())
def q16e_ (j1:zK4) (l:zK3):Option aQ :=
 j1 l 0 []
def q15v_:=q15i_
def qxh_ (l:zK3) (i:Int) (all:List Int):Option aQ :=
 loopF (fun self s=>q16n_ (q15v_) (fun l i all=>self (l,i,all)) s.1 s.2.1 s.2.2) 18446744073709551616 (l,i,all)
def qmi_ (x:As [.sl YTT8]):Option aQ:=q16e_ qxh_ x.1
abbrev pC1:=zp qty_ qsw_ 49 qew_
theorem q1i8_ {J a}:pC1 J 7 [] (qxd_ a)=q15i_ a:=by kernel_rfl
theorem q1lh_ {J w1 a b c}:pC1 J 58 [w1] (qps_ a b c)=q16n_ (C (J 7 []) qxd_) (C w1 qps_) a b c:=by kernel_rfl
abbrev pC0:=zj qty_ qsw_ 49 qew_
theorem q1jy_:C (pC0 7 []) qxd_=q15v_:=gNC (by decide) fun _=>q1i8_
theorem q1ie_:C (pC0 58 []) qps_=qxh_:=gLC (by decide) (by kernel_rfl) (fun _=>by unfold qxh_; rfl) fun _ _=>q1lh_.trans (by rw [q1jy_] <;> kernel_rfl)
theorem q1ld_:CtOk Tryz.prog (fun _=>True) 49 ⟨qew_,qmi_⟩:=zcc (env:=qty_) (d:=6) (hs:=Ev.get qsw_) (q0_ q1jx_ (q0_ q1bw_ q1_)) (fun J x=>q16e_ (C (J 58 []) qps_) x.1) (fun _ _=>by kernel_rfl) fun _=>by rw [q1ie_] <;> rfl
@[reducible] def q13k_:Sh:=⟨[.d cE],[],[.pr (.int .u16) YTT11],[.d aC],[],0,aK⟩
def qqx_ (c:Int×Int×Int×Int×Int):Option bL :=
 some ([c.1,cvt .u16 c.2.1,cvt .u16 (quo .u32 c.2.2.1 65536),cvt .u16 (rem c.2.2.1 65536),c.2.2.2.1,cvt .u16 (quo .u32 c.2.2.2.2 65536),cvt .u16 (rem c.2.2.2.2 65536),0],())
def qtu_ (x:As [.pr (.int .u16) YTT11]):Option bL:=qqx_ x.1
theorem q1e6_:CtOk Tryz.prog (fun _=>True) 51 ⟨q13k_,qtu_⟩:=ctn q1_ 6 fun J x=>by kernel_rfl
@[reducible] def dP:List Ty:=[.pr (.int .u16) (.int .u8),.pr aD YTT2,.pr (.int .u8) aA,.int .u32,.int .u32,.sl (.sl YTT8),.sl YTT14]
@[reducible] def q58_:Sh:=⟨[.d (.pr (.int .u16) (.int .u8)),.pb 0 0],[(prG 1),.que YTT14 63],dP,[.d (.bool)],[(0,(prG 2)),(2,.que YTT14 63)],1,aE⟩
def qf9_:Env:=(cts [(1000048,Ev.bxCt),(49,(⟨qew_,qmi_⟩:Ct)),(50,(⟨qan_,q6m_⟩:Ct)),(51,(⟨q13k_,qtu_⟩:Ct)),(52,(⟨qks_,q7o_⟩:Ct)),(53,(⟨q76_,q67_⟩:Ct))])
def qfz_:List (Nat×Hint):=[(3,⟨[],[1,5,46,47,48]⟩)]
def qm4_ (p:(TaAq0)×(TaAq1)×Unit×Int×Int×List aH) (o:zK0) (c:Int×Int×Int×Int×Int):St:=⟨[(1,.pb 0 0),(5,.pb 2 0)],50,[],[(0,.box 48 (talkC p.1 (slC p.2.1 [.row 1,d2 p.2.2.2.1,d2 p.2.2.2.2.1,.d bY p.2.2.2.2.2]))),(1,.que YTT14 63 o),(2,.box 104 [d6 c.1,d8 c.2.1,d2 c.2.2.1,d6 c.2.2.2.1,d2 c.2.2.2.2])],3,[],2⟩
def qdm_ (p:(TaAq0)×(TaAq1)×Unit×Int×Int×List aH) (o:zK0) (c:Int×Int×Int×Int×Int):Option cO :=
 zC (qtu_ (c,())) fun y=>zC (q6m_ ((16,272,8,0,y.1,[]),())) fun y=>zC (q7o_ ((mkSl p.2.1),y.1,())) fun y=>zC (q67_ (y.2.1,())) fun y_1=>if eqi y_1.2.1 0=true then some (eqi y_1.1.2.1 0,p.1,(mkSl y.1),p.2.2.2.1,p.2.2.2.2.1,p.2.2.2.2.2,o,()) else some (false,p.1,(mkSl y.1),p.2.2.2.1,p.2.2.2.2.1,p.2.2.2.2.2,o,())
def qda_ (j1:(TaAq0)×(TaAq1)×Unit×Int×Int×List aH->List (Bool×List Int)->Int×Int×Int×Int×Int->Option cO) (o:Int×Int) (p:TaAq0) (o_2:TaAq1) (p_2 v:Int) (c:List aH) (b:zK0):Option cO :=
 amb (eqAs q58_.rs) [zC (qmi_ ([],())) fun y=>j1 (p,o_2,(),p_2,v,c) b (o.1,o.2,5,0,y.1),zC (qmi_ ([],())) fun y=>j1 (p,o_2,(),p_2,v,c) b (o.1,o.2,5,0,y.1)]
def qd3_:=qdm_
def qe5_ (x:As dP):Option cO:=qda_ qd3_ x.1 x.2.1 x.2.2.1 x.2.2.2.1 x.2.2.2.2.1 x.2.2.2.2.2.1 x.2.2.2.2.2.2.1
abbrev pBd:=zp qf9_ qfz_ 18 q58_
theorem q18y_ {J a b c}:pBd J 3 [] (qm4_ a b c)=qdm_ a b c:=by kernel_rfl
abbrev pBc:=zj qf9_ qfz_ 18 q58_
theorem q18x_:C (pBc 3 []) qm4_=qd3_:=gNC (by decide) fun _=>q18y_
theorem q19n_:CtOk Tryz.prog (fun _=>True) 18 ⟨q58_,qe5_⟩:=zcc (env:=qf9_) (d:=6) (hs:=Ev.get qfz_) (q0_ Ev.bx_ok (q0_ q1ld_ (q0_ qp5_ (q0_ q1e6_ (q0_ q122_ (q0_ qry_ q1_)))))) (fun J x=>qda_ (C (J 3 []) qm4_) x.1 x.2.1 x.2.2.1 x.2.2.2.1 x.2.2.2.2.1 x.2.2.2.2.2.1 x.2.2.2.2.2.2.1) (fun _ _=>by kernel_rfl) fun _=>by rw [q18x_] <;> rfl
@[reducible] def q11y_:Sh:=⟨[.d YTT8,.d YTT8],[],[.pr (.int .i64) aC,.pr (.int .i64) aC],[.d (.bool)],[],0,[.bool]⟩
def qo0_ (x y:Int×List Int):Option aF :=
 if eqi x.1 y.1=true then zC (q11_ (x.2,y.2,())) fun y=>some (y.1,()) else some (false,())
def qpj_ (x:As [.pr (.int .i64) aC,.pr (.int .i64) aC]):Option aF:=qo0_ x.1 x.2.1
theorem qzr_:CtOk Tryz.prog (fun _=>True) 89 ⟨q11y_,qpj_⟩:=ctn (q0_ q3q_ q1_) 6 fun J x=>by kernel_rfl
@[reducible] def q2f_:Sh:=⟨[.d (.sl YTT8),.d (.sl YTT8),.fn (.func 89) [] []],[],[.sl YTT8,.sl YTT8],[.d (.bool)],[],0,[.bool]⟩
def q3b_:Env:=(cts [(89,(⟨q11y_,qpj_⟩:Ct))])
def q38_:List (Nat×Hint):=[(58,⟨[],[1,2,15,16,17]⟩)]
def q32_ (s2 t15:zK3) (t16 t17:Int):St:=⟨[(1,.d (.sl YTT8) s2),(2,.fn (.func 89) [] []),(15,.d (.sl YTT8) t15),(16,dI t16),(17,dI t17)],32,[],[],0,[],0⟩
@[reducible] def zK5:Type:=List (Int×List Int)->List (Int×List Int)->Int->Int->Option aF
def q24_ (self1:zK5) (s2 t15:zK3) (t16 t17:Int):Option aF :=
 if lt t17 t16=true then zC (at? t15 t17) fun y=>zC (at? s2 t17) fun y_1=>zC (qpj_ (y,y_1,())) fun y=>if (!y.1)=true then some (false,()) else self1 s2 t15 t16 (add .i64 t17 1) else some (true,())
def q31_ (j1:zK5) (s1 s2:zK3):Option aF :=
 if nei (zF (zG s1)) (zF (zG s2))=true then some (false,()) else j1 s2 s1 (zF (zG s1)) 0
def q2a_ (s2 t15:zK3) (t16 t17:Int):Option aF :=
 loopF (fun self s=>q24_ (fun s2 t15 t16 t17=>self (s2,t15,t16,t17)) s.1 s.2.1 s.2.2.1 s.2.2.2) 18446744073709551616 (s2,t15,t16,t17)
def q3z_ (x:As [.sl YTT8,.sl YTT8]):Option aF:=q31_ q2a_ x.1 x.2.1
abbrev pDv:=zp q3b_ q38_ 88 q2f_
theorem qoi_ {J w1 a b c d}:pDv J 58 [w1] (q32_ a b c d)=q24_ (C w1 q32_) a b c d:=by kernel_rfl
abbrev pDu:=zj q3b_ q38_ 88 q2f_
theorem qng_:C (pDu 58 []) q32_=q2a_:=gLC (by decide) (by kernel_rfl) (fun _=>by unfold q2a_; rfl) fun _ _=>qoi_.trans (by kernel_rfl)
theorem qo2_:CtOk Tryz.prog (fun _=>True) 88 ⟨q2f_,q3z_⟩:=zcc (env:=q3b_) (d:=6) (hs:=Ev.get q38_) (q0_ qzr_ q1_) (fun J x=>q31_ (C (J 58 []) q32_) x.1 x.2.1) (fun _ _=>by kernel_rfl) fun _=>by rw [qng_] <;> rfl
@[reducible] def q18a_:Sh:=⟨[.d (.sl YTT8),.d (.sl YTT8)],[],[.sl YTT8,.sl YTT8],[.d (.bool)],[],0,[.bool]⟩
def qz4_ (a b:zK3):Option aF :=
 zC (q3z_ (a,b,())) fun y=>some (y.1,())
def qun_ (x:As [.sl YTT8,.sl YTT8]):Option aF:=qz4_ x.1 x.2.1
theorem q1j9_:CtOk Tryz.prog (fun _=>True) 40 ⟨q18a_,qun_⟩:=ctn (q0_ qo2_ (q0_ qzr_ q1_)) 6 fun J x=>by kernel_rfl
@[reducible] def q156_:Sh:=⟨[.d (.pr (.int .u32) (.pr (.ar 8 .bool) (.ar 8 YTT8))),.d (.pr (.int .u32) (.pr (.ar 8 .bool) (.ar 8 YTT8)))],[],[.pr (.int .u32) (.pr (.ar 8 .bool) (.ar 8 YTT8)),.pr (.int .u32) (.pr (.ar 8 .bool) (.ar 8 YTT8))],[.d (.bool)],[],0,[.bool]⟩
def q1m0_:Env:=(cts [(2000041,Ev.bxCt),(40,(⟨q18a_,qun_⟩:Ct)),(41,(⟨q5t_,q50_⟩:Ct))])
def qvq_ (a b:Int×List Bool×List (Int×List Int)):Option aF :=
 if eqi a.1 b.1=true then if (Sx.eqb (zJ a.2.1 0 false) (zJ b.2.1 0 false) && (Sx.eqb (zJ a.2.1 1 false) (zJ b.2.1 1 false) && (Sx.eqb (zJ a.2.1 2 false) (zJ b.2.1 2 false) && (Sx.eqb (zJ a.2.1 3 false) (zJ b.2.1 3 false) && (Sx.eqb (zJ a.2.1 4 false) (zJ b.2.1 4 false) && (Sx.eqb (zJ a.2.1 5 false) (zJ b.2.1 5 false) && (Sx.eqb (zJ a.2.1 6 false) (zJ b.2.1 6 false) && (Sx.eqb (zJ a.2.1 7 false) (zJ b.2.1 7 false) && true))))))))=true then zC (q50_ (a,())) fun y=>zC (q50_ (b,())) fun y_1=>zC (qun_ (y.1,y_1.1,())) fun y=>some (y.1,()) else some (false,()) else some (false,())
def qwy_ (x:As [.pr (.int .u32) (.pr (.ar 8 .bool) (.ar 8 YTT8)),.pr (.int .u32) (.pr (.ar 8 .bool) (.ar 8 YTT8))]):Option aF:=qvq_ x.1 x.2.1
theorem q1gw_:CtOk Tryz.prog (fun _=>True) 118 ⟨q156_,qwy_⟩:=ctn (env:=q1m0_) (q0_ Ev.bx_ok (q0_ q1j9_ (q0_ qna_ q1_))) 6 fun J x=>by kernel_rfl
@[reducible] def q170_:Sh:=⟨[.d aG,.d aG],[],[.pr aC YTT1,.pr aC YTT1],[.d (.bool)],[],0,[.bool]⟩
def q1ic_:Env:=(cts [(2000043,Ev.bxCt),(90,(⟨q1p_,q11_⟩:Ct)),(118,(⟨q156_,qwy_⟩:Ct))])
def qw2_ (a b:List Int×(Int×Int)×Int×Int×Int×YTT12×Int):Option aF :=
 zC (q11_ (a.1,b.1,())) fun y=>if y.1=true then if (eqi a.2.1.1 b.2.1.1 && (eqi a.2.1.2 b.2.1.2 && true))=true then if eqi a.2.2.1 b.2.2.1=true then if eqi a.2.2.2.1 b.2.2.2.1=true then if eqi a.2.2.2.2.1 b.2.2.2.2.1=true then zC (qwy_ (a.2.2.2.2.2.1,b.2.2.2.2.2.1,())) fun y=>if y.1=true then some (eqi a.2.2.2.2.2.2 b.2.2.2.2.2.2,()) else some (false,()) else some (false,()) else some (false,()) else some (false,()) else some (false,()) else some (false,())
def qx7_ (x:As [.pr aC YTT1,.pr aC YTT1]):Option aF:=qw2_ x.1 x.2.1
theorem q1f6_:CtOk Tryz.prog (fun _=>True) 58 ⟨q170_,qx7_⟩:=ctn (env:=q1ic_) (q0_ Ev.bx_ok (q0_ q3q_ (q0_ q1gw_ q1_))) 6 fun J x=>by kernel_rfl
@[reducible] def q16s_:Sh:=⟨[.d bA,.d bA],[],[.pr (.int .u8) aA,.pr (.int .u8) aA],[.d (.bool)],[],0,[.bool]⟩
def q1l6_:Env:=(cts [(2000045,Ev.bxCt),(58,(⟨q170_,qx7_⟩:Ct)),(59,(⟨q3p_,q3f_⟩:Ct))])
def qvp_ (a b:TaAq1):Option aF :=
 if eqi a.1 b.1=true then if eqi a.2.1 b.2.1=true then zC (qx7_ (a.2.2.1,b.2.2.1,())) fun y=>if y.1=true then zC (q3f_ (a.2.2.2,b.2.2.2,())) fun y=>some (y.1,()) else some (false,()) else some (false,()) else some (false,())
def qo6_ (x:As [.pr (.int .u8) aA,.pr (.int .u8) aA]):Option aF:=qvp_ x.1 x.2.1
theorem q1g7_:CtOk Tryz.prog (fun _=>True) 21 ⟨q16s_,qo6_⟩:=ctn (env:=q1l6_) (q0_ Ev.bx_ok (q0_ q1f6_ (q0_ qmq_ q1_))) 6 fun J x=>by kernel_rfl
def q1me_ (a b:Int×Int×Int×Int×List Int×List Bool):Option aF :=
 if eqi a.1 b.1=true then if eqi a.2.1 b.2.1=true then if eqi a.2.2.1 b.2.2.1=true then if eqi a.2.2.2.1 b.2.2.2.1=true then zC (q11_ (a.2.2.2.2.1,b.2.2.2.2.1,())) fun y=>if y.1=true then zC (q3f_ (a.2.2.2.2.2,b.2.2.2.2.2,())) fun y=>some (y.1,()) else some (false,()) else some (false,()) else some (false,()) else some (false,()) else some (false,())
def q1os_ (x:As [.pr (.int .u8) YTT7,.pr (.int .u8) YTT7]):Option aF:=q1me_ x.1 x.2.1
def q1l9_ (a b:Int×Int×Int×Int×Bool×YTT18×Int×Int×Int):Option aF :=
 if eqi a.1 b.1=true then if eqi a.2.1 b.2.1=true then if eqi a.2.2.1 b.2.2.1=true then if eqi a.2.2.2.1 b.2.2.2.1=true then if Sx.eqb a.2.2.2.2.1 b.2.2.2.2.1=true then if eqi a.2.2.2.2.2.2.1 b.2.2.2.2.2.2.1=true then if eqi a.2.2.2.2.2.2.2.1 b.2.2.2.2.2.2.2.1=true then if eqi a.2.2.2.2.2.2.2.2 b.2.2.2.2.2.2.2.2=true then zC (q1os_ (a.2.2.2.2.2.1,b.2.2.2.2.2.1,())) fun y=>some (y.1,()) else some (false,()) else some (false,()) else some (false,()) else some (false,()) else some (false,()) else some (false,()) else some (false,()) else some (false,())
def q1oq_ (x:As [.pr (.int .u8) YTT0,.pr (.int .u8) YTT0]):Option aF:=q1l9_ x.1 x.2.1
def q1j2_ (a b:TaAq0):Option aF :=
 zC (q1oq_ (a.1,b.1,())) fun y=>if y.1=true then zC (qun_ (a.2.2.2.1,b.2.2.2.1,())) fun y=>if y.1=true then if eqi a.2.1 b.2.1=true then if eqi a.2.2.1 b.2.2.1=true then if eqi a.2.2.2.2.1 b.2.2.2.2.1=true then if eqi a.2.2.2.2.2.1 b.2.2.2.2.2.1=true then if eqi a.2.2.2.2.2.2.1 b.2.2.2.2.2.2.1=true then if eqi a.2.2.2.2.2.2.2.1 b.2.2.2.2.2.2.2.1=true then some (eqi a.2.2.2.2.2.2.2.2 b.2.2.2.2.2.2.2.2,()) else some (false,()) else some (false,()) else some (false,()) else some (false,()) else some (false,()) else some (false,()) else some (false,()) else some (false,())
def q1ot_ (x:As [.pr aD YTT2,.pr aD YTT2]):Option aF:=q1j2_ x.1 x.2.1
@[reducible] def qef_:Sh:=⟨[.d aC,.d aC],[],dX,[.d (.bool)],[],0,[.bool]⟩
def qsk_:Env:=(cts [])
def qtb_:List (Nat×Hint):=[(58,⟨[],[0,1,12,13]⟩)]
def qp8_ (a b:List Int) (t12 t13:Int):St:=⟨[(0,dW a),(1,dW b),(12,dI t12),(13,dI t13)],26,[],[],0,[],0⟩
def qgx_ (self1:List Int->List Int->Int->Int->Option aF) (a b:List Int) (t12 t13:Int):Option aF :=
 if lt t13 t12=true then zC (at? a t13) fun y=>zC (at? b t13) fun y_1=>if nei y y_1=true then some (false,()) else self1 a b t12 (add .i64 t13 1) else some (true,())
def qpf_ (j1:List Int->List Int->Int->Int->Option aF) (a b:List Int):Option aF :=
 if nei (zF (zG a)) (zF (zG b))=true then some (false,()) else j1 a b (zF (zG a)) 0
def qg7_ (a b:List Int) (t12 t13:Int):Option aF :=
 loopF (fun self s=>qgx_ (fun a b t12 t13=>self (a,b,t12,t13)) s.1 s.2.1 s.2.2.1 s.2.2.2) 18446744073709551616 (a,b,t12,t13)
def qgi_ (x:As dX):Option aF:=qpf_ qg7_ x.1 x.2.1
abbrev pBv:=zp qsk_ qtb_ 14 qef_
theorem q1i5_ {J w1 a b c d}:pBv J 58 [w1] (qp8_ a b c d)=qgx_ (C w1 qp8_) a b c d:=by kernel_rfl
abbrev pBu:=zj qsk_ qtb_ 14 qef_
theorem q1hz_:C (pBu 58 []) qp8_=qg7_:=gLC (by decide) (by kernel_rfl) (fun _=>by unfold qg7_; rfl) fun _ _=>q1i5_.trans (by kernel_rfl)
theorem q1m3_:CtOk Tryz.prog (fun _=>True) 14 ⟨qef_,qgi_⟩:=zcc (env:=qsk_) (d:=6) (hs:=Ev.get qtb_) q1_ (fun J x=>qpf_ (C (J 58 []) qp8_) x.1 x.2.1) (fun _ _=>by kernel_rfl) fun _=>by rw [q1hz_] <;> rfl
def q1j3_ (j2:List (Int×List Int)->Option aF) (self1:zK5) (l t5:zK3) (t6 t7:Int):Option aF :=
 if lt t7 t6=true then zC (at? t5 t7) fun y=>if gt (zF (zG y.2)) 100=true then some (false,()) else self1 l t5 t6 (add .i64 t7 1) else j2 l
def q1ir_ (l:zK3):Option aF :=
 some (le (zF (zG l)) 40,())
def q1io_ (j1:zK5) (l:zK3):Option aF :=
 j1 l l (zF (zG l)) 0
def q1iw_:=q1ir_
def q1l7_ (l t5:zK3) (t6 t7:Int):Option aF :=
 loopF (fun self s=>q1j3_ (q1iw_) (fun l t5 t6 t7=>self (l,t5,t6,t7)) s.1 s.2.1 s.2.2.1 s.2.2.2) 18446744073709551616 (l,t5,t6,t7)
def q1ou_ (x:As [.sl YTT8]):Option aF:=q1io_ q1l7_ x.1
end Go.Proofs.Lx
end
noncomputable section
namespace Pl
open Go Ev Sx
set_option maxRecDepth 10000
theorem qr_ {σ R:Type} (F:(σ->Option R)->σ->Option R) (n:Nat) (s:σ):loopF F (n + 1) s=F (loopF F n) s:=rfl
theorem loopF_eq {σ R:Type} {F:(σ->Option R)->σ->Option R} {Inv:σ->Prop} {μ:σ->Nat} {G:σ->Option R}
  (step:∀ self s,Inv s->(∀ s',Inv s'->μ s' < μ s->self s'=G s')->F self s=G s):∀ (n:Nat) (s:σ),Inv s->μ s < n->loopF F n s=G s
 | 0,s,_,h=>by omega
 | n + 1,s,hs,h=>by
  rw [qr_]
  exact step _ s hs fun s' hs' hlt=>loopF_eq step n s' hs' (by omega)
theorem w64 {x:Int} (h1:-9223372036854775808≤x) (h2:x≤9223372036854775807):IntKind.i64.wrap x=x:=by
 simp only [IntKind.wrap,IntKind.signed,IntKind.bits]
 simp
 omega
theorem wu8 {x:Int} (h1:0≤x) (h2:x≤255):IntKind.u8.wrap x=x:=by
 simp only [IntKind.wrap,IntKind.signed,IntKind.bits]
 simp
 omega
theorem wu16 {x:Int} (h1:0≤x) (h2:x≤65535):IntKind.u16.wrap x=x:=by
 simp only [IntKind.wrap,IntKind.signed,IntKind.bits]
 simp
 omega
theorem wu32 {x:Int} (h1:0≤x) (h2:x≤4294967295):IntKind.u32.wrap x=x:=by
 simp only [IntKind.wrap,IntKind.signed,IntKind.bits]
 simp
 omega
theorem add64 {a b:Int} (h1:-9223372036854775808≤a + b) (h2:a + b≤9223372036854775807):add .i64 a b=a + b:=w64 h1 h2
theorem sub64 {a b:Int} (h1:-9223372036854775808≤a - b) (h2:a - b≤9223372036854775807):sub .i64 a b=a - b:=w64 h1 h2
theorem mul64 {a b:Int} (h1:-9223372036854775808≤a * b) (h2:a * b≤9223372036854775807):mul .i64 a b=a * b:=w64 h1 h2
theorem cvt64 {a:Int} (h1:-9223372036854775808≤a) (h2:a≤9223372036854775807):cvt .i64 a=a:=w64 h1 h2
theorem qv_ {n:Nat} (h:n < 4611686018427387904):add .i64 (n:Int) 1=((n + 1:Nat):Int):=by rw [add64 (by omega) (by omega)]; rfl
theorem addn64 {n m:Nat} (h:n + m < 4611686018427387904):add .i64 (n:Int) (m:Int)=((n + m:Nat):Int):=by rw [add64 (by omega) (by omega)]; rfl
theorem q2_ (n:Nat):zF n=(n:Int):=rfl
theorem q5_ {a b:Int}:lt a b=true ↔ a < b:=by simp [lt]
theorem qo_ {a b:Int}:le a b=true ↔ a≤b:=by simp [le]
theorem q21_ {a b:Int}:gt a b=true ↔ b < a:=by simp [gt]
theorem qs_ {a b:Int}:ge a b=true ↔ b≤a:=by simp [ge]
theorem q4_ {a b:Int}:eqi a b=true ↔ a=b:=by simp [eqi]
theorem qd_ {a b:Int}:nei a b=true ↔ a ≠ b:=by simp [nei]
theorem eqs_iff {a b:List UInt8}:eqs a b=true ↔ a=b:=by simp [eqs]
theorem small_iff {n:Nat}:small n=true ↔ n≤1073741824:=by simp [small]
theorem lt_dec (a b:Int):lt a b=decide (a < b):=rfl
theorem le_dec (a b:Int):le a b=decide (a≤b):=rfl
theorem gt_dec (a b:Int):gt a b=decide (b < a):=rfl
theorem ge_dec (a b:Int):ge a b=decide (b≤a):=rfl
theorem q9_ {b:Bool} {β:Type} {k:Option β} (h:b=true):need b k=k:=by unfold need; rw [if_pos h]
theorem qe_ {n:Nat} {β:Type} {k:Option β} (h:n≤1073741824):need (small n) k=k:=q9_ (small_iff.2 h)
theorem qf_ {α:Type} {s:List α} {i:Nat} {c:α} (h:s[i]? = some c):at? s (i:Int)=some c:=by
 unfold at?
 simp [h]
theorem q12_ {α:Type} (c:α) (q:List α):at? (c::q) 0=some c:=rfl
theorem drop_nil {α:Type} {s:List α} {i:Nat} (h:s.drop i=[]):s.length≤i:=by
 have:=congrArg zG h
 simp at this
 omega
theorem cut_nat {α:Type} {xs:List α} {i j:Nat} (h1:i≤j) (h2:j≤xs.length):cut xs (i:Int) (j:Int)=some ((xs.take j).drop i):=by
 unfold cut
 rw [if_pos ⟨by omega,by omega,by omega⟩]
 simp
theorem cut_from {α:Type} {xs:List α} {i:Nat} (h:i≤xs.length):cut xs (i:Int) (zF xs.length)=some (xs.drop i):=by
 rw [q2_,cut_nat h (Nat.le_refl _)]
 simp
theorem cut_to {α:Type} {xs:List α} {j:Nat} (h:j≤xs.length):cut xs 0 (j:Int)=some (xs.take j):=by
 have:=cut_nat (xs:=xs) (Nat.zero_le j) h
 simpa using this
theorem cut_one {α:Type} (c:α) (q:List α):cut (c::q) 1 (zF (c::q).length)=some q:=by
 have:=cut_from (xs:=c::q) (i:=1) (by simp)
 simpa using this
theorem eqV_refl:∀ (t:Ty) (x:Vl t),eqV t x x=true:=by
 have hl:∀ {α:Type} {f:α->α->Bool},(∀ a,f a a=true)->∀ x:List α,eqL f x x=true:=fun h x=>by
  induction x with
  | nil=>rfl
  | cons a q ih=>simp [eqL,h,ih]
 intro t
 induction t with
 | int k=>intro x; simp [eqV,eqi]
 | bool=>intro x; simp [eqV,eqb]
 | str=>intro x; simp [eqV,eqs]
 | sl t ih=>intro x; exact hl ih x
 | pr a b iha ihb=>intro x; simp [eqV,iha,ihb]
 | wr a ih=>intro x; exact ih x
 | un=>intro x; rfl
 | ar n t ih=>intro x; exact hl ih x
 | mp k v ihk ihv=>intro x; exact hl (fun a=>by rw [ihk,ihv]; rfl) x
theorem eqAs_refl:∀ (rs:List Ty) (x:As rs),eqAs rs x x=true
 | [],_=>rfl
 | t::r,x=>by simp [eqAs,eqV_refl,eqAs_refl r]
theorem amb2 {R:Type} {eq:R->R->Bool} (h:∀ x,eq x x=true) (a:Option R):amb eq [a,a]=a:=by
 cases a <;> simp [amb,ambC,h]
theorem amb3 {R:Type} {eq:R->R->Bool} (h:∀ x,eq x x=true) (a:Option R):amb eq [a,a,a]=a:=by
 cases a <;> simp [amb,ambC,h]
end Pl
end
noncomputable section
namespace Pl
open Go Ev Sx
theorem loop_idx {σ R α β:Type} {F:(σ->Option R)->σ->Option R} {mk:Nat->β->σ} {xs:List α} {stp:β->α->β} {fin:β->Option R} (Inv:Nat->β->Prop)
  (hs:∀ self i acc x,xs[i]? = some x->Inv i acc->F self (mk i acc)=self (mk (i + 1) (stp acc x)))
  (hi:∀ i acc x,xs[i]? = some x->Inv i acc->Inv (i + 1) (stp acc x))
  (he:∀ self acc,Inv xs.length acc->F self (mk xs.length acc)=fin acc) :
  ∀ (k i:Nat) (acc:β) (n:Nat),i + k=xs.length->k < n->Inv i acc->loopF F n (mk i acc)=fin ((xs.drop i).foldl stp acc)
 | _,_,_,0,_,hn,_=>by omega
 | 0,i,acc,n + 1,h,_,hI=>by
  have:i=xs.length:=by omega
  subst this
  rw [qr_,he _ _ hI,List.drop_length]
  rfl
 | k + 1,i,acc,n + 1,h,hn,hI=>by
  have hx:xs[i]? = some (xs[i]'(by omega)):=zV (by omega)
  rw [qr_,hs _ _ _ _ hx hI,loop_idx Inv hs hi he k (i + 1) _ n (by omega) (by omega) (hi _ _ _ hx hI),List.drop_eq_getElem_cons (show i < xs.length by omega)]
  rfl
def goL {α β R:Type} (body:β->α->(β->Option R)->Option R) (fin:β->Option R):List α->β->Option R
 | [],acc=>fin acc
 | x::r,acc=>body acc x (goL body fin r)
theorem loop_go {σ R α β:Type} {F:(σ->Option R)->σ->Option R} {mk:Nat->β->σ} {xs:List α} {body:β->α->(β->Option R)->Option R} {fin:β->Option R}
  (hs:∀ self i acc x,xs[i]? = some x->F self (mk i acc)=body acc x fun a=>self (mk (i + 1) a))
  (he:∀ self acc,F self (mk xs.length acc)=fin acc) :
  ∀ (k i:Nat) (acc:β) (n:Nat),i + k=xs.length->k < n->loopF F n (mk i acc)=goL body fin (xs.drop i) acc
 | _,_,_,0,_,hn=>by omega
 | 0,i,acc,n + 1,h,_=>by
  have:i=xs.length:=by omega
  subst this
  rw [qr_,he,List.drop_length]
  rfl
 | k + 1,i,acc,n + 1,h,hn=>by
  have hx:xs[i]? = some (xs[i]'(by omega)):=zV (by omega)
  rw [qr_,hs _ _ _ _ hx,List.drop_eq_getElem_cons (show i < xs.length by omega)]
  show _=body acc _ (goL body fin (xs.drop (i + 1)))
  congr 1
  funext a
  exact loop_go hs he k (i + 1) a n (by omega) (by omega)
theorem foldl_app {α β:Type} (f:α->List β):∀ (xs:List α) (out:List β),xs.foldl (fun o x=>o++f x) out=out++xs.flatMap f
 | [],out=>by simp
 | x::r,out=>by simp [foldl_app f r]
theorem wr8 (x:Int):IntKind.u8.wrap x=x % 256:=by
 simp only [IntKind.wrap,IntKind.signed,IntKind.bits]
 simp
theorem wr16 (x:Int):IntKind.u16.wrap x=x % 65536:=by
 simp only [IntKind.wrap,IntKind.signed,IntKind.bits]
 simp
theorem cvt8 (x:Int):cvt .u8 x=x % 256:=wr8 x
theorem cvt16 (x:Int):cvt .u16 x=x % 65536:=wr16 x
theorem shr8 (k:IntKind) (x:Int) (hk:8≤k.bits):shr k x 8=x / 256:=by
 unfold shr
 have:min (8:Int).toNat k.bits=8:=by
  have:(8:Int).toNat=8:=rfl
  omega
 rw [this,Int.fdiv_eq_ediv_of_nonneg _ (by decide)]
 rfl
theorem u16_rng (x:Int):0≤IntKind.u16.wrap x∧IntKind.u16.wrap x < 65536:=by rw [wr16]; omega
theorem band15 (x:Int):0≤band .u16 x 15∧band .u16 x 15 < 16:=by
 have h:(BitVec.ofInt IntKind.u16.bits x &&& BitVec.ofInt IntKind.u16.bits 15).toNat≤15:=by
  rw [BitVec.toNat_and]
  exact Nat.le_trans Nat.and_le_right (by decide)
 unfold band
 rw [wr16]
 omega
end Pl
end
noncomputable section
namespace Pl
open Go Ev Sx
theorem loop_dt {σ R:Type} {F:(σ->Option R)->σ->Option R} {mk:Nat->σ} {N:Nat} {r:Option R} (hs:∀ self i,i < N->F self (mk i)=self (mk (i + 1))) (he:∀ self,F self (mk N)=r) :
  ∀ (k i n:Nat),i + k=N->k < n->loopF F n (mk i)=r
 | _,_,0,_,h=>by omega
 | 0,i,n + 1,h,_=>by
  have:i=N:=by omega
  subst this
  rw [qr_,he]
 | k + 1,i,n + 1,h,hn=>by rw [qr_,hs _ _ (by omega),loop_dt hs he k (i + 1) n (by omega) (by omega)]
theorem set_at {α:Type} (p:List α) (x y:α) (q:List α):(p++x::q).set p.length y=p++y::q:=by
 rw [List.set_append_right _ _ (Nat.le_refl _),Nat.sub_self]
 rfl
end Pl
end
noncomputable section
namespace Go.Proofs.Lx
open Go Ev Sx Pl
set_option maxRecDepth 100000
def crcT:List Int:=[0,52225,55297,5120,61441,15360,10240,58369,40961,27648,30720,46081,20480,39937,34817,17408]
theorem table_eq:qus_ ()=some (crcT,()):=by kernel_rfl
def tab (i:Int):Int:=crcT.getD i.toNat 0
theorem tab_at {i:Int} (h0:0≤i) (h1:i < 16):at? crcT i=some (tab i):=by
 obtain ⟨n,rfl⟩:=zN h0
 have:n < crcT.length:=by show n < 16; omega
 have e:crcT[n]? = some (crcT[n]'this):=zV this
 rw [qf_ e]
 unfold tab
 rw [zQ,zX,e]
 rfl
def nib (s:Int):Int:=bxor .u16 (shr .u16 s 4) (tab (band .u16 s 15))
def stepV (s c:Int):Int:=nib (nib (bxor .u16 s (cvt .u16 c)))
theorem stepV_rng (s c:Int):0≤stepV s c∧stepV s c < 65536:=u16_rng _
theorem step_eq (s c:Int):q13i_ (s,c,crcT,())=some (stepV s c,crcT,()):=by
 show q110_ s c crcT=_
 unfold q110_
 have h1:=band15 (bxor .u16 s (cvt .u16 c))
 rw [q9_ (q5_.2 h1.2),tab_at h1.1 h1.2,zD,zD]
 have h2:=band15 (bxor .u16 (shr .u16 (bxor .u16 s (cvt .u16 c)) 4) (tab (band .u16 (bxor .u16 s (cvt .u16 c)) 15)))
 rw [q9_ (q5_.2 h2.2),tab_at h2.1 h2.2,zD,zD]
 rfl
def sumV (b:List Int):Int:=b.foldl stepV 65535
theorem sumV_rng (b:List Int):0≤sumV b∧sumV b < 65536:=by
 unfold sumV
 have:∀ (b:List Int) (s:Int),(0≤s∧s < 65536)->0≤b.foldl stepV s∧b.foldl stepV s < 65536:=by
  intro b
  induction b with
  | nil=>exact fun s h=>h
  | cons c r ih=>exact fun s _=>ih _ (stepV_rng s c)
 exact this b _ (by decide)
theorem sum_eq {b:List Int} (h:b.length < 4611686018427387904):q11i_ (b,())=some (sumV b,()):=by
 show qwx_ qpz_ b=_
 unfold qwx_
 rw [table_eq,zD]
 rw [q9_ (by rfl),q9_ (by rfl)]
 unfold qpz_
 refine (loop_idx (xs:=b) (mk:=fun i acc=>(b,acc,zF b.length,(i:Int),crcT)) (stp:=stepV) (fin:=fun acc=>some (acc,())) (fun _ _=>True) ?_ (fun _ _ _ _ _=>trivial) ?_ b.length 0 65535 _ (by omega) (by omega) trivial).trans ?_
 ·intro self i acc x hx _
  have hi:=(List.getElem?_eq_some_iff.1 hx).1
  show qii_ _ b acc (zF b.length) (i:Int) crcT=_
  unfold qii_
  rw [if_pos (by rw [q5_,q2_]; omega),qf_ hx,zD,step_eq,zD,qv_ (by omega)]
 ·intro self acc _
  show qii_ _ b acc (zF b.length) (b.length:Int) crcT=_
  unfold qii_
  rw [if_neg (by rw [q5_,q2_]; omega)]
 ·rfl
theorem capOk_0 {n:Int} (h:0≤n):capOk 0 n=true:=by
 unfold capOk
 split
 ·rfl
 ·exact decide_eq_true h
theorem capOk_self (n:Int):capOk n n=true:=by
 unfold capOk
 rw [if_pos rfl]
def two (x:Int):List Int:=[x / 256 % 256,x % 256]
def putV (b:List Int):List Int:=b++[sumV b % 256,sumV b / 256]
theorem put_eq {b:List Int} (h:b.length < 1000000):qmk_ (b,())=some (putV b,()):=by
 show q137_ b=_
 unfold q137_
 have hs:=sumV_rng b
 have e:add .i64 (zF b.length) 2=((b.length + 2:Nat):Int):=by rw [q2_]; exact addn64 (m:=2) (by omega)
 rw [sum_eq (by omega),zD,e,q9_ (capOk_0 (by omega)),q9_ (by rw [small_iff]; omega),qe_ (by omega),qe_ (by simp; omega),cvt8,cvt8,shr8 _ _ (by decide)]
 have e2:sumV b / 256 % 256=sumV b / 256:=by omega
 rw [e2]
 rfl
abbrev TA:=Int×Int×Int×Int×List Int×List Bool
structure OkA (a:TA):Prop where
 f0:0≤a.1
 f1:a.1≤255
 at0:0≤a.2.1
 at1:a.2.1≤65535
 m0:0≤a.2.2.1
 m1:a.2.2.1≤65535
 t0:0≤a.2.2.2.1
 t1:a.2.2.2.1≤65535
 w:∀ x ∈ a.2.2.2.2.1,0≤x∧x≤65535
 lw:a.2.2.2.2.1.length≤100000
 lb:a.2.2.2.2.2.length≤100000
def shp (f:Int):Option (Int×Int×Int×Bool×Bool) :=
 if eqi 1 f=true then some (2000,0,0,false,false) else if eqi 2 f=true then some (2000,0,0,false,false) else if eqi 3 f=true then some (125,0,0,false,false) else
 if eqi 4 f=true then some (125,0,0,false,false) else if eqi 5 f=true then some (0,1,0,false,false) else if eqi 6 f=true then some (0,0,1,false,false) else
 if eqi 15 f=true then some (1968,1968,0,false,true) else if eqi 16 f=true then some (123,0,123,false,true) else if eqi 23 f=true then some (125,0,121,true,false) else none
def shpD (f:Int):Int×Int×Int×Bool×Bool:=(shp f).getD (0,0,0,false,false)
theorem shape_eq (f:Int):q9w_ (f,())=some (shpD f,(shp f).isSome,()):=rfl
theorem shp_cases (f:Int):((f=1∨f=2)∧shp f=some (2000,0,0,false,false))∨((f=3∨f=4)∧shp f=some (125,0,0,false,false))∨(f=5∧shp f=some (0,1,0,false,false)) ∨
  (f=6∧shp f=some (0,0,1,false,false))∨(f=15∧shp f=some (1968,1968,0,false,true))∨(f=16∧shp f=some (123,0,123,false,true))∨(f=23∧shp f=some (125,0,121,true,false)) ∨
  ((f ≠ 1∧f ≠ 2∧f ≠ 3∧f ≠ 4∧f ≠ 5∧f ≠ 6∧f ≠ 15∧f ≠ 16∧f ≠ 23)∧shp f=none):=by
 by_cases h1:f=1
 ·subst h1; exact .inl ⟨.inl rfl,rfl⟩
 by_cases h2:f=2
 ·subst h2; exact .inl ⟨.inr rfl,rfl⟩
 by_cases h3:f=3
 ·subst h3; exact .inr (.inl ⟨.inl rfl,rfl⟩)
 by_cases h4:f=4
 ·subst h4; exact .inr (.inl ⟨.inr rfl,rfl⟩)
 by_cases h5:f=5
 ·subst h5; exact .inr (.inr (.inl ⟨rfl,rfl⟩))
 by_cases h6:f=6
 ·subst h6; exact .inr (.inr (.inr (.inl ⟨rfl,rfl⟩)))
 by_cases h7:f=15
 ·subst h7; exact .inr (.inr (.inr (.inr (.inl ⟨rfl,rfl⟩))))
 by_cases h8:f=16
 ·subst h8; exact .inr (.inr (.inr (.inr (.inr (.inl ⟨rfl,rfl⟩)))))
 by_cases h9:f=23
 ·subst h9; exact .inr (.inr (.inr (.inr (.inr (.inr (.inl ⟨rfl,rfl⟩))))))
 refine .inr (.inr (.inr (.inr (.inr (.inr (.inr ⟨⟨h1,h2,h3,h4,h5,h6,h7,h8,h9⟩,?_⟩))))))
 have e:∀ n:Int,f ≠ n->¬ eqi n f=true:=fun n hn h=>hn (q4_.1 h).symm
 unfold shp
 rw [if_neg (e _ h1),if_neg (e _ h2),if_neg (e _ h3),if_neg (e _ h4),if_neg (e _ h5),if_neg (e _ h6),if_neg (e _ h7),if_neg (e _ h8),if_neg (e _ h9)]
def withinV (n most:Int):Bool:=if eqi most 0=true then eqi n 0 else if ge n 1=true then le n most else false
theorem within_eq (n most:Int):qhc_ (n,most,())=some (withinV n most,()):=by
 show qv3_ n most=_
 unfold qv3_ withinV
 split
 ·rfl
 ·split <;> rfl
def rightS (a:TA) (s:Int×Int×Int×Bool×Bool):Bool:=(s.2.2.2.1 || eqi a.2.2.2.1 0) && (withinV a.2.2.1 s.1 && (withinV (zF a.2.2.2.2.2.length) s.2.1 && (withinV (zF a.2.2.2.2.1.length) s.2.2.1 &&
 (!s.2.2.2.2 || eqi (zF a.2.2.2.2.2.length + zF a.2.2.2.2.1.length) a.2.2.1))))
def qm_ (a:TA):Bool:=match shp a.1 with
 | none=>false
 | some s=>rightS a s
theorem right_K2 (t:Bool) (a1 a2 a3 a4:Int) (a5:List Int) (a6:List Bool) (s1 s2 s3:Int) (s4 s5:Bool) :
  qo4_ t a1 a2 a3 a4 a5 a6 s1 s2 s3 s4 s5=some (!t && (!s5 || eqi (add .i64 (zF a6.length) (zF a5.length)) (cvt .i64 a3)),()):=by
 unfold qo4_ qyg_
 cases t <;> cases s5 <;> rfl
theorem right_K1 (t:Bool) (a1 a2 a3 a4:Int) (a5:List Int) (a6:List Bool) (s1 s2 s3:Int) (s4 s5:Bool) :
  qga_ t a1 a2 a3 a4 a5 a6 s1 s2 s3 s4 s5=some (!t && (withinV (cvt .i64 a3) s1 && (withinV (zF a6.length) s2 && (withinV (zF a5.length) s3 && (!s5 || eqi (add .i64 (zF a6.length) (zF a5.length)) (cvt .i64 a3))))),()):=by
 unfold qga_ qxk_
 rw [within_eq,within_eq,within_eq]
 simp only [zD,right_K2]
 cases t <;> cases withinV (cvt .i64 a3) s1 <;> cases withinV (zF a6.length) s2 <;> cases withinV (zF a5.length) s3 <;> rfl
theorem right_eq {a:TA} (h:OkA a):q5i_ (a,())=some (qm_ a,()):=by
 show qoq_ qga_ a=_
 unfold qoq_
 have h1:=h.m0
 have h2:=h.m1
 have h3:=h.lw
 have h4:=h.lb
 rw [shape_eq,zD]
 simp only [right_K1]
 rw [cvt64 (by omega) (by omega),add64 (by rw [q2_,q2_]; omega) (by rw [q2_,q2_]; omega)]
 unfold qm_ shpD
 cases shp a.1 with
 | none=>rfl
 | some s =>
  obtain ⟨s1,s2,s3,s4,s5⟩:=s
  unfold rightS
  have e:nei a.2.2.2.1 0=!eqi a.2.2.2.1 0:=rfl
  rw [e]
  cases s4 <;> cases eqi a.2.2.2.1 0 <;> rfl
theorem two_eq {y:Int}:([cvt .u8 (shr .u16 y 8),cvt .u8 y]:List Int)=two y:=by
 rw [cvt8,cvt8,shr8 _ _ (by decide)]
 rfl
theorem numbers_eq {l out:List Int} (h:out.length + 2 * l.length≤1000000):q1d_ (l,out,())=some (out++l.flatMap two,()):=by
 show qik_ qc7_ l out=_
 unfold qik_ qc7_
 refine (loop_idx (xs:=l) (mk:=fun i acc=>(l,zF l.length,(i:Int),acc)) (stp:=fun o y=>o++two y) (fin:=fun acc=>some (acc,())) (fun i acc=>acc.length≤out.length + 2 * i) ?_ ?_ ?_ l.length 0 out _ (by omega) (by omega) (by omega)).trans ?_
 ·intro self i acc x hx hI
  have hi:=(List.getElem?_eq_some_iff.1 hx).1
  show q7y_ _ l (zF l.length) (i:Int) acc=_
  unfold q7y_
  rw [if_pos (by rw [q5_,q2_]; omega),qf_ hx,zD,qe_ (by omega),two_eq,qv_ (by omega)]
 ·intro i acc x hx hI
  simp [two]
  omega
 ·intro self acc _
  show q7y_ _ l (zF l.length) (l.length:Int) acc=_
  unfold q7y_
  rw [if_neg (by rw [q5_,q2_]; omega)]
 ·rw [List.drop_zero,foldl_app]
end Go.Proofs.Lx
end
noncomputable section
namespace Pl
open Go Ev Sx
theorem loop_det {σ R:Type} {F:(σ->Option R)->σ->Option R} {mk:Nat->σ} {N:Nat} {r:Option R} (hs:∀ self i,i < N->F self (mk i)=self (mk (i + 1))) (he:∀ self,F self (mk N)=r) :
  ∀ (k i n:Nat),i + k=N->k < n->loopF F n (mk i)=r
 | _,_,0,_,h=>by omega
 | 0,i,n + 1,h,_=>by
  simp_all [qr_]
 | k + 1,i,n + 1,h,hn=>by rw [qr_,hs _ _ (by omega),loop_det hs he k (i + 1) n (by omega) (by omega)]
theorem quo_nat {i d:Nat} (hi:i < 4611686018427387904):quo .i64 (i:Int) (d:Int)=((i / d:Nat):Int):=by
 unfold quo
 have h:=Nat.div_le_self i d
 grind [Int,Nat,Int.ofNat_tdiv,w64]
theorem rem_nat {i d:Nat}:rem (i:Int) (d:Int)=((i % d:Nat):Int):=by
 rfl
theorem fill_step {α:Type} {f:Nat->α} {init:List α} {i:Nat} (hi:i < init.length):((List.range i).map f++init.drop i).set i (f i)=(List.range (i + 1)).map f++init.drop (i + 1):=by
 rw [List.drop_eq_getElem_cons hi,List.set_append_right _ _ (by simp)]
 simp only [List.length_map,List.length_range,Nat.sub_self,List.set_cons_zero,List.range_succ,List.map_append,List.map_cons,List.map_nil,List.append_assoc,List.singleton_append]
end Pl
namespace Go.Proofs.Lx
open Go Ev Sx Pl
set_option maxRecDepth 100000
def byteV:List Bool->Int
 | []=>0
 | b::r=>(if b=true then 1 else 0) + 2 * byteV r
theorem byteV_rng:∀ t:List Bool,0≤byteV t∧byteV t < 2 ^ t.length
 | []=>by simp [byteV]
 | b::r=>by
  have:=byteV_rng r
  grind [List.length_cons,Int.pow_succ,byteV]
theorem byteV_snoc (b:Bool):∀ t:List Bool,byteV (t++[b])=byteV t + (if b=true then 2 ^ t.length else 0)
 | []=>by cases b <;> rfl
 | a::r=>by
  rw [List.cons_append]
  unfold byteV
  rw [byteV_snoc b r,List.length_cons,Int.pow_succ]
  cases b <;> simp <;> omega
theorem byteV_bit:∀ (t:List Bool) (k:Nat),byteV t / 2 ^ k % 2=(if t.getD k false=true then 1 else 0)
 | [],k=>by simp [byteV]
 | b::r,0=>by
  unfold byteV
  cases b <;> simp <;> omega
 | b::r,k + 1=>by
  have:=byteV_bit r k
  rw [List.getD_cons_succ,<- this]
  have e:((if b=true then (1:Int) else 0) + 2 * byteV r) / 2 ^ (k + 1)=byteV r / 2 ^ k:=by
   rw [Int.pow_succ,Int.mul_comm (2 ^ k) 2,<- Int.ediv_ediv_of_nonneg (by decide)]
   congr 1
   split <;> omega
  show ((if b=true then (1:Int) else 0) + 2 * byteV r) / 2 ^ (k + 1) % 2=_
  rw [e]
def packN (n:Nat):Nat:=(n + 7) / 8
def packP (bits:List Bool) (i:Nat):List Int:=(List.range (packN bits.length)).map fun j=>byteV (((bits.take i).drop (8 * j)).take 8)
def packS (bits:List Bool):List Int:=(List.range (packN bits.length)).map fun j=>byteV ((bits.drop (8 * j)).take 8)
theorem q40_ (bits:List Bool):(packS bits).length=packN bits.length:=by simp [packS]
theorem packP_all (bits:List Bool):packP bits bits.length=packS bits:=by unfold packP packS; simp
theorem packP_zero (bits:List Bool):packP bits 0=zE (packN bits.length) 0:=by
 simp_all [packP,List.take_zero,List.drop_nil,List.take_nil,byteV,List.map_const']
theorem chunk_next {bits:List Bool} {i j:Nat} {y:Bool} (hy:bits[i]? = some y):((bits.take (i + 1)).drop (8 * j)).take 8=((bits.take i).drop (8 * j)).take 8++(if j=i / 8 then [y] else []):=by
 have hi:=(List.getElem?_eq_some_iff.1 hy).1
 have e:bits.take (i + 1)=bits.take i++[y]:=by grind [List.take_add_one]
 have hl:(bits.take i).length=i:=by grind
 by_cases h:j=i / 8
 ·rw [if_pos h,e,List.drop_append_of_le_length (by omega)]
  grind [zZ,List.length_drop,List.length_singleton,List.take_of_length_le]
 ·rw [if_neg h,List.append_nil]
  grind [List.drop_of_length_le]
theorem packP_next {bits:List Bool} {i:Nat} {y:Bool} (hy:bits[i]? = some y) :
  ∃ v,(packP bits i)[i / 8]? = some v∧0≤v∧v < 2 ^ (i % 8)∧packP bits (i + 1)=(if y=true then (packP bits i).set (i / 8) (v + 2 ^ (i % 8)) else packP bits i):=by
 have hi:=(List.getElem?_eq_some_iff.1 hy).1
 have hm:i / 8 < packN bits.length:=by grind [packN]
 have hlen:((((bits.take i).drop (8 * (i / 8))).take 8)).length=i % 8:=by grind
 refine ⟨byteV (((bits.take i).drop (8 * (i / 8))).take 8),?_,(byteV_rng _).1,?_,?_⟩
 ·simp_all [packP,List.getElem?_map,List.getElem?_range]
 ·have:=(byteV_rng (((bits.take i).drop (8 * (i / 8))).take 8)).2
  simp_all
 ·apply List.ext_getElem?
  intro j
  have hj:∀ q,(packP bits q)[j]? = if j < packN bits.length then some (byteV (((bits.take q).drop (8 * j)).take 8)) else none:=by
   grind [packP,List.getElem?_range,List.getElem?_eq_none]
  rw [hj]
  by_cases hjm:j < packN bits.length
  ·rw [if_pos hjm,chunk_next hy]
   by_cases hji:j=i / 8
   ·rw [if_pos hji,byteV_snoc]
    grind
   grind
  grind
theorem bor_bit {v:Int} {k:Nat} (h0:0≤v) (h1:v < 2 ^ k) (hk:k < 8):bor .u8 v (shl .u8 1 (k:Int))=v + 2 ^ k:=by
 have key:∀ (k:Fin 8) (v:Fin 128),v.1 < 2 ^ k.1->bor .u8 (v.1:Int) (shl .u8 1 (k.1:Int))=(v.1:Int) + 2 ^ k.1:=by decide +kernel
 obtain ⟨n,rfl⟩:=zN h0
 have h2:n < 2 ^ k:=by grind
 have h3:2 ^ k≤2 ^ 7:=Nat.pow_le_pow_right (by decide) (by omega)
 exact key ⟨k,hk⟩ ⟨n,by omega⟩ h2
theorem pack_eq {bits:List Bool} (h:bits.length≤100000):qm3_ (bits,())=some (packS bits,()):=by
 show qst_ qj7_ bits=_
 have hK:qj7_ bits (packN bits.length:Int)=some (packS bits,()):=by
  unfold qj7_ q111_
  have hN:packN bits.length≤100000:=by unfold packN; omega
  rw [q9_ (by rw [qs_]; omega),q9_ (capOk_self _),zQ,qe_ (by omega)]
  unfold qsl_
  rw [<- packP_zero,<- packP_all]
  refine loop_det (mk:=fun i=>(bits,zF bits.length,(i:Int),packP bits i)) (N:=bits.length) ?_ ?_ bits.length 0 _ (by omega) (by omega)
  ·intro self i hi
   have hy:bits[i]? = some (bits[i]'hi):=zV hi
   obtain ⟨v,hv,h0,h1,e⟩:=packP_next hy
   show qep_ _ bits (zF bits.length) (i:Int) (packP bits i)=_
   unfold qep_
   have hq:quo .i64 (i:Int) 8=((i / 8:Nat):Int):=quo_nat (d:=8) (by omega)
   have hr:rem (i:Int) 8=((i % 8:Nat):Int):=rem_nat (d:=8)
   rw [if_pos (by rw [q5_,q2_]; omega),qf_ hy,zD,hq,hr,qf_ hv,qv_ (by omega)]
   simp only [zD]
   rw [q9_ (by rw [qs_]; omega),bor_bit h0 h1 (Nat.mod_lt _ (by decide)),zQ,e]
   split <;> rfl
  ·intro self
   show qep_ _ bits (zF bits.length) (bits.length:Int) (packP bits bits.length)=_
   unfold qep_
   rw [if_neg (by rw [q5_,q2_]; omega)]
 unfold qst_
 have hq:quo .i64 (zF bits.length) 8=((bits.length / 8:Nat):Int):=quo_nat (d:=8) (by omega)
 rw [hq]
 split
 ·rename_i h1
  rw [q21_,q2_,show rem (bits.length:Int) 8=((bits.length % 8:Nat):Int) from rem_nat (d:=8)] at h1
  rw [qv_ (by omega)]
  have:bits.length / 8 + 1=packN bits.length:=by unfold packN; omega
  rw [this]
  exact hK
 ·rename_i h1
  rw [q21_,q2_,show rem (bits.length:Int) 8=((bits.length % 8:Nat):Int) from rem_nat (d:=8)] at h1
  have:bits.length / 8=packN bits.length:=by unfold packN; omega
  rw [this]
  exact hK
def bitV (y:Int) (k:Nat):Bool:=eqi (band .u8 (shr .u8 y (k:Int)) 1) 1
theorem bitV_eq {y:Int} {k:Nat} (h0:0≤y) (h1:y < 256) (hk:k < 8):bitV y k=decide (y / 2 ^ k % 2=1):=by
 have key:∀ (k:Fin 8) (v:Fin 256),bitV (v.1:Int) k.1=decide ((v.1:Int) / 2 ^ k.1 % 2=1):=by decide +kernel
 obtain ⟨n,rfl⟩:=zN h0
 exact key ⟨k,hk⟩ ⟨n,by omega⟩
def unpackS (b:List Int):List Bool:=(List.range (8 * b.length)).map fun i=>bitV (b.getD (i / 8) 0) (i % 8)
theorem unpack_eq {b:List Int} (h:b.length≤100000):qdu_ (b,())=some (unpackS b,()):=by
 show qka_ qe1_ b=_
 unfold qka_
 have hm:mul .i64 8 (zF b.length)=((8 * b.length:Nat):Int):=by
  grind [mul64,q2_]
 rw [hm,q9_ (by rfl),q9_ (capOk_self _),zQ,qe_ (by omega),kD]
 unfold qe1_ unpackS
 refine (loop_det (mk:=fun i=>(b,zF (8 * b.length),(i:Int),(List.range i).map (fun i=>bitV (b.getD (i / 8) 0) (i % 8))++(zE (8 * b.length) false).drop i)) (N:=8 * b.length) ?_ ?_ (8 * b.length) 0 _ (by omega) (by omega))
 ·intro self i hi
  show qed_ _ b (zF (8 * b.length)) (i:Int) _=_
  unfold qed_
  have hq:quo .i64 (i:Int) 8=((i / 8:Nat):Int):=quo_nat (d:=8) (by omega)
  have hr:rem (i:Int) 8=((i % 8:Nat):Int):=rem_nat (d:=8)
  have hlt:i / 8 < b.length:=by omega
  have hb:b[i / 8]? = some (b[i / 8]'hlt):=zV hlt
  have hlen:((List.range i).map (fun i=>bitV (b.getD (i / 8) 0) (i % 8))++(zE (8 * b.length) false).drop i).length=8 * b.length:=by grind
  have ho:((List.range i).map (fun i=>bitV (b.getD (i / 8) 0) (i % 8))++(zE (8 * b.length) false).drop i)[i]? = some (((List.range i).map (fun i=>bitV (b.getD (i / 8) 0) (i % 8))++(zE (8 * b.length) false).drop i)[i]'(by omega)):=zV (by omega)
  rw [if_pos (by grind [q5_,q2_]),hq,hr,qf_ hb,zD,q9_ (by rfl),qf_ ho,zD,zD,qv_ (by omega),zQ]
  grind [eqi,band,u8,shr,Nat,Int,bitV,fill_step]
 simp_all [qed_,zF,Nat,Int,if_neg,q5_,q2_,List.drop_of_length_le,List.append_nil]
end Go.Proofs.Lx
end
noncomputable section
namespace Go.Proofs.Lx
open Go Ev Sx Pl
set_option maxRecDepth 100000
inductive RA:TA->Prop where
 | bits (f p n:Int) (hf:f=1∨f=2) (h1:1≤n) (h2:n≤2000):RA (f,p,n,0,[],[])
 | words (f p n:Int) (hf:f=3∨f=4) (h1:1≤n) (h2:n≤125):RA (f,p,n,0,[],[])
 | coil (p:Int) (b:Bool):RA (5,p,0,0,[],[b])
 | word (p:Int) (x:Int):RA (6,p,0,0,[x],[])
 | coils (p:Int) (l:List Bool) (h1:1≤l.length) (h2:l.length≤1968):RA (15,p,(l.length:Int),0,[],l)
 | regs (p:Int) (l:List Int) (h1:1≤l.length) (h2:l.length≤123):RA (16,p,(l.length:Int),0,l,[])
 | swap (p n t:Int) (l:List Int) (h1:1≤l.length) (h2:l.length≤121) (h3:1≤n) (h4:n≤125):RA (23,p,n,t,l,[])
theorem within0 {n:Int} (h:withinV n 0=true):n=0:=q4_.1 h
theorem within1 {n m:Int} (hm:0 < m) (h:withinV n m=true):1≤n∧n≤m:=by
 unfold withinV at h
 rw [if_neg (by grind [q4_])] at h
 simp_all [qs_,qo_]
theorem len0 {α:Type} {l:List α} (h:zF l.length=0):l=[]:=by
 simp_all
theorem len1 {α:Type} {l:List α} (h:1≤zF l.length∧zF l.length≤1):∃ x,l=[x]:=by
 grind [q2_,List.length_eq_one_iff]
theorem q1q_ {a:TA} (hr:qm_ a=true):RA a:=by
 obtain ⟨f,p,n,t,ws,bs⟩:=a
 unfold qm_ at hr
 simp only at hr
 rcases shp_cases f with ⟨hf,e⟩ | ⟨hf,e⟩ | ⟨hf,e⟩ | ⟨hf,e⟩ | ⟨hf,e⟩ | ⟨hf,e⟩ | ⟨hf,e⟩ | ⟨hf,e⟩ <;> rw [e] at hr <;> simp only [rightS,zO,Bool.false_or,Bool.true_or,Bool.not_false,Bool.not_true,true_and,and_true] at hr
 ·obtain ⟨h1,h2,h3,h4⟩:=hr
  have h2:=within1 (by decide) h2
  rw [q4_.1 h1,len0 (within0 h3),len0 (within0 h4)]
  exact .bits f p n hf h2.1 h2.2
 ·obtain ⟨h1,h2,h3,h4⟩:=hr
  have h2:=within1 (by decide) h2
  rw [q4_.1 h1,len0 (within0 h3),len0 (within0 h4)]
  exact .words f p n hf h2.1 h2.2
 ·obtain ⟨h1,h2,h3,h4⟩:=hr
  obtain ⟨b,rfl⟩:=len1 (within1 (by decide) h3)
  rw [q4_.1 h1,within0 h2,len0 (within0 h4),hf]
  exact .coil p b
 ·obtain ⟨h1,h2,h3,h4⟩:=hr
  obtain ⟨b,rfl⟩:=len1 (within1 (by decide) h4)
  rw [q4_.1 h1,within0 h2,len0 (within0 h3),hf]
  exact .word p b
 ·obtain ⟨h1,h2,h3,h4,h5⟩:=hr
  have h3:=within1 (by decide) h3
  have e4:=len0 (within0 h4)
  subst e4
  rw [q4_.1 h1,<- q4_.1 h5,hf]
  rw [q2_] at h3
  exact .coils p bs (by omega) (by omega)
 ·obtain ⟨h1,h2,h3,h4,h5⟩:=hr
  have h4:=within1 (by decide) h4
  have e3:=len0 (within0 h3)
  subst e3
  have e5:(ws.length:Int)=n:=by simp_all [q4_]
  rw [q4_.1 h1,<- e5,hf]
  rw [q2_] at h4
  exact .regs p ws (by omega) (by omega)
 ·obtain ⟨h2,h3,h4⟩:=hr
  have h2:=within1 (by decide) h2
  have h4:=within1 (by decide) h4
  rw [len0 (within0 h3),hf]
  rw [q2_] at h4
  exact .swap p n t ws (by omega) (by omega) h2.1 h2.2
 grind
def askB (a:TA):List Int :=
 if a.1=5 then a.1::two a.2.1++two (if a.2.2.2.2.2.headD false=true then 65280 else 0)
 else if a.1=6 then a.1::two a.2.1++a.2.2.2.2.1.flatMap two
 else if a.1=15 then a.1::two a.2.1++two a.2.2.1++[(packN a.2.2.2.2.2.length:Int)]++packS a.2.2.2.2.2
 else if a.1=16 then a.1::two a.2.1++two a.2.2.1++[2 * (a.2.2.2.2.1.length:Int)]++a.2.2.2.2.1.flatMap two
 else if a.1=23 then a.1::two a.2.1++two a.2.2.1++two a.2.2.2.1++two (a.2.2.2.2.1.length:Int)++[2 * (a.2.2.2.2.1.length:Int)]++a.2.2.2.2.1.flatMap two
 else a.1::two a.2.1++two a.2.2.1
theorem q47_ (l:List Int):(l.flatMap two).length=2 * l.length:=by
 induction l with
 | nil=>rfl
 | cons x r ih=>grind [zZ,two]
theorem two_len (x:Int):(two x).length=2:=rfl
theorem askB_len {a:TA} (h:RA a):5≤(askB a).length∧(askB a).length≤253:=by
 cases h with
 | bits f p n hf h1 h2=>rcases hf with rfl | rfl <;> exact ⟨Nat.le.refl,(by decide:5≤253)⟩
 | words f p n hf h1 h2=>rcases hf with rfl | rfl <;> exact ⟨Nat.le.refl,(by decide:5≤253)⟩
 | coil p b=>exact ⟨Nat.le.refl,(by decide:5≤253)⟩
 | word p x=>exact ⟨Nat.le.refl,(by decide:5≤253)⟩
 | coils p l h1 h2 =>
  show 5≤((15:Int)::two p++two _++[_]++packS l).length∧((15:Int)::two p++two _++[_]++packS l).length≤253
  grind [zZ,List.length_cons,List.length_nil,q40_,two_len,packN]
 | regs p l h1 h2 =>
  show 5≤((16:Int)::two p++two _++[_]++l.flatMap two).length∧((16:Int)::two p++two _++[_]++l.flatMap two).length≤253
  grind [zZ,List.length_cons,List.length_nil,q47_,two_len]
 | swap p n t l h1 h2 h3 h4 =>
  show 5≤((23:Int)::two p++two _++two _++two _++[_]++l.flatMap two).length∧((23:Int)::two p++two _++two _++two _++[_]++l.flatMap two).length≤253
  grind [zZ,List.length_cons,List.length_nil,q47_,two_len]
abbrev BO:=Option cP
theorem bK5 (p:Int) (b:Bool) (out:List Int):q6p_ 5 p 0 0 [] [b] 0 1 0 false false out=zC (q1d_ ([if b=true then 65280 else 0],out,())) fun y=>(some (y.1,0,()):BO):=by
 cases b <;> rfl
theorem bK6 (p x:Int) (out:List Int):q6p_ 6 p 0 0 [x] [] 0 0 1 false false out=zC (q1d_ ([x],out,())) fun y=>(some (y.1,0,()):BO):=rfl
theorem bK15 (p n:Int) (l:List Bool) (out:List Int):q6p_ 15 p n 0 [] l 1968 1968 0 false true out =
  zC (qm3_ (l,())) fun y=>need (small (out.length + 1)) (need (small ((out++[zF (y.1.length % 256)]).length + y.1.length)) (some (out++[zF (y.1.length % 256)]++y.1,0,()):BO)):=rfl
theorem bK16 (p n:Int) (l out:List Int):q6p_ 16 p n 0 l [] 123 0 123 false true out =
  need (small (out.length + 1)) (zC (q1d_ (l,out++[cvt .u8 (mul .i64 2 (zF l.length))],())) fun y=>(some (y.1,0,()):BO)):=rfl
theorem bK23 (p n t:Int) (l out:List Int):q6p_ 23 p n t l [] 125 0 121 true false out =
  zC (q1d_ ([t,zF (l.length % 65536)],out,())) fun y=>need (small (y.1.length + 1)) (zC (q1d_ (l,y.1++[cvt .u8 (mul .i64 2 (zF l.length))],())) fun y=>(some (y.1,0,()):BO)):=rfl
theorem nums1 (x:Int) {out:List Int} (h:out.length≤900000):q1d_ ([x],out,())=some (out++two x,()):=by
 grind [numbers_eq]
theorem qys_ {a:TA} (h:OkA a):q6m_ (a,())=if qm_ a=true then some (askB a,0,()) else some ([],12,()):=by
 show qqe_ q6p_ a=_
 unfold qqe_
 rw [right_eq h,zD]
 cases hr:qm_ a with
 | false=>rfl
 | true =>
  have hra:=q1q_ hr
  rw [if_neg (by decide),if_pos rfl,shape_eq,zD]
  clear hr h
  have hin:∀ f p:Int,q1d_ ([p],[f],())=some (f::two p,()):=fun f p=>nums1 p (by simp)
  have hin2:∀ f p n:Int,q1d_ ([n],f::two p,())=some (f::two p++two n,()):=fun f p n=>nums1 n (by simp [two])
  cases hra with
  | bits f p n hf h1 h2 =>
   rcases hf with rfl | rfl <;> rw [hin,zD,if_pos (by rfl),hin2,zD]
   ·rfl
   rfl
  | words f p n hf h1 h2 =>
   rcases hf with rfl | rfl <;> rw [hin,zD,if_pos (by rfl),hin2,zD]
   ·rfl
   rfl
  | coil p b =>
   rw [hin,zD,if_neg (by show ¬ gt 0 0=true; decide)]
   exact (bK5 p b _).trans (by rw [nums1 _ (by simp [two]),zD]; rfl)
  | word p x =>
   rw [hin,zD,if_neg (by show ¬ gt 0 0=true; decide)]
   exact (bK6 p x _).trans (by simp_all [nums1,two,zD,askB])
  | coils p l h1 h2 =>
   rw [hin,zD,if_pos (by rfl),hin2,zD]
   refine (bK15 p _ l _).trans ?_
   rw [pack_eq (by omega),zD,qe_ (by simp [two]),qe_ (by grind [two,q40_,packN])]
   refine congrArg (fun x=>some (x,0,())) ?_
   have e:packN l.length % 256=packN l.length:=by grind [packN]
   rw [q40_,e]
   rfl
  | regs p l h1 h2 =>
   rw [hin,zD,if_pos (by rfl),hin2,zD]
   refine (bK16 p _ l _).trans ?_
   rw [qe_ (by simp [two]),mul64 (by grind) (by grind),cvt8,numbers_eq (by grind [two]),zD]
   refine congrArg (fun x=>some (x,0,())) ?_
   have e:(2 * zF l.length) % 256=2 * (l.length:Int):=by grind
   rw [e]
   rfl
  | swap p n t l h1 h2 h3 h4 =>
   rw [hin,zD,if_pos (by rfl),hin2,zD]
   refine (bK23 p n t l _).trans ?_
   rw [numbers_eq (by simp [two]),zD,qe_ (by simp [two]),mul64 (by grind) (by grind),cvt8,numbers_eq (by grind [two]),zD]
   refine congrArg (fun x=>some (x,0,())) ?_
   have e:(2 * zF l.length) % 256=2 * (l.length:Int):=by grind
   have e2:zF (l.length % 65536)=(l.length:Int):=by grind
   simp_all [askB]
end Go.Proofs.Lx
end
noncomputable section
namespace Pl
open Go Ev Sx
theorem zip_at {α β:Type} {s1:List α} {s2:List β} (h:s1.length=s2.length) {i:Nat} {x:α×β} (hx:(s1.zip s2)[i]? = some x):s1[i]? = some x.1∧s2[i]? = some x.2:=by
 grind
theorem goL_eq {α:Type} [DecidableEq α] {ne:α->α->Bool} (hne:∀ a b,ne a b=!decide (a=b)):∀ (s1 s2:List α),s1.length=s2.length ->
  goL (R:=Bool×Unit) (fun (_:Unit) (x:α×α) k=>if ne x.1 x.2=true then some (false,()) else k ()) (fun _=>some (true,())) (s1.zip s2) ()=some (decide (s1=s2),())
 | [],[],_=>rfl
 | a::r,b::q,h=>by
  rw [List.zip_cons_cons]
  show (if ne a b=true then some (false,()) else goL _ _ (r.zip q) ())=_
  rw [hne]
  by_cases e:a=b
  ·subst e
   rw [if_neg (by simp),goL_eq hne r q (by simp_all)]
   simp
  simp_all
end Pl
namespace Go.Proofs.Lx
open Go Ev Sx Pl
set_option maxRecDepth 100000
theorem equalW_eq {s1 s2:List Int} (h:s1.length≤1000000):q11_ (s1,s2,())=some (decide (s1=s2),()):=by
 show q5l_ q3s_ s1 s2=_
 unfold q5l_
 by_cases hl:s1.length=s2.length
 ·rw [if_neg (by simp_all [qd_,q2_])]
  unfold q3s_
  have hz:(s1.zip s2).length=s1.length:=by simp_all
  rw [<- goL_eq (ne:=nei) (fun a b=>by rfl) s1 s2 hl]
  refine loop_go (xs:=s1.zip s2) (mk:=fun i _=>(s1,s2,zF s1.length,(i:Int))) ?_ ?_ s1.length 0 () _ (by omega) (by omega)
  ·intro self i acc x hx
   have hi:=(List.getElem?_eq_some_iff.1 hx).1
   obtain ⟨h1,h2⟩:=zip_at hl hx
   show q3r_ _ s1 s2 (zF s1.length) (i:Int)=_
   unfold q3r_
   rw [if_pos (by grind [q5_,q2_]),qf_ h1,zD,qf_ h2,zD,qv_ (by omega)]
  simp_all [q3r_,zF,Nat,Int,if_neg,q5_,q2_]
 ·rw [if_pos (by grind [qd_,q2_]),decide_eq_false (fun e=>hl (by rw [e]))]
theorem equalB_eq {s1 s2:List Bool} (h:s1.length≤1000000):q3f_ (s1,s2,())=some (decide (s1=s2),()):=by
 show q6v_ q4n_ s1 s2=_
 unfold q6v_
 by_cases hl:s1.length=s2.length
 ·rw [if_neg (by simp_all [qd_,q2_])]
  unfold q4n_
  have hz:(s1.zip s2).length=s1.length:=by simp_all
  rw [<- goL_eq (ne:=neb) (fun a b=>by rfl) s1 s2 hl]
  refine loop_go (xs:=s1.zip s2) (mk:=fun i _=>(s1,s2,zF s1.length,(i:Int))) ?_ ?_ s1.length 0 () _ (by omega) (by omega)
  ·intro self i acc x hx
   have hi:=(List.getElem?_eq_some_iff.1 hx).1
   obtain ⟨h1,h2⟩:=zip_at hl hx
   show q4r_ _ s1 s2 (zF s1.length) (i:Int)=_
   unfold q4r_
   rw [if_pos (by grind [q5_,q2_]),qf_ h1,zD,qf_ h2,zD,qv_ (by omega)]
  simp_all [q4r_,zF,Nat,Int,if_neg,q5_,q2_]
 ·rw [if_pos (by grind [qd_,q2_]),decide_eq_false (fun e=>hl (by rw [e]))]
abbrev BB:=Option aF
theorem if_dec {p:Prop} [Decidable p] {b:Bool} {k:BB} {q:Bool} (h:b=true ↔ p) (hk:p->k=some (q,())):(if b=true then k else some (false,()))=some (decide p && q,()):=by
 grind
instance decA5:DecidableEq (Int×Int×Int×List Int×List Bool):=inferInstance
instance decA:DecidableEq TA:=inferInstance
abbrev TP:=Int×Int×Int×Int×Bool×TA×Int×Int×Int
instance decP1:DecidableEq (TA×Int×Int×Int):=inferInstance
instance decP2:DecidableEq (Int×Bool×TA×Int×Int×Int):=inferInstance
instance decP:DecidableEq TP:=inferInstance
theorem eqb_iff {a b:Bool}:eqb a b=true ↔ a=b:=by cases a <;> cases b <;> decide
theorem q2h_ {s:List Int} (h:s.length≤1000000):qc_ (s,())=some (s,()):=by
 show q9d_ s=_
 unfold q9d_
 split
 ·rename_i h0
  rw [len0 (q4_.1 h0)]
  rfl
 grind [qe_]
theorem cloneB_eq {s:List Bool} (h:s.length≤1000000):q2n_ (s,())=some (s,()):=by
 show qby_ s=_
 unfold qby_
 split
 ·rename_i h0
  rw [len0 (q4_.1 h0)]
  rfl
 grind [qe_]
def mbapV (tx unit:Int) (pdu:List Int):List Int:=[tx / 256 % 256,tx % 256,0,0,0,(pdu.length + 1:Nat) % 256,unit]++pdu
theorem q1nx_ {tx unit:Int} {pdu:List Int} (h1:1≤pdu.length) (h2:pdu.length≤253):qml_ ((tx,unit,pdu),())=some (mbapV tx unit pdu,0,()):=by
 show qp2_ qzb_ (tx,unit,pdu)=_
 unfold qp2_
 rw [if_neg (by grind [q5_,q2_])]
 show qnz_ (zF pdu.length) (gt (zF pdu.length) 253) (tx,unit,pdu)=_
 unfold qnz_
 dsimp only
 have e:add .i64 7 (zF pdu.length)=((7 + pdu.length:Nat):Int):=addn64 (n:=7) (by omega)
 rw [if_neg (by grind [q21_,q2_]),e,q9_ (capOk_0 (by omega)),q9_ (by grind [small_iff]),qe_ (by omega),qe_ (by omega),cvt8,cvt8,cvt8,shr8 _ _ (by decide),q2_,qv_ (by omega)]
 rfl
def frameV (link unit tx:Int) (a:TA):List Int:=if link=2 then mbapV tx unit (askB a) else putV (unit::askB a)
theorem rtub_eq {unit:Int} {pdu:List Int} (hu:1≤unit) (hu2:unit≤247) (h1:1≤pdu.length) (h2:pdu.length≤253):qmj_ (unit,pdu,())=some (putV (unit::pdu),0,()):=by
 show qn4_ qz1_ unit pdu=_
 unfold qn4_
 have e:qdn_ (unit,())=some (true,()):=by
  show qe2_ unit=_
  simp_all [qe2_,if_pos,qs_,qo_]
 rw [e,zD,if_neg (by decide),if_neg (by grind [q5_,q2_])]
 show qpi_ unit pdu (gt (zF pdu.length) 253)=_
 unfold qpi_
 rw [if_neg (by grind [q21_,q2_]),qe_ (by omega),put_eq (by grind),zD]
structure OkP (p:TP):Prop where
 u0:1≤p.1
 u1:p.1≤247
 l:p.2.1=1∨p.2.1=2
 t0:1≤p.2.2.1
 t1:p.2.2.1≤100000
 r0:0≤p.2.2.2.1
 r1:p.2.2.2.1≤1000
 a:OkA p.2.2.2.2.2.1
 x0:0≤p.2.2.2.2.2.2.1
 x1:p.2.2.2.2.2.2.1≤65535
def nextV (link tx:Int):Int:=if link=2 then (tx + 1) % 65536 else tx
def sentP (p:TP):TP:=(p.1,p.2.1,p.2.2.1,p.2.2.2.1,p.2.2.2.2.1,p.2.2.2.2.2.1,nextV p.2.1 p.2.2.2.2.2.2.1,p.2.2.1,p.2.2.2.2.2.2.2.2)
def sentB (p:TP):List Int:=frameV p.2.1 p.1 (nextV p.2.1 p.2.2.2.2.2.2.1) p.2.2.2.2.2.1
theorem putV_len (b:List Int):(putV b).length=b.length + 2:=by simp [putV]
theorem sentB_len {p:TP} (hr:qm_ p.2.2.2.2.2.1=true):8≤(sentB p).length∧(sentB p).length≤260:=by
 have hl:=askB_len (q1q_ hr)
 unfold sentB frameV
 split
 ·simp [mbapV]; omega
 grind [putV_len]
def zA:TA:=(0,0,0,0,[],[])
def waitP (p:TP) (a:TA):TP:=(p.1,p.2.1,p.2.2.1,p.2.2.2.1,true,a,p.2.2.2.2.2.2.1,p.2.2.2.2.2.2.2.1,p.2.2.2.1)
def dropP (p:TP):TP:=(p.1,p.2.1,p.2.2.1,p.2.2.2.1,false,zA,p.2.2.2.2.2.2.1,0,0)
def leftP (p:TP) (n:Int):TP:=(p.1,p.2.1,p.2.2.1,p.2.2.2.1,p.2.2.2.2.1,p.2.2.2.2.2.1,p.2.2.2.2.2.2.1,n,p.2.2.2.2.2.2.2.2)
def againP (p:TP) (n m:Int):TP:=(p.1,p.2.1,p.2.2.1,p.2.2.2.1,p.2.2.2.2.1,p.2.2.2.2.2.1,p.2.2.2.2.2.2.1,n,m)
def tickV (p:TP):TP×List Int×Bool :=
 if p.2.2.2.2.1=true then
  if p.2.2.2.2.2.2.2.1=1 then
   if 0 < p.2.2.2.2.2.2.2.2 then (sentP (againP p 0 (p.2.2.2.2.2.2.2.2 - 1)),sentB (againP p 0 (p.2.2.2.2.2.2.2.2 - 1)),false)
   else (dropP p,[],true)
  else (leftP p (p.2.2.2.2.2.2.2.1 - 1),[],false)
 else (p,[],false)
def rangesV (u l t r:Int):Bool:=decide ((1≤u∧u≤247)∧(l=1∨l=2)∧(1≤t∧t≤100000)∧0≤r∧r≤1000)
def zP:TP:=(0,0,0,0,false,zA,0,0,0)
end Go.Proofs.Lx
end
noncomputable section
namespace Pl
open Go Ev Sx
theorem shl8 {y:Int} (h0:0≤y) (h1:y≤255):shl .u16 (cvt .u16 y) 8=256 * y:=by
 rw [cvt16]
 unfold shl
 have:min (8:Int).toNat IntKind.u16.bits=8:=by decide
 grind [wr16]
theorem bor_hi {a b:Int} (ha:0≤a) (ha2:a≤255) (hb:0≤b) (hb':b≤255):bor .u16 (256 * a) b=256 * a + b:=by
 obtain ⟨n,rfl⟩:=zN ha
 obtain ⟨m,rfl⟩:=zN hb
 unfold bor
 rw [wr16]
 have e1:(BitVec.ofInt IntKind.u16.bits (256 * (n:Int))).toNat=256 * n:=by
  rw [BitVec.toNat_ofInt]
  have:((2 ^ IntKind.u16.bits:Nat):Int)=65536:=by decide
  grind
 have e2:(BitVec.ofInt IntKind.u16.bits (m:Int)).toNat=m:=by
  rw [BitVec.toNat_ofInt]
  have:((2 ^ IntKind.u16.bits:Nat):Int)=65536:=by decide
  grind
 rw [BitVec.toNat_or,e1,e2]
 have e3:256 * n ||| m=256 * n + m:=by
  have:=Nat.two_pow_add_eq_or_of_lt (i:=8) (b:=m) (by omega) n
  simp_all
 omega
theorem bor_comm {a b:Int}:bor .u16 a b=bor .u16 b a:=by
 grind [bor,BitVec.or_comm]
def numV (y z:Int):Int:=bor .u16 (shl .u16 (cvt .u16 y) 8) (cvt .u16 z)
theorem numV_rng (y z:Int):0≤numV y z∧numV y z < 65536:=u16_rng _
theorem numV_eq {y z:Int} (h0:0≤y) (h1:y≤255) (h2:0≤z) (h3:z≤255):numV y z=256 * y + z:=by
 unfold numV
 rw [shl8 h0 h1,cvt16]
 grind [bor_hi]
def listS (b:List Int):List Int:=(List.range (b.length / 2)).map fun i=>numV (b.getD (2 * i) 0) (b.getD (2 * i + 1) 0)
end Pl
namespace Go.Proofs.Lx
open Go Ev Sx Pl
set_option maxRecDepth 100000
abbrev TR:=Int×Int×List Bool×List Int×Int×Int
instance decR5:DecidableEq (Int×List Bool×List Int×Int×Int):=inferInstance
instance decR:DecidableEq TR:=inferInstance
def zR:TR:=(0,0,[],[],0,0)
structure SmR (r:TR):Prop where
 b:r.2.2.1.length≤100000
 w:r.2.2.2.1.length≤100000
theorem zR_sm:SmR zR:=⟨by decide,by decide⟩
theorem sameR_eq {a b:TR} (h:SmR a):q59_ (a,b,())=some (decide (a=b),()):=by
 show qw0_ a b=_
 unfold qw0_
 have h1:=h.b
 have h2:=h.w
 rw [equalW_eq (by omega),zD,equalB_eq (by omega),zD]
 obtain ⟨a1,a2,a3,a4,a5,a6⟩:=a
 obtain ⟨b1,b2,b3,b4,b5,b6⟩:=b
 rw [if_dec (q4_) fun _=>if_dec (q4_) fun _=>if_dec (q4_) fun _=>if_dec (q4_) fun _=>if_dec (p:=a3=b3) (by simp) fun _=>rfl]
 refine congrArg (fun x=>some (x,())) ?_
 grind
def exR (r:TR):Bool:=decide (r.1 < 128) && (decide (1≤r.2.1) && (decide (r.2.1≤4) && decide (r=(rem r.1 128,r.2.1,[],[],0,0))))
def bitR (r:TR):Bool:=decide (8≤r.2.2.1.length) && (decide (r.2.2.1.length≤2000) && (decide (r.2.2.1.length % 8=0) && decide (r=(r.1,0,r.2.2.1,[],0,0))))
def wordR (r:TR):Bool:=decide (1≤r.2.2.2.1.length) && (decide (r.2.2.2.1.length≤125) && decide (r=(r.1,0,[],r.2.2.2.1,0,0)))
def obR (r:TR):Bool:=decide (r.2.2.1.length=1) && decide (r=(r.1,0,r.2.2.1,[],r.2.2.2.2.1,0))
def owR (r:TR):Bool:=decide (r.2.2.2.1.length=1) && decide (r=(r.1,0,[],r.2.2.2.1,r.2.2.2.2.1,0))
def ctR (k:Int) (r:TR):Bool:=decide (1≤r.2.2.2.2.2) && (decide (r.2.2.2.2.2≤k) && decide (r=(r.1,0,[],[],r.2.2.2.2.1,r.2.2.2.2.2)))
theorem exR_eq {r:TR} (h:SmR r):q2i_ ((),r,())=some (exR r,()):=by
 show q8h_ () r=_
 unfold q8h_ exR
 have e:qi_ (r.1,r.2.1,())=some ((rem r.1 128,r.2.1,[],[],0,0),()):=rfl
 rw [e,zD,sameR_eq h,zD]
 rw [if_dec (q5_) fun _=>if_dec (qs_) fun _=>if_dec (qo_) fun _=>rfl]
theorem bitR_eq {r:TR} (h:SmR r):q1f_ ((),r,())=some (bitR r,()):=by
 show qaw_ () r=_
 unfold qaw_ bitR
 rw [sameR_eq h,zD]
 rw [if_dec (p:=8≤r.2.2.1.length) (by grind [qs_,q2_]) fun _=>if_dec (p:=r.2.2.1.length≤2000) (by grind [qo_,q2_]) fun _=>if_dec (p:=r.2.2.1.length % 8=0) (by grind [q4_,q2_,rem,Int,Nat,rem_nat]) fun _=>rfl]
theorem wordR_eq {r:TR} (h:SmR r):qw_ ((),r,())=some (wordR r,()):=by
 show q9a_ () r=_
 unfold q9a_ wordR
 rw [sameR_eq h,zD]
 rw [if_dec (p:=1≤r.2.2.2.1.length) (by grind [qs_,q2_]) fun _=>if_dec (p:=r.2.2.2.1.length≤125) (by grind [qo_,q2_]) fun _=>rfl]
theorem obR_eq {r:TR} (h:SmR r):q3d_ ((),r,())=some (obR r,()):=by
 show qbq_ () r=_
 unfold qbq_ obR
 rw [sameR_eq h,zD]
 rw [if_dec (p:=r.2.2.1.length=1) (by grind [q4_,q2_]) fun _=>rfl]
theorem owR_eq {r:TR} (h:SmR r):q2x_ ((),r,())=some (owR r,()):=by
 show qax_ () r=_
 unfold qax_ owR
 rw [sameR_eq h,zD]
 rw [if_dec (p:=r.2.2.2.1.length=1) (by grind [q4_,q2_]) fun _=>rfl]
theorem ctR_eq {r:TR} {k:Int} (h:SmR r):q1w_ (k,r,())=some (ctR k r,()):=by
 show qd5_ k r=_
 unfold qd5_ ctR
 rw [sameR_eq h,zD]
 rw [if_dec (qs_) fun _=>if_dec (qo_) fun _=>rfl]
def rightR (r:TR):Bool:=if nei r.2.1 0=true then exR r else if eqi r.1 1=true then bitR r else if eqi r.1 2=true then bitR r else if eqi r.1 3=true then wordR r else if eqi r.1 4=true then wordR r else if eqi r.1 23=true then wordR r else
 if eqi r.1 5=true then obR r else if eqi r.1 6=true then owR r else if eqi r.1 15=true then ctR 1968 r else if eqi r.1 16=true then ctR 123 r else false
theorem rightR_eq {r:TR} (h:SmR r):qto_ (r,())=some (rightR r,()):=by
 show qs9_ r=_
 unfold qs9_ rightR
 rw [exR_eq h,bitR_eq h,wordR_eq h,obR_eq h,owR_eq h,ctR_eq h,ctR_eq h]
 simp only [zD]
 repeat (first | rfl | split)
def exB (r:TR):List Int:=[add .u8 r.1 128,r.2.1]
def bitB (r:TR):List Int:=r.1::(packN r.2.2.1.length:Int) % 256::packS r.2.2.1
def wordB (r:TR):List Int:=[r.1,2 * (r.2.2.2.1.length:Int) % 256]++r.2.2.2.1.flatMap two
def obB (r:TR):List Int:=r.1::two r.2.2.2.2.1++two (if r.2.2.1.headD false=true then 65280 else 0)
def owB (r:TR):List Int:=r.1::two r.2.2.2.2.1++two (r.2.2.2.1.headD 0)
def ctB (r:TR):List Int:=r.1::two r.2.2.2.2.1++two r.2.2.2.2.2
theorem rnumbers_eq {l out:List Int} (h:out.length + 2 * l.length≤1000000):q4c_ (l,out,())=some (out++l.flatMap two,()):=by
 show qdo_ q8p_ l out=_
 unfold qdo_ q8p_
 refine (loop_idx (xs:=l) (mk:=fun i acc=>(l,zF l.length,(i:Int),acc)) (stp:=fun o y=>o++two y) (fin:=fun acc=>some (acc,())) (fun i acc=>acc.length≤out.length + 2 * i) ?_ ?_ ?_ l.length 0 out _ (by omega) (by omega) (by omega)).trans ?_
 ·intro self i acc x hx hI
  have hi:=(List.getElem?_eq_some_iff.1 hx).1
  show q8j_ _ l (zF l.length) (i:Int) acc=_
  unfold q8j_
  rw [if_pos (by grind [q5_,q2_]),qf_ hx,zD,qe_ (by omega),two_eq,qv_ (by omega)]
 ·grind [two]
 ·simp_all [q8j_,zF,Int,if_neg,q5_,q2_]
 ·rw [List.drop_zero,foldl_app]
theorem exB_eq (r:TR):q35_ ((),r,())=some (exB r,()):=rfl
theorem bitB_eq {r:TR} (h:SmR r):q2g_ ((),r,())=some (bitB r,()):=by
 show qau_ () r=_
 unfold qau_
 have hb:=h.b
 rw [pack_eq hb,zD,qe_ (by grind [q40_,packN]),q40_]
 rfl
theorem wordB_eq {r:TR} (h:SmR r):q1c_ ((),r,())=some (wordB r,()):=by
 show q9e_ () r=_
 unfold q9e_
 have hw:=h.w
 rw [mul64 (by grind) (by grind),cvt8,rnumbers_eq (by grind),zD]
 rfl
theorem obB_eq {r:TR} (h:obR r=true):q3e_ ((),r,())=some (obB r,()):=by
 unfold obR at h
 rw [zO] at h
 obtain ⟨x,hx⟩:=List.length_eq_one_iff.1 (of_decide_eq_true h.1)
 show q6x_ q4j_ () r=_
 unfold q6x_
 rw [hx,q12_,zD]
 have key:∀ (v:Int) (r2:Int) (r3:List Bool) (r4:List Int) (r6:Int),q4j_ v r.1 r2 r3 r4 r.2.2.2.2.1 r6=some (r.1::two r.2.2.2.2.1++two v,()):=fun v r2 r3 r4 r6=>by
  unfold q4j_ qcd_
  rw [rnumbers_eq (by simp),zD]
  simp
 unfold obB
 rw [hx]
 cases x with
 | true=>rw [if_pos rfl,key]; rfl
 | false=>rw [if_neg (by decide),key]; rfl
theorem amb_same {R:Type} {eq:R->R->Bool} (h:∀ x,eq x x=true) (o:R):amb eq [some o,some o]=some o:=by
 show (if eq o o=true then some o else none)=_
 simp_all
theorem eqAs_refl:∀ (rs:List Ty) (x:As rs),eqAs rs x x=true
 | [],_=>rfl
 | t::r,x=>by
  simp_all [eqV,eqAs,eqV_refl,eqAs_refl]
theorem owB_eq {r:TR} (h:owR r=true):q41_ ((),r,())=some (owB r,()):=by
 unfold owR at h
 rw [zO] at h
 obtain ⟨x,hx⟩:=List.length_eq_one_iff.1 (of_decide_eq_true h.1)
 show qas_ () r=_
 grind [qas_,q12_,rnumbers_eq,amb_same,eqAs_refl,owB]
theorem ctB_eq (k:Int) (r:TR):q2w_ (k,r,())=some (ctB r,()):=by
 show qcw_ k r=_
 grind [qcw_,rnumbers_eq,ctB]
theorem rlist_eq {b:List Int} (h:b.length≤100000):qd4_ (b,())=some (listS b,()):=by
 show qkz_ qdy_ b=_
 unfold qkz_
 have hq:quo .i64 (zF b.length) 2=((b.length / 2:Nat):Int):=quo_nat (d:=2) (by omega)
 rw [hq,q9_ (by rfl),q9_ (capOk_self _),zQ,qe_ (by omega),kD]
 unfold qdy_ listS
 refine (loop_det (mk:=fun i=>(b,zF (b.length / 2),(i:Int),(List.range i).map (fun i=>numV (b.getD (2 * i) 0) (b.getD (2 * i + 1) 0))++(zE (b.length / 2) (0:Int)).drop i)) (N:=b.length / 2) ?_ ?_ (b.length / 2) 0 _ (by omega) (by omega))
 ·intro self i hi
  show qdz_ _ b (zF (b.length / 2)) (i:Int) _=_
  unfold qdz_
  have hm:mul .i64 2 (i:Int)=((2 * i:Nat):Int):=by
   grind [mul64]
  have h1:b[2 * i]? = some (b[2 * i]'(by omega)):=zV (by omega)
  have h2:b[2 * i + 1]? = some (b[2 * i + 1]'(by omega)):=zV (by omega)
  have ho:((List.range i).map (fun i=>numV (b.getD (2 * i) 0) (b.getD (2 * i + 1) 0))++(zE (b.length / 2) (0:Int)).drop i)[i]? = some (((List.range i).map (fun i=>numV (b.getD (2 * i) 0) (b.getD (2 * i + 1) 0))++(zE (b.length / 2) (0:Int)).drop i)[i]'(by grind)):=zV (by grind)
  rw [if_pos (by grind [q5_,q2_]),hm,qv_ (by omega),qf_ h1,qf_ h2,qf_ ho,qv_ (by omega),zQ]
  grind [bor,shl,cvt,numV,fill_step]
 simp_all [qdz_,zF,Nat,Int,if_neg,q5_,q2_,List.drop_of_length_le,List.append_nil]
end Go.Proofs.Lx
end
noncomputable section
namespace Go.Proofs.Lx
open Go Ev Sx Pl
set_option maxRecDepth 100000
theorem listS_len (b:List Int):(listS b).length=b.length / 2:=by simp [listS]
theorem unpackS_len (b:List Int):(unpackS b).length=8 * b.length:=by simp [unpackS]
def exC (x y:Int):TR:=(rem x 128,y,[],[],0,0)
def bitC (x:Int) (r:List Int):TR:=(x,0,unpackS r,[],0,0)
def wordC (x:Int) (r:List Int):TR:=(x,0,[],listS r,0,0)
def pairC (f:Int->Int->TR) (r:List Int):TR:=match listS r with
 | p::q::_=>f p q
 | _=>zR
def obC (x:Int):List Int->TR:=pairC fun p q=>(x,0,[eqi q 65280],[],p,0)
def owC (x:Int):List Int->TR:=pairC fun p q=>(x,0,[],[q],p,0)
def ctC (x:Int):List Int->TR:=pairC fun p q=>(x,0,[],[],p,q)
theorem cut_tail {α:Type} (x:α) (r:List α):cut (x::r) 1 (zF (x::r).length)=some r:=cut_one x r
theorem cut_two {α:Type} (x y:α) (r:List α):cut (x::y::r) 2 (zF (x::y::r).length)=some r:=by
 have:=cut_from (xs:=x::y::r) (i:=2) (by simp)
 simp_all
theorem exC_eq (x y:Int) (r:List Int):q7l_ ((),x::y::r,())=some (exC x y,()):=rfl
theorem bitC_eq (x y:Int) {r:List Int} (h:r.length≤1000):q6n_ ((),x::y::r,())=some (bitC x r,()):=by
 show qc8_ () (x::y::r)=_
 unfold qc8_
 rw [q12_,zD,cut_two,zD,unpack_eq (by omega),zD]
 rfl
theorem wordC_eq (x y:Int) {r:List Int} (h:r.length≤1000):q43_ ((),x::y::r,())=some (wordC x r,()):=by
 show qao_ () (x::y::r)=_
 unfold qao_
 rw [q12_,zD,cut_two,zD,rlist_eq (by omega),zD]
 rfl
theorem pair_cases (l:List Int):(l.length < 2∧∀ (f:Int->Int->TR),(match l with | p::q::_=>f p q | _=>zR)=zR)∨∃ p q r,l=p::q::r:=by
 match l with
 | []=>simp
 | [_]=>simp
 | p::q::r=>simp
theorem at_one {α:Type} (p q:α) (r:List α):at? (p::q::r) 1=some q:=rfl
theorem obC_eq (x:Int) {r:List Int} (h:r.length≤1000):qbd_ ((),x::r,())=some (obC x r,()):=by
 show qdp_ () (x::r)=_
 unfold qdp_ obC pairC
 rw [cut_tail,zD,rlist_eq (by omega),zD]
 rcases pair_cases (listS r) with ⟨h1,h2⟩ | ⟨p,q,s,h1⟩
 ·dsimp only
  rw [h2,if_pos (by grind [q5_,q2_])]
  rfl
 ·dsimp only
  rw [h1,if_neg (by grind [q5_,q2_]),q12_,q12_,at_one]
  rfl
theorem owC_eq (x:Int) {r:List Int} (h:r.length≤1000):qaj_ ((),x::r,())=some (owC x r,()):=by
 show qbp_ () (x::r)=_
 unfold qbp_ owC pairC
 rw [cut_tail,zD,rlist_eq (by omega),zD]
 rcases pair_cases (listS r) with ⟨h1,h2⟩ | ⟨p,q,s,h1⟩
 ·dsimp only
  rw [h2,if_pos (by grind [q5_,q2_])]
  rfl
 ·dsimp only
  rw [h1,if_neg (by grind [q5_,q2_]),q12_,q12_,at_one]
  rfl
theorem ctC_eq (k x:Int) {r:List Int} (h:r.length≤1000):q8z_ (k,x::r,())=some (ctC x r,()):=by
 show qf3_ k (x::r)=_
 unfold qf3_ ctC pairC
 rw [cut_tail,zD,rlist_eq (by omega),zD]
 rcases pair_cases (listS r) with ⟨h1,h2⟩ | ⟨p,q,s,h1⟩
 ·dsimp only
  rw [h2,if_pos (by grind [q5_,q2_])]
  rfl
 ·dsimp only
  rw [h1,if_neg (by grind [q5_,q2_]),q12_,q12_,at_one]
  rfl
theorem pairC_sm {f:Int->Int->TR} (h:∀ p q,SmR (f p q)) (r:List Int):SmR (pairC f r):=by
 grind [pairC,zR_sm]
def chkV (b:List Int) (c:TR) (ok:Bool) (w:List Int):TR×Int:=if ok=true then if eqs (toS w) (toS b)=true then (c,0) else (zR,13) else (zR,13)
theorem chk_eq {b:List Int} {c:TR} {ok:Bool} {w:List Int} {rd:Option (TR×Unit)} {rt:TR->Option (Bool×Unit)} {wt:TR->Option (List Int×Unit)} (h1:rd=some (c,())) (h2:rt c=some (ok,())) (h3:ok=true->wt c=some (w,())) :
  (zC rd fun y=>zC (rt y.1) fun y_1=>if (!y_1.1)=true then some ((0,0,[],[],0,0),13,()) else zC (wt y.1) fun y_2=>zC (q1m_ (y_2.1,b,())) fun y_3=>if (!y_3.1)=true then some ((0,0,[],[],0,0),13,()) else (some (y.1,0,()):Option (TR×Int×Unit)))=some ((chkV b c ok w).1,(chkV b c ok w).2,()):=by
 rw [h1,zD,h2,zD]
 unfold chkV
 cases ok with
 | false=>rfl
 | true =>
  rw [if_neg (by decide),h3 rfl,zD,if_pos rfl]
  show zC (some (eqs (toS w) (toS b),())) _=_
  rw [zD]
  cases eqs (toS w) (toS b) <;> rfl
theorem if_pair {c:Prop} [Decidable c] {A B:Option (TR×Int×Unit)} {a b:TR×Int} (h1:A=some (a.1,a.2,())) (h2:B=some (b.1,b.2,())):(if c then A else B)=some ((if c then a else b).1,(if c then a else b).2,()):=by
 grind
def parseQ (x y:Int) (r:List Int):TR×Int:=if 251 < r.length then (zR,13) else if lt x 128=true then
   if eqi x 1=true then chkV (x::y::r) (bitC x r) (bitR (bitC x r)) (bitB (bitC x r)) else if eqi x 2=true then chkV (x::y::r) (bitC x r) (bitR (bitC x r)) (bitB (bitC x r)) else
   if eqi x 3=true then chkV (x::y::r) (wordC x r) (wordR (wordC x r)) (wordB (wordC x r)) else if eqi x 4=true then chkV (x::y::r) (wordC x r) (wordR (wordC x r)) (wordB (wordC x r)) else
   if eqi x 23=true then chkV (x::y::r) (wordC x r) (wordR (wordC x r)) (wordB (wordC x r)) else if eqi x 5=true then chkV (x::y::r) (obC x (y::r)) (obR (obC x (y::r))) (obB (obC x (y::r))) else
   if eqi x 6=true then chkV (x::y::r) (owC x (y::r)) (owR (owC x (y::r))) (owB (owC x (y::r))) else if eqi x 15=true then chkV (x::y::r) (ctC x (y::r)) (ctR 1968 (ctC x (y::r))) (ctB (ctC x (y::r))) else
   if eqi x 16=true then chkV (x::y::r) (ctC x (y::r)) (ctR 123 (ctC x (y::r))) (ctB (ctC x (y::r))) else (zR,13)
  else chkV (x::y::r) (exC x y) (exR (exC x y)) (exB (exC x y))
def parseR:List Int->TR×Int
 | x::y::r=>parseQ x y r
 | _=>(zR,13)
theorem parse_eq (b:List Int):q67_ (b,())=some ((parseR b).1,(parseR b).2,()):=by
 show qhh_ qhx_ b=_
 unfold qhh_
 match b with
 | []=>rfl
 | [_]=>rfl
 | x::y::r =>
  rw [if_neg (by grind [q5_,q2_])]
  show _=some ((parseQ x y r).1,(parseQ x y r).2,())
  unfold qhx_ qqv_ parseQ
  by_cases hl:251 < r.length
  ·rw [if_pos (by grind [q21_,q2_]),if_pos hl]
   rfl
  ·rw [if_neg (by grind [q21_,q2_]),if_neg hl,q12_,zD,zD]
   have sb:SmR (bitC x r):=⟨by show (unpackS r).length≤_; grind [unpackS_len],by show 0≤100000; decide⟩
   have sw:SmR (wordC x r):=⟨by show 0≤100000; decide,by show (listS r).length≤_; grind [listS_len]⟩
   have so:SmR (obC x (y::r)):=pairC_sm (fun p q=>⟨by simp,by simp⟩) _
   have su:SmR (owC x (y::r)):=pairC_sm (fun p q=>⟨by simp,by simp⟩) _
   have sc:SmR (ctC x (y::r)):=pairC_sm (fun p q=>⟨by simp,by simp⟩) _
   have se:SmR (exC x y):=⟨by show 0≤100000; decide,by show 0≤100000; decide⟩
   have hr:(y::r).length≤1000:=by grind
   have kb:=chk_eq (b:=x::y::r) (rt:=fun c=>q1f_ ((),c,())) (wt:=fun c=>q2g_ ((),c,())) (bitC_eq x y (by omega)) (bitR_eq sb) (fun _=>bitB_eq sb)
   have kw:=chk_eq (b:=x::y::r) (rt:=fun c=>qw_ ((),c,())) (wt:=fun c=>q1c_ ((),c,())) (wordC_eq x y (by omega)) (wordR_eq sw) (fun _=>wordB_eq sw)
   have ko:=chk_eq (b:=x::y::r) (rt:=fun c=>q3d_ ((),c,())) (wt:=fun c=>q3e_ ((),c,())) (obC_eq x hr) (obR_eq so) (fun h=>obB_eq h)
   have ku:=chk_eq (b:=x::y::r) (rt:=fun c=>q2x_ ((),c,())) (wt:=fun c=>q41_ ((),c,())) (owC_eq x hr) (owR_eq su) (fun h=>owB_eq h)
   have kc:=fun k=>chk_eq (b:=x::y::r) (rt:=fun c=>q1w_ (k,c,())) (wt:=fun c=>q2w_ (k,c,())) (ctC_eq k x hr) (ctR_eq sc) (fun _=>ctB_eq k _)
   have ke:=chk_eq (b:=x::y::r) (rt:=fun c=>q2i_ ((),c,())) (wt:=fun c=>q35_ ((),c,())) (exC_eq x y r) (exR_eq se) (fun _=>exB_eq _)
   exact if_pair (if_pair kb (if_pair kb (if_pair kw (if_pair kw (if_pair kw (if_pair ko (if_pair ku (if_pair (kc _) (if_pair (kc _) rfl))))))))) ke
def cutV (b:List Int):List Int×Int :=
 if b.length < 2 then ([],10) else
 if sumV (b.take (b.length - 2))=numV (b.getD (b.length - 1) 0) (b.getD (b.length - 2) 0) then (b.take (b.length - 2),0) else ([],11)
theorem fill_all {α:Type} {z:α} {n:Nat} {y:List α} (h:y.length=n):List.take (zI (zF (zG (zE n z)))) y++List.drop (0 + zG (List.take (zI (zF (zG (zE n z)))) y)) (zE n z)=y:=by
 grind
theorem fill_take {α:Type} {z:α} {n:Nat} {y:List α} (h:n≤y.length):List.take (zI (zF (zG (zE n z)))) y++List.drop (0 + zG (List.take (zI (zF (zG (zE n z)))) y)) (zE n z)=y.take n:=by
 simp_all
theorem ccut_eq {b:List Int} (h:b.length≤100000):q17e_ (b,())=some ((cutV b).1,(cutV b).2,()):=by
 show q13a_ b=_
 unfold q13a_ cutV
 by_cases h2:b.length < 2
 ·rw [if_pos (by grind [q5_,q2_]),if_pos h2]
 ·have e1:sub .i64 (zF b.length) 2=((b.length - 2:Nat):Int):=by
   grind [sub64,q2_]
  have g1:b[b.length - 2]? = some (b[b.length - 2]'(by omega)):=zV (by omega)
  have g2:b[b.length - 2 + 1]? = some (b[b.length - 2 + 1]'(by omega)):=zV (by omega)
  rw [if_neg (by grind [q5_,q2_]),if_neg h2,e1,cut_to (by omega),zD,qv_ (by omega),qf_ g1,zD,qf_ g2,zD,sum_eq (by grind),zD]
  have e2:bor .u16 (cvt .u16 (b[b.length - 2]'(by omega))) (shl .u16 (cvt .u16 (b[b.length - 2 + 1]'(by omega))) 8)=numV (b.getD (b.length - 1) 0) (b.getD (b.length - 2) 0):=by
   rw [bor_comm]
   have e3:b.length - 1=b.length - 2 + 1:=by omega
   rw [e3,zX,zX,g1,g2]
   rfl
  rw [e2]
  by_cases hs:sumV (b.take (b.length - 2))=numV (b.getD (b.length - 1) 0) (b.getD (b.length - 2) 0)
  ·rw [if_neg (by simp_all [qd_]),if_pos hs,q9_ (by rfl),q9_ (capOk_self _),zQ,qe_ (by omega),q9_ (by simp_all [qo_,kD,q2_]),fill_take (by omega)]
  simp_all [if_pos,qd_,if_neg]
theorem isUnit_eq (u:Int):qdn_ (u,())=some (decide (1≤u) && decide (u≤247),()):=by
 show qe2_ u=_
 unfold qe2_
 rw [if_dec (qs_) fun _=>rfl]
 rfl
def rtuV (b:List Int):Int×List Int×Int :=
 if b.length < 4∨256 < b.length then (0,[],10) else
 if (cutV b).2 ≠ 0 then (0,[],(cutV b).2) else
 match (cutV b).1 with
 | []=>(0,[],10)
 | x::r=>if (decide (1≤x) && decide (x≤247))=true then (x,r,0) else (0,[],10)
theorem cutV_len {b:List Int} (h:(cutV b).2=0):(cutV b).1.length=b.length - 2:=by
 unfold cutV at h ⊢
 grind
theorem rtup_eq (b:List Int):qgq_ (b,())=some ((rtuV b).1,(rtuV b).2.1,(rtuV b).2.2,()):=by
 show qof_ qq3_ b=_
 have K:∀ t,qq3_ b t=qq1_ b t:=fun _=>rfl
 unfold qof_ rtuV
 rw [K,K]
 by_cases h:b.length < 4
 ·rw [if_pos (by rw [q5_,q2_]; omega),if_pos (.inl h)]
  rfl
 ·rw [if_neg (by rw [q5_,q2_]; omega)]
  unfold qq1_
  by_cases h2:256 < b.length
  ·rw [if_pos (by rw [q21_,q2_]; omega),if_pos (.inr h2)]
  ·rw [if_neg (by rw [q21_,q2_]; omega),if_neg (by omega),ccut_eq (by omega),zD]
   dsimp only
   by_cases h3:(cutV b).2=0
   ·rw [if_neg (by rw [qd_]; exact fun e=>e h3),if_neg (fun e=>e h3)]
    have hl:=cutV_len h3
    match hc:(cutV b).1 with
    | []=>rw [hc] at hl; simp at hl; omega
    | x::r =>
     rw [q12_,zD,isUnit_eq,zD,zD]
     show _=some ((if (decide (1≤x) && decide (x≤247))=true then (x,r,0) else (0,[],10)).1,(if (decide (1≤x) && decide (x≤247))=true then (x,r,0) else (0,[],10)).2.1,(if (decide (1≤x) && decide (x≤247))=true then (x,r,0) else (0,[],10)).2.2,())
     cases decide (1≤x) && decide (x≤247) with
     | false=>rfl
     | true =>
      have e:cut (x::r) 1 (zF (x::r).length)=some r:=cut_one x r
      rw [if_neg (by decide),e,zD,q9_ (by rw [qo_]; omega),q9_ (by rw [qo_]; omega),if_pos rfl]
   ·rw [if_pos (by rw [qd_]; exact h3),if_pos h3]
def serV (unit:Int) (b:List Int):Option TR :=
 if (rtuV b).2.2 ≠ 0 then none else if (rtuV b).1 ≠ unit then none else
 if (parseR (rtuV b).2.1).2 ≠ 0 then none else some (parseR (rtuV b).2.1).1
def outF:Option TR->Option (TR×Bool×Unit)
 | some r=>some (r,true,())
 | none=>some (zR,false,())
def beginsV (b2 b3 b4 b5:Int):Bool:=!nei b2 0 && (!nei b3 0 && (!nei b4 0 && (!lt b5 2 && !gt (cvt .i64 b5) 254)))
theorem bstep {self:List Int->Int->Option aF} {b:List Int} {i y:Int} (hi:i < 5) (hl:i < zF b.length) (hy:at? b i=some y) :
  q60_ (q62_ self) self b i=if nei y 0=true then some (false,()) else self b (add .i64 i 1):=by
 have e5:eqi i 5=false:=by
  rw [<- Bool.not_eq_true,q4_]
  omega
 unfold q60_
 rw [if_pos (by grind [q5_]),q5_.2 hl]
 unfold q62_ qip_
 rw [if_pos rfl,if_pos (q5_.2 hi),hy,zD]
 unfold qh4_ qhu_
 cases nei y 0 with
 | true=>rfl
 | false =>
  simp only [e5,Bool.false_eq_true,if_false]
  rfl
theorem bstep5 {self:List Int->Int->Option aF} {b:List Int} {y:Int} (hl:5 < zF b.length) (hy:at? b 5=some y) :
  q60_ (q62_ self) self b 5=if lt y 2=true then some (false,()) else if gt (cvt .i64 y) 254=true then some (false,()) else self b 6:=by
 unfold q60_
 rw [if_pos (by decide),q5_.2 hl]
 unfold q62_ qip_
 rw [if_pos rfl,if_neg (by decide)]
 unfold qh4_ qhu_
 rw [if_neg (by decide),if_pos (by decide),hy,zD,zD]
 rfl
theorem begins_eq (b0 b1 b2 b3 b4 b5 b6 b7:Int) (r:List Int):qjg_ (b0::b1::b2::b3::b4::b5::b6::b7::r,())=some (beginsV b2 b3 b4 b5,()):=by
 show qh5_ qbv_ _=_
 unfold qh5_ qbv_ beginsV
 have hlen:(zF (b0::b1::b2::b3::b4::b5::b6::b7::r).length)=(r.length:Int) + 8:=by rfl
 generalize hb:b0::b1::b2::b3::b4::b5::b6::b7::r=b at hlen ⊢
 have h2:at? b 2=some b2:=by rw [<- hb]; rfl
 have h3:at? b 3=some b3:=by rw [<- hb]; rfl
 have h4:at? b 4=some b4:=by rw [<- hb]; rfl
 have h5:at? b 5=some b5:=by rw [<- hb]; rfl
 have key:∀ n:Nat,loopF (fun (self:(List Int)×(Int)->Option aF) (s:(List Int)×(Int))=>q60_ (q62_ (fun b i=>self (b,i))) (fun b i=>self (b,i)) s.1 s.2) (n + 5) (b,2) =
   some (!nei b2 0 && (!nei b3 0 && (!nei b4 0 && (!lt b5 2 && !gt (cvt .i64 b5) 254))),()):=by
  intro n
  rw [qr_]
  refine (bstep (by decide) (by omega) h2).trans ?_
  cases nei b2 0 with
  | true=>rfl
  | false =>
   rw [if_neg (by decide),qr_]
   refine (bstep (i:=3) (by decide) (by omega) h3).trans ?_
   cases nei b3 0 with
   | true=>rfl
   | false =>
    rw [if_neg (by decide),qr_]
    refine (bstep (i:=4) (by decide) (by omega) h4).trans ?_
    cases nei b4 0 with
    | true=>rfl
    | false =>
     rw [if_neg (by decide),qr_]
     refine (bstep5 (by omega) h5).trans ?_
     cases lt b5 2 with
     | true=>rfl
     | false =>
      cases gt (cvt .i64 b5) 254 with
      | true=>rfl
      | false =>
       rfl
 simp_all
def zM:Int×Int×List Int:=(0,0,[])
def mbapP:List Int->(Int×Int×List Int)×Int
 | b0::b1::b2::b3::b4::b5::b6::r =>
  if r=[] then (zM,10) else if beginsV b2 b3 b4 b5=true then if (r.length:Int) + 1=b5 then ((numV b0 b1,b6,r),0) else (zM,10) else (zM,10)
 | _=>(zM,10)
theorem mparse_eq {b:List Int} (hl:b.length≤100000) (hb:∀ x ∈ b,0≤x∧x≤255):qa7_ (b,())=some ((mbapP b).1,(mbapP b).2,()):=by
 show qkq_ qln_ b=_
 unfold qkq_
 have short:b.length≤7->qhq_ (b,())=some (zM,0,()):=fun h=>by
  show q9h_ ql4_ b=_
  unfold q9h_
  rw [if_pos (by grind [qo_,q2_])]
  rfl
 have shortP:b.length≤7->mbapP b=(zM,10):=fun h=>by
  match b with
  | [] | [_] | [_,_] | [_,_,_] | [_,_,_,_] | [_,_,_,_,_] | [_,_,_,_,_,_]=>rfl
  | [_,_,_,_,_,_,_]=>rfl
  | _::_::_::_::_::_::_::_::_=>simp_all
 by_cases hs:b.length≤7
 ·rw [short hs,shortP hs]
  rfl
 ·match b with
  | [] | [_] | [_,_] | [_,_,_] | [_,_,_,_] | [_,_,_,_,_] | [_,_,_,_,_,_]=>rfl
  | [_,_,_,_,_,_,_]=>rfl
  | b0::b1::b2::b3::b4::b5::b6::b7::r =>
   have h5:=hb b5 (by simp)
   have hlr:r.length≤100000:=by grind
   have e5:cvt .i64 b5=b5:=cvt64 (by omega) (by omega)
   have hF:qhq_ (b0::b1::b2::b3::b4::b5::b6::b7::r,())=if beginsV b2 b3 b4 b5=true then if (r.length:Int) + 2 < b5 then some (zM,0,()) else some ((numV b0 b1,b6,(b7::r).take (b5 - 1).toNat),6 + b5,()) else some (zM,0,()):=by
    show q9h_ ql4_ _=_
    unfold q9h_
    rw [if_neg (by grind [qo_,q2_]),begins_eq,zD]
    cases hbg:beginsV b2 b3 b4 b5 with
    | false=>rfl
    | true =>
     rw [if_pos rfl]
     have h52:2≤b5:=by
      unfold beginsV at hbg
      simp only [zO,Bool.not_eq_true',<- Bool.not_eq_true] at hbg
      simp_all [q5_]
     show qlq_ _ false 0 0=_
     unfold qlq_
     have g5:at? (b0::b1::b2::b3::b4::b5::b6::b7::r) 5=some b5:=rfl
     have ea:add .i64 6 (cvt .i64 b5)=6 + b5:=by grind [add64]
     rw [if_neg (by decide),g5,zD,ea]
     by_cases hlt:(r.length:Int) + 2 < b5
     ·rw [if_pos (by grind [q5_,q2_]),if_pos hlt]
      rfl
     ·have es:sub .i64 (6 + b5) 7=(((b5 - 1).toNat:Nat):Int):=by grind [sub64]
      have ec:cut (b0::b1::b2::b3::b4::b5::b6::b7::r) 7 (6 + b5)=some ((b7::r).take (b5 - 1).toNat):=by
       have:=cut_nat (xs:=b0::b1::b2::b3::b4::b5::b6::b7::r) (i:=7) (j:=7 + (b5 - 1).toNat) (by omega) (by grind)
       have e:((7 + (b5 - 1).toNat:Nat):Int)=6 + b5:=by omega
       rw [e,Nat.add_comm 7 (b5 - 1).toNat] at this
       exact this
      rw [if_neg (by grind [q5_,q2_]),if_neg hlt,es,q9_ (by rfl),q9_ (capOk_self _),zQ,qe_ (by omega),ec,zD,q9_ (by simp_all [qo_,kD,q2_])]
      have hlen:((b7::r).take (b5 - 1).toNat).length=(b5 - 1).toNat:=by grind
      rw [fill_all hlen]
      rfl
   rw [hF]
   have K:∀ (t:Bool) (y1 y2:Int) (y3:List Int),qln_ t 0 0 (y1,y2,y3)=if t=true then some (zM,10,()) else some ((y1,y2,y3),0,()):=fun t y1 y2 y3=>rfl
   show _=some ((mbapP (b0::b1::b2::b3::b4::b5::b6::b7::r)).1,(mbapP (b0::b1::b2::b3::b4::b5::b6::b7::r)).2,())
   unfold mbapP
   dsimp only
   have hne:¬ (b7::r=[]):=by simp
   rw [if_neg hne]
   cases hbg:beginsV b2 b3 b4 b5 with
   | false=>rfl
   | true =>
    simp only [if_true]
    have h52:2≤b5:=by
     unfold beginsV at hbg
     simp only [zO,Bool.not_eq_true',<- Bool.not_eq_true] at hbg
     simp_all [q5_]
    by_cases hlt:(r.length:Int) + 2 < b5
    ·have hq:¬ (((b7::r).length:Int) + 1=b5):=by grind
     rw [if_pos hlt,if_neg hq]
     rfl
    ·rw [if_neg hlt,zD]
     dsimp only
     rw [if_neg (by grind [q4_]),K]
     by_cases he:(r.length:Int) + 2=b5
     ·have e1:nei (6 + b5) (zF (b0::b1::b2::b3::b4::b5::b6::b7::r).length)=false:=by
       rw [<- Bool.not_eq_true,qd_,q2_]
       grind
      have hq:((b7::r).length:Int) + 1=b5:=by grind
      rw [e1,if_pos hq]
      grind [List.take_of_length_le]
     ·have hq:¬ (((b7::r).length:Int) + 1=b5):=by grind
      rw [if_neg hq,if_pos (by grind [qd_,q2_])]
end Go.Proofs.Lx
end
