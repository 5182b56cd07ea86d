/- Each function of the program that the law reaches computes its plain function, part 3. -/
import Derived.Test.YtcpakhaogbempaaGreatSnd2
import Derived.Test.YtcpakhaogbempaaGreatProg
namespace Go.Pv.R
open Go.Proofs
set_option linter.unusedVariables false
set_option maxRecDepth 100000
noncomputable def ks_L119_l2:List Kd:=[.v (.sl (.int .i64)) .k,.v (.int .i64) .k,dK,dK,dK,.v (.int .i64) .k,dK,dK,dK,dK,dK,dK,dK,dK,dK,dK,dK,dK,dK,dK,dK]
noncomputable def ko_L119_l2_0:List Kd:=[dK,.v (.int .i64) .k,dK,dK,dK,dK,dK,dK,dK,dK,dK,dK,dK,dK,dK,dK,dK,dK,dK,dK,dK]
noncomputable def ko_L119_l2_1:List Kd:=[dK,dK,dK,dK,.v (.int .i64) .k,dK,dK,dK,dK,dK,dK,dK,dK,dK,dK,dK,dK,dK,dK,dK,dK]
noncomputable def h_L119:Hint:={ tab,hn:=[],loops:=[(2,ks_L119_l2)],outs:=[(2,2,ko_L119_l2_0),(2,1,ko_L119_l2_1)],ords:=[] }
noncomputable def sg_L119:List AK:=[.v (.sl (.int .i64)) .k,.v (.int .i64) .k]
noncomputable def F_L119 (N:Nat) (x:AVals sg_L119) (kf:Ret→Option Ret):Option Ret:=L119 N x.1 x.2.1 (fun r0=>kf ⟨[⟨(.int .i64),.k,r0⟩],[]⟩)
noncomputable def run_L119 (N:Nat):=runOf sg_L119 (F_L119 N)
noncomputable def es_L119 (N:Nat):List Entry:=[]
noncomputable def body_L119:Code:=match Tryz.f119.body with | some c=>c | none=>.skip
noncomputable def L_L119 (N n:Nat) (key:Nat) (S:St) (K:Ks):Option Ret:=bif Nat.beq key 2 then withVals ks_L119_l2 S (fun x=>L119_l2 x.1 n (fun z0=>K (.x 0) (shape ko_L119_l2_0 (z0,()))) (fun z0=>K .r (shape ko_L119_l2_1 (z0,()))) x.2.1 x.2.2.1) else none
theorem L0_L119 (N key:Nat) (S:St) (K:Ks):L_L119 N 0 key S K=none:=(bif0 (withVals0 fun _=>rfl) rfl)
noncomputable def c_L119_0:Code:=(loopsIn body_L119).getD 0 .skip
theorem ls_L119:loopsIn body_L119=[c_L119_0]:=by kernel_rfl
theorem rd_L119_2 (N n:Nat) (x:Vals ks_L119_l2) (K:Ks):L_L119 N (n + 1) 2 (shape ks_L119_l2 x) (h_L119.onOut 2 K)=peRound h_L119 (Orc.of (es_L119 N)) (mixL (L_L119 N) N n 2) c_L119_0 (shape ks_L119_l2 x) (h_L119.onOut 2 K):=by kernel_rfl
theorem fn_L119 (N:Nat) (x:AVals sg_L119) (kf:Ret→Option Ret):F_L119 N x kf=peFunc h_L119 (Orc.of (es_L119 N)) (L_L119 N N) Tryz.f119 (ashape sg_L119 x) kf:=by kernel_rfl
theorem sd_L119 {Γ : Gl} (N:Nat):Sound Γ Tryz.prog 119 (run_L119 N):=fun_ok2 (hh:=h_L119) mixed tab_ok (es:=es_L119 N) trivial (fn:=Tryz.f119) (body:=body_L119) (by kernel_rfl) (by kernel_rfl) (by kernel_rfl) (by kernel_rfl) (by kernel_rfl) (Lf:=L_L119 N) (L0_L119 N) ls_L119 (round_cons (key:=2) (ks:=ks_L119_l2) (by kernel_rfl) (by kernel_rfl) (rd_L119_2 N) trivial) (N:=N) (by kernel_rfl) (fn_L119 N) (.inl (by kernel_rfl))
noncomputable def ks_L116_l2:List Kd:=[.v (.sl tQIIIIILIE) .k,.v (.int .i64) .k,dK,dK,dK,.v (.int .i64) .k,dK,dK,dK,dK,dK,dK,dK,dK,dK,dK,dK,dK,dK,dK,dK,dK,dK,dK,dK,dK,dK,dK,dK,dK,dK,dK,dK,dK,dK,dK,dK,dK,dK,dK,dK,dK,dK,dK,dK,dK,dK,dK,dK,dK,dK,dK,dK,dK,dK,dK,dK,dK,dK,dK,dK,dK,dK,dK,dK,dK,dK]
noncomputable def ko_L116_l2_0:List Kd:=[dK,.v (.int .i64) .k,dK,dK,dK,dK,dK,dK,dK,dK,dK,dK,dK,dK,dK,dK,dK,dK,dK,dK,dK,dK,dK,dK,dK,dK,dK,dK,dK,dK,dK,dK,dK,dK,dK,dK,dK,dK,dK,dK,dK,dK,dK,dK,dK,dK,dK,dK,dK,dK,dK,dK,dK,dK,dK,dK,dK,dK,dK,dK,dK,dK,dK,dK,dK,dK,dK]
noncomputable def ko_L116_l2_1:List Kd:=[dK,dK,dK,dK,.v (.int .i64) .k,dK,dK,dK,dK,dK,dK,dK,dK,dK,dK,dK,dK,dK,dK,dK,dK,dK,dK,dK,dK,dK,dK,dK,dK,dK,dK,dK,dK,dK,dK,dK,dK,dK,dK,dK,dK,dK,dK,dK,dK,dK,dK,dK,dK,dK,dK,dK,dK,dK,dK,dK,dK,dK,dK,dK,dK,dK,dK,dK,dK,dK,dK]
noncomputable def h_L116:Hint:={ tab,hn:=[],loops:=[(2,ks_L116_l2)],outs:=[(2,2,ko_L116_l2_0),(2,1,ko_L116_l2_1)],ords:=[] }
noncomputable def sg_L116:List AK:=[.v (.sl tQIIIIILIE) .k,.v (.int .i64) .k]
noncomputable def F_L116 (N:Nat) (x:AVals sg_L116) (kf:Ret→Option Ret):Option Ret:=L116 N x.1 x.2.1 (fun r0=>kf ⟨[⟨(.int .i64),.k,r0⟩],[]⟩)
noncomputable def run_L116 (N:Nat):=runOf sg_L116 (F_L116 N)
noncomputable def es_L116 (N:Nat):List Entry:=[⟨119,[.val,.val],(run_L119 N)⟩]
noncomputable def body_L116:Code:=match Tryz.f116.body with | some c=>c | none=>.skip
noncomputable def L_L116 (N n:Nat) (key:Nat) (S:St) (K:Ks):Option Ret:=bif Nat.beq key 2 then withVals ks_L116_l2 S (fun x=>L116_l2 N x.1 n (fun z0=>K (.x 0) (shape ko_L116_l2_0 (z0,()))) (fun z0=>K .r (shape ko_L116_l2_1 (z0,()))) x.2.1 x.2.2.1) else none
theorem L0_L116 (N key:Nat) (S:St) (K:Ks):L_L116 N 0 key S K=none:=(bif0 (withVals0 fun _=>rfl) rfl)
noncomputable def c_L116_0:Code:=(loopsIn body_L116).getD 0 .skip
theorem ls_L116:loopsIn body_L116=[c_L116_0]:=by kernel_rfl
theorem rd_L116_2 (N n:Nat) (x:Vals ks_L116_l2) (K:Ks):L_L116 N (n + 1) 2 (shape ks_L116_l2 x) (h_L116.onOut 2 K)=peRound h_L116 (Orc.of (es_L116 N)) (mixL (L_L116 N) N n 2) c_L116_0 (shape ks_L116_l2 x) (h_L116.onOut 2 K):=by kernel_rfl
theorem fn_L116 (N:Nat) (x:AVals sg_L116) (kf:Ret→Option Ret):F_L116 N x kf=peFunc h_L116 (Orc.of (es_L116 N)) (L_L116 N N) Tryz.f116 (ashape sg_L116 x) kf:=by kernel_rfl
theorem sd_L116 {Γ : Gl} (N:Nat):Sound Γ Tryz.prog 116 (run_L116 N):=fun_ok2 (hh:=h_L116) mixed tab_ok (es:=es_L116 N) ⟨sd_L119 N,trivial⟩ (fn:=Tryz.f116) (body:=body_L116) (by kernel_rfl) (by kernel_rfl) (by kernel_rfl) (by kernel_rfl) (by kernel_rfl) (Lf:=L_L116 N) (L0_L116 N) ls_L116 (round_cons (key:=2) (ks:=ks_L116_l2) (by kernel_rfl) (by kernel_rfl) (rd_L116_2 N) trivial) (N:=N) (by kernel_rfl) (fn_L116 N) (.inl (by kernel_rfl))
noncomputable def ks_L117_l2:List Kd:=[.v (.sl tQIILIE) .k,.v (.int .i64) .k,dK,dK,dK,.v (.int .i64) .k,dK,dK,dK,dK,dK,dK,dK,dK,dK,dK,dK,dK,dK,dK,dK,dK,dK,dK,dK,dK,dK,dK,dK,dK,dK,dK,dK,dK,dK,dK,dK,dK,dK,dK]
noncomputable def ko_L117_l2_0:List Kd:=[dK,.v (.int .i64) .k,dK,dK,dK,dK,dK,dK,dK,dK,dK,dK,dK,dK,dK,dK,dK,dK,dK,dK,dK,dK,dK,dK,dK,dK,dK,dK,dK,dK,dK,dK,dK,dK,dK,dK,dK,dK,dK,dK]
noncomputable def ko_L117_l2_1:List Kd:=[dK,dK,dK,dK,.v (.int .i64) .k,dK,dK,dK,dK,dK,dK,dK,dK,dK,dK,dK,dK,dK,dK,dK,dK,dK,dK,dK,dK,dK,dK,dK,dK,dK,dK,dK,dK,dK,dK,dK,dK,dK,dK,dK]
noncomputable def h_L117:Hint:={ tab,hn:=[],loops:=[(2,ks_L117_l2)],outs:=[(2,2,ko_L117_l2_0),(2,1,ko_L117_l2_1)],ords:=[] }
noncomputable def sg_L117:List AK:=[.v (.sl tQIILIE) .k,.v (.int .i64) .k]
noncomputable def F_L117 (N:Nat) (x:AVals sg_L117) (kf:Ret→Option Ret):Option Ret:=L117 N x.1 x.2.1 (fun r0=>kf ⟨[⟨(.int .i64),.k,r0⟩],[]⟩)
noncomputable def run_L117 (N:Nat):=runOf sg_L117 (F_L117 N)
noncomputable def es_L117 (N:Nat):List Entry:=[⟨119,[.val,.val],(run_L119 N)⟩]
noncomputable def body_L117:Code:=match Tryz.f117.body with | some c=>c | none=>.skip
noncomputable def L_L117 (N n:Nat) (key:Nat) (S:St) (K:Ks):Option Ret:=bif Nat.beq key 2 then withVals ks_L117_l2 S (fun x=>L117_l2 N x.1 n (fun z0=>K (.x 0) (shape ko_L117_l2_0 (z0,()))) (fun z0=>K .r (shape ko_L117_l2_1 (z0,()))) x.2.1 x.2.2.1) else none
theorem L0_L117 (N key:Nat) (S:St) (K:Ks):L_L117 N 0 key S K=none:=(bif0 (withVals0 fun _=>rfl) rfl)
noncomputable def c_L117_0:Code:=(loopsIn body_L117).getD 0 .skip
theorem ls_L117:loopsIn body_L117=[c_L117_0]:=by kernel_rfl
theorem rd_L117_2 (N n:Nat) (x:Vals ks_L117_l2) (K:Ks):L_L117 N (n + 1) 2 (shape ks_L117_l2 x) (h_L117.onOut 2 K)=peRound h_L117 (Orc.of (es_L117 N)) (mixL (L_L117 N) N n 2) c_L117_0 (shape ks_L117_l2 x) (h_L117.onOut 2 K):=by kernel_rfl
theorem fn_L117 (N:Nat) (x:AVals sg_L117) (kf:Ret→Option Ret):F_L117 N x kf=peFunc h_L117 (Orc.of (es_L117 N)) (L_L117 N N) Tryz.f117 (ashape sg_L117 x) kf:=by kernel_rfl
theorem sd_L117 {Γ : Gl} (N:Nat):Sound Γ Tryz.prog 117 (run_L117 N):=fun_ok2 (hh:=h_L117) mixed tab_ok (es:=es_L117 N) ⟨sd_L119 N,trivial⟩ (fn:=Tryz.f117) (body:=body_L117) (by kernel_rfl) (by kernel_rfl) (by kernel_rfl) (by kernel_rfl) (by kernel_rfl) (Lf:=L_L117 N) (L0_L117 N) ls_L117 (round_cons (key:=2) (ks:=ks_L117_l2) (by kernel_rfl) (by kernel_rfl) (rd_L117_2 N) trivial) (N:=N) (by kernel_rfl) (fn_L117 N) (.inl (by kernel_rfl))
noncomputable def ks_L118_l2:List Kd:=[.v (.sl tQIIE) .k,.v (.int .i64) .k,dK,dK,dK,.v (.int .i64) .k,dK,dK,dK,dK,dK,dK,dK,dK,dK,dK,dK,dK,dK,dK,dK,dK,dK,dK,dK,dK,dK,dK,dK,dK,dK]
noncomputable def ko_L118_l2_0:List Kd:=[dK,.v (.int .i64) .k,dK,dK,dK,dK,dK,dK,dK,dK,dK,dK,dK,dK,dK,dK,dK,dK,dK,dK,dK,dK,dK,dK,dK,dK,dK,dK,dK,dK,dK]
noncomputable def ko_L118_l2_1:List Kd:=[dK,dK,dK,dK,.v (.int .i64) .k,dK,dK,dK,dK,dK,dK,dK,dK,dK,dK,dK,dK,dK,dK,dK,dK,dK,dK,dK,dK,dK,dK,dK,dK,dK,dK]
noncomputable def h_L118:Hint:={ tab,hn:=[],loops:=[(2,ks_L118_l2)],outs:=[(2,2,ko_L118_l2_0),(2,1,ko_L118_l2_1)],ords:=[] }
noncomputable def sg_L118:List AK:=[.v (.sl tQIIE) .k,.v (.int .i64) .k]
noncomputable def F_L118 (N:Nat) (x:AVals sg_L118) (kf:Ret→Option Ret):Option Ret:=L118 N x.1 x.2.1 (fun r0=>kf ⟨[⟨(.int .i64),.k,r0⟩],[]⟩)
noncomputable def run_L118 (N:Nat):=runOf sg_L118 (F_L118 N)
noncomputable def es_L118 (N:Nat):List Entry:=[]
noncomputable def body_L118:Code:=match Tryz.f118.body with | some c=>c | none=>.skip
noncomputable def L_L118 (N n:Nat) (key:Nat) (S:St) (K:Ks):Option Ret:=bif Nat.beq key 2 then withVals ks_L118_l2 S (fun x=>L118_l2 x.1 n (fun z0=>K (.x 0) (shape ko_L118_l2_0 (z0,()))) (fun z0=>K .r (shape ko_L118_l2_1 (z0,()))) x.2.1 x.2.2.1) else none
theorem L0_L118 (N key:Nat) (S:St) (K:Ks):L_L118 N 0 key S K=none:=(bif0 (withVals0 fun _=>rfl) rfl)
noncomputable def c_L118_0:Code:=(loopsIn body_L118).getD 0 .skip
theorem ls_L118:loopsIn body_L118=[c_L118_0]:=by kernel_rfl
theorem rd_L118_2 (N n:Nat) (x:Vals ks_L118_l2) (K:Ks):L_L118 N (n + 1) 2 (shape ks_L118_l2 x) (h_L118.onOut 2 K)=peRound h_L118 (Orc.of (es_L118 N)) (mixL (L_L118 N) N n 2) c_L118_0 (shape ks_L118_l2 x) (h_L118.onOut 2 K):=by kernel_rfl
theorem fn_L118 (N:Nat) (x:AVals sg_L118) (kf:Ret→Option Ret):F_L118 N x kf=peFunc h_L118 (Orc.of (es_L118 N)) (L_L118 N N) Tryz.f118 (ashape sg_L118 x) kf:=by kernel_rfl
theorem sd_L118 {Γ : Gl} (N:Nat):Sound Γ Tryz.prog 118 (run_L118 N):=fun_ok2 (hh:=h_L118) mixed tab_ok (es:=es_L118 N) trivial (fn:=Tryz.f118) (body:=body_L118) (by kernel_rfl) (by kernel_rfl) (by kernel_rfl) (by kernel_rfl) (by kernel_rfl) (Lf:=L_L118 N) (L0_L118 N) ls_L118 (round_cons (key:=2) (ks:=ks_L118_l2) (by kernel_rfl) (by kernel_rfl) (rd_L118_2 N) trivial) (N:=N) (by kernel_rfl) (fn_L118 N) (.inl (by kernel_rfl))
noncomputable def ks_L120_l2:List Kd:=[.v (.sl tQIIIE) .k,.v (.int .i64) .k,dK,dK,dK,.v (.int .i64) .k,dK,dK,dK,dK,dK,dK,dK,dK,dK,dK,dK,dK,dK,dK,dK,dK,dK,dK,dK,dK,dK,dK,dK,dK,dK,dK,dK,dK,dK,dK,dK,dK,dK,dK]
noncomputable def ko_L120_l2_0:List Kd:=[dK,.v (.int .i64) .k,dK,dK,dK,dK,dK,dK,dK,dK,dK,dK,dK,dK,dK,dK,dK,dK,dK,dK,dK,dK,dK,dK,dK,dK,dK,dK,dK,dK,dK,dK,dK,dK,dK,dK,dK,dK,dK,dK]
noncomputable def ko_L120_l2_1:List Kd:=[dK,dK,dK,dK,.v (.int .i64) .k,dK,dK,dK,dK,dK,dK,dK,dK,dK,dK,dK,dK,dK,dK,dK,dK,dK,dK,dK,dK,dK,dK,dK,dK,dK,dK,dK,dK,dK,dK,dK,dK,dK,dK,dK]
noncomputable def h_L120:Hint:={ tab,hn:=[],loops:=[(2,ks_L120_l2)],outs:=[(2,2,ko_L120_l2_0),(2,1,ko_L120_l2_1)],ords:=[] }
noncomputable def sg_L120:List AK:=[.v (.sl tQIIIE) .k,.v (.int .i64) .k]
noncomputable def F_L120 (N:Nat) (x:AVals sg_L120) (kf:Ret→Option Ret):Option Ret:=L120 N x.1 x.2.1 (fun r0=>kf ⟨[⟨(.int .i64),.k,r0⟩],[]⟩)
noncomputable def run_L120 (N:Nat):=runOf sg_L120 (F_L120 N)
noncomputable def es_L120 (N:Nat):List Entry:=[]
noncomputable def body_L120:Code:=match Tryz.f120.body with | some c=>c | none=>.skip
noncomputable def L_L120 (N n:Nat) (key:Nat) (S:St) (K:Ks):Option Ret:=bif Nat.beq key 2 then withVals ks_L120_l2 S (fun x=>L120_l2 x.1 n (fun z0=>K (.x 0) (shape ko_L120_l2_0 (z0,()))) (fun z0=>K .r (shape ko_L120_l2_1 (z0,()))) x.2.1 x.2.2.1) else none
theorem L0_L120 (N key:Nat) (S:St) (K:Ks):L_L120 N 0 key S K=none:=(bif0 (withVals0 fun _=>rfl) rfl)
noncomputable def c_L120_0:Code:=(loopsIn body_L120).getD 0 .skip
theorem ls_L120:loopsIn body_L120=[c_L120_0]:=by kernel_rfl
theorem rd_L120_2 (N n:Nat) (x:Vals ks_L120_l2) (K:Ks):L_L120 N (n + 1) 2 (shape ks_L120_l2 x) (h_L120.onOut 2 K)=peRound h_L120 (Orc.of (es_L120 N)) (mixL (L_L120 N) N n 2) c_L120_0 (shape ks_L120_l2 x) (h_L120.onOut 2 K):=by kernel_rfl
theorem fn_L120 (N:Nat) (x:AVals sg_L120) (kf:Ret→Option Ret):F_L120 N x kf=peFunc h_L120 (Orc.of (es_L120 N)) (L_L120 N N) Tryz.f120 (ashape sg_L120 x) kf:=by kernel_rfl
theorem sd_L120 {Γ : Gl} (N:Nat):Sound Γ Tryz.prog 120 (run_L120 N):=fun_ok2 (hh:=h_L120) mixed tab_ok (es:=es_L120 N) trivial (fn:=Tryz.f120) (body:=body_L120) (by kernel_rfl) (by kernel_rfl) (by kernel_rfl) (by kernel_rfl) (by kernel_rfl) (Lf:=L_L120 N) (L0_L120 N) ls_L120 (round_cons (key:=2) (ks:=ks_L120_l2) (by kernel_rfl) (by kernel_rfl) (rd_L120_2 N) trivial) (N:=N) (by kernel_rfl) (fn_L120 N) (.inl (by kernel_rfl))
noncomputable def ks_L121_l2:List Kd:=[.v (.sl tQIIIIE) .k,.v (.int .i64) .k,dK,dK,dK,.v (.int .i64) .k,dK,dK,dK,dK,dK,dK,dK,dK,dK,dK,dK,dK,dK,dK,dK,dK,dK,dK,dK,dK,dK,dK,dK,dK,dK,dK,dK,dK,dK,dK,dK,dK,dK,dK,dK,dK,dK,dK,dK,dK,dK,dK,dK]
noncomputable def ko_L121_l2_0:List Kd:=[dK,.v (.int .i64) .k,dK,dK,dK,dK,dK,dK,dK,dK,dK,dK,dK,dK,dK,dK,dK,dK,dK,dK,dK,dK,dK,dK,dK,dK,dK,dK,dK,dK,dK,dK,dK,dK,dK,dK,dK,dK,dK,dK,dK,dK,dK,dK,dK,dK,dK,dK,dK]
noncomputable def ko_L121_l2_1:List Kd:=[dK,dK,dK,dK,.v (.int .i64) .k,dK,dK,dK,dK,dK,dK,dK,dK,dK,dK,dK,dK,dK,dK,dK,dK,dK,dK,dK,dK,dK,dK,dK,dK,dK,dK,dK,dK,dK,dK,dK,dK,dK,dK,dK,dK,dK,dK,dK,dK,dK,dK,dK,dK]
noncomputable def h_L121:Hint:={ tab,hn:=[],loops:=[(2,ks_L121_l2)],outs:=[(2,2,ko_L121_l2_0),(2,1,ko_L121_l2_1)],ords:=[] }
noncomputable def sg_L121:List AK:=[.v (.sl tQIIIIE) .k,.v (.int .i64) .k]
noncomputable def F_L121 (N:Nat) (x:AVals sg_L121) (kf:Ret→Option Ret):Option Ret:=L121 N x.1 x.2.1 (fun r0=>kf ⟨[⟨(.int .i64),.k,r0⟩],[]⟩)
noncomputable def run_L121 (N:Nat):=runOf sg_L121 (F_L121 N)
noncomputable def es_L121 (N:Nat):List Entry:=[]
noncomputable def body_L121:Code:=match Tryz.f121.body with | some c=>c | none=>.skip
noncomputable def L_L121 (N n:Nat) (key:Nat) (S:St) (K:Ks):Option Ret:=bif Nat.beq key 2 then withVals ks_L121_l2 S (fun x=>L121_l2 x.1 n (fun z0=>K (.x 0) (shape ko_L121_l2_0 (z0,()))) (fun z0=>K .r (shape ko_L121_l2_1 (z0,()))) x.2.1 x.2.2.1) else none
theorem L0_L121 (N key:Nat) (S:St) (K:Ks):L_L121 N 0 key S K=none:=(bif0 (withVals0 fun _=>rfl) rfl)
noncomputable def c_L121_0:Code:=(loopsIn body_L121).getD 0 .skip
theorem ls_L121:loopsIn body_L121=[c_L121_0]:=by kernel_rfl
theorem rd_L121_2 (N n:Nat) (x:Vals ks_L121_l2) (K:Ks):L_L121 N (n + 1) 2 (shape ks_L121_l2 x) (h_L121.onOut 2 K)=peRound h_L121 (Orc.of (es_L121 N)) (mixL (L_L121 N) N n 2) c_L121_0 (shape ks_L121_l2 x) (h_L121.onOut 2 K):=by kernel_rfl
theorem fn_L121 (N:Nat) (x:AVals sg_L121) (kf:Ret→Option Ret):F_L121 N x kf=peFunc h_L121 (Orc.of (es_L121 N)) (L_L121 N N) Tryz.f121 (ashape sg_L121 x) kf:=by kernel_rfl
theorem sd_L121 {Γ : Gl} (N:Nat):Sound Γ Tryz.prog 121 (run_L121 N):=fun_ok2 (hh:=h_L121) mixed tab_ok (es:=es_L121 N) trivial (fn:=Tryz.f121) (body:=body_L121) (by kernel_rfl) (by kernel_rfl) (by kernel_rfl) (by kernel_rfl) (by kernel_rfl) (Lf:=L_L121 N) (L0_L121 N) ls_L121 (round_cons (key:=2) (ks:=ks_L121_l2) (by kernel_rfl) (by kernel_rfl) (rd_L121_2 N) trivial) (N:=N) (by kernel_rfl) (fn_L121 N) (.inl (by kernel_rfl))
noncomputable def h_L26:Hint:={ tab,hn:=[],loops:=[],outs:=[],ords:=[] }
noncomputable def sg_L26:List AK:=[.v tQLQIIIIILIELQIILIELQIIELILQIIIELQIIIIEIE .k,.v (.int .i64) .k]
noncomputable def F_L26 (N:Nat) (x:AVals sg_L26) (kf:Ret→Option Ret):Option Ret:=L26 N x.1 x.2.1 (fun r0=>kf ⟨[⟨(.int .i64),.k,r0⟩],[]⟩)
noncomputable def run_L26 (N:Nat):=runOf sg_L26 (F_L26 N)
noncomputable def es_L26 (N:Nat):List Entry:=[⟨116,[.val,.val],(run_L116 N)⟩,⟨117,[.val,.val],(run_L117 N)⟩,⟨118,[.val,.val],(run_L118 N)⟩,⟨119,[.val,.val],(run_L119 N)⟩,⟨120,[.val,.val],(run_L120 N)⟩,⟨121,[.val,.val],(run_L121 N)⟩]
noncomputable def body_L26:Code:=match Tryz.f26.body with | some c=>c | none=>.skip
theorem ls_L26:loopsIn body_L26=[]:=by kernel_rfl
theorem fn_L26 (N:Nat) (x:AVals sg_L26) (kf:Ret→Option Ret):F_L26 N x kf=peFunc h_L26 (Orc.of (es_L26 N)) (noL N N) Tryz.f26 (ashape sg_L26 x) kf:=by kernel_rfl
theorem sd_L26 {Γ : Gl} (N:Nat):Sound Γ Tryz.prog 26 (run_L26 N):=fun_ok2 (hh:=h_L26) mixed tab_ok (es:=es_L26 N) ⟨sd_L116 N,⟨sd_L117 N,⟨sd_L118 N,⟨sd_L119 N,⟨sd_L120 N,⟨sd_L121 N,trivial⟩⟩⟩⟩⟩⟩ (fn:=Tryz.f26) (body:=body_L26) (by kernel_rfl) (by kernel_rfl) (by kernel_rfl) (by kernel_rfl) (by kernel_rfl) (Lf:=noL N) (noL0 N) ls_L26 trivial (N:=N) (by kernel_rfl) (fn_L26 N) (.inl (by kernel_rfl))
noncomputable def h_L4:Hint:={ tab,hn:=[],loops:=[],outs:=[],ords:=[(10,(OT.seq [0,1,2,3,4] .done))] }
noncomputable def sg_L4:List AK:=[.v tQLQIIIIILIELQIILIELQIIELILQIIIELQIIIIEIE .k]
noncomputable def F_L4 (N:Nat) (x:AVals sg_L4) (kf:Ret→Option Ret):Option Ret:=L4 N x.1 (fun r0=>kf ⟨[⟨.bool,.k,r0⟩],[]⟩)
noncomputable def run_L4 (N:Nat):=runOf sg_L4 (F_L4 N)
noncomputable def es_L4 (N:Nat):List Entry:=[⟨20,[.val,.val],(run_L20 N)⟩,⟨22,[.val],(run_L22 N)⟩,⟨21,[.val],(run_S21 N)⟩,⟨23,[.val],(run_I23 N)⟩,⟨24,[.val,.val],(run_L24 N)⟩,⟨25,[.lend,.val],(run_L25 N)⟩,⟨26,[.val,.val],(run_L26 N)⟩]
noncomputable def body_L4:Code:=match Tryz.f4.body with | some c=>c | none=>.skip
theorem ls_L4:loopsIn body_L4=[]:=by kernel_rfl
theorem fn_L4 (N:Nat) (x:AVals sg_L4) (kf:Ret→Option Ret):F_L4 N x kf=peFunc h_L4 (Orc.of (es_L4 N)) (noL N N) Tryz.f4 (ashape sg_L4 x) kf:=by kernel_rfl
theorem sd_L4 {Γ : Gl} (N:Nat):Sound Γ Tryz.prog 4 (run_L4 N):=fun_ok2 (hh:=h_L4) mixed tab_ok (es:=es_L4 N) ⟨sd_L20 N,⟨sd_L22 N,⟨sd_S21 N,⟨sd_I23 N,⟨sd_L24 N,⟨sd_L25 N,⟨sd_L26 N,trivial⟩⟩⟩⟩⟩⟩⟩ (fn:=Tryz.f4) (body:=body_L4) (by kernel_rfl) (by kernel_rfl) (by kernel_rfl) (by kernel_rfl) (by kernel_rfl) (Lf:=noL N) (noL0 N) ls_L4 trivial (N:=N) (by kernel_rfl) (fn_L4 N) (.inl (by kernel_rfl))
end Go.Pv.R
