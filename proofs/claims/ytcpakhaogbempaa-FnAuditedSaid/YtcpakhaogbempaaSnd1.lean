/- Each function of the program that the law reaches computes its plain function, part 1. -/
import Derived.Test.YtcpakhaogbempaaSnd0
import Derived.Test.YtcpakhaogbempaaProg
namespace Go.Pv.R
open Go.Proofs
set_option linter.unusedVariables false
set_option maxRecDepth 100000
noncomputable def ks_S113_l6:List Kd:=[.v (.sl tQIIIIILIE) .k,dK,dK,.v (.sl tQIIIIILIE) (.o 54 none .k),.v (.int .i64) .k,.v (.int .i64) .k,dK,dK,dK,dK,dK,dK,dK,dK,dK,dK,dK,dK,dK,dK,dK,dK,dK,dK,dK,dK,dK,dK,dK,dK,dK,dK,dK,dK,dK,dK,dK,dK,dK,dK,dK,dK,dK,dK,dK,dK,dK,dK,dK,dK,dK,dK,dK,dK,dK,dK,dK,dK,dK,dK,dK,dK,dK,dK,dK,dK,dK,dK]
noncomputable def ko_S113_l6_0:List Kd:=[.v (.sl tQIIIIILIE) .k,dK,dK,.v (.sl tQIIIIILIE) (.o 54 none .k),.v (.int .i64) .k,.v (.int .i64) .k,dK,dK,dK,dK,dK,dK,dK,dK,dK,dK,dK,dK,dK,dK,dK,dK,dK,dK,dK,dK,dK,dK,dK,dK,dK,dK,dK,dK,dK,dK,dK,dK,dK,dK,dK,dK,dK,dK,dK,dK,dK,dK,dK,dK,dK,dK,dK,dK,dK,dK,dK,dK,dK,dK,dK,dK,dK,dK,dK,dK,dK,dK]
noncomputable def ks_S113_l3:List Kd:=[.v (.sl tQIIIIILIE) .k,dK,dK,.v (.sl tQIIIIILIE) (.o 54 none .k),.v (.int .i64) .k,dK,dK,dK,dK,dK,dK,dK,dK,dK,dK,dK,dK,dK,dK,dK,dK,dK,dK,dK,dK,dK,dK,dK,dK,dK,dK,dK,dK,dK,dK,dK,dK,dK,dK,dK,dK,dK,dK,dK,dK,dK,dK,dK,dK,dK,dK,dK,dK,dK,dK,dK,dK,dK,dK,dK,dK,dK,dK,dK,dK,dK,dK,dK]
noncomputable def ko_S113_l3_0:List Kd:=[dK,dK,dK,.v (.sl tQIIIIILIE) (.o 54 none .k),dK,dK,dK,dK,dK,dK,dK,dK,dK,dK,dK,dK,dK,dK,dK,dK,dK,dK,dK,dK,dK,dK,dK,dK,dK,dK,dK,dK,dK,dK,dK,dK,dK,dK,dK,dK,dK,dK,dK,dK,dK,dK,dK,dK,dK,dK,dK,dK,dK,dK,dK,dK,dK,dK,dK,dK,dK,dK,dK,dK,dK,dK,dK,dK]
noncomputable def ks_S113_l11:List Kd:=[dK,dK,dK,.v (.sl tQIIIIILIE) (.o 54 none .k),dK,dK,.v (.sl (.int .i64)) (.o 3 none .k),.v (.int .i64) .k,dK,dK,dK,dK,dK,dK,dK,dK,dK,dK,dK,dK,dK,dK,dK,dK,dK,dK,dK,dK,dK,dK,dK,dK,dK,dK,dK,dK,dK,dK,dK,dK,dK,dK,dK,dK,dK,dK,dK,dK,dK,dK,dK,dK,dK,dK,dK,dK,dK,dK,dK,dK,dK,dK,dK,dK,dK,dK,dK,dK]
noncomputable def ko_S113_l11_0:List Kd:=[dK,dK,dK,dK,dK,dK,.v (.sl (.int .i64)) (.o 3 none .k),dK,dK,dK,dK,dK,dK,dK,dK,dK,dK,dK,dK,dK,dK,dK,dK,dK,dK,dK,dK,dK,dK,dK,dK,dK,dK,dK,dK,dK,dK,dK,dK,dK,dK,dK,dK,dK,dK,dK,dK,dK,dK,dK,dK,dK,dK,dK,dK,dK,dK,dK,dK,dK,dK,dK,dK,dK,dK,dK,dK,dK]
noncomputable def h_S113:Hint:={ tab,hn:=[],loops:=[(6,ks_S113_l6),(3,ks_S113_l3),(11,ks_S113_l11)],outs:=[(6,4,ko_S113_l6_0),(3,2,ko_S113_l3_0),(11,6,ko_S113_l11_0)],ords:=[(6,(OT.seq [0,1,2,3,4,5,6,7,8,9,10,11,12,13] .done)),(8,(OT.seq [1,2,3,5,6,7,11,12,13] (.par [0,4,8,9] [[44,45,46]] (OT.seq [10,14,15] .done))))] }
noncomputable def sg_S113:List AK:=[.v (.sl tQIIIIILIE) .k]
noncomputable def F_S113 (N:Nat) (x:AVals sg_S113) (kf:Ret→Option Ret):Option Ret:=S113 N x.1 (fun r0=>kf ⟨[⟨(.sl (.int .i64)),(.o 3 none .k),r0⟩],[]⟩)
noncomputable def run_S113 (N:Nat):=runOf sg_S113 (F_S113 N)
noncomputable def es_S113 (N:Nat):List Entry:=[⟨111,[.val],(run_S111 N)⟩,⟨135,[.val,.val],(run_S135 N)⟩]
noncomputable def body_S113:Code:=match Try.f113.body with | some c=>c | none=>.skip
noncomputable def L_S113 (N n:Nat) (key:Nat) (S:St) (K:Ks):Option Ret:=bif Nat.beq key 3 then withVals ks_S113_l3 S (fun x=>S113_l3 N x.1 n (fun z0=>K (.x 0) (shape ko_S113_l3_0 (z0,()))) x.2.1 x.2.2.1) else bif Nat.beq key 6 then withVals ks_S113_l6 S (fun x=>S113_l6 N x.1 x.2.1 x.2.2.1 n (fun z0=>K (.x 2) (shape ko_S113_l6_0 (x.1,x.2.1,x.2.2.1,z0,()))) x.2.2.2.1) else bif Nat.beq key 11 then withVals ks_S113_l11 S (fun x=>S113_l11 x.1 n (fun z0=>K (.x 4) (shape ko_S113_l11_0 (z0,()))) x.2.1 x.2.2.1) else none
theorem L0_S113 (N key:Nat) (S:St) (K:Ks):L_S113 N 0 key S K=none:=(bif0 (withVals0 fun _=>rfl) (bif0 (withVals0 fun _=>rfl) (bif0 (withVals0 fun _=>rfl) rfl)))
noncomputable def c_S113_0:Code:=(loopsIn body_S113).getD 0 .skip
noncomputable def c_S113_1:Code:=(loopsIn body_S113).getD 1 .skip
noncomputable def c_S113_2:Code:=(loopsIn body_S113).getD 2 .skip
theorem ls_S113:loopsIn body_S113=[c_S113_0,c_S113_1,c_S113_2]:=by kernel_rfl
theorem rd_S113_11 (N n:Nat) (x:Vals ks_S113_l11) (K:Ks):L_S113 N (n + 1) 11 (shape ks_S113_l11 x) (h_S113.onOut 11 K)=peRound h_S113 (Orc.of (es_S113 N)) (mixL (L_S113 N) N n 11) c_S113_2 (shape ks_S113_l11 x) (h_S113.onOut 11 K):=by kernel_rfl
theorem rd_S113_6 (N n:Nat) (x:Vals ks_S113_l6) (K:Ks):L_S113 N (n + 1) 6 (shape ks_S113_l6 x) (h_S113.onOut 6 K)=peRound h_S113 (Orc.of (es_S113 N)) (mixL (L_S113 N) N n 6) c_S113_1 (shape ks_S113_l6 x) (h_S113.onOut 6 K):=by kernel_rfl
theorem rd_S113_3 (N n:Nat) (x:Vals ks_S113_l3) (K:Ks):L_S113 N (n + 1) 3 (shape ks_S113_l3 x) (h_S113.onOut 3 K)=peRound h_S113 (Orc.of (es_S113 N)) (mixL (L_S113 N) N n 3) c_S113_0 (shape ks_S113_l3 x) (h_S113.onOut 3 K):=by kernel_rfl
theorem fn_S113 (N:Nat) (x:AVals sg_S113) (kf:Ret→Option Ret):F_S113 N x kf=peFunc h_S113 (Orc.of (es_S113 N)) (L_S113 N N) Try.f113 (ashape sg_S113 x) kf:=by kernel_rfl
theorem sd_S113 {Γ : Gl} (N:Nat):Sound Γ Try.prog 113 (run_S113 N):=fun_ok2 (hh:=h_S113) mixed tab_ok (es:=es_S113 N) ⟨sd_S111 N,⟨sd_S135 N,trivial⟩⟩ (fn:=Try.f113) (body:=body_S113) (by kernel_rfl) (by kernel_rfl) (by kernel_rfl) (by kernel_rfl) (by kernel_rfl) (Lf:=L_S113 N) (L0_S113 N) ls_S113 (round_cons (key:=3) (ks:=ks_S113_l3) (by kernel_rfl) (by kernel_rfl) (rd_S113_3 N) (round_cons (key:=6) (ks:=ks_S113_l6) (by kernel_rfl) (by kernel_rfl) (rd_S113_6 N) (round_cons (key:=11) (ks:=ks_S113_l11) (by kernel_rfl) (by kernel_rfl) (rd_S113_11 N) trivial))) (N:=N) (by kernel_rfl) (fn_S113 N) (.inl (by kernel_rfl))
noncomputable def ks_S118_l2:List Kd:=[.v (.sl (.int .i64)) .k,.v (.int .i64) .k,dK,dK,dK,.v (.int .i64) .k,dK,dK,dK,dK,dK,dK,dK,dK,dK,dK,dK,dK]
noncomputable def ko_S118_l2_0:List Kd:=[dK,dK,dK,dK,dK,dK,dK,dK,dK,dK,dK,dK,dK,dK,dK,dK,dK,dK]
noncomputable def ko_S118_l2_1:List Kd:=[dK,dK,dK,dK,.v .bool .k,dK,dK,dK,dK,dK,dK,dK,dK,dK,dK,dK,dK,dK]
noncomputable def h_S118:Hint:={ tab,hn:=[],loops:=[(2,ks_S118_l2)],outs:=[(2,2,ko_S118_l2_0),(2,1,ko_S118_l2_1)],ords:=[] }
noncomputable def sg_S118:List AK:=[.v (.sl (.int .i64)) .k,.v (.int .i64) .k]
noncomputable def F_S118 (N:Nat) (x:AVals sg_S118) (kf:Ret→Option Ret):Option Ret:=S118 N x.1 x.2.1 (fun r0=>kf ⟨[⟨.bool,.k,r0⟩],[]⟩)
noncomputable def run_S118 (N:Nat):=runOf sg_S118 (F_S118 N)
noncomputable def es_S118 (N:Nat):List Entry:=[]
noncomputable def body_S118:Code:=match Try.f118.body with | some c=>c | none=>.skip
noncomputable def L_S118 (N n:Nat) (key:Nat) (S:St) (K:Ks):Option Ret:=bif Nat.beq key 2 then withVals ks_S118_l2 S (fun x=>S118_l2 x.1 x.2.1 n (K (.x 0) (shape ko_S118_l2_0 ())) (fun z0=>K .r (shape ko_S118_l2_1 (z0,()))) x.2.2.1) else none
theorem L0_S118 (N key:Nat) (S:St) (K:Ks):L_S118 N 0 key S K=none:=(bif0 (withVals0 fun _=>rfl) rfl)
noncomputable def c_S118_0:Code:=(loopsIn body_S118).getD 0 .skip
theorem ls_S118:loopsIn body_S118=[c_S118_0]:=by kernel_rfl
theorem rd_S118_2 (N n:Nat) (x:Vals ks_S118_l2) (K:Ks):L_S118 N (n + 1) 2 (shape ks_S118_l2 x) (h_S118.onOut 2 K)=peRound h_S118 (Orc.of (es_S118 N)) (mixL (L_S118 N) N n 2) c_S118_0 (shape ks_S118_l2 x) (h_S118.onOut 2 K):=by kernel_rfl
theorem fn_S118 (N:Nat) (x:AVals sg_S118) (kf:Ret→Option Ret):F_S118 N x kf=peFunc h_S118 (Orc.of (es_S118 N)) (L_S118 N N) Try.f118 (ashape sg_S118 x) kf:=by kernel_rfl
theorem sd_S118 {Γ : Gl} (N:Nat):Sound Γ Try.prog 118 (run_S118 N):=fun_ok2 (hh:=h_S118) mixed tab_ok (es:=es_S118 N) trivial (fn:=Try.f118) (body:=body_S118) (by kernel_rfl) (by kernel_rfl) (by kernel_rfl) (by kernel_rfl) (by kernel_rfl) (Lf:=L_S118 N) (L0_S118 N) ls_S118 (round_cons (key:=2) (ks:=ks_S118_l2) (by kernel_rfl) (by kernel_rfl) (rd_S118_2 N) trivial) (N:=N) (by kernel_rfl) (fn_S118 N) (.inl (by kernel_rfl))
noncomputable def h_S154:Hint:={ tab,hn:=[],loops:=[],outs:=[],ords:=[] }
noncomputable def sg_S154:List AK:=[.v (.sl tQIIIIILIE) .k,.v (.int .i64) .k,.v (.int .i64) .k]
noncomputable def F_S154 (N:Nat) (x:AVals sg_S154) (kf:Ret→Option Ret):Option Ret:=S154 N x.1 x.2.1 x.2.2.1 (fun r0=>kf ⟨[⟨.bool,.k,r0⟩],[]⟩)
noncomputable def run_S154 (N:Nat):=runOf sg_S154 (F_S154 N)
noncomputable def es_S154 (N:Nat):List Entry:=[⟨131,[.val,.val],(run_S131 N)⟩,⟨118,[.val,.val],(run_S118 N)⟩]
noncomputable def body_S154:Code:=match Try.f154.body with | some c=>c | none=>.skip
theorem ls_S154:loopsIn body_S154=[]:=by kernel_rfl
theorem fn_S154 (N:Nat) (x:AVals sg_S154) (kf:Ret→Option Ret):F_S154 N x kf=peFunc h_S154 (Orc.of (es_S154 N)) (noL N N) Try.f154 (ashape sg_S154 x) kf:=by kernel_rfl
theorem sd_S154 {Γ : Gl} (N:Nat):Sound Γ Try.prog 154 (run_S154 N):=fun_ok2 (hh:=h_S154) mixed tab_ok (es:=es_S154 N) ⟨sd_S131 N,⟨sd_S118 N,trivial⟩⟩ (fn:=Try.f154) (body:=body_S154) (by kernel_rfl) (by kernel_rfl) (by kernel_rfl) (by kernel_rfl) (by kernel_rfl) (Lf:=noL N) (noL0 N) ls_S154 trivial (N:=N) (by kernel_rfl) (fn_S154 N) (.inl (by kernel_rfl))
noncomputable def h_S133:Hint:={ tab,hn:=[],loops:=[],outs:=[],ords:=[(3,(OT.seq [0,1,2,3,4,5,6,7,8,9,10,11,12,13,14,15,16,17,18,19,20,21,22,23,24,25,26,27,28,29,30,31,32,33,34,35] .done))] }
noncomputable def sg_S133:List AK:=[.v (.sl tQIIIIILIE) .k,.v (.int .i64) .k,.v (.int .i64) .k]
noncomputable def F_S133 (N:Nat) (x:AVals sg_S133) (kf:Ret→Option Ret):Option Ret:=S133 N x.1 x.2.1 x.2.2.1 (fun r0=>kf ⟨[⟨.bool,.k,r0⟩],[]⟩)
noncomputable def run_S133 (N:Nat):=runOf sg_S133 (F_S133 N)
noncomputable def es_S133 (N:Nat):List Entry:=[⟨131,[.val,.val],(run_S131 N)⟩,⟨111,[.val],(run_S111 N)⟩,⟨154,[.val,.val,.val],(run_S154 N)⟩]
noncomputable def body_S133:Code:=match Try.f133.body with | some c=>c | none=>.skip
theorem ls_S133:loopsIn body_S133=[]:=by kernel_rfl
theorem fn_S133 (N:Nat) (x:AVals sg_S133) (kf:Ret→Option Ret):F_S133 N x kf=peFunc h_S133 (Orc.of (es_S133 N)) (noL N N) Try.f133 (ashape sg_S133 x) kf:=by kernel_rfl
theorem sd_S133 {Γ : Gl} (N:Nat):Sound Γ Try.prog 133 (run_S133 N):=fun_ok2 (hh:=h_S133) mixed tab_ok (es:=es_S133 N) ⟨sd_S131 N,⟨sd_S111 N,⟨sd_S154 N,trivial⟩⟩⟩ (fn:=Try.f133) (body:=body_S133) (by kernel_rfl) (by kernel_rfl) (by kernel_rfl) (by kernel_rfl) (by kernel_rfl) (Lf:=noL N) (noL0 N) ls_S133 trivial (N:=N) (by kernel_rfl) (fn_S133 N) (.inl (by kernel_rfl))
noncomputable def h_S134:Hint:={ tab,hn:=[],loops:=[],outs:=[],ords:=[(5,(OT.seq [0,1,2,3,4,5,6,7,8,9,10,11,12,13,14,15,16,17,18,19,20,21,22,23,24,25,26,27,28,29,30,31,32,33,34] .done))] }
noncomputable def sg_S134:List AK:=[.v (.sl tQIIIIILIE) .k,.v (.int .i64) .k,.v (.int .i64) .k]
noncomputable def F_S134 (N:Nat) (x:AVals sg_S134) (kf:Ret→Option Ret):Option Ret:=S134 N x.1 x.2.1 x.2.2.1 (fun r0=>kf ⟨[⟨tQIIE,.k,r0⟩],[]⟩)
noncomputable def run_S134 (N:Nat):=runOf sg_S134 (F_S134 N)
noncomputable def es_S134 (N:Nat):List Entry:=[⟨131,[.val,.val],(run_S131 N)⟩,⟨111,[.val],(run_S111 N)⟩,⟨135,[.val,.val],(run_S135 N)⟩]
noncomputable def body_S134:Code:=match Try.f134.body with | some c=>c | none=>.skip
theorem ls_S134:loopsIn body_S134=[]:=by kernel_rfl
theorem fn_S134 (N:Nat) (x:AVals sg_S134) (kf:Ret→Option Ret):F_S134 N x kf=peFunc h_S134 (Orc.of (es_S134 N)) (noL N N) Try.f134 (ashape sg_S134 x) kf:=by kernel_rfl
theorem sd_S134 {Γ : Gl} (N:Nat):Sound Γ Try.prog 134 (run_S134 N):=fun_ok2 (hh:=h_S134) mixed tab_ok (es:=es_S134 N) ⟨sd_S131 N,⟨sd_S111 N,⟨sd_S135 N,trivial⟩⟩⟩ (fn:=Try.f134) (body:=body_S134) (by kernel_rfl) (by kernel_rfl) (by kernel_rfl) (by kernel_rfl) (by kernel_rfl) (Lf:=noL N) (noL0 N) ls_S134 trivial (N:=N) (by kernel_rfl) (fn_S134 N) (.inl (by kernel_rfl))
noncomputable def ks_S112_l4:List Kd:=[.v (.sl tQIIIIILIE) .k,.v (.sl (.int .i64)) .k,dK,dK,dK,dK,.v (.int .i64) .k,dK,dK,dK,dK,dK,dK,dK,dK,dK,dK,dK,dK,dK,dK,dK,dK,dK,dK,dK,dK,dK,dK,dK,dK,dK,dK,dK,dK,dK,dK,dK,dK,dK,dK,dK,dK,dK,dK,dK,dK,dK,dK,dK,dK,dK,dK,dK,dK,dK,dK,dK,dK,dK]
noncomputable def ko_S112_l4_0:List Kd:=[dK,dK,dK,dK,dK,dK,dK,dK,dK,dK,dK,dK,dK,dK,dK,dK,dK,dK,dK,dK,dK,dK,dK,dK,dK,dK,dK,dK,dK,dK,dK,dK,dK,dK,dK,dK,dK,dK,dK,dK,dK,dK,dK,dK,dK,dK,dK,dK,dK,dK,dK,dK,dK,dK,dK,dK,dK,dK,dK,dK]
noncomputable def ko_S112_l4_1:List Kd:=[dK,dK,dK,dK,.v (.sl tQIIE) (.o 89 none .k),.v .bool .k,dK,dK,dK,dK,dK,dK,dK,dK,dK,dK,dK,dK,dK,dK,dK,dK,dK,dK,dK,dK,dK,dK,dK,dK,dK,dK,dK,dK,dK,dK,dK,dK,dK,dK,dK,dK,dK,dK,dK,dK,dK,dK,dK,dK,dK,dK,dK,dK,dK,dK,dK,dK,dK,dK]
noncomputable def h_S112:Hint:={ tab,hn:=[],loops:=[(4,ks_S112_l4)],outs:=[(4,2,ko_S112_l4_0),(4,1,ko_S112_l4_1)],ords:=[(6,(OT.seq [0,1,2,3,4,5,6,7,8,9] .done)),(7,(OT.seq [1,2,3,5,6,7,8,0,4,9,10] .done)),(10,(OT.seq [0,1,2,3,4,5,6,7,10,8,9,11,12,13] .done))] }
noncomputable def sg_S112:List AK:=[.v (.sl tQIIIIILIE) .k,.v (.sl (.int .i64)) .k]
noncomputable def F_S112 (N:Nat) (x:AVals sg_S112) (kf:Ret→Option Ret):Option Ret:=S112 N x.1 x.2.1 (fun r0 r1=>kf ⟨[⟨(.sl tQIIE),(.o 89 none .k),r0⟩,⟨.bool,.k,r1⟩],[]⟩)
noncomputable def run_S112 (N:Nat):=runOf sg_S112 (F_S112 N)
noncomputable def es_S112 (N:Nat):List Entry:=[⟨133,[.val,.val,.val],(run_S133 N)⟩,⟨134,[.val,.val,.val],(run_S134 N)⟩,⟨112,[.val,.val],(run_S112 N)⟩]
noncomputable def body_S112:Code:=match Try.f112.body with | some c=>c | none=>.skip
noncomputable def L_S112 (N n:Nat) (key:Nat) (S:St) (K:Ks):Option Ret:=bif Nat.beq key 4 then withVals ks_S112_l4 S (fun x=>S112_l4 N (S112 N) x.1 x.2.1 n (K (.x 0) (shape ko_S112_l4_0 ())) (fun z0 z1=>K .r (shape ko_S112_l4_1 (z0,z1,()))) x.2.2.1) else none
theorem L0_S112 (N key:Nat) (S:St) (K:Ks):L_S112 N 0 key S K=none:=(bif0 (withVals0 fun _=>rfl) rfl)
noncomputable def c_S112_0:Code:=(loopsIn body_S112).getD 0 .skip
theorem ls_S112:loopsIn body_S112=[c_S112_0]:=by kernel_rfl
theorem rd_S112_4 (N n:Nat) (x:Vals ks_S112_l4) (K:Ks):L_S112 N (n + 1) 4 (shape ks_S112_l4 x) (h_S112.onOut 4 K)=peRound h_S112 (Orc.of (es_S112 N)) (mixL (L_S112 N) N n 4) c_S112_0 (shape ks_S112_l4 x) (h_S112.onOut 4 K):=by kernel_rfl
theorem fn_S112 (N:Nat) (x:AVals sg_S112) (kf:Ret→Option Ret):F_S112 (N + 1) x kf=peFunc h_S112 (Orc.of (es_S112 N)) (L_S112 N N) Try.f112 (ashape sg_S112 x) kf:=by kernel_rfl
theorem sd_S112 {Γ : Gl} : ∀ N:Nat,Sound Γ Try.prog 112 (run_S112 N)
 | 0=>sound_zero fun al kf=>by
  unfold run_S112 runOf
  split <;> rfl
 | N + 1=>fun_ok2 (hh:=h_S112) mixed tab_ok (es:=es_S112 N) ⟨sd_S133 N,⟨sd_S134 N,⟨sd_S112 N,trivial⟩⟩⟩ (fn:=Try.f112) (body:=body_S112) (by kernel_rfl) (by kernel_rfl) (by kernel_rfl) (by kernel_rfl) (by kernel_rfl) (Lf:=L_S112 N) (L0_S112 N) ls_S112 (round_cons (key:=4) (ks:=ks_S112_l4) (by kernel_rfl) (by kernel_rfl) (rd_S112_4 N) trivial) (N:=N) (by kernel_rfl) (fn_S112 N) (.inl (by kernel_rfl))
noncomputable def h_S85:Hint:={ tab,hn:=[],loops:=[],outs:=[],ords:=[] }
noncomputable def sg_S85:List AK:=[.v (.sl tQIIIIILIE) .k]
noncomputable def F_S85 (N:Nat) (x:AVals sg_S85) (kf:Ret→Option Ret):Option Ret:=S85 N x.1 (fun r0 r1=>kf ⟨[⟨(.sl tQIIE),(.o 89 none .k),r0⟩,⟨.bool,.k,r1⟩],[]⟩)
noncomputable def run_S85 (N:Nat):=runOf sg_S85 (F_S85 N)
noncomputable def es_S85 (N:Nat):List Entry:=[⟨111,[.val],(run_S111 N)⟩,⟨113,[.val],(run_S113 N)⟩,⟨112,[.val,.val],(run_S112 N)⟩]
noncomputable def body_S85:Code:=match Try.f85.body with | some c=>c | none=>.skip
theorem ls_S85:loopsIn body_S85=[]:=by kernel_rfl
theorem fn_S85 (N:Nat) (x:AVals sg_S85) (kf:Ret→Option Ret):F_S85 N x kf=peFunc h_S85 (Orc.of (es_S85 N)) (noL N N) Try.f85 (ashape sg_S85 x) kf:=by kernel_rfl
theorem sd_S85 {Γ : Gl} (N:Nat):Sound Γ Try.prog 85 (run_S85 N):=fun_ok2 (hh:=h_S85) mixed tab_ok (es:=es_S85 N) ⟨sd_S111 N,⟨sd_S113 N,⟨sd_S112 N,trivial⟩⟩⟩ (fn:=Try.f85) (body:=body_S85) (by kernel_rfl) (by kernel_rfl) (by kernel_rfl) (by kernel_rfl) (by kernel_rfl) (Lf:=noL N) (noL0 N) ls_S85 trivial (N:=N) (by kernel_rfl) (fn_S85 N) (.inl (by kernel_rfl))
noncomputable def ks_S114_l7:List Kd:=[.v (.sl tQIILIE) .k,dK,dK,.v (.int .i64) .k,.v (.int .i64) .k,dK,dK,dK,dK,dK,dK,dK,dK,dK,dK,dK,dK,dK,dK,dK,dK,dK,dK,dK,dK,dK,dK,dK,dK,dK,dK,dK,dK,dK,dK,dK,dK,dK,dK,dK,dK,dK,dK,dK,dK,dK,dK,dK,dK,dK,dK,dK,dK,dK,dK,dK,dK,dK,dK,dK,dK,dK,dK,dK,dK,dK,dK,dK,dK,dK,dK,dK,dK,dK,dK,dK,dK,dK,dK,dK,dK,dK,dK,dK,dK,dK,dK,dK,dK,dK,dK,dK]
noncomputable def ko_S114_l7_0:List Kd:=[.v (.sl tQIILIE) .k,dK,dK,.v (.int .i64) .k,dK,dK,dK,dK,dK,dK,dK,dK,dK,dK,dK,dK,dK,dK,dK,dK,dK,dK,dK,dK,dK,dK,dK,dK,dK,dK,dK,dK,dK,dK,dK,dK,dK,dK,dK,dK,dK,dK,dK,dK,dK,dK,dK,dK,dK,dK,dK,dK,dK,dK,dK,dK,dK,dK,dK,dK,dK,dK,dK,dK,dK,dK,dK,dK,dK,dK,dK,dK,dK,dK,dK,dK,dK,dK,dK,dK,dK,dK,dK,dK,dK,dK,dK,dK,dK,dK,dK,dK]
noncomputable def ko_S114_l7_1:List Kd:=[dK,dK,.v .bool .k,dK,dK,dK,dK,dK,dK,dK,dK,dK,dK,dK,dK,dK,dK,dK,dK,dK,dK,dK,dK,dK,dK,dK,dK,dK,dK,dK,dK,dK,dK,dK,dK,dK,dK,dK,dK,dK,dK,dK,dK,dK,dK,dK,dK,dK,dK,dK,dK,dK,dK,dK,dK,dK,dK,dK,dK,dK,dK,dK,dK,dK,dK,dK,dK,dK,dK,dK,dK,dK,dK,dK,dK,dK,dK,dK,dK,dK,dK,dK,dK,dK,dK,dK,dK,dK,dK,dK,dK,dK]
noncomputable def ks_S114_l2:List Kd:=[.v (.sl tQIILIE) .k,dK,dK,.v (.int .i64) .k,dK,dK,dK,dK,dK,dK,dK,dK,dK,dK,dK,dK,dK,dK,dK,dK,dK,dK,dK,dK,dK,dK,dK,dK,dK,dK,dK,dK,dK,dK,dK,dK,dK,dK,dK,dK,dK,dK,dK,dK,dK,dK,dK,dK,dK,dK,dK,dK,dK,dK,dK,dK,dK,dK,dK,dK,dK,dK,dK,dK,dK,dK,dK,dK,dK,dK,dK,dK,dK,dK,dK,dK,dK,dK,dK,dK,dK,dK,dK,dK,dK,dK,dK,dK,dK,dK,dK,dK]
noncomputable def ko_S114_l2_0:List Kd:=[.v (.sl tQIILIE) .k,dK,dK,dK,dK,dK,dK,dK,dK,dK,dK,dK,dK,dK,dK,dK,dK,dK,dK,dK,dK,dK,dK,dK,dK,dK,dK,dK,dK,dK,dK,dK,dK,dK,dK,dK,dK,dK,dK,dK,dK,dK,dK,dK,dK,dK,dK,dK,dK,dK,dK,dK,dK,dK,dK,dK,dK,dK,dK,dK,dK,dK,dK,dK,dK,dK,dK,dK,dK,dK,dK,dK,dK,dK,dK,dK,dK,dK,dK,dK,dK,dK,dK,dK,dK,dK,dK,dK,dK,dK,dK,dK]
noncomputable def ko_S114_l2_1:List Kd:=[dK,dK,.v .bool .k,dK,dK,dK,dK,dK,dK,dK,dK,dK,dK,dK,dK,dK,dK,dK,dK,dK,dK,dK,dK,dK,dK,dK,dK,dK,dK,dK,dK,dK,dK,dK,dK,dK,dK,dK,dK,dK,dK,dK,dK,dK,dK,dK,dK,dK,dK,dK,dK,dK,dK,dK,dK,dK,dK,dK,dK,dK,dK,dK,dK,dK,dK,dK,dK,dK,dK,dK,dK,dK,dK,dK,dK,dK,dK,dK,dK,dK,dK,dK,dK,dK,dK,dK,dK,dK,dK,dK,dK,dK]
noncomputable def h_S114:Hint:={ tab,hn:=[],loops:=[(7,ks_S114_l7),(2,ks_S114_l2)],outs:=[(7,4,ko_S114_l7_0),(7,1,ko_S114_l7_1),(2,2,ko_S114_l2_0),(2,1,ko_S114_l2_1)],ords:=[(4,(OT.seq [0,1,2,3,4,5,6,7,8,9,10,11,12,13,14,15,16,17,18,19,20,21,22,23,24,25,26,27,28,29,30,31,32,33] .done)),(9,(OT.seq [0,1,2,3,4,5,6,7,8,9,10,11,12,13,14,15,16,17,18,19,20,21,22,23,24,25,26,27,28,29,30,31,32,33] .done))] }
noncomputable def sg_S114:List AK:=[.v (.sl tQIILIE) .k]
noncomputable def F_S114 (N:Nat) (x:AVals sg_S114) (kf:Ret→Option Ret):Option Ret:=S114 N x.1 (fun r0=>kf ⟨[⟨.bool,.k,r0⟩],[]⟩)
noncomputable def run_S114 (N:Nat):=runOf sg_S114 (F_S114 N)
noncomputable def es_S114 (N:Nat):List Entry:=[⟨72,[.val,.val,.val],(run_S72 N)⟩]
noncomputable def body_S114:Code:=match Try.f114.body with | some c=>c | none=>.skip
noncomputable def L_S114 (N n:Nat) (key:Nat) (S:St) (K:Ks):Option Ret:=bif Nat.beq key 2 then withVals ks_S114_l2 S (fun x=>S114_l2 N x.1 n (K (.x 0) (shape ko_S114_l2_0 (x.1,()))) (fun z0=>K .r (shape ko_S114_l2_1 (z0,()))) x.2.1) else bif Nat.beq key 7 then withVals ks_S114_l7 S (fun x=>S114_l7 N x.1 x.2.1 n (K (.x 2) (shape ko_S114_l7_0 (x.1,x.2.1,()))) (fun z0=>K .r (shape ko_S114_l7_1 (z0,()))) x.2.2.1) else none
theorem L0_S114 (N key:Nat) (S:St) (K:Ks):L_S114 N 0 key S K=none:=(bif0 (withVals0 fun _=>rfl) (bif0 (withVals0 fun _=>rfl) rfl))
noncomputable def c_S114_0:Code:=(loopsIn body_S114).getD 0 .skip
noncomputable def c_S114_1:Code:=(loopsIn body_S114).getD 1 .skip
theorem ls_S114:loopsIn body_S114=[c_S114_0,c_S114_1]:=by kernel_rfl
theorem rd_S114_7 (N n:Nat) (x:Vals ks_S114_l7) (K:Ks):L_S114 N (n + 1) 7 (shape ks_S114_l7 x) (h_S114.onOut 7 K)=peRound h_S114 (Orc.of (es_S114 N)) (mixL (L_S114 N) N n 7) c_S114_1 (shape ks_S114_l7 x) (h_S114.onOut 7 K):=by kernel_rfl
theorem rd_S114_2 (N n:Nat) (x:Vals ks_S114_l2) (K:Ks):L_S114 N (n + 1) 2 (shape ks_S114_l2 x) (h_S114.onOut 2 K)=peRound h_S114 (Orc.of (es_S114 N)) (mixL (L_S114 N) N n 2) c_S114_0 (shape ks_S114_l2 x) (h_S114.onOut 2 K):=by kernel_rfl
theorem fn_S114 (N:Nat) (x:AVals sg_S114) (kf:Ret→Option Ret):F_S114 N x kf=peFunc h_S114 (Orc.of (es_S114 N)) (L_S114 N N) Try.f114 (ashape sg_S114 x) kf:=by kernel_rfl
theorem sd_S114 {Γ : Gl} (N:Nat):Sound Γ Try.prog 114 (run_S114 N):=fun_ok2 (hh:=h_S114) mixed tab_ok (es:=es_S114 N) ⟨sd_S72 N,trivial⟩ (fn:=Try.f114) (body:=body_S114) (by kernel_rfl) (by kernel_rfl) (by kernel_rfl) (by kernel_rfl) (by kernel_rfl) (Lf:=L_S114 N) (L0_S114 N) ls_S114 (round_cons (key:=2) (ks:=ks_S114_l2) (by kernel_rfl) (by kernel_rfl) (rd_S114_2 N) (round_cons (key:=7) (ks:=ks_S114_l7) (by kernel_rfl) (by kernel_rfl) (rd_S114_7 N) trivial)) (N:=N) (by kernel_rfl) (fn_S114 N) (.inl (by kernel_rfl))
noncomputable def h_S136:Hint:={ tab,hn:=[],loops:=[],outs:=[],ords:=[(3,(OT.seq [0,1,2,3,4,5,6,7,8,9,10,11,12,13,14,15,16,17,18,19,20,21,22,23,24,25,26,27,28,29,30,31,32,33,34,35,36,37,38,39,40,41,42] .done))] }
noncomputable def sg_S136:List AK:=[.v (.sl tQIIIIILIE) .k,.v tQIILIE .k,.v tQIIE .k]
noncomputable def F_S136 (N:Nat) (x:AVals sg_S136) (kf:Ret→Option Ret):Option Ret:=S136 N x.1 x.2.1 x.2.2.1 (fun r0=>kf ⟨[⟨.bool,.k,r0⟩],[]⟩)
noncomputable def run_S136 (N:Nat):=runOf sg_S136 (F_S136 N)
noncomputable def es_S136 (N:Nat):List Entry:=[⟨131,[.val,.val],(run_S131 N)⟩,⟨118,[.val,.val],(run_S118 N)⟩]
noncomputable def body_S136:Code:=match Try.f136.body with | some c=>c | none=>.skip
theorem ls_S136:loopsIn body_S136=[]:=by kernel_rfl
theorem fn_S136 (N:Nat) (x:AVals sg_S136) (kf:Ret→Option Ret):F_S136 N x kf=peFunc h_S136 (Orc.of (es_S136 N)) (noL N N) Try.f136 (ashape sg_S136 x) kf:=by kernel_rfl
theorem sd_S136 {Γ : Gl} (N:Nat):Sound Γ Try.prog 136 (run_S136 N):=fun_ok2 (hh:=h_S136) mixed tab_ok (es:=es_S136 N) ⟨sd_S131 N,⟨sd_S118 N,trivial⟩⟩ (fn:=Try.f136) (body:=body_S136) (by kernel_rfl) (by kernel_rfl) (by kernel_rfl) (by kernel_rfl) (by kernel_rfl) (Lf:=noL N) (noL0 N) ls_S136 trivial (N:=N) (by kernel_rfl) (fn_S136 N) (.inl (by kernel_rfl))
noncomputable def ks_S115_l4:List Kd:=[.v (.sl tQIIIIILIE) .k,.v (.sl tQIILIE) .k,.v (.sl tQIIE) .k,.v (.sl (.int .i64)) .k,dK,dK,dK,dK,dK,dK,.v (.int .i64) .k,dK,dK,dK,dK,dK,dK,dK,dK,dK,dK,dK,dK,dK,dK,dK,dK,dK,dK,dK,dK,dK,dK,dK,dK,dK,dK,dK,dK,dK,dK,dK,dK,dK,dK,dK,dK,dK,dK,dK,dK,dK,dK,dK,dK,dK,dK,dK,dK,dK,dK,dK,dK,dK,dK,dK,dK,dK,dK,dK]
noncomputable def ko_S115_l4_0:List Kd:=[dK,dK,dK,dK,dK,dK,dK,dK,dK,dK,dK,dK,dK,dK,dK,dK,dK,dK,dK,dK,dK,dK,dK,dK,dK,dK,dK,dK,dK,dK,dK,dK,dK,dK,dK,dK,dK,dK,dK,dK,dK,dK,dK,dK,dK,dK,dK,dK,dK,dK,dK,dK,dK,dK,dK,dK,dK,dK,dK,dK,dK,dK,dK,dK,dK,dK,dK,dK,dK,dK]
noncomputable def ko_S115_l4_1:List Kd:=[dK,dK,dK,dK,dK,dK,dK,dK,.v (.sl (.int .i64)) (.o 3 none .k),.v .bool .k,dK,dK,dK,dK,dK,dK,dK,dK,dK,dK,dK,dK,dK,dK,dK,dK,dK,dK,dK,dK,dK,dK,dK,dK,dK,dK,dK,dK,dK,dK,dK,dK,dK,dK,dK,dK,dK,dK,dK,dK,dK,dK,dK,dK,dK,dK,dK,dK,dK,dK,dK,dK,dK,dK,dK,dK,dK,dK,dK,dK]
noncomputable def h_S115:Hint:={ tab,hn:=[],loops:=[(4,ks_S115_l4)],outs:=[(4,2,ko_S115_l4_0),(4,1,ko_S115_l4_1)],ords:=[(6,(OT.seq [0,1,2,3,4,5,6,7,8,9,10,11,12,13,14,15,16,17,18] .done)),(7,(OT.seq [5,0,1,2,3,7,8,9,10] (.par [4,6,11,12] [[47,48,49]] (OT.seq [13,14,15,16,17,18,19] .done))))] }
noncomputable def sg_S115:List AK:=[.v (.sl tQIIIIILIE) .k,.v (.sl tQIILIE) .k,.v (.sl tQIIE) .k,.v (.sl (.int .i64)) .k]
noncomputable def F_S115 (N:Nat) (x:AVals sg_S115) (kf:Ret→Option Ret):Option Ret:=S115 N x.1 x.2.1 x.2.2.1 x.2.2.2.1 (fun r0 r1=>kf ⟨[⟨(.sl (.int .i64)),(.o 3 none .k),r0⟩,⟨.bool,.k,r1⟩],[]⟩)
noncomputable def run_S115 (N:Nat):=runOf sg_S115 (F_S115 N)
noncomputable def es_S115 (N:Nat):List Entry:=[⟨118,[.val,.val],(run_S118 N)⟩,⟨136,[.val,.val,.val],(run_S136 N)⟩,⟨115,[.val,.val,.val,.val],(run_S115 N)⟩]
noncomputable def body_S115:Code:=match Try.f115.body with | some c=>c | none=>.skip
noncomputable def L_S115 (N n:Nat) (key:Nat) (S:St) (K:Ks):Option Ret:=bif Nat.beq key 4 then withVals ks_S115_l4 S (fun x=>S115_l4 N (S115 N) x.1 x.2.1 x.2.2.1 x.2.2.2.1 n (K (.x 0) (shape ko_S115_l4_0 ())) (fun z0 z1=>K .r (shape ko_S115_l4_1 (z0,z1,()))) x.2.2.2.2.1) else none
theorem L0_S115 (N key:Nat) (S:St) (K:Ks):L_S115 N 0 key S K=none:=(bif0 (withVals0 fun _=>rfl) rfl)
noncomputable def c_S115_0:Code:=(loopsIn body_S115).getD 0 .skip
theorem ls_S115:loopsIn body_S115=[c_S115_0]:=by kernel_rfl
theorem rd_S115_4 (N n:Nat) (x:Vals ks_S115_l4) (K:Ks):L_S115 N (n + 1) 4 (shape ks_S115_l4 x) (h_S115.onOut 4 K)=peRound h_S115 (Orc.of (es_S115 N)) (mixL (L_S115 N) N n 4) c_S115_0 (shape ks_S115_l4 x) (h_S115.onOut 4 K):=by kernel_rfl
theorem fn_S115 (N:Nat) (x:AVals sg_S115) (kf:Ret→Option Ret):F_S115 (N + 1) x kf=peFunc h_S115 (Orc.of (es_S115 N)) (L_S115 N N) Try.f115 (ashape sg_S115 x) kf:=by kernel_rfl
theorem sd_S115 {Γ : Gl} : ∀ N:Nat,Sound Γ Try.prog 115 (run_S115 N)
 | 0=>sound_zero fun al kf=>by
  unfold run_S115 runOf
  split <;> rfl
 | N + 1=>fun_ok2 (hh:=h_S115) mixed tab_ok (es:=es_S115 N) ⟨sd_S118 N,⟨sd_S136 N,⟨sd_S115 N,trivial⟩⟩⟩ (fn:=Try.f115) (body:=body_S115) (by kernel_rfl) (by kernel_rfl) (by kernel_rfl) (by kernel_rfl) (by kernel_rfl) (Lf:=L_S115 N) (L0_S115 N) ls_S115 (round_cons (key:=4) (ks:=ks_S115_l4) (by kernel_rfl) (by kernel_rfl) (rd_S115_4 N) trivial) (N:=N) (by kernel_rfl) (fn_S115 N) (.inl (by kernel_rfl))
noncomputable def h_S86:Hint:={ tab,hn:=[],loops:=[],outs:=[],ords:=[] }
noncomputable def sg_S86:List AK:=[.v (.sl tQIIIIILIE) .k,.v (.sl tQIILIE) .k,.v (.sl tQIIE) .k]
noncomputable def F_S86 (N:Nat) (x:AVals sg_S86) (kf:Ret→Option Ret):Option Ret:=S86 N x.1 x.2.1 x.2.2.1 (fun r0 r1=>kf ⟨[⟨(.sl (.int .i64)),(.o 3 none .k),r0⟩,⟨.bool,.k,r1⟩],[]⟩)
noncomputable def run_S86 (N:Nat):=runOf sg_S86 (F_S86 N)
noncomputable def es_S86 (N:Nat):List Entry:=[⟨114,[.val],(run_S114 N)⟩,⟨111,[.val],(run_S111 N)⟩,⟨115,[.val,.val,.val,.val],(run_S115 N)⟩]
noncomputable def body_S86:Code:=match Try.f86.body with | some c=>c | none=>.skip
theorem ls_S86:loopsIn body_S86=[]:=by kernel_rfl
theorem fn_S86 (N:Nat) (x:AVals sg_S86) (kf:Ret→Option Ret):F_S86 N x kf=peFunc h_S86 (Orc.of (es_S86 N)) (noL N N) Try.f86 (ashape sg_S86 x) kf:=by kernel_rfl
theorem sd_S86 {Γ : Gl} (N:Nat):Sound Γ Try.prog 86 (run_S86 N):=fun_ok2 (hh:=h_S86) mixed tab_ok (es:=es_S86 N) ⟨sd_S114 N,⟨sd_S111 N,⟨sd_S115 N,trivial⟩⟩⟩ (fn:=Try.f86) (body:=body_S86) (by kernel_rfl) (by kernel_rfl) (by kernel_rfl) (by kernel_rfl) (by kernel_rfl) (Lf:=noL N) (noL0 N) ls_S86 trivial (N:=N) (by kernel_rfl) (fn_S86 N) (.inl (by kernel_rfl))
noncomputable def h_S122:Hint:={ tab,hn:=[],loops:=[],outs:=[],ords:=[] }
noncomputable def sg_S122:List AK:=[]
noncomputable def F_S122 (N:Nat) (x:AVals sg_S122) (kf:Ret→Option Ret):Option Ret:=S122 N (fun r0=>kf ⟨[⟨tQLQIIIIILIELQIILIELQIIELILQIIIELQIIIIEIE,(.p (.o 54 none (.p .k (.p .k (.p .k (.p .k (.p .k (.o 3 none .k))))))) (.p (.o 85 none (.p .k (.p .k (.o 3 none .k)))) (.p (.o 89 none .k) (.p (.o 3 none .k) (.p (.o 70 none .k) (.p (.o 79 none .k) .k)))))),r0⟩],[]⟩)
noncomputable def run_S122 (N:Nat):=runOf sg_S122 (F_S122 N)
noncomputable def es_S122 (N:Nat):List Entry:=[]
noncomputable def body_S122:Code:=match Try.f122.body with | some c=>c | none=>.skip
theorem ls_S122:loopsIn body_S122=[]:=by kernel_rfl
theorem fn_S122 (N:Nat) (x:AVals sg_S122) (kf:Ret→Option Ret):F_S122 N x kf=peFunc h_S122 (Orc.of (es_S122 N)) (noL N N) Try.f122 (ashape sg_S122 x) kf:=by kernel_rfl
theorem sd_S122 {Γ : Gl} (N:Nat):Sound Γ Try.prog 122 (run_S122 N):=fun_ok2 (hh:=h_S122) mixed tab_ok (es:=es_S122 N) trivial (fn:=Try.f122) (body:=body_S122) (by kernel_rfl) (by kernel_rfl) (by kernel_rfl) (by kernel_rfl) (by kernel_rfl) (Lf:=noL N) (noL0 N) ls_S122 trivial (N:=N) (by kernel_rfl) (fn_S122 N) (.inl (by kernel_rfl))
noncomputable def h_S102:Hint:={ tab,hn:=[],loops:=[],outs:=[],ords:=[],lent:=some (0,false) }
noncomputable def sg_S102:List AK:=[.v (.ptr tQLIIIE) (.o 108 (some 0) .k),.v (.sl (.int .i64)) .k]
noncomputable def F_S102 (N:Nat) (x:AVals sg_S102) (kf:Ret→Option Ret):Option Ret:=S102 N x.1 x.2.1 (fun r0 z=>kf ⟨[⟨(.int .i64),.k,r0⟩],[⟨(.ptr tQLIIIE),(.o 108 (some 0) .k),z⟩]⟩)
noncomputable def run_S102 (N:Nat):=runOf sg_S102 (F_S102 N)
noncomputable def es_S102 (N:Nat):List Entry:=[⟨50,[.lend,.val],(run_S50 N)⟩]
noncomputable def body_S102:Code:=match Try.f102.body with | some c=>c | none=>.skip
theorem ls_S102:loopsIn body_S102=[]:=by kernel_rfl
theorem fn_S102 (N:Nat) (x:AVals sg_S102) (kf:Ret→Option Ret):F_S102 N x kf=peFunc h_S102 (Orc.of (es_S102 N)) (noL N N) Try.f102 (ashape sg_S102 x) kf:=by kernel_rfl
theorem sd_S102 {Γ : Gl} (N:Nat):Sound Γ Try.prog 102 (run_S102 N):=fun_ok2 (hh:=h_S102) mixed tab_ok (es:=es_S102 N) ⟨sd_S50 N,trivial⟩ (fn:=Try.f102) (body:=body_S102) (by kernel_rfl) (by kernel_rfl) (by kernel_rfl) (by kernel_rfl) (by kernel_rfl) (Lf:=noL N) (noL0 N) ls_S102 trivial (N:=N) (by kernel_rfl) (fn_S102 N) (.inl (by kernel_rfl))
noncomputable def h_S144:Hint:={ tab,hn:=[(5,.k)],loops:=[],outs:=[],ords:=[],lent:=some (0,false) }
noncomputable def sg_S144:List AK:=[.v (.ptr tQLIIIE) (.o 108 (some 0) .k)]
noncomputable def F_S144 (N:Nat) (x:AVals sg_S144) (kf:Ret→Option Ret):Option Ret:=S144 N x.1 (fun r0 z=>kf ⟨[⟨tQIIIIE,.k,r0⟩],[⟨(.ptr tQLIIIE),(.o 108 (some 0) .k),z⟩]⟩)
noncomputable def run_S144 (N:Nat):=runOf sg_S144 (F_S144 N)
noncomputable def es_S144 (N:Nat):List Entry:=[⟨102,[.lend,.val],(run_S102 N)⟩,⟨50,[.lend,.val],(run_S50 N)⟩]
noncomputable def body_S144:Code:=match Try.f144.body with | some c=>c | none=>.skip
theorem ls_S144:loopsIn body_S144=[]:=by kernel_rfl
theorem fn_S144 (N:Nat) (x:AVals sg_S144) (kf:Ret→Option Ret):F_S144 N x kf=peFunc h_S144 (Orc.of (es_S144 N)) (noL N N) Try.f144 (ashape sg_S144 x) kf:=by kernel_rfl
theorem sd_S144 {Γ : Gl} (N:Nat):Sound Γ Try.prog 144 (run_S144 N):=fun_ok2 (hh:=h_S144) mixed tab_ok (es:=es_S144 N) ⟨sd_S102 N,⟨sd_S50 N,trivial⟩⟩ (fn:=Try.f144) (body:=body_S144) (by kernel_rfl) (by kernel_rfl) (by kernel_rfl) (by kernel_rfl) (by kernel_rfl) (Lf:=noL N) (noL0 N) ls_S144 trivial (N:=N) (by kernel_rfl) (fn_S144 N) (.inl (by kernel_rfl))
noncomputable def ks_S123_l5:List Kd:=[.v (.ptr tQLIIIE) (.o 108 (some 0) .k),dK,dK,.v (.sl tQIIIIE) (.o 146 none .k),.v (.int .i64) .k,dK,dK,dK,dK,dK,dK,dK,dK,dK,dK,dK,dK,dK,dK,dK,dK,dK,dK,dK,dK,dK,dK,dK,dK]
noncomputable def ko_S123_l5_0:List Kd:=[.v (.ptr tQLIIIE) (.o 108 (some 0) .k),dK,dK,.v (.sl tQIIIIE) (.o 146 none .k),dK,dK,dK,dK,dK,dK,dK,dK,dK,dK,dK,dK,dK,dK,dK,dK,dK,dK,dK,dK,dK,dK,dK,dK,dK]
noncomputable def h_S123:Hint:={ tab,hn:=[],loops:=[(5,ks_S123_l5)],outs:=[(5,2,ko_S123_l5_0)],ords:=[],lent:=some (0,false) }
noncomputable def sg_S123:List AK:=[.v (.ptr tQLIIIE) (.o 108 (some 0) .k)]
noncomputable def F_S123 (N:Nat) (x:AVals sg_S123) (kf:Ret→Option Ret):Option Ret:=S123 N x.1 (fun r0 z=>kf ⟨[⟨(.sl tQIIIIE),(.o 146 none .k),r0⟩],[⟨(.ptr tQLIIIE),(.o 108 (some 0) .k),z⟩]⟩)
noncomputable def run_S123 (N:Nat):=runOf sg_S123 (F_S123 N)
noncomputable def es_S123 (N:Nat):List Entry:=[⟨87,[.lend,.val],(run_S87 N)⟩,⟨50,[.lend,.val],(run_S50 N)⟩,⟨144,[.lend],(run_S144 N)⟩]
noncomputable def body_S123:Code:=match Try.f123.body with | some c=>c | none=>.skip
noncomputable def L_S123 (N n:Nat) (key:Nat) (S:St) (K:Ks):Option Ret:=bif Nat.beq key 5 then withVals ks_S123_l5 S (fun x=>S123_l5 N n (fun z0 z1=>K (.x 0) (shape ko_S123_l5_0 (z0,z1,()))) x.1 x.2.1 x.2.2.1) else none
theorem L0_S123 (N key:Nat) (S:St) (K:Ks):L_S123 N 0 key S K=none:=(bif0 (withVals0 fun _=>rfl) rfl)
noncomputable def c_S123_0:Code:=(loopsIn body_S123).getD 0 .skip
theorem ls_S123:loopsIn body_S123=[c_S123_0]:=by kernel_rfl
theorem rd_S123_5 (N n:Nat) (x:Vals ks_S123_l5) (K:Ks):L_S123 N (n + 1) 5 (shape ks_S123_l5 x) (h_S123.onOut 5 K)=peRound h_S123 (Orc.of (es_S123 N)) (mixL (L_S123 N) N n 5) c_S123_0 (shape ks_S123_l5 x) (h_S123.onOut 5 K):=by kernel_rfl
theorem fn_S123 (N:Nat) (x:AVals sg_S123) (kf:Ret→Option Ret):F_S123 N x kf=peFunc h_S123 (Orc.of (es_S123 N)) (L_S123 N N) Try.f123 (ashape sg_S123 x) kf:=by kernel_rfl
theorem sd_S123 {Γ : Gl} (N:Nat):Sound Γ Try.prog 123 (run_S123 N):=fun_ok2 (hh:=h_S123) mixed tab_ok (es:=es_S123 N) ⟨sd_S87 N,⟨sd_S50 N,⟨sd_S144 N,trivial⟩⟩⟩ (fn:=Try.f123) (body:=body_S123) (by kernel_rfl) (by kernel_rfl) (by kernel_rfl) (by kernel_rfl) (by kernel_rfl) (Lf:=L_S123 N) (L0_S123 N) ls_S123 (round_cons (key:=5) (ks:=ks_S123_l5) (by kernel_rfl) (by kernel_rfl) (rd_S123_5 N) trivial) (N:=N) (by kernel_rfl) (fn_S123 N) (.inl (by kernel_rfl))
noncomputable def h_S99:Hint:={ tab,hn:=[],loops:=[],outs:=[],ords:=[] }
noncomputable def sg_S99:List AK:=[.v (.sl (.int .u8)) .k]
noncomputable def F_S99 (N:Nat) (x:AVals sg_S99) (kf:Ret→Option Ret):Option Ret:=S99 N x.1 (fun r0 r1=>kf ⟨[⟨tQLQIIIIILIELQIILIELQIIELILQIIIELQIIIIEIE,(.p (.o 54 none (.p .k (.p .k (.p .k (.p .k (.p .k (.o 3 none .k))))))) (.p (.o 85 none (.p .k (.p .k (.o 3 none .k)))) (.p (.o 89 none .k) (.p (.o 3 none .k) (.p (.o 70 none .k) (.p (.o 79 none .k) .k)))))),r0⟩,⟨(.sl tQIIIIE),(.o 146 none .k),r1⟩],[]⟩)
noncomputable def run_S99 (N:Nat):=runOf sg_S99 (F_S99 N)
noncomputable def es_S99 (N:Nat):List Entry:=[⟨47,[.val],(run_S47 N)⟩,⟨122,[],(run_S122 N)⟩,⟨123,[.lend],(run_S123 N)⟩]
noncomputable def body_S99:Code:=match Try.f99.body with | some c=>c | none=>.skip
theorem ls_S99:loopsIn body_S99=[]:=by kernel_rfl
theorem fn_S99 (N:Nat) (x:AVals sg_S99) (kf:Ret→Option Ret):F_S99 N x kf=peFunc h_S99 (Orc.of (es_S99 N)) (noL N N) Try.f99 (ashape sg_S99 x) kf:=by kernel_rfl
theorem sd_S99 {Γ : Gl} (N:Nat):Sound Γ Try.prog 99 (run_S99 N):=fun_ok2 (hh:=h_S99) mixed tab_ok (es:=es_S99 N) ⟨sd_S47 N,⟨sd_S122 N,⟨sd_S123 N,trivial⟩⟩⟩ (fn:=Try.f99) (body:=body_S99) (by kernel_rfl) (by kernel_rfl) (by kernel_rfl) (by kernel_rfl) (by kernel_rfl) (Lf:=noL N) (noL0 N) ls_S99 trivial (N:=N) (by kernel_rfl) (fn_S99 N) (.inl (by kernel_rfl))
noncomputable def ks_S90_l3:List Kd:=[.v (.sl tQIILIE) .k,dK,dK,.v (.sl tQIILIE) (.o 85 none (.p .k (.p .k (.o 3 none .k)))),.v (.int .i64) .k,dK,dK,dK,dK,dK,dK,dK,dK,dK,dK,dK,dK,dK,dK,dK,dK,dK,dK,dK,dK,dK,dK]
noncomputable def ko_S90_l3_0:List Kd:=[dK,dK,dK,.v (.sl tQIILIE) (.o 85 none (.p .k (.p .k (.o 3 none .k)))),dK,dK,dK,dK,dK,dK,dK,dK,dK,dK,dK,dK,dK,dK,dK,dK,dK,dK,dK,dK,dK,dK,dK]
noncomputable def h_S90:Hint:={ tab,hn:=[(6,(.p .k (.p .k (.o 3 none .k))))],loops:=[(3,ks_S90_l3)],outs:=[(3,2,ko_S90_l3_0)],ords:=[] }
noncomputable def sg_S90:List AK:=[.v (.sl tQIILIE) .k]
noncomputable def F_S90 (N:Nat) (x:AVals sg_S90) (kf:Ret→Option Ret):Option Ret:=S90 N x.1 (fun r0=>kf ⟨[⟨(.sl tQIILIE),(.o 85 none (.p .k (.p .k (.o 3 none .k)))),r0⟩],[]⟩)
noncomputable def run_S90 (N:Nat):=runOf sg_S90 (F_S90 N)
noncomputable def es_S90 (N:Nat):List Entry:=[]
noncomputable def body_S90:Code:=match Try.f90.body with | some c=>c | none=>.skip
noncomputable def L_S90 (N n:Nat) (key:Nat) (S:St) (K:Ks):Option Ret:=bif Nat.beq key 3 then withVals ks_S90_l3 S (fun x=>S90_l3 x.1 n (fun z0=>K (.x 0) (shape ko_S90_l3_0 (z0,()))) x.2.1 x.2.2.1) else none
theorem L0_S90 (N key:Nat) (S:St) (K:Ks):L_S90 N 0 key S K=none:=(bif0 (withVals0 fun _=>rfl) rfl)
noncomputable def c_S90_0:Code:=(loopsIn body_S90).getD 0 .skip
theorem ls_S90:loopsIn body_S90=[c_S90_0]:=by kernel_rfl
theorem rd_S90_3 (N n:Nat) (x:Vals ks_S90_l3) (K:Ks):L_S90 N (n + 1) 3 (shape ks_S90_l3 x) (h_S90.onOut 3 K)=peRound h_S90 (Orc.of (es_S90 N)) (mixL (L_S90 N) N n 3) c_S90_0 (shape ks_S90_l3 x) (h_S90.onOut 3 K):=by kernel_rfl
theorem fn_S90 (N:Nat) (x:AVals sg_S90) (kf:Ret→Option Ret):F_S90 N x kf=peFunc h_S90 (Orc.of (es_S90 N)) (L_S90 N N) Try.f90 (ashape sg_S90 x) kf:=by kernel_rfl
theorem sd_S90 {Γ : Gl} (N:Nat):Sound Γ Try.prog 90 (run_S90 N):=fun_ok2 (hh:=h_S90) mixed tab_ok (es:=es_S90 N) trivial (fn:=Try.f90) (body:=body_S90) (by kernel_rfl) (by kernel_rfl) (by kernel_rfl) (by kernel_rfl) (by kernel_rfl) (Lf:=L_S90 N) (L0_S90 N) ls_S90 (round_cons (key:=3) (ks:=ks_S90_l3) (by kernel_rfl) (by kernel_rfl) (rd_S90_3 N) trivial) (N:=N) (by kernel_rfl) (fn_S90 N) (.inl (by kernel_rfl))
noncomputable def h_S49:Hint:={ tab,hn:=[],loops:=[],outs:=[],ords:=[(1,(OT.seq [0,1,3,4,7,8,11,15,19,22] (.any [2,5,6,9,10,12,13,14,16,17,18,20,21,23] (OT.seq [24,25] .done))))] }
noncomputable def sg_S49:List AK:=[.v tQLQIIIIILIELQIILIELQIIELILQIIIELQIIIIEIE .k]
noncomputable def F_S49 (N:Nat) (x:AVals sg_S49) (kf:Ret→Option Ret):Option Ret:=S49 N x.1 (fun r0=>kf ⟨[⟨tQLQIIIIILIELQIILIELQIIELILQIIIELQIIIIEIE,(.p (.o 54 none (.p .k (.p .k (.p .k (.p .k (.p .k (.o 3 none .k))))))) (.p (.o 85 none (.p .k (.p .k (.o 3 none .k)))) (.p (.o 89 none .k) (.p (.o 3 none .k) (.p (.o 70 none .k) (.p (.o 79 none .k) .k)))))),r0⟩],[]⟩)
noncomputable def run_S49 (N:Nat):=runOf sg_S49 (F_S49 N)
noncomputable def es_S49 (N:Nat):List Entry:=[⟨89,[.val],(run_S89 N)⟩,⟨90,[.val],(run_S90 N)⟩]
noncomputable def body_S49:Code:=match Try.f49.body with | some c=>c | none=>.skip
theorem ls_S49:loopsIn body_S49=[]:=by kernel_rfl
theorem fn_S49 (N:Nat) (x:AVals sg_S49) (kf:Ret→Option Ret):F_S49 N x kf=peFunc h_S49 (Orc.of (es_S49 N)) (noL N N) Try.f49 (ashape sg_S49 x) kf:=by kernel_rfl
theorem sd_S49 {Γ : Gl} (N:Nat):Sound Γ Try.prog 49 (run_S49 N):=fun_ok2 (hh:=h_S49) mixed tab_ok (es:=es_S49 N) ⟨sd_S89 N,⟨sd_S90 N,trivial⟩⟩ (fn:=Try.f49) (body:=body_S49) (by kernel_rfl) (by kernel_rfl) (by kernel_rfl) (by kernel_rfl) (by kernel_rfl) (Lf:=noL N) (noL0 N) ls_S49 trivial (N:=N) (by kernel_rfl) (fn_S49 N) (.inl (by kernel_rfl))
noncomputable def h_S161:Hint:={ tab,hn:=[],loops:=[],outs:=[],ords:=[] }
noncomputable def sg_S161:List AK:=[.v tQLQIIIIILIELQIILIELQIIELILQIIIELQIIIIEIE .k]
noncomputable def F_S161 (N:Nat) (x:AVals sg_S161) (kf:Ret→Option Ret):Option Ret:=S161 N x.1 (fun r0=>kf ⟨[⟨.bool,.k,r0⟩],[]⟩)
noncomputable def run_S161 (N:Nat):=runOf sg_S161 (F_S161 N)
noncomputable def es_S161 (N:Nat):List Entry:=[]
noncomputable def body_S161:Code:=match Try.f161.body with | some c=>c | none=>.skip
theorem ls_S161:loopsIn body_S161=[]:=by kernel_rfl
theorem fn_S161 (N:Nat) (x:AVals sg_S161) (kf:Ret→Option Ret):F_S161 N x kf=peFunc h_S161 (Orc.of (es_S161 N)) (noL N N) Try.f161 (ashape sg_S161 x) kf:=by kernel_rfl
theorem sd_S161 {Γ : Gl} (N:Nat):Sound Γ Try.prog 161 (run_S161 N):=fun_ok2 (hh:=h_S161) mixed tab_ok (es:=es_S161 N) trivial (fn:=Try.f161) (body:=body_S161) (by kernel_rfl) (by kernel_rfl) (by kernel_rfl) (by kernel_rfl) (by kernel_rfl) (Lf:=noL N) (noL0 N) ls_S161 trivial (N:=N) (by kernel_rfl) (fn_S161 N) (.inl (by kernel_rfl))
noncomputable def h_S128:Hint:={ tab,hn:=[],loops:=[],outs:=[],ords:=[] }
noncomputable def sg_S128:List AK:=[.v (.sl tQIIIIE) .k]
noncomputable def F_S128 (N:Nat) (x:AVals sg_S128) (kf:Ret→Option Ret):Option Ret:=S128 N x.1 (fun r0=>kf ⟨[⟨(.int .i64),.k,r0⟩],[]⟩)
noncomputable def run_S128 (N:Nat):=runOf sg_S128 (F_S128 N)
noncomputable def es_S128 (N:Nat):List Entry:=[]
noncomputable def body_S128:Code:=match Try.f128.body with | some c=>c | none=>.skip
theorem ls_S128:loopsIn body_S128=[]:=by kernel_rfl
theorem fn_S128 (N:Nat) (x:AVals sg_S128) (kf:Ret→Option Ret):F_S128 N x kf=peFunc h_S128 (Orc.of (es_S128 N)) (noL N N) Try.f128 (ashape sg_S128 x) kf:=by kernel_rfl
theorem sd_S128 {Γ : Gl} (N:Nat):Sound Γ Try.prog 128 (run_S128 N):=fun_ok2 (hh:=h_S128) mixed tab_ok (es:=es_S128 N) trivial (fn:=Try.f128) (body:=body_S128) (by kernel_rfl) (by kernel_rfl) (by kernel_rfl) (by kernel_rfl) (by kernel_rfl) (Lf:=noL N) (noL0 N) ls_S128 trivial (N:=N) (by kernel_rfl) (fn_S128 N) (.inl (by kernel_rfl))
noncomputable def h_S169:Hint:={ tab,hn:=[],loops:=[],outs:=[],ords:=[] }
noncomputable def sg_S169:List AK:=[.v (.int .i64) .k,.v (.int .i64) .k]
noncomputable def F_S169 (N:Nat) (x:AVals sg_S169) (kf:Ret→Option Ret):Option Ret:=S169 N x.1 x.2.1 (fun r0=>kf ⟨[⟨(.int .i64),.k,r0⟩],[]⟩)
noncomputable def run_S169 (N:Nat):=runOf sg_S169 (F_S169 N)
noncomputable def es_S169 (N:Nat):List Entry:=[⟨72,[.val,.val,.val],(run_S72 N)⟩]
noncomputable def body_S169:Code:=match Try.f169.body with | some c=>c | none=>.skip
theorem ls_S169:loopsIn body_S169=[]:=by kernel_rfl
theorem fn_S169 (N:Nat) (x:AVals sg_S169) (kf:Ret→Option Ret):F_S169 N x kf=peFunc h_S169 (Orc.of (es_S169 N)) (noL N N) Try.f169 (ashape sg_S169 x) kf:=by kernel_rfl
theorem sd_S169 {Γ : Gl} (N:Nat):Sound Γ Try.prog 169 (run_S169 N):=fun_ok2 (hh:=h_S169) mixed tab_ok (es:=es_S169 N) ⟨sd_S72 N,trivial⟩ (fn:=Try.f169) (body:=body_S169) (by kernel_rfl) (by kernel_rfl) (by kernel_rfl) (by kernel_rfl) (by kernel_rfl) (Lf:=noL N) (noL0 N) ls_S169 trivial (N:=N) (by kernel_rfl) (fn_S169 N) (.inl (by kernel_rfl))
noncomputable def ks_S152_l3:List Kd:=[.v (.sl (.int .i64)) .k,dK,dK,.v (.int .i64) .k,.v (.int .i64) .k,dK,dK,dK,dK,dK,dK,dK,dK,dK,dK,dK,dK,dK,dK,dK,dK,dK]
noncomputable def ko_S152_l3_0:List Kd:=[dK,dK,dK,.v (.int .i64) .k,dK,dK,dK,dK,dK,dK,dK,dK,dK,dK,dK,dK,dK,dK,dK,dK,dK,dK]
noncomputable def h_S152:Hint:={ tab,hn:=[],loops:=[(3,ks_S152_l3)],outs:=[(3,2,ko_S152_l3_0)],ords:=[] }
noncomputable def sg_S152:List AK:=[.v (.sl (.int .i64)) .k]
noncomputable def F_S152 (N:Nat) (x:AVals sg_S152) (kf:Ret→Option Ret):Option Ret:=S152 N x.1 (fun r0=>kf ⟨[⟨(.int .i64),.k,r0⟩],[]⟩)
noncomputable def run_S152 (N:Nat):=runOf sg_S152 (F_S152 N)
noncomputable def es_S152 (N:Nat):List Entry:=[⟨169,[.val,.val],(run_S169 N)⟩]
noncomputable def body_S152:Code:=match Try.f152.body with | some c=>c | none=>.skip
noncomputable def L_S152 (N n:Nat) (key:Nat) (S:St) (K:Ks):Option Ret:=bif Nat.beq key 3 then withVals ks_S152_l3 S (fun x=>S152_l3 N x.1 n (fun z0=>K (.x 0) (shape ko_S152_l3_0 (z0,()))) x.2.1 x.2.2.1) else none
theorem L0_S152 (N key:Nat) (S:St) (K:Ks):L_S152 N 0 key S K=none:=(bif0 (withVals0 fun _=>rfl) rfl)
noncomputable def c_S152_0:Code:=(loopsIn body_S152).getD 0 .skip
theorem ls_S152:loopsIn body_S152=[c_S152_0]:=by kernel_rfl
theorem rd_S152_3 (N n:Nat) (x:Vals ks_S152_l3) (K:Ks):L_S152 N (n + 1) 3 (shape ks_S152_l3 x) (h_S152.onOut 3 K)=peRound h_S152 (Orc.of (es_S152 N)) (mixL (L_S152 N) N n 3) c_S152_0 (shape ks_S152_l3 x) (h_S152.onOut 3 K):=by kernel_rfl
theorem fn_S152 (N:Nat) (x:AVals sg_S152) (kf:Ret→Option Ret):F_S152 N x kf=peFunc h_S152 (Orc.of (es_S152 N)) (L_S152 N N) Try.f152 (ashape sg_S152 x) kf:=by kernel_rfl
theorem sd_S152 {Γ : Gl} (N:Nat):Sound Γ Try.prog 152 (run_S152 N):=fun_ok2 (hh:=h_S152) mixed tab_ok (es:=es_S152 N) ⟨sd_S169 N,trivial⟩ (fn:=Try.f152) (body:=body_S152) (by kernel_rfl) (by kernel_rfl) (by kernel_rfl) (by kernel_rfl) (by kernel_rfl) (Lf:=L_S152 N) (L0_S152 N) ls_S152 (round_cons (key:=3) (ks:=ks_S152_l3) (by kernel_rfl) (by kernel_rfl) (rd_S152_3 N) trivial) (N:=N) (by kernel_rfl) (fn_S152 N) (.inl (by kernel_rfl))
noncomputable def h_S127:Hint:={ tab,hn:=[],loops:=[],outs:=[],ords:=[] }
noncomputable def sg_S127:List AK:=[.v (.int .i64) .k,.v tQIIIIE .k]
noncomputable def F_S127 (N:Nat) (x:AVals sg_S127) (kf:Ret→Option Ret):Option Ret:=S127 N x.1 x.2.1 (fun r0=>kf ⟨[⟨(.int .i64),.k,r0⟩],[]⟩)
noncomputable def run_S127 (N:Nat):=runOf sg_S127 (F_S127 N)
noncomputable def es_S127 (N:Nat):List Entry:=[⟨152,[.val],(run_S152 N)⟩]
noncomputable def body_S127:Code:=match Try.f127.body with | some c=>c | none=>.skip
theorem ls_S127:loopsIn body_S127=[]:=by kernel_rfl
theorem fn_S127 (N:Nat) (x:AVals sg_S127) (kf:Ret→Option Ret):F_S127 N x kf=peFunc h_S127 (Orc.of (es_S127 N)) (noL N N) Try.f127 (ashape sg_S127 x) kf:=by kernel_rfl
theorem sd_S127 {Γ : Gl} (N:Nat):Sound Γ Try.prog 127 (run_S127 N):=fun_ok2 (hh:=h_S127) mixed tab_ok (es:=es_S127 N) ⟨sd_S152 N,trivial⟩ (fn:=Try.f127) (body:=body_S127) (by kernel_rfl) (by kernel_rfl) (by kernel_rfl) (by kernel_rfl) (by kernel_rfl) (Lf:=noL N) (noL0 N) ls_S127 trivial (N:=N) (by kernel_rfl) (fn_S127 N) (.inl (by kernel_rfl))
noncomputable def ks_S129_l3:List Kd:=[.v (.sl tQIIIIE) .k,dK,dK,.v (.int .i64) .k,.v (.int .i64) .k,dK,dK,dK,dK,dK,dK,dK,dK,dK,dK,dK,dK,dK,dK,dK,dK,dK,dK,dK,dK,dK,dK,dK,dK,dK,dK,dK,dK,dK,dK,dK,dK,dK,dK,dK,dK,dK,dK,dK,dK,dK,dK,dK,dK,dK]
noncomputable def ko_S129_l3_0:List Kd:=[.v (.sl tQIIIIE) .k,dK,dK,dK,dK,dK,dK,dK,dK,dK,dK,dK,dK,dK,dK,dK,dK,dK,dK,dK,dK,dK,dK,dK,dK,dK,dK,dK,dK,dK,dK,dK,dK,dK,dK,dK,dK,dK,dK,dK,dK,dK,dK,dK,dK,dK,dK,dK,dK,dK]
noncomputable def ko_S129_l3_1:List Kd:=[dK,dK,.v .bool .k,dK,dK,dK,dK,dK,dK,dK,dK,dK,dK,dK,dK,dK,dK,dK,dK,dK,dK,dK,dK,dK,dK,dK,dK,dK,dK,dK,dK,dK,dK,dK,dK,dK,dK,dK,dK,dK,dK,dK,dK,dK,dK,dK,dK,dK,dK,dK]
noncomputable def h_S129:Hint:={ tab,hn:=[],loops:=[(3,ks_S129_l3)],outs:=[(3,2,ko_S129_l3_0),(3,1,ko_S129_l3_1)],ords:=[] }
noncomputable def sg_S129:List AK:=[.v (.sl tQIIIIE) .k]
noncomputable def F_S129 (N:Nat) (x:AVals sg_S129) (kf:Ret→Option Ret):Option Ret:=S129 N x.1 (fun r0=>kf ⟨[⟨.bool,.k,r0⟩],[]⟩)
noncomputable def run_S129 (N:Nat):=runOf sg_S129 (F_S129 N)
noncomputable def es_S129 (N:Nat):List Entry:=[⟨127,[.val,.val],(run_S127 N)⟩,⟨72,[.val,.val,.val],(run_S72 N)⟩]
noncomputable def body_S129:Code:=match Try.f129.body with | some c=>c | none=>.skip
noncomputable def L_S129 (N n:Nat) (key:Nat) (S:St) (K:Ks):Option Ret:=bif Nat.beq key 3 then withVals ks_S129_l3 S (fun x=>S129_l3 N x.1 n (K (.x 0) (shape ko_S129_l3_0 (x.1,()))) (fun z0=>K .r (shape ko_S129_l3_1 (z0,()))) x.2.1 x.2.2.1) else none
theorem L0_S129 (N key:Nat) (S:St) (K:Ks):L_S129 N 0 key S K=none:=(bif0 (withVals0 fun _=>rfl) rfl)
noncomputable def c_S129_0:Code:=(loopsIn body_S129).getD 0 .skip
theorem ls_S129:loopsIn body_S129=[c_S129_0]:=by kernel_rfl
theorem rd_S129_3 (N n:Nat) (x:Vals ks_S129_l3) (K:Ks):L_S129 N (n + 1) 3 (shape ks_S129_l3 x) (h_S129.onOut 3 K)=peRound h_S129 (Orc.of (es_S129 N)) (mixL (L_S129 N) N n 3) c_S129_0 (shape ks_S129_l3 x) (h_S129.onOut 3 K):=by kernel_rfl
theorem fn_S129 (N:Nat) (x:AVals sg_S129) (kf:Ret→Option Ret):F_S129 N x kf=peFunc h_S129 (Orc.of (es_S129 N)) (L_S129 N N) Try.f129 (ashape sg_S129 x) kf:=by kernel_rfl
theorem sd_S129 {Γ : Gl} (N:Nat):Sound Γ Try.prog 129 (run_S129 N):=fun_ok2 (hh:=h_S129) mixed tab_ok (es:=es_S129 N) ⟨sd_S127 N,⟨sd_S72 N,trivial⟩⟩ (fn:=Try.f129) (body:=body_S129) (by kernel_rfl) (by kernel_rfl) (by kernel_rfl) (by kernel_rfl) (by kernel_rfl) (Lf:=L_S129 N) (L0_S129 N) ls_S129 (round_cons (key:=3) (ks:=ks_S129_l3) (by kernel_rfl) (by kernel_rfl) (rd_S129_3 N) trivial) (N:=N) (by kernel_rfl) (fn_S129 N) (.inl (by kernel_rfl))
noncomputable def h_S104:Hint:={ tab,hn:=[],loops:=[],outs:=[],ords:=[(2,(OT.seq [0,2,1,3,4,5] .done)),(3,(OT.seq [1] (.any [0,2,3,4] (OT.seq [5,6] .done))))] }
noncomputable def sg_S104:List AK:=[.v (.sl tQIIIIE) .k,.v (.int .i64) .k,.v (.int .i64) .k]
noncomputable def F_S104 (N:Nat) (x:AVals sg_S104) (kf:Ret→Option Ret):Option Ret:=S104 N x.1 x.2.1 x.2.2.1 (fun r0 r1=>kf ⟨[⟨(.sl tQIIIIE),(.o 79 none .k),r0⟩,⟨.bool,.k,r1⟩],[]⟩)
noncomputable def run_S104 (N:Nat):=runOf sg_S104 (F_S104 N)
noncomputable def es_S104 (N:Nat):List Entry:=[⟨128,[.val],(run_S128 N)⟩,⟨127,[.val,.val],(run_S127 N)⟩,⟨129,[.val],(run_S129 N)⟩]
noncomputable def body_S104:Code:=match Try.f104.body with | some c=>c | none=>.skip
theorem ls_S104:loopsIn body_S104=[]:=by kernel_rfl
theorem fn_S104 (N:Nat) (x:AVals sg_S104) (kf:Ret→Option Ret):F_S104 N x kf=peFunc h_S104 (Orc.of (es_S104 N)) (noL N N) Try.f104 (ashape sg_S104 x) kf:=by kernel_rfl
theorem sd_S104 {Γ : Gl} (N:Nat):Sound Γ Try.prog 104 (run_S104 N):=fun_ok2 (hh:=h_S104) mixed tab_ok (es:=es_S104 N) ⟨sd_S128 N,⟨sd_S127 N,⟨sd_S129 N,trivial⟩⟩⟩ (fn:=Try.f104) (body:=body_S104) (by kernel_rfl) (by kernel_rfl) (by kernel_rfl) (by kernel_rfl) (by kernel_rfl) (Lf:=noL N) (noL0 N) ls_S104 trivial (N:=N) (by kernel_rfl) (fn_S104 N) (.inl (by kernel_rfl))
noncomputable def ks_S184_l3:List Kd:=[.v (.sl tQIIIIILIE) .k,.v (.sl tQIIE) .k,dK,dK,dK,.v (.sl (.int .i64)) (.o 3 none .k),.v (.int .i64) .k,dK,dK,dK,dK,dK,dK,dK,dK,dK,dK,dK,dK,dK,dK,dK,dK,dK,dK,dK,dK,dK,dK,dK,dK,dK,dK,dK,dK,dK,dK,dK,dK,dK,dK,dK,dK,dK,dK,dK,dK,dK,dK,dK,dK,dK,dK,dK,dK,dK,dK,dK,dK,dK,dK,dK,dK,dK,dK,dK,dK]
noncomputable def ko_S184_l3_0:List Kd:=[.v (.sl tQIIIIILIE) .k,dK,dK,dK,dK,.v (.sl (.int .i64)) (.o 3 none .k),dK,dK,dK,dK,dK,dK,dK,dK,dK,dK,dK,dK,dK,dK,dK,dK,dK,dK,dK,dK,dK,dK,dK,dK,dK,dK,dK,dK,dK,dK,dK,dK,dK,dK,dK,dK,dK,dK,dK,dK,dK,dK,dK,dK,dK,dK,dK,dK,dK,dK,dK,dK,dK,dK,dK,dK,dK,dK,dK,dK,dK]
noncomputable def ko_S184_l3_1:List Kd:=[dK,dK,dK,dK,.v .bool .k,dK,dK,dK,dK,dK,dK,dK,dK,dK,dK,dK,dK,dK,dK,dK,dK,dK,dK,dK,dK,dK,dK,dK,dK,dK,dK,dK,dK,dK,dK,dK,dK,dK,dK,dK,dK,dK,dK,dK,dK,dK,dK,dK,dK,dK,dK,dK,dK,dK,dK,dK,dK,dK,dK,dK,dK,dK,dK,dK,dK,dK,dK]
noncomputable def h_S184:Hint:={ tab,hn:=[],loops:=[(3,ks_S184_l3)],outs:=[(3,2,ko_S184_l3_0),(3,1,ko_S184_l3_1)],ords:=[(5,(OT.seq [0,1,2,3,4,5,6,7,8,9,10,11,12,13,14,15,16,17,18,19,20,21,22,23,24,25,26,27,28,29,30] .done)),(7,(OT.seq [0,1,2,3,4,5,6,7,8,9,10,11,12,13] .done))] }
noncomputable def sg_S184:List AK:=[.v (.sl tQIIIIILIE) .k,.v (.sl tQIIE) .k]
noncomputable def F_S184 (N:Nat) (x:AVals sg_S184) (kf:Ret→Option Ret):Option Ret:=S184 N x.1 x.2.1 (fun r0=>kf ⟨[⟨.bool,.k,r0⟩],[]⟩)
noncomputable def run_S184 (N:Nat):=runOf sg_S184 (F_S184 N)
noncomputable def es_S184 (N:Nat):List Entry:=[⟨133,[.val,.val,.val],(run_S133 N)⟩,⟨118,[.val,.val],(run_S118 N)⟩,⟨111,[.val],(run_S111 N)⟩]
noncomputable def body_S184:Code:=match Try.f184.body with | some c=>c | none=>.skip
noncomputable def L_S184 (N n:Nat) (key:Nat) (S:St) (K:Ks):Option Ret:=bif Nat.beq key 3 then withVals ks_S184_l3 S (fun x=>S184_l3 N x.1 x.2.1 n (fun z0=>K (.x 0) (shape ko_S184_l3_0 (x.1,z0,()))) (fun z0=>K .r (shape ko_S184_l3_1 (z0,()))) x.2.2.1 x.2.2.2.1) else none
theorem L0_S184 (N key:Nat) (S:St) (K:Ks):L_S184 N 0 key S K=none:=(bif0 (withVals0 fun _=>rfl) rfl)
noncomputable def c_S184_0:Code:=(loopsIn body_S184).getD 0 .skip
theorem ls_S184:loopsIn body_S184=[c_S184_0]:=by kernel_rfl
theorem rd_S184_3 (N n:Nat) (x:Vals ks_S184_l3) (K:Ks):L_S184 N (n + 1) 3 (shape ks_S184_l3 x) (h_S184.onOut 3 K)=peRound h_S184 (Orc.of (es_S184 N)) (mixL (L_S184 N) N n 3) c_S184_0 (shape ks_S184_l3 x) (h_S184.onOut 3 K):=by kernel_rfl
theorem fn_S184 (N:Nat) (x:AVals sg_S184) (kf:Ret→Option Ret):F_S184 N x kf=peFunc h_S184 (Orc.of (es_S184 N)) (L_S184 N N) Try.f184 (ashape sg_S184 x) kf:=by kernel_rfl
theorem sd_S184 {Γ : Gl} (N:Nat):Sound Γ Try.prog 184 (run_S184 N):=fun_ok2 (hh:=h_S184) mixed tab_ok (es:=es_S184 N) ⟨sd_S133 N,⟨sd_S118 N,⟨sd_S111 N,trivial⟩⟩⟩ (fn:=Try.f184) (body:=body_S184) (by kernel_rfl) (by kernel_rfl) (by kernel_rfl) (by kernel_rfl) (by kernel_rfl) (Lf:=L_S184 N) (L0_S184 N) ls_S184 (round_cons (key:=3) (ks:=ks_S184_l3) (by kernel_rfl) (by kernel_rfl) (rd_S184_3 N) trivial) (N:=N) (by kernel_rfl) (fn_S184 N) (.inl (by kernel_rfl))
noncomputable def ks_S166_l2:List Kd:=[.v (.sl tQIILIE) .k,.v (.int .i64) .k,dK,dK,dK,.v (.int .i64) .k,dK,dK,dK,dK,dK,dK,dK,dK,dK,dK,dK,dK,dK,dK]
noncomputable def ko_S166_l2_0:List Kd:=[dK,dK,dK,dK,dK,dK,dK,dK,dK,dK,dK,dK,dK,dK,dK,dK,dK,dK,dK,dK]
noncomputable def ko_S166_l2_1:List Kd:=[dK,dK,dK,dK,.v (.int .i64) .k,dK,dK,dK,dK,dK,dK,dK,dK,dK,dK,dK,dK,dK,dK,dK]
noncomputable def h_S166:Hint:={ tab,hn:=[],loops:=[(2,ks_S166_l2)],outs:=[(2,2,ko_S166_l2_0),(2,1,ko_S166_l2_1)],ords:=[] }
noncomputable def sg_S166:List AK:=[.v (.sl tQIILIE) .k,.v (.int .i64) .k]
noncomputable def F_S166 (N:Nat) (x:AVals sg_S166) (kf:Ret→Option Ret):Option Ret:=S166 N x.1 x.2.1 (fun r0=>kf ⟨[⟨(.int .i64),.k,r0⟩],[]⟩)
noncomputable def run_S166 (N:Nat):=runOf sg_S166 (F_S166 N)
noncomputable def es_S166 (N:Nat):List Entry:=[]
noncomputable def body_S166:Code:=match Try.f166.body with | some c=>c | none=>.skip
noncomputable def L_S166 (N n:Nat) (key:Nat) (S:St) (K:Ks):Option Ret:=bif Nat.beq key 2 then withVals ks_S166_l2 S (fun x=>S166_l2 x.1 x.2.1 n (K (.x 0) (shape ko_S166_l2_0 ())) (fun z0=>K .r (shape ko_S166_l2_1 (z0,()))) x.2.2.1) else none
theorem L0_S166 (N key:Nat) (S:St) (K:Ks):L_S166 N 0 key S K=none:=(bif0 (withVals0 fun _=>rfl) rfl)
noncomputable def c_S166_0:Code:=(loopsIn body_S166).getD 0 .skip
theorem ls_S166:loopsIn body_S166=[c_S166_0]:=by kernel_rfl
theorem rd_S166_2 (N n:Nat) (x:Vals ks_S166_l2) (K:Ks):L_S166 N (n + 1) 2 (shape ks_S166_l2 x) (h_S166.onOut 2 K)=peRound h_S166 (Orc.of (es_S166 N)) (mixL (L_S166 N) N n 2) c_S166_0 (shape ks_S166_l2 x) (h_S166.onOut 2 K):=by kernel_rfl
theorem fn_S166 (N:Nat) (x:AVals sg_S166) (kf:Ret→Option Ret):F_S166 N x kf=peFunc h_S166 (Orc.of (es_S166 N)) (L_S166 N N) Try.f166 (ashape sg_S166 x) kf:=by kernel_rfl
theorem sd_S166 {Γ : Gl} (N:Nat):Sound Γ Try.prog 166 (run_S166 N):=fun_ok2 (hh:=h_S166) mixed tab_ok (es:=es_S166 N) trivial (fn:=Try.f166) (body:=body_S166) (by kernel_rfl) (by kernel_rfl) (by kernel_rfl) (by kernel_rfl) (by kernel_rfl) (Lf:=L_S166 N) (L0_S166 N) ls_S166 (round_cons (key:=2) (ks:=ks_S166_l2) (by kernel_rfl) (by kernel_rfl) (rd_S166_2 N) trivial) (N:=N) (by kernel_rfl) (fn_S166 N) (.inl (by kernel_rfl))
noncomputable def ks_S185_l4:List Kd:=[.v (.sl tQIIIIILIE) .k,.v (.sl tQIILIE) .k,.v (.sl tQIIE) .k,.v (.sl (.int .i64)) .k,dK,dK,dK,dK,dK,.v (.int .i64) .k,dK,dK,dK,dK,dK,dK,dK,dK,dK,dK,dK,dK,dK,dK,dK,dK,dK,dK,dK,dK,dK,dK,dK,dK,dK,dK,dK,dK,dK,dK,dK,dK,dK,dK,dK,dK,dK,dK,dK,dK,dK,dK,dK,dK,dK,dK,dK,dK]
noncomputable def ko_S185_l4_0:List Kd:=[dK,dK,dK,dK,dK,dK,dK,dK,dK,dK,dK,dK,dK,dK,dK,dK,dK,dK,dK,dK,dK,dK,dK,dK,dK,dK,dK,dK,dK,dK,dK,dK,dK,dK,dK,dK,dK,dK,dK,dK,dK,dK,dK,dK,dK,dK,dK,dK,dK,dK,dK,dK,dK,dK,dK,dK,dK,dK]
noncomputable def ko_S185_l4_1:List Kd:=[dK,dK,dK,dK,dK,dK,dK,dK,.v .bool .k,dK,dK,dK,dK,dK,dK,dK,dK,dK,dK,dK,dK,dK,dK,dK,dK,dK,dK,dK,dK,dK,dK,dK,dK,dK,dK,dK,dK,dK,dK,dK,dK,dK,dK,dK,dK,dK,dK,dK,dK,dK,dK,dK,dK,dK,dK,dK,dK,dK]
noncomputable def h_S185:Hint:={ tab,hn:=[],loops:=[(4,ks_S185_l4)],outs:=[(4,2,ko_S185_l4_0),(4,1,ko_S185_l4_1)],ords:=[(7,(OT.seq [0,1,2,3,4,5,6,7,8,9,10,11,12,13,14,15,16,17,18,19,20,21,22,23,24] .done))] }
noncomputable def sg_S185:List AK:=[.v (.sl tQIIIIILIE) .k,.v (.sl tQIILIE) .k,.v (.sl tQIIE) .k,.v (.sl (.int .i64)) .k]
noncomputable def F_S185 (N:Nat) (x:AVals sg_S185) (kf:Ret→Option Ret):Option Ret:=S185 N x.1 x.2.1 x.2.2.1 x.2.2.2.1 (fun r0=>kf ⟨[⟨.bool,.k,r0⟩],[]⟩)
noncomputable def run_S185 (N:Nat):=runOf sg_S185 (F_S185 N)
noncomputable def es_S185 (N:Nat):List Entry:=[⟨114,[.val],(run_S114 N)⟩,⟨166,[.val,.val],(run_S166 N)⟩,⟨118,[.val,.val],(run_S118 N)⟩,⟨136,[.val,.val,.val],(run_S136 N)⟩]
noncomputable def body_S185:Code:=match Try.f185.body with | some c=>c | none=>.skip
noncomputable def L_S185 (N n:Nat) (key:Nat) (S:St) (K:Ks):Option Ret:=bif Nat.beq key 4 then withVals ks_S185_l4 S (fun x=>S185_l4 N x.1 x.2.1 x.2.2.1 x.2.2.2.1 n (K (.x 0) (shape ko_S185_l4_0 ())) (fun z0=>K .r (shape ko_S185_l4_1 (z0,()))) x.2.2.2.2.1) else none
theorem L0_S185 (N key:Nat) (S:St) (K:Ks):L_S185 N 0 key S K=none:=(bif0 (withVals0 fun _=>rfl) rfl)
noncomputable def c_S185_0:Code:=(loopsIn body_S185).getD 0 .skip
theorem ls_S185:loopsIn body_S185=[c_S185_0]:=by kernel_rfl
theorem rd_S185_4 (N n:Nat) (x:Vals ks_S185_l4) (K:Ks):L_S185 N (n + 1) 4 (shape ks_S185_l4 x) (h_S185.onOut 4 K)=peRound h_S185 (Orc.of (es_S185 N)) (mixL (L_S185 N) N n 4) c_S185_0 (shape ks_S185_l4 x) (h_S185.onOut 4 K):=by kernel_rfl
theorem fn_S185 (N:Nat) (x:AVals sg_S185) (kf:Ret→Option Ret):F_S185 N x kf=peFunc h_S185 (Orc.of (es_S185 N)) (L_S185 N N) Try.f185 (ashape sg_S185 x) kf:=by kernel_rfl
theorem sd_S185 {Γ : Gl} (N:Nat):Sound Γ Try.prog 185 (run_S185 N):=fun_ok2 (hh:=h_S185) mixed tab_ok (es:=es_S185 N) ⟨sd_S114 N,⟨sd_S166 N,⟨sd_S118 N,⟨sd_S136 N,trivial⟩⟩⟩⟩ (fn:=Try.f185) (body:=body_S185) (by kernel_rfl) (by kernel_rfl) (by kernel_rfl) (by kernel_rfl) (by kernel_rfl) (Lf:=L_S185 N) (L0_S185 N) ls_S185 (round_cons (key:=4) (ks:=ks_S185_l4) (by kernel_rfl) (by kernel_rfl) (rd_S185_4 N) trivial) (N:=N) (by kernel_rfl) (fn_S185 N) (.inl (by kernel_rfl))
noncomputable def h_S163:Hint:={ tab,hn:=[],loops:=[],outs:=[],ords:=[] }
noncomputable def sg_S163:List AK:=[.v tQIIIE .k]
noncomputable def F_S163 (N:Nat) (x:AVals sg_S163) (kf:Ret→Option Ret):Option Ret:=S163 N x.1 (fun r0=>kf ⟨[⟨.bool,.k,r0⟩],[]⟩)
noncomputable def run_S163 (N:Nat):=runOf sg_S163 (F_S163 N)
noncomputable def es_S163 (N:Nat):List Entry:=[⟨72,[.val,.val,.val],(run_S72 N)⟩]
noncomputable def body_S163:Code:=match Try.f163.body with | some c=>c | none=>.skip
theorem ls_S163:loopsIn body_S163=[]:=by kernel_rfl
theorem fn_S163 (N:Nat) (x:AVals sg_S163) (kf:Ret→Option Ret):F_S163 N x kf=peFunc h_S163 (Orc.of (es_S163 N)) (noL N N) Try.f163 (ashape sg_S163 x) kf:=by kernel_rfl
theorem sd_S163 {Γ : Gl} (N:Nat):Sound Γ Try.prog 163 (run_S163 N):=fun_ok2 (hh:=h_S163) mixed tab_ok (es:=es_S163 N) ⟨sd_S72 N,trivial⟩ (fn:=Try.f163) (body:=body_S163) (by kernel_rfl) (by kernel_rfl) (by kernel_rfl) (by kernel_rfl) (by kernel_rfl) (Lf:=noL N) (noL0 N) ls_S163 trivial (N:=N) (by kernel_rfl) (fn_S163 N) (.inl (by kernel_rfl))
noncomputable def ks_S162_l7:List Kd:=[dK,.v (.ptr tQLQIIIIILIELQIILIELQIIELILQIIIELQIIIIEIE) (.o 32 none .k),dK,.v (.ptr tQIIIE) (.o 70 none .k),.v (.int .i64) .k,dK,dK,dK,dK,dK,dK,dK,dK,dK,dK,dK,dK,dK,dK,dK,dK,dK,dK,dK,dK,dK,dK,dK,dK,dK,dK,dK,dK,dK,dK,dK,dK,dK,dK,dK,dK,dK,dK,dK,dK,dK,dK,dK,dK,dK,dK,dK,dK,dK,dK,dK,dK,dK,dK,dK,dK,dK,dK,dK,dK,dK,dK,dK,dK,dK,dK,dK,dK,dK,dK,dK,dK,dK,dK,dK,dK,dK,dK,dK,dK,dK,dK,dK,dK,dK,dK,dK,dK,dK,dK,dK,dK,dK,dK,dK,dK,dK,dK,dK,dK,dK,dK,dK,dK,dK,dK,dK,dK,dK,dK]
noncomputable def ko_S162_l7_0:List Kd:=[dK,dK,dK,dK,dK,dK,dK,dK,dK,dK,dK,dK,dK,dK,dK,dK,dK,dK,dK,dK,dK,dK,dK,dK,dK,dK,dK,dK,dK,dK,dK,dK,dK,dK,dK,dK,dK,dK,dK,dK,dK,dK,dK,dK,dK,dK,dK,dK,dK,dK,dK,dK,dK,dK,dK,dK,dK,dK,dK,dK,dK,dK,dK,dK,dK,dK,dK,dK,dK,dK,dK,dK,dK,dK,dK,dK,dK,dK,dK,dK,dK,dK,dK,dK,dK,dK,dK,dK,dK,dK,dK,dK,dK,dK,dK,dK,dK,dK,dK,dK,dK,dK,dK,dK,dK,dK,dK,dK,dK,dK,dK,dK,dK,dK,dK]
noncomputable def ko_S162_l7_1:List Kd:=[dK,dK,.v .bool .k,dK,dK,dK,dK,dK,dK,dK,dK,dK,dK,dK,dK,dK,dK,dK,dK,dK,dK,dK,dK,dK,dK,dK,dK,dK,dK,dK,dK,dK,dK,dK,dK,dK,dK,dK,dK,dK,dK,dK,dK,dK,dK,dK,dK,dK,dK,dK,dK,dK,dK,dK,dK,dK,dK,dK,dK,dK,dK,dK,dK,dK,dK,dK,dK,dK,dK,dK,dK,dK,dK,dK,dK,dK,dK,dK,dK,dK,dK,dK,dK,dK,dK,dK,dK,dK,dK,dK,dK,dK,dK,dK,dK,dK,dK,dK,dK,dK,dK,dK,dK,dK,dK,dK,dK,dK,dK,dK,dK,dK,dK,dK,dK]
noncomputable def h_S162:Hint:={ tab,hn:=[],loops:=[(7,ks_S162_l7)],outs:=[(7,2,ko_S162_l7_0),(7,1,ko_S162_l7_1)],ords:=[(1,(OT.seq [0,1,2,3,4,5,6,7,8,9,10,11,12,13,14,15,16,17,18,19,20,21,22,23,24,25,26,27,28,29,30,31,32,33,34,35,36,37,38,39,40,41,42,44,45,43,46,47] .done)),(9,(OT.seq [0,1,2,3,4,5,6,7,8,9,10,11,12,13,14,15,16,17,18,19,20,21,22,23,24,25,26,27,28,29] .done))] }
noncomputable def sg_S162:List AK:=[.v tQLQIIIIILIELQIILIELQIIELILQIIIELQIIIIEIE .k]
noncomputable def F_S162 (N:Nat) (x:AVals sg_S162) (kf:Ret→Option Ret):Option Ret:=S162 N x.1 (fun r0=>kf ⟨[⟨.bool,.k,r0⟩],[]⟩)
noncomputable def run_S162 (N:Nat):=runOf sg_S162 (F_S162 N)
noncomputable def es_S162 (N:Nat):List Entry:=[⟨111,[.val],(run_S111 N)⟩,⟨114,[.val],(run_S114 N)⟩,⟨129,[.val],(run_S129 N)⟩,⟨72,[.val,.val,.val],(run_S72 N)⟩,⟨84,[.val],(run_S84 N)⟩,⟨184,[.val,.val],(run_S184 N)⟩,⟨185,[.val,.val,.val,.val],(run_S185 N)⟩,⟨163,[.val],(run_S163 N)⟩]
noncomputable def body_S162:Code:=match Try.f162.body with | some c=>c | none=>.skip
noncomputable def L_S162 (N n:Nat) (key:Nat) (S:St) (K:Ks):Option Ret:=bif Nat.beq key 7 then withVals ks_S162_l7 S (fun x=>S162_l7 N x.1 x.2.1 n (K (.x 0) (shape ko_S162_l7_0 ())) (fun z0=>K .r (shape ko_S162_l7_1 (z0,()))) x.2.2.1) else none
theorem L0_S162 (N key:Nat) (S:St) (K:Ks):L_S162 N 0 key S K=none:=(bif0 (withVals0 fun _=>rfl) rfl)
noncomputable def c_S162_0:Code:=(loopsIn body_S162).getD 0 .skip
theorem ls_S162:loopsIn body_S162=[c_S162_0]:=by kernel_rfl
theorem rd_S162_7 (N n:Nat) (x:Vals ks_S162_l7) (K:Ks):L_S162 N (n + 1) 7 (shape ks_S162_l7 x) (h_S162.onOut 7 K)=peRound h_S162 (Orc.of (es_S162 N)) (mixL (L_S162 N) N n 7) c_S162_0 (shape ks_S162_l7 x) (h_S162.onOut 7 K):=by kernel_rfl
theorem fn_S162 (N:Nat) (x:AVals sg_S162) (kf:Ret→Option Ret):F_S162 N x kf=peFunc h_S162 (Orc.of (es_S162 N)) (L_S162 N N) Try.f162 (ashape sg_S162 x) kf:=by kernel_rfl
theorem sd_S162 {Γ : Gl} (N:Nat):Sound Γ Try.prog 162 (run_S162 N):=fun_ok2 (hh:=h_S162) mixed tab_ok (es:=es_S162 N) ⟨sd_S111 N,⟨sd_S114 N,⟨sd_S129 N,⟨sd_S72 N,⟨sd_S84 N,⟨sd_S184 N,⟨sd_S185 N,⟨sd_S163 N,trivial⟩⟩⟩⟩⟩⟩⟩⟩ (fn:=Try.f162) (body:=body_S162) (by kernel_rfl) (by kernel_rfl) (by kernel_rfl) (by kernel_rfl) (by kernel_rfl) (Lf:=L_S162 N) (L0_S162 N) ls_S162 (round_cons (key:=7) (ks:=ks_S162_l7) (by kernel_rfl) (by kernel_rfl) (rd_S162_7 N) trivial) (N:=N) (by kernel_rfl) (fn_S162 N) (.inl (by kernel_rfl))
noncomputable def h_S160:Hint:={ tab,hn:=[],loops:=[],outs:=[],ords:=[] }
noncomputable def sg_S160:List AK:=[.v tQLQIIIIILIELQIILIELQIIELILQIIIELQIIIIEIE .k,.v tQLQIIIIILIELQIILIELQIIELILQIIIELQIIIIEIE (.p (.o 54 none (.p .k (.p .k (.p .k (.p .k (.p .k (.o 3 none .k))))))) (.p (.o 85 none (.p .k (.p .k (.o 3 none .k)))) (.p (.o 89 none .k) (.p (.o 3 none .k) (.p (.o 70 none .k) (.p (.o 79 none .k) .k)))))),.v .bool .k,.v (.int .i64) .k,.v (.int .i64) .k]
noncomputable def F_S160 (N:Nat) (x:AVals sg_S160) (kf:Ret→Option Ret):Option Ret:=S160 N x.1 x.2.1 x.2.2.1 x.2.2.2.1 x.2.2.2.2.1 (fun r0 r1=>kf ⟨[⟨tQLQIIIIILIELQIILIELQIIELILQIIIELQIIIIEIE,(.p (.o 54 none (.p .k (.p .k (.p .k (.p .k (.p .k (.o 3 none .k))))))) (.p (.o 85 none (.p .k (.p .k (.o 3 none .k)))) (.p (.o 89 none .k) (.p (.o 3 none .k) (.p (.o 70 none .k) (.p (.o 79 none .k) .k)))))),r0⟩,⟨.bool,.k,r1⟩],[]⟩)
noncomputable def run_S160 (N:Nat):=runOf sg_S160 (F_S160 N)
noncomputable def es_S160 (N:Nat):List Entry:=[⟨104,[.val,.val,.val],(run_S104 N)⟩,⟨162,[.val],(run_S162 N)⟩,⟨49,[.val],(run_S49 N)⟩]
noncomputable def body_S160:Code:=match Try.f160.body with | some c=>c | none=>.skip
theorem ls_S160:loopsIn body_S160=[]:=by kernel_rfl
theorem fn_S160 (N:Nat) (x:AVals sg_S160) (kf:Ret→Option Ret):F_S160 N x kf=peFunc h_S160 (Orc.of (es_S160 N)) (noL N N) Try.f160 (ashape sg_S160 x) kf:=by kernel_rfl
theorem sd_S160 {Γ : Gl} (N:Nat):Sound Γ Try.prog 160 (run_S160 N):=fun_ok2 (hh:=h_S160) mixed tab_ok (es:=es_S160 N) ⟨sd_S104 N,⟨sd_S162 N,⟨sd_S49 N,trivial⟩⟩⟩ (fn:=Try.f160) (body:=body_S160) (by kernel_rfl) (by kernel_rfl) (by kernel_rfl) (by kernel_rfl) (by kernel_rfl) (Lf:=noL N) (noL0 N) ls_S160 trivial (N:=N) (by kernel_rfl) (fn_S160 N) (.inl (by kernel_rfl))
noncomputable def ks_S145_l3:List Kd:=[dK,.v (.int .i64) .k,.v (.int .i64) .k,.v (.ptr tQLQIIIIILIELQIILIELQIIELILQIIIELQIIIIEIE) (.o 32 none .k),dK,dK,.v (.ptr tQLQIIIIILIELQIILIELQIIELILQIIIELQIIIIEIE) (.o 32 none (.p (.o 54 none (.p .k (.p .k (.p .k (.p .k (.p .k (.o 3 none .k))))))) (.p (.o 85 none (.p .k (.p .k (.o 3 none .k)))) (.p (.o 89 none .k) (.p (.o 3 none .k) (.p (.o 70 none .k) (.p (.o 79 none .k) .k))))))),dK,.v (.ptr tQLQIIIIILIELQIILIELQIIELILQIIIELQIIIIEIE) (.o 32 none (.p (.o 54 none (.p .k (.p .k (.p .k (.p .k (.p .k (.o 3 none .k))))))) (.p (.o 85 none (.p .k (.p .k (.o 3 none .k)))) (.p (.o 89 none .k) (.p (.o 3 none .k) (.p (.o 70 none .k) (.p (.o 79 none .k) .k))))))),.v (.int .i64) .k,dK,dK,dK,dK,dK,dK,dK,dK,dK,dK,dK,dK,dK,dK,dK,dK,dK,dK,dK,dK,dK,dK,dK,dK,dK,dK,dK,dK,dK,dK,dK,dK,dK,dK,dK,dK,dK,dK,dK,dK,dK,dK,dK,dK,dK]
noncomputable def ko_S145_l3_0:List Kd:=[dK,.v (.int .i64) .k,.v (.int .i64) .k,.v (.ptr tQLQIIIIILIELQIILIELQIIELILQIIIELQIIIIEIE) (.o 32 none .k),dK,dK,.v (.ptr tQLQIIIIILIELQIILIELQIIELILQIIIELQIIIIEIE) (.o 32 none (.p (.o 54 none (.p .k (.p .k (.p .k (.p .k (.p .k (.o 3 none .k))))))) (.p (.o 85 none (.p .k (.p .k (.o 3 none .k)))) (.p (.o 89 none .k) (.p (.o 3 none .k) (.p (.o 70 none .k) (.p (.o 79 none .k) .k))))))),dK,.v (.ptr tQLQIIIIILIELQIILIELQIIELILQIIIELQIIIIEIE) (.o 32 none (.p (.o 54 none (.p .k (.p .k (.p .k (.p .k (.p .k (.o 3 none .k))))))) (.p (.o 85 none (.p .k (.p .k (.o 3 none .k)))) (.p (.o 89 none .k) (.p (.o 3 none .k) (.p (.o 70 none .k) (.p (.o 79 none .k) .k))))))),.v (.int .i64) .k,dK,dK,dK,dK,dK,dK,dK,dK,dK,dK,dK,dK,dK,dK,dK,dK,dK,dK,dK,dK,dK,dK,dK,dK,dK,dK,dK,dK,dK,dK,dK,dK,dK,dK,dK,dK,dK,dK,dK,dK,dK,dK,dK,dK,dK]
noncomputable def h_S145:Hint:={ tab,hn:=[],loops:=[(3,ks_S145_l3)],outs:=[(3,2,ko_S145_l3_0)],ords:=[(5,(OT.seq [0,1,2,3,5,6,7,10,12] (.any [4,8,9,11,13] (OT.seq [14,15,16,17] .done)))),(6,(OT.seq [0,1,2,5,3,4,6,7,8,9,10] .done))] }
noncomputable def sg_S145:List AK:=[.v tQLQIIIIILIELQIILIELQIIELILQIIIELQIIIIEIE .k,.v (.int .i64) .k,.v (.int .i64) .k]
noncomputable def F_S145 (N:Nat) (x:AVals sg_S145) (kf:Ret→Option Ret):Option Ret:=S145 N x.1 x.2.1 x.2.2.1 (fun r0 r1=>kf ⟨[⟨tQLQIIIIILIELQIILIELQIIELILQIIIELQIIIIEIE,(.p (.o 54 none (.p .k (.p .k (.p .k (.p .k (.p .k (.o 3 none .k))))))) (.p (.o 85 none (.p .k (.p .k (.o 3 none .k)))) (.p (.o 89 none .k) (.p (.o 3 none .k) (.p (.o 70 none .k) (.p (.o 79 none .k) .k)))))),r0⟩,⟨.bool,.k,r1⟩],[]⟩)
noncomputable def run_S145 (N:Nat):=runOf sg_S145 (F_S145 N)
noncomputable def es_S145 (N:Nat):List Entry:=[⟨49,[.val],(run_S49 N)⟩,⟨89,[.val],(run_S89 N)⟩,⟨161,[.val],(run_S161 N)⟩,⟨160,[.val,.take,.val,.val,.val],(run_S160 N)⟩]
noncomputable def body_S145:Code:=match Try.f145.body with | some c=>c | none=>.skip
noncomputable def L_S145 (N n:Nat) (key:Nat) (S:St) (K:Ks):Option Ret:=bif Nat.beq key 3 then withVals ks_S145_l3 S (fun x=>S145_l3 x.1 x.2.1 x.2.2.1 x.2.2.2.1 x.2.2.2.2.1 n (fun z0=>K (.x 0) (shape ko_S145_l3_0 (x.1,x.2.1,x.2.2.1,x.2.2.2.1,x.2.2.2.2.1,z0,()))) x.2.2.2.2.2.1) else none
theorem L0_S145 (N key:Nat) (S:St) (K:Ks):L_S145 N 0 key S K=none:=(bif0 (withVals0 fun _=>rfl) rfl)
noncomputable def c_S145_0:Code:=(loopsIn body_S145).getD 0 .skip
theorem ls_S145:loopsIn body_S145=[c_S145_0]:=by kernel_rfl
theorem rd_S145_3 (N n:Nat) (x:Vals ks_S145_l3) (K:Ks):L_S145 N (n + 1) 3 (shape ks_S145_l3 x) (h_S145.onOut 3 K)=peRound h_S145 (Orc.of (es_S145 N)) (mixL (L_S145 N) N n 3) c_S145_0 (shape ks_S145_l3 x) (h_S145.onOut 3 K):=by kernel_rfl
theorem fn_S145 (N:Nat) (x:AVals sg_S145) (kf:Ret→Option Ret):F_S145 N x kf=peFunc h_S145 (Orc.of (es_S145 N)) (L_S145 N N) Try.f145 (ashape sg_S145 x) kf:=by kernel_rfl
theorem sd_S145 {Γ : Gl} (N:Nat):Sound Γ Try.prog 145 (run_S145 N):=fun_ok2 (hh:=h_S145) mixed tab_ok (es:=es_S145 N) ⟨sd_S49 N,⟨sd_S89 N,⟨sd_S161 N,⟨sd_S160 N,trivial⟩⟩⟩⟩ (fn:=Try.f145) (body:=body_S145) (by kernel_rfl) (by kernel_rfl) (by kernel_rfl) (by kernel_rfl) (by kernel_rfl) (Lf:=L_S145 N) (L0_S145 N) ls_S145 (round_cons (key:=3) (ks:=ks_S145_l3) (by kernel_rfl) (by kernel_rfl) (rd_S145_3 N) trivial) (N:=N) (by kernel_rfl) (fn_S145 N) (.inl (by kernel_rfl))
noncomputable def ks_S146_l3:List Kd:=[dK,.v (.int .i64) .k,.v (.int .i64) .k,.v (.ptr tQLQIIIIILIELQIILIELQIIELILQIIIELQIIIIEIE) (.o 32 none .k),dK,dK,.v (.ptr tQLQIIIIILIELQIILIELQIIELILQIIIELQIIIIEIE) (.o 32 none (.p (.o 54 none (.p .k (.p .k (.p .k (.p .k (.p .k (.o 3 none .k))))))) (.p (.o 85 none (.p .k (.p .k (.o 3 none .k)))) (.p (.o 89 none .k) (.p (.o 3 none .k) (.p (.o 70 none .k) (.p (.o 79 none .k) .k))))))),dK,.v (.ptr tQLQIIIIILIELQIILIELQIIELILQIIIELQIIIIEIE) (.o 32 none (.p (.o 54 none (.p .k (.p .k (.p .k (.p .k (.p .k (.o 3 none .k))))))) (.p (.o 85 none (.p .k (.p .k (.o 3 none .k)))) (.p (.o 89 none .k) (.p (.o 3 none .k) (.p (.o 70 none .k) (.p (.o 79 none .k) .k))))))),.v (.int .i64) .k,dK,dK,dK,dK,dK,dK,dK,dK,dK,dK,dK,dK,dK,dK,dK,dK,dK,dK,dK,dK,dK,dK,dK,dK,dK,dK,dK,dK,dK,dK,dK,dK,dK,dK,dK,dK,dK,dK,dK,dK,dK,dK]
noncomputable def ko_S146_l3_0:List Kd:=[dK,.v (.int .i64) .k,.v (.int .i64) .k,.v (.ptr tQLQIIIIILIELQIILIELQIIELILQIIIELQIIIIEIE) (.o 32 none .k),dK,dK,.v (.ptr tQLQIIIIILIELQIILIELQIIELILQIIIELQIIIIEIE) (.o 32 none (.p (.o 54 none (.p .k (.p .k (.p .k (.p .k (.p .k (.o 3 none .k))))))) (.p (.o 85 none (.p .k (.p .k (.o 3 none .k)))) (.p (.o 89 none .k) (.p (.o 3 none .k) (.p (.o 70 none .k) (.p (.o 79 none .k) .k))))))),dK,.v (.ptr tQLQIIIIILIELQIILIELQIIELILQIIIELQIIIIEIE) (.o 32 none (.p (.o 54 none (.p .k (.p .k (.p .k (.p .k (.p .k (.o 3 none .k))))))) (.p (.o 85 none (.p .k (.p .k (.o 3 none .k)))) (.p (.o 89 none .k) (.p (.o 3 none .k) (.p (.o 70 none .k) (.p (.o 79 none .k) .k))))))),.v (.int .i64) .k,dK,dK,dK,dK,dK,dK,dK,dK,dK,dK,dK,dK,dK,dK,dK,dK,dK,dK,dK,dK,dK,dK,dK,dK,dK,dK,dK,dK,dK,dK,dK,dK,dK,dK,dK,dK,dK,dK,dK,dK,dK,dK]
noncomputable def h_S146:Hint:={ tab,hn:=[],loops:=[(3,ks_S146_l3)],outs:=[(3,2,ko_S146_l3_0)],ords:=[(5,(OT.seq [0,1,2,3,5,6,7,10,12] (.any [4,8,9,11,13] (OT.seq [14,15,16,17] .done))))] }
noncomputable def sg_S146:List AK:=[.v tQLQIIIIILIELQIILIELQIIELILQIIIELQIIIIEIE .k,.v (.int .i64) .k,.v (.int .i64) .k]
noncomputable def F_S146 (N:Nat) (x:AVals sg_S146) (kf:Ret→Option Ret):Option Ret:=S146 N x.1 x.2.1 x.2.2.1 (fun r0 r1=>kf ⟨[⟨tQLQIIIIILIELQIILIELQIIELILQIIIELQIIIIEIE,(.p (.o 54 none (.p .k (.p .k (.p .k (.p .k (.p .k (.o 3 none .k))))))) (.p (.o 85 none (.p .k (.p .k (.o 3 none .k)))) (.p (.o 89 none .k) (.p (.o 3 none .k) (.p (.o 70 none .k) (.p (.o 79 none .k) .k)))))),r0⟩,⟨.bool,.k,r1⟩],[]⟩)
noncomputable def run_S146 (N:Nat):=runOf sg_S146 (F_S146 N)
noncomputable def es_S146 (N:Nat):List Entry:=[⟨49,[.val],(run_S49 N)⟩,⟨90,[.val],(run_S90 N)⟩,⟨160,[.val,.take,.val,.val,.val],(run_S160 N)⟩]
noncomputable def body_S146:Code:=match Try.f146.body with | some c=>c | none=>.skip
noncomputable def L_S146 (N n:Nat) (key:Nat) (S:St) (K:Ks):Option Ret:=bif Nat.beq key 3 then withVals ks_S146_l3 S (fun x=>S146_l3 x.1 x.2.1 x.2.2.1 x.2.2.2.1 x.2.2.2.2.1 n (fun z0=>K (.x 0) (shape ko_S146_l3_0 (x.1,x.2.1,x.2.2.1,x.2.2.2.1,x.2.2.2.2.1,z0,()))) x.2.2.2.2.2.1) else none
theorem L0_S146 (N key:Nat) (S:St) (K:Ks):L_S146 N 0 key S K=none:=(bif0 (withVals0 fun _=>rfl) rfl)
noncomputable def c_S146_0:Code:=(loopsIn body_S146).getD 0 .skip
theorem ls_S146:loopsIn body_S146=[c_S146_0]:=by kernel_rfl
theorem rd_S146_3 (N n:Nat) (x:Vals ks_S146_l3) (K:Ks):L_S146 N (n + 1) 3 (shape ks_S146_l3 x) (h_S146.onOut 3 K)=peRound h_S146 (Orc.of (es_S146 N)) (mixL (L_S146 N) N n 3) c_S146_0 (shape ks_S146_l3 x) (h_S146.onOut 3 K):=by kernel_rfl
theorem fn_S146 (N:Nat) (x:AVals sg_S146) (kf:Ret→Option Ret):F_S146 N x kf=peFunc h_S146 (Orc.of (es_S146 N)) (L_S146 N N) Try.f146 (ashape sg_S146 x) kf:=by kernel_rfl
theorem sd_S146 {Γ : Gl} (N:Nat):Sound Γ Try.prog 146 (run_S146 N):=fun_ok2 (hh:=h_S146) mixed tab_ok (es:=es_S146 N) ⟨sd_S49 N,⟨sd_S90 N,⟨sd_S160 N,trivial⟩⟩⟩ (fn:=Try.f146) (body:=body_S146) (by kernel_rfl) (by kernel_rfl) (by kernel_rfl) (by kernel_rfl) (by kernel_rfl) (Lf:=L_S146 N) (L0_S146 N) ls_S146 (round_cons (key:=3) (ks:=ks_S146_l3) (by kernel_rfl) (by kernel_rfl) (rd_S146_3 N) trivial) (N:=N) (by kernel_rfl) (fn_S146 N) (.inl (by kernel_rfl))
noncomputable def h_S147:Hint:={ tab,hn:=[],loops:=[],outs:=[],ords:=[(7,(OT.seq [0,1,2,3,4,5,6,7,8,9,10,11,12,13,14,15,16,17,18,19,20,21] .done))] }
noncomputable def sg_S147:List AK:=[.v tQLQIIIIILIELQIILIELQIIELILQIIIELQIIIIEIE .k]
noncomputable def F_S147 (N:Nat) (x:AVals sg_S147) (kf:Ret→Option Ret):Option Ret:=S147 N x.1 (fun r0 r1=>kf ⟨[⟨tQLQIIIIILIELQIILIELQIIELILQIIIELQIIIIEIE,(.p (.o 54 none (.p .k (.p .k (.p .k (.p .k (.p .k (.o 3 none .k))))))) (.p (.o 85 none (.p .k (.p .k (.o 3 none .k)))) (.p (.o 89 none .k) (.p (.o 3 none .k) (.p (.o 70 none .k) (.p (.o 79 none .k) .k)))))),r0⟩,⟨.bool,.k,r1⟩],[]⟩)
noncomputable def run_S147 (N:Nat):=runOf sg_S147 (F_S147 N)
noncomputable def es_S147 (N:Nat):List Entry:=[⟨49,[.val],(run_S49 N)⟩,⟨85,[.val],(run_S85 N)⟩,⟨86,[.val,.val,.val],(run_S86 N)⟩,⟨161,[.val],(run_S161 N)⟩,⟨160,[.val,.take,.val,.val,.val],(run_S160 N)⟩]
noncomputable def body_S147:Code:=match Try.f147.body with | some c=>c | none=>.skip
theorem ls_S147:loopsIn body_S147=[]:=by kernel_rfl
theorem fn_S147 (N:Nat) (x:AVals sg_S147) (kf:Ret→Option Ret):F_S147 N x kf=peFunc h_S147 (Orc.of (es_S147 N)) (noL N N) Try.f147 (ashape sg_S147 x) kf:=by kernel_rfl
theorem sd_S147 {Γ : Gl} (N:Nat):Sound Γ Try.prog 147 (run_S147 N):=fun_ok2 (hh:=h_S147) mixed tab_ok (es:=es_S147 N) ⟨sd_S49 N,⟨sd_S85 N,⟨sd_S86 N,⟨sd_S161 N,⟨sd_S160 N,trivial⟩⟩⟩⟩⟩ (fn:=Try.f147) (body:=body_S147) (by kernel_rfl) (by kernel_rfl) (by kernel_rfl) (by kernel_rfl) (by kernel_rfl) (Lf:=noL N) (noL0 N) ls_S147 trivial (N:=N) (by kernel_rfl) (fn_S147 N) (.inl (by kernel_rfl))
noncomputable def h_S148:Hint:={ tab,hn:=[],loops:=[],outs:=[],ords:=[(3,(OT.seq [0,1,2,3,4,5,6,7,8,9,10,11,12,13,14,15,16,17,18,19,20] .done)),(5,(OT.seq [0,1,2,3,4,5,6,7,8,9,10,11,12] .done)),(6,(OT.seq [0,1,2,3,4,5,6,8,9,10,11,12,7,13,14,15,16,17] .done))] }
noncomputable def sg_S148:List AK:=[.v tQLQIIIIILIELQIILIELQIIELILQIIIELQIIIIEIE .k,.v (.int .i64) .k,.v (.int .i64) .k,.v (.int .i64) .k]
noncomputable def F_S148 (N:Nat) (x:AVals sg_S148) (kf:Ret→Option Ret):Option Ret:=S148 N x.1 x.2.1 x.2.2.1 x.2.2.2.1 (fun r0 r1=>kf ⟨[⟨tQLQIIIIILIELQIILIELQIIELILQIIIELQIIIIEIE,(.p (.o 54 none (.p .k (.p .k (.p .k (.p .k (.p .k (.o 3 none .k))))))) (.p (.o 85 none (.p .k (.p .k (.o 3 none .k)))) (.p (.o 89 none .k) (.p (.o 3 none .k) (.p (.o 70 none .k) (.p (.o 79 none .k) .k)))))),r0⟩,⟨.bool,.k,r1⟩],[]⟩)
noncomputable def run_S148 (N:Nat):=runOf sg_S148 (F_S148 N)
noncomputable def es_S148 (N:Nat):List Entry:=[⟨49,[.val],(run_S49 N)⟩,⟨162,[.val],(run_S162 N)⟩,⟨72,[.val,.val,.val],(run_S72 N)⟩,⟨163,[.val],(run_S163 N)⟩,⟨160,[.val,.take,.val,.val,.val],(run_S160 N)⟩]
noncomputable def body_S148:Code:=match Try.f148.body with | some c=>c | none=>.skip
theorem ls_S148:loopsIn body_S148=[]:=by kernel_rfl
theorem fn_S148 (N:Nat) (x:AVals sg_S148) (kf:Ret→Option Ret):F_S148 N x kf=peFunc h_S148 (Orc.of (es_S148 N)) (noL N N) Try.f148 (ashape sg_S148 x) kf:=by kernel_rfl
theorem sd_S148 {Γ : Gl} (N:Nat):Sound Γ Try.prog 148 (run_S148 N):=fun_ok2 (hh:=h_S148) mixed tab_ok (es:=es_S148 N) ⟨sd_S49 N,⟨sd_S162 N,⟨sd_S72 N,⟨sd_S163 N,⟨sd_S160 N,trivial⟩⟩⟩⟩⟩ (fn:=Try.f148) (body:=body_S148) (by kernel_rfl) (by kernel_rfl) (by kernel_rfl) (by kernel_rfl) (by kernel_rfl) (Lf:=noL N) (noL0 N) ls_S148 trivial (N:=N) (by kernel_rfl) (fn_S148 N) (.inl (by kernel_rfl))
noncomputable def ks_S164_l4:List Kd:=[dK,.v (.ptr tQLQIIIIILIELQIILIELQIIELILQIIIELQIIIIEIE) (.o 32 none .k),dK,.v (.sl (.int .i64)) (.o 3 none .k),.v (.ptr tQIIIE) (.o 70 none .k),.v (.int .i64) .k,dK,dK,dK,dK,dK,dK,dK,dK,dK,dK,dK,dK,dK,dK,dK,dK,dK,dK,dK,dK,dK]
noncomputable def ko_S164_l4_0:List Kd:=[dK,dK,dK,.v (.sl (.int .i64)) (.o 3 none .k),dK,dK,dK,dK,dK,dK,dK,dK,dK,dK,dK,dK,dK,dK,dK,dK,dK,dK,dK,dK,dK,dK,dK]
noncomputable def h_S164:Hint:={ tab,hn:=[],loops:=[(4,ks_S164_l4)],outs:=[(4,2,ko_S164_l4_0)],ords:=[(6,(OT.seq [0,1,2,3,4,5,6] .done))] }
noncomputable def sg_S164:List AK:=[.v tQLQIIIIILIELQIILIELQIIELILQIIIELQIIIIEIE .k]
noncomputable def F_S164 (N:Nat) (x:AVals sg_S164) (kf:Ret→Option Ret):Option Ret:=S164 N x.1 (fun r0=>kf ⟨[⟨(.sl (.int .i64)),(.o 3 none .k),r0⟩],[]⟩)
noncomputable def run_S164 (N:Nat):=runOf sg_S164 (F_S164 N)
noncomputable def es_S164 (N:Nat):List Entry:=[]
noncomputable def body_S164:Code:=match Try.f164.body with | some c=>c | none=>.skip
noncomputable def L_S164 (N n:Nat) (key:Nat) (S:St) (K:Ks):Option Ret:=bif Nat.beq key 4 then withVals ks_S164_l4 S (fun x=>S164_l4 x.1 x.2.2.1 n (fun z0=>K (.x 0) (shape ko_S164_l4_0 (z0,()))) x.2.1 x.2.2.2.1) else none
theorem L0_S164 (N key:Nat) (S:St) (K:Ks):L_S164 N 0 key S K=none:=(bif0 (withVals0 fun _=>rfl) rfl)
noncomputable def c_S164_0:Code:=(loopsIn body_S164).getD 0 .skip
theorem ls_S164:loopsIn body_S164=[c_S164_0]:=by kernel_rfl
theorem rd_S164_4 (N n:Nat) (x:Vals ks_S164_l4) (K:Ks):L_S164 N (n + 1) 4 (shape ks_S164_l4 x) (h_S164.onOut 4 K)=peRound h_S164 (Orc.of (es_S164 N)) (mixL (L_S164 N) N n 4) c_S164_0 (shape ks_S164_l4 x) (h_S164.onOut 4 K):=by kernel_rfl
theorem fn_S164 (N:Nat) (x:AVals sg_S164) (kf:Ret→Option Ret):F_S164 N x kf=peFunc h_S164 (Orc.of (es_S164 N)) (L_S164 N N) Try.f164 (ashape sg_S164 x) kf:=by kernel_rfl
theorem sd_S164 {Γ : Gl} (N:Nat):Sound Γ Try.prog 164 (run_S164 N):=fun_ok2 (hh:=h_S164) mixed tab_ok (es:=es_S164 N) trivial (fn:=Try.f164) (body:=body_S164) (by kernel_rfl) (by kernel_rfl) (by kernel_rfl) (by kernel_rfl) (by kernel_rfl) (Lf:=L_S164 N) (L0_S164 N) ls_S164 (round_cons (key:=4) (ks:=ks_S164_l4) (by kernel_rfl) (by kernel_rfl) (rd_S164_4 N) trivial) (N:=N) (by kernel_rfl) (fn_S164 N) (.inl (by kernel_rfl))
noncomputable def ks_S186_l2:List Kd:=[.v (.sl tQIIIE) .k,dK,dK,.v (.int .i64) .k,dK,dK,dK,dK,dK,dK,dK,dK,dK,dK,dK,dK,dK,dK,dK,dK,dK,dK,dK,dK,dK,dK,dK,dK,dK,dK,dK,dK,dK,dK,dK,dK,dK]
noncomputable def ko_S186_l2_0:List Kd:=[.v (.sl tQIIIE) .k,dK,dK,dK,dK,dK,dK,dK,dK,dK,dK,dK,dK,dK,dK,dK,dK,dK,dK,dK,dK,dK,dK,dK,dK,dK,dK,dK,dK,dK,dK,dK,dK,dK,dK,dK,dK]
noncomputable def ko_S186_l2_1:List Kd:=[dK,dK,.v .bool .k,dK,dK,dK,dK,dK,dK,dK,dK,dK,dK,dK,dK,dK,dK,dK,dK,dK,dK,dK,dK,dK,dK,dK,dK,dK,dK,dK,dK,dK,dK,dK,dK,dK,dK]
noncomputable def h_S186:Hint:={ tab,hn:=[],loops:=[(2,ks_S186_l2)],outs:=[(2,2,ko_S186_l2_0),(2,1,ko_S186_l2_1)],ords:=[(4,(OT.seq [0,1,2,3,4,5,6,7,8,9,10,11,12,13,14,15,16,17,18,19,20,21,22,23] .done))] }
noncomputable def sg_S186:List AK:=[.v (.sl tQIIIE) .k]
noncomputable def F_S186 (N:Nat) (x:AVals sg_S186) (kf:Ret→Option Ret):Option Ret:=S186 N x.1 (fun r0=>kf ⟨[⟨.bool,.k,r0⟩],[]⟩)
noncomputable def run_S186 (N:Nat):=runOf sg_S186 (F_S186 N)
noncomputable def es_S186 (N:Nat):List Entry:=[⟨163,[.val],(run_S163 N)⟩]
noncomputable def body_S186:Code:=match Try.f186.body with | some c=>c | none=>.skip
noncomputable def L_S186 (N n:Nat) (key:Nat) (S:St) (K:Ks):Option Ret:=bif Nat.beq key 2 then withVals ks_S186_l2 S (fun x=>S186_l2 N x.1 n (K (.x 0) (shape ko_S186_l2_0 (x.1,()))) (fun z0=>K .r (shape ko_S186_l2_1 (z0,()))) x.2.1) else none
theorem L0_S186 (N key:Nat) (S:St) (K:Ks):L_S186 N 0 key S K=none:=(bif0 (withVals0 fun _=>rfl) rfl)
noncomputable def c_S186_0:Code:=(loopsIn body_S186).getD 0 .skip
theorem ls_S186:loopsIn body_S186=[c_S186_0]:=by kernel_rfl
theorem rd_S186_2 (N n:Nat) (x:Vals ks_S186_l2) (K:Ks):L_S186 N (n + 1) 2 (shape ks_S186_l2 x) (h_S186.onOut 2 K)=peRound h_S186 (Orc.of (es_S186 N)) (mixL (L_S186 N) N n 2) c_S186_0 (shape ks_S186_l2 x) (h_S186.onOut 2 K):=by kernel_rfl
theorem fn_S186 (N:Nat) (x:AVals sg_S186) (kf:Ret→Option Ret):F_S186 N x kf=peFunc h_S186 (Orc.of (es_S186 N)) (L_S186 N N) Try.f186 (ashape sg_S186 x) kf:=by kernel_rfl
theorem sd_S186 {Γ : Gl} (N:Nat):Sound Γ Try.prog 186 (run_S186 N):=fun_ok2 (hh:=h_S186) mixed tab_ok (es:=es_S186 N) ⟨sd_S163 N,trivial⟩ (fn:=Try.f186) (body:=body_S186) (by kernel_rfl) (by kernel_rfl) (by kernel_rfl) (by kernel_rfl) (by kernel_rfl) (Lf:=L_S186 N) (L0_S186 N) ls_S186 (round_cons (key:=2) (ks:=ks_S186_l2) (by kernel_rfl) (by kernel_rfl) (rd_S186_2 N) trivial) (N:=N) (by kernel_rfl) (fn_S186 N) (.inl (by kernel_rfl))
noncomputable def h_S189:Hint:={ tab,hn:=[],loops:=[],outs:=[],ords:=[] }
noncomputable def sg_S189:List AK:=[.v tQIIIE .k]
noncomputable def F_S189 (N:Nat) (x:AVals sg_S189) (kf:Ret→Option Ret):Option Ret:=S189 N x.1 (fun r0=>kf ⟨[⟨(.int .i64),.k,r0⟩],[]⟩)
noncomputable def run_S189 (N:Nat):=runOf sg_S189 (F_S189 N)
noncomputable def es_S189 (N:Nat):List Entry:=[]
noncomputable def body_S189:Code:=match Try.f189.body with | some c=>c | none=>.skip
theorem ls_S189:loopsIn body_S189=[]:=by kernel_rfl
theorem fn_S189 (N:Nat) (x:AVals sg_S189) (kf:Ret→Option Ret):F_S189 N x kf=peFunc h_S189 (Orc.of (es_S189 N)) (noL N N) Try.f189 (ashape sg_S189 x) kf:=by kernel_rfl
theorem sd_S189 {Γ : Gl} (N:Nat):Sound Γ Try.prog 189 (run_S189 N):=fun_ok2 (hh:=h_S189) mixed tab_ok (es:=es_S189 N) trivial (fn:=Try.f189) (body:=body_S189) (by kernel_rfl) (by kernel_rfl) (by kernel_rfl) (by kernel_rfl) (by kernel_rfl) (Lf:=noL N) (noL0 N) ls_S189 trivial (N:=N) (by kernel_rfl) (fn_S189 N) (.inl (by kernel_rfl))
noncomputable def ks_S187_l3:List Kd:=[.v (.sl tQIIIE) .k,.v (.int .i64) .k,dK,dK,dK,.v (.int .i64) .k,.v (.int .i64) .k,dK,dK,dK,dK,dK,dK,dK,dK,dK,dK,dK,dK,dK,dK,dK,dK,dK,dK,dK,dK]
noncomputable def ko_S187_l3_0:List Kd:=[dK,dK,dK,dK,dK,.v (.int .i64) .k,dK,dK,dK,dK,dK,dK,dK,dK,dK,dK,dK,dK,dK,dK,dK,dK,dK,dK,dK,dK,dK]
noncomputable def h_S187:Hint:={ tab,hn:=[],loops:=[(3,ks_S187_l3)],outs:=[(3,2,ko_S187_l3_0)],ords:=[] }
noncomputable def sg_S187:List AK:=[.v (.sl tQIIIE) .k,.v (.int .i64) .k]
noncomputable def F_S187 (N:Nat) (x:AVals sg_S187) (kf:Ret→Option Ret):Option Ret:=S187 N x.1 x.2.1 (fun r0=>kf ⟨[⟨(.int .i64),.k,r0⟩],[]⟩)
noncomputable def run_S187 (N:Nat):=runOf sg_S187 (F_S187 N)
noncomputable def es_S187 (N:Nat):List Entry:=[⟨186,[.val],(run_S186 N)⟩,⟨189,[.val],(run_S189 N)⟩]
noncomputable def body_S187:Code:=match Try.f187.body with | some c=>c | none=>.skip
noncomputable def L_S187 (N n:Nat) (key:Nat) (S:St) (K:Ks):Option Ret:=bif Nat.beq key 3 then withVals ks_S187_l3 S (fun x=>S187_l3 N x.1 x.2.1 n (fun z0=>K (.x 0) (shape ko_S187_l3_0 (z0,()))) x.2.2.1 x.2.2.2.1) else none
theorem L0_S187 (N key:Nat) (S:St) (K:Ks):L_S187 N 0 key S K=none:=(bif0 (withVals0 fun _=>rfl) rfl)
noncomputable def c_S187_0:Code:=(loopsIn body_S187).getD 0 .skip
theorem ls_S187:loopsIn body_S187=[c_S187_0]:=by kernel_rfl
theorem rd_S187_3 (N n:Nat) (x:Vals ks_S187_l3) (K:Ks):L_S187 N (n + 1) 3 (shape ks_S187_l3 x) (h_S187.onOut 3 K)=peRound h_S187 (Orc.of (es_S187 N)) (mixL (L_S187 N) N n 3) c_S187_0 (shape ks_S187_l3 x) (h_S187.onOut 3 K):=by kernel_rfl
theorem fn_S187 (N:Nat) (x:AVals sg_S187) (kf:Ret→Option Ret):F_S187 N x kf=peFunc h_S187 (Orc.of (es_S187 N)) (L_S187 N N) Try.f187 (ashape sg_S187 x) kf:=by kernel_rfl
theorem sd_S187 {Γ : Gl} (N:Nat):Sound Γ Try.prog 187 (run_S187 N):=fun_ok2 (hh:=h_S187) mixed tab_ok (es:=es_S187 N) ⟨sd_S186 N,⟨sd_S189 N,trivial⟩⟩ (fn:=Try.f187) (body:=body_S187) (by kernel_rfl) (by kernel_rfl) (by kernel_rfl) (by kernel_rfl) (by kernel_rfl) (Lf:=L_S187 N) (L0_S187 N) ls_S187 (round_cons (key:=3) (ks:=ks_S187_l3) (by kernel_rfl) (by kernel_rfl) (rd_S187_3 N) trivial) (N:=N) (by kernel_rfl) (fn_S187 N) (.inl (by kernel_rfl))
noncomputable def ks_S188_l3:List Kd:=[.v (.sl tQIIIE) .k,.v (.int .i64) .k,dK,dK,dK,.v (.int .i64) .k,.v (.int .i64) .k,dK,dK,dK,dK,dK,dK,dK,dK,dK,dK,dK,dK,dK,dK,dK,dK,dK,dK,dK,dK,dK,dK,dK,dK,dK,dK,dK,dK,dK,dK]
noncomputable def ko_S188_l3_0:List Kd:=[dK,dK,dK,dK,dK,.v (.int .i64) .k,dK,dK,dK,dK,dK,dK,dK,dK,dK,dK,dK,dK,dK,dK,dK,dK,dK,dK,dK,dK,dK,dK,dK,dK,dK,dK,dK,dK,dK,dK,dK]
noncomputable def h_S188:Hint:={ tab,hn:=[],loops:=[(3,ks_S188_l3)],outs:=[(3,2,ko_S188_l3_0)],ords:=[] }
noncomputable def sg_S188:List AK:=[.v (.sl tQIIIE) .k,.v (.int .i64) .k]
noncomputable def F_S188 (N:Nat) (x:AVals sg_S188) (kf:Ret→Option Ret):Option Ret:=S188 N x.1 x.2.1 (fun r0=>kf ⟨[⟨(.int .i64),.k,r0⟩],[]⟩)
noncomputable def run_S188 (N:Nat):=runOf sg_S188 (F_S188 N)
noncomputable def es_S188 (N:Nat):List Entry:=[⟨186,[.val],(run_S186 N)⟩]
noncomputable def body_S188:Code:=match Try.f188.body with | some c=>c | none=>.skip
noncomputable def L_S188 (N n:Nat) (key:Nat) (S:St) (K:Ks):Option Ret:=bif Nat.beq key 3 then withVals ks_S188_l3 S (fun x=>S188_l3 N x.1 x.2.1 n (fun z0=>K (.x 0) (shape ko_S188_l3_0 (z0,()))) x.2.2.1 x.2.2.2.1) else none
theorem L0_S188 (N key:Nat) (S:St) (K:Ks):L_S188 N 0 key S K=none:=(bif0 (withVals0 fun _=>rfl) rfl)
noncomputable def c_S188_0:Code:=(loopsIn body_S188).getD 0 .skip
theorem ls_S188:loopsIn body_S188=[c_S188_0]:=by kernel_rfl
theorem rd_S188_3 (N n:Nat) (x:Vals ks_S188_l3) (K:Ks):L_S188 N (n + 1) 3 (shape ks_S188_l3 x) (h_S188.onOut 3 K)=peRound h_S188 (Orc.of (es_S188 N)) (mixL (L_S188 N) N n 3) c_S188_0 (shape ks_S188_l3 x) (h_S188.onOut 3 K):=by kernel_rfl
theorem fn_S188 (N:Nat) (x:AVals sg_S188) (kf:Ret→Option Ret):F_S188 N x kf=peFunc h_S188 (Orc.of (es_S188 N)) (L_S188 N N) Try.f188 (ashape sg_S188 x) kf:=by kernel_rfl
theorem sd_S188 {Γ : Gl} (N:Nat):Sound Γ Try.prog 188 (run_S188 N):=fun_ok2 (hh:=h_S188) mixed tab_ok (es:=es_S188 N) ⟨sd_S186 N,trivial⟩ (fn:=Try.f188) (body:=body_S188) (by kernel_rfl) (by kernel_rfl) (by kernel_rfl) (by kernel_rfl) (by kernel_rfl) (Lf:=L_S188 N) (L0_S188 N) ls_S188 (round_cons (key:=3) (ks:=ks_S188_l3) (by kernel_rfl) (by kernel_rfl) (rd_S188_3 N) trivial) (N:=N) (by kernel_rfl) (fn_S188 N) (.inl (by kernel_rfl))
noncomputable def h_S165:Hint:={ tab,hn:=[],loops:=[],outs:=[],ords:=[] }
noncomputable def sg_S165:List AK:=[.v (.sl tQIIIE) .k]
noncomputable def F_S165 (N:Nat) (x:AVals sg_S165) (kf:Ret→Option Ret):Option Ret:=S165 N x.1 (fun r0=>kf ⟨[⟨(.int .i64),.k,r0⟩],[]⟩)
noncomputable def run_S165 (N:Nat):=runOf sg_S165 (F_S165 N)
noncomputable def es_S165 (N:Nat):List Entry:=[⟨186,[.val],(run_S186 N)⟩,⟨187,[.val,.val],(run_S187 N)⟩,⟨188,[.val,.val],(run_S188 N)⟩,⟨189,[.val],(run_S189 N)⟩]
noncomputable def body_S165:Code:=match Try.f165.body with | some c=>c | none=>.skip
theorem ls_S165:loopsIn body_S165=[]:=by kernel_rfl
theorem fn_S165 (N:Nat) (x:AVals sg_S165) (kf:Ret→Option Ret):F_S165 N x kf=peFunc h_S165 (Orc.of (es_S165 N)) (noL N N) Try.f165 (ashape sg_S165 x) kf:=by kernel_rfl
theorem sd_S165 {Γ : Gl} (N:Nat):Sound Γ Try.prog 165 (run_S165 N):=fun_ok2 (hh:=h_S165) mixed tab_ok (es:=es_S165 N) ⟨sd_S186 N,⟨sd_S187 N,⟨sd_S188 N,⟨sd_S189 N,trivial⟩⟩⟩⟩ (fn:=Try.f165) (body:=body_S165) (by kernel_rfl) (by kernel_rfl) (by kernel_rfl) (by kernel_rfl) (by kernel_rfl) (Lf:=noL N) (noL0 N) ls_S165 trivial (N:=N) (by kernel_rfl) (fn_S165 N) (.inl (by kernel_rfl))
end Go.Pv.R
