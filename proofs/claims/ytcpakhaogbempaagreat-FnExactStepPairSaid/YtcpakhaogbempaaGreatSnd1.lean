/- Each function of the program that the law reaches computes its plain function, part 1. -/
import Derived.Test.YtcpakhaogbempaaGreatSnd0
import Derived.Test.YtcpakhaogbempaaGreatProg
namespace Go.Pv.R
open Go.Proofs
set_option linter.unusedVariables false
set_option maxRecDepth 100000
noncomputable def h_S180:Hint:={ tab,hn:=[],loops:=[],outs:=[],ords:=[(2,(OT.seq [0,2,1,3,4,5] .done)),(3,(OT.seq [1] (.any [0,2,3,4] (OT.seq [5,6] .done))))] }
noncomputable def sg_S180:List AK:=[.v (.sl tQIIIIE) .k,.v (.int .i64) .k,.v (.int .i64) .k]
noncomputable def F_S180 (N:Nat) (x:AVals sg_S180) (kf:Ret→Option Ret):Option Ret:=S180 N x.1 x.2.1 x.2.2.1 (fun r0 r1=>kf ⟨[⟨(.sl tQIIIIE),(.o 102 none .k),r0⟩,⟨.bool,.k,r1⟩],[]⟩)
noncomputable def run_S180 (N:Nat):=runOf sg_S180 (F_S180 N)
noncomputable def es_S180 (N:Nat):List Entry:=[⟨226,[.val],(run_S226 N)⟩,⟨218,[.val,.val],(run_S218 N)⟩,⟨158,[.val],(run_S158 N)⟩]
noncomputable def body_S180:Code:=match Tryz.f180.body with | some c=>c | none=>.skip
theorem ls_S180:loopsIn body_S180=[]:=by kernel_rfl
theorem fn_S180 (N:Nat) (x:AVals sg_S180) (kf:Ret→Option Ret):F_S180 N x kf=peFunc h_S180 (Orc.of (es_S180 N)) (noL N N) Tryz.f180 (ashape sg_S180 x) kf:=by kernel_rfl
theorem sd_S180 {Γ : Gl} (N:Nat):Sound Γ Tryz.prog 180 (run_S180 N):=fun_ok2 (hh:=h_S180) mixed tab_ok (es:=es_S180 N) ⟨sd_S226 N,⟨sd_S218 N,⟨sd_S158 N,trivial⟩⟩⟩ (fn:=Tryz.f180) (body:=body_S180) (by kernel_rfl) (by kernel_rfl) (by kernel_rfl) (by kernel_rfl) (by kernel_rfl) (Lf:=noL N) (noL0 N) ls_S180 trivial (N:=N) (by kernel_rfl) (fn_S180 N) (.inl (by kernel_rfl))
noncomputable def ks_S196_l3:List Kd:=[.v (.sl tQIIIIILIE) .k,dK,dK,.v (.int .i64) .k,.v (.int .i64) .k,dK,dK,dK,dK,dK,dK,dK,dK,dK,dK,dK,dK,dK,dK,dK,dK,dK,dK]
noncomputable def ko_S196_l3_0:List Kd:=[dK,dK,dK,.v (.int .i64) .k,dK,dK,dK,dK,dK,dK,dK,dK,dK,dK,dK,dK,dK,dK,dK,dK,dK,dK,dK]
noncomputable def h_S196:Hint:={ tab,hn:=[],loops:=[(3,ks_S196_l3)],outs:=[(3,2,ko_S196_l3_0)],ords:=[] }
noncomputable def sg_S196:List AK:=[.v (.sl tQIIIIILIE) .k]
noncomputable def F_S196 (N:Nat) (x:AVals sg_S196) (kf:Ret→Option Ret):Option Ret:=S196 N x.1 (fun r0=>kf ⟨[⟨(.int .i64),.k,r0⟩],[]⟩)
noncomputable def run_S196 (N:Nat):=runOf sg_S196 (F_S196 N)
noncomputable def es_S196 (N:Nat):List Entry:=[⟨175,[.val],(run_S175 N)⟩]
noncomputable def body_S196:Code:=match Tryz.f196.body with | some c=>c | none=>.skip
noncomputable def L_S196 (N n:Nat) (key:Nat) (S:St) (K:Ks):Option Ret:=bif Nat.beq key 3 then withVals ks_S196_l3 S (fun x=>S196_l3 N x.1 n (fun z0=>K (.x 0) (shape ko_S196_l3_0 (z0,()))) x.2.1 x.2.2.1) else none
theorem L0_S196 (N key:Nat) (S:St) (K:Ks):L_S196 N 0 key S K=none:=(bif0 (withVals0 fun _=>rfl) rfl)
noncomputable def c_S196_0:Code:=(loopsIn body_S196).getD 0 .skip
theorem ls_S196:loopsIn body_S196=[c_S196_0]:=by kernel_rfl
theorem rd_S196_3 (N n:Nat) (x:Vals ks_S196_l3) (K:Ks):L_S196 N (n + 1) 3 (shape ks_S196_l3 x) (h_S196.onOut 3 K)=peRound h_S196 (Orc.of (es_S196 N)) (mixL (L_S196 N) N n 3) c_S196_0 (shape ks_S196_l3 x) (h_S196.onOut 3 K):=by kernel_rfl
theorem fn_S196 (N:Nat) (x:AVals sg_S196) (kf:Ret→Option Ret):F_S196 N x kf=peFunc h_S196 (Orc.of (es_S196 N)) (L_S196 N N) Tryz.f196 (ashape sg_S196 x) kf:=by kernel_rfl
theorem sd_S196 {Γ : Gl} (N:Nat):Sound Γ Tryz.prog 196 (run_S196 N):=fun_ok2 (hh:=h_S196) mixed tab_ok (es:=es_S196 N) ⟨sd_S175 N,trivial⟩ (fn:=Tryz.f196) (body:=body_S196) (by kernel_rfl) (by kernel_rfl) (by kernel_rfl) (by kernel_rfl) (by kernel_rfl) (Lf:=L_S196 N) (L0_S196 N) ls_S196 (round_cons (key:=3) (ks:=ks_S196_l3) (by kernel_rfl) (by kernel_rfl) (rd_S196_3 N) trivial) (N:=N) (by kernel_rfl) (fn_S196 N) (.inl (by kernel_rfl))
noncomputable def ks_S197_l3:List Kd:=[.v (.sl tQIIIIILIE) .k,.v (.sl tQIIE) .k,dK,dK,dK,.v (.sl (.int .i64)) (.o 3 none .k),.v (.int .i64) .k,dK,dK,dK,dK,dK,dK,dK,dK,dK,dK,dK,dK,dK,dK,dK,dK,dK,dK,dK,dK,dK,dK,dK,dK,dK,dK,dK,dK,dK,dK,dK,dK,dK,dK,dK,dK,dK,dK,dK,dK,dK,dK,dK,dK,dK,dK,dK,dK,dK,dK,dK,dK,dK,dK,dK,dK,dK,dK,dK,dK]
noncomputable def ko_S197_l3_0:List Kd:=[.v (.sl tQIIIIILIE) .k,dK,dK,dK,dK,.v (.sl (.int .i64)) (.o 3 none .k),dK,dK,dK,dK,dK,dK,dK,dK,dK,dK,dK,dK,dK,dK,dK,dK,dK,dK,dK,dK,dK,dK,dK,dK,dK,dK,dK,dK,dK,dK,dK,dK,dK,dK,dK,dK,dK,dK,dK,dK,dK,dK,dK,dK,dK,dK,dK,dK,dK,dK,dK,dK,dK,dK,dK,dK,dK,dK,dK,dK,dK]
noncomputable def ko_S197_l3_1:List Kd:=[dK,dK,dK,dK,.v .bool .k,dK,dK,dK,dK,dK,dK,dK,dK,dK,dK,dK,dK,dK,dK,dK,dK,dK,dK,dK,dK,dK,dK,dK,dK,dK,dK,dK,dK,dK,dK,dK,dK,dK,dK,dK,dK,dK,dK,dK,dK,dK,dK,dK,dK,dK,dK,dK,dK,dK,dK,dK,dK,dK,dK,dK,dK,dK,dK,dK,dK,dK,dK]
noncomputable def h_S197:Hint:={ tab,hn:=[],loops:=[(3,ks_S197_l3)],outs:=[(3,2,ko_S197_l3_0),(3,1,ko_S197_l3_1)],ords:=[(5,(OT.seq [0,1,2,3,4,5,6,7,8,9,10,11,12,13,14,15,16,17,18,19,20,21,22,23,24,25,26,27,28,29,30] .done)),(7,(OT.seq [0,1,2,3,4,5,6,7,8,9,10,11,12,13] .done))] }
noncomputable def sg_S197:List AK:=[.v (.sl tQIIIIILIE) .k,.v (.sl tQIIE) .k]
noncomputable def F_S197 (N:Nat) (x:AVals sg_S197) (kf:Ret→Option Ret):Option Ret:=S197 N x.1 x.2.1 (fun r0=>kf ⟨[⟨.bool,.k,r0⟩],[]⟩)
noncomputable def run_S197 (N:Nat):=runOf sg_S197 (F_S197 N)
noncomputable def es_S197 (N:Nat):List Entry:=[⟨221,[.val,.val,.val],(run_S221 N)⟩,⟨224,[.val,.val],(run_S224 N)⟩,⟨175,[.val],(run_S175 N)⟩]
noncomputable def body_S197:Code:=match Tryz.f197.body with | some c=>c | none=>.skip
noncomputable def L_S197 (N n:Nat) (key:Nat) (S:St) (K:Ks):Option Ret:=bif Nat.beq key 3 then withVals ks_S197_l3 S (fun x=>S197_l3 N x.1 x.2.1 n (fun z0=>K (.x 0) (shape ko_S197_l3_0 (x.1,z0,()))) (fun z0=>K .r (shape ko_S197_l3_1 (z0,()))) x.2.2.1 x.2.2.2.1) else none
theorem L0_S197 (N key:Nat) (S:St) (K:Ks):L_S197 N 0 key S K=none:=(bif0 (withVals0 fun _=>rfl) rfl)
noncomputable def c_S197_0:Code:=(loopsIn body_S197).getD 0 .skip
theorem ls_S197:loopsIn body_S197=[c_S197_0]:=by kernel_rfl
theorem rd_S197_3 (N n:Nat) (x:Vals ks_S197_l3) (K:Ks):L_S197 N (n + 1) 3 (shape ks_S197_l3 x) (h_S197.onOut 3 K)=peRound h_S197 (Orc.of (es_S197 N)) (mixL (L_S197 N) N n 3) c_S197_0 (shape ks_S197_l3 x) (h_S197.onOut 3 K):=by kernel_rfl
theorem fn_S197 (N:Nat) (x:AVals sg_S197) (kf:Ret→Option Ret):F_S197 N x kf=peFunc h_S197 (Orc.of (es_S197 N)) (L_S197 N N) Tryz.f197 (ashape sg_S197 x) kf:=by kernel_rfl
theorem sd_S197 {Γ : Gl} (N:Nat):Sound Γ Tryz.prog 197 (run_S197 N):=fun_ok2 (hh:=h_S197) mixed tab_ok (es:=es_S197 N) ⟨sd_S221 N,⟨sd_S224 N,⟨sd_S175 N,trivial⟩⟩⟩ (fn:=Tryz.f197) (body:=body_S197) (by kernel_rfl) (by kernel_rfl) (by kernel_rfl) (by kernel_rfl) (by kernel_rfl) (Lf:=L_S197 N) (L0_S197 N) ls_S197 (round_cons (key:=3) (ks:=ks_S197_l3) (by kernel_rfl) (by kernel_rfl) (rd_S197_3 N) trivial) (N:=N) (by kernel_rfl) (fn_S197 N) (.inl (by kernel_rfl))
noncomputable def ks_S126_l2:List Kd:=[.v (.sl tQIILIE) .k,.v (.int .i64) .k,dK,dK,dK,.v (.int .i64) .k,dK,dK,dK,dK,dK,dK,dK,dK,dK,dK,dK,dK,dK,dK]
noncomputable def ko_S126_l2_0:List Kd:=[dK,dK,dK,dK,dK,dK,dK,dK,dK,dK,dK,dK,dK,dK,dK,dK,dK,dK,dK,dK]
noncomputable def ko_S126_l2_1:List Kd:=[dK,dK,dK,dK,.v (.int .i64) .k,dK,dK,dK,dK,dK,dK,dK,dK,dK,dK,dK,dK,dK,dK,dK]
noncomputable def h_S126:Hint:={ tab,hn:=[],loops:=[(2,ks_S126_l2)],outs:=[(2,2,ko_S126_l2_0),(2,1,ko_S126_l2_1)],ords:=[] }
noncomputable def sg_S126:List AK:=[.v (.sl tQIILIE) .k,.v (.int .i64) .k]
noncomputable def F_S126 (N:Nat) (x:AVals sg_S126) (kf:Ret→Option Ret):Option Ret:=S126 N x.1 x.2.1 (fun r0=>kf ⟨[⟨(.int .i64),.k,r0⟩],[]⟩)
noncomputable def run_S126 (N:Nat):=runOf sg_S126 (F_S126 N)
noncomputable def es_S126 (N:Nat):List Entry:=[]
noncomputable def body_S126:Code:=match Tryz.f126.body with | some c=>c | none=>.skip
noncomputable def L_S126 (N n:Nat) (key:Nat) (S:St) (K:Ks):Option Ret:=bif Nat.beq key 2 then withVals ks_S126_l2 S (fun x=>S126_l2 x.1 x.2.1 n (K (.x 0) (shape ko_S126_l2_0 ())) (fun z0=>K .r (shape ko_S126_l2_1 (z0,()))) x.2.2.1) else none
theorem L0_S126 (N key:Nat) (S:St) (K:Ks):L_S126 N 0 key S K=none:=(bif0 (withVals0 fun _=>rfl) rfl)
noncomputable def c_S126_0:Code:=(loopsIn body_S126).getD 0 .skip
theorem ls_S126:loopsIn body_S126=[c_S126_0]:=by kernel_rfl
theorem rd_S126_2 (N n:Nat) (x:Vals ks_S126_l2) (K:Ks):L_S126 N (n + 1) 2 (shape ks_S126_l2 x) (h_S126.onOut 2 K)=peRound h_S126 (Orc.of (es_S126 N)) (mixL (L_S126 N) N n 2) c_S126_0 (shape ks_S126_l2 x) (h_S126.onOut 2 K):=by kernel_rfl
theorem fn_S126 (N:Nat) (x:AVals sg_S126) (kf:Ret→Option Ret):F_S126 N x kf=peFunc h_S126 (Orc.of (es_S126 N)) (L_S126 N N) Tryz.f126 (ashape sg_S126 x) kf:=by kernel_rfl
theorem sd_S126 {Γ : Gl} (N:Nat):Sound Γ Tryz.prog 126 (run_S126 N):=fun_ok2 (hh:=h_S126) mixed tab_ok (es:=es_S126 N) trivial (fn:=Tryz.f126) (body:=body_S126) (by kernel_rfl) (by kernel_rfl) (by kernel_rfl) (by kernel_rfl) (by kernel_rfl) (Lf:=L_S126 N) (L0_S126 N) ls_S126 (round_cons (key:=2) (ks:=ks_S126_l2) (by kernel_rfl) (by kernel_rfl) (rd_S126_2 N) trivial) (N:=N) (by kernel_rfl) (fn_S126 N) (.inl (by kernel_rfl))
noncomputable def ks_S198_l4:List Kd:=[.v (.sl tQIIIIILIE) .k,.v (.sl tQIILIE) .k,.v (.sl tQIIE) .k,.v (.sl (.int .i64)) .k,dK,dK,dK,dK,dK,.v (.int .i64) .k,dK,dK,dK,dK,dK,dK,dK,dK,dK,dK,dK,dK,dK,dK,dK,dK,dK,dK,dK,dK,dK,dK,dK,dK,dK,dK,dK,dK,dK,dK,dK,dK,dK,dK,dK,dK,dK,dK,dK,dK,dK,dK,dK,dK,dK,dK,dK,dK]
noncomputable def ko_S198_l4_0:List Kd:=[dK,dK,dK,dK,dK,dK,dK,dK,dK,dK,dK,dK,dK,dK,dK,dK,dK,dK,dK,dK,dK,dK,dK,dK,dK,dK,dK,dK,dK,dK,dK,dK,dK,dK,dK,dK,dK,dK,dK,dK,dK,dK,dK,dK,dK,dK,dK,dK,dK,dK,dK,dK,dK,dK,dK,dK,dK,dK]
noncomputable def ko_S198_l4_1:List Kd:=[dK,dK,dK,dK,dK,dK,dK,dK,.v .bool .k,dK,dK,dK,dK,dK,dK,dK,dK,dK,dK,dK,dK,dK,dK,dK,dK,dK,dK,dK,dK,dK,dK,dK,dK,dK,dK,dK,dK,dK,dK,dK,dK,dK,dK,dK,dK,dK,dK,dK,dK,dK,dK,dK,dK,dK,dK,dK,dK,dK]
noncomputable def h_S198:Hint:={ tab,hn:=[],loops:=[(4,ks_S198_l4)],outs:=[(4,2,ko_S198_l4_0),(4,1,ko_S198_l4_1)],ords:=[(7,(OT.seq [0,1,2,3,4,5,6,7,8,9,10,11,12,13,14,15,16,17,18,19,20,21,22,23,24] .done))] }
noncomputable def sg_S198:List AK:=[.v (.sl tQIIIIILIE) .k,.v (.sl tQIILIE) .k,.v (.sl tQIIE) .k,.v (.sl (.int .i64)) .k]
noncomputable def F_S198 (N:Nat) (x:AVals sg_S198) (kf:Ret→Option Ret):Option Ret:=S198 N x.1 x.2.1 x.2.2.1 x.2.2.2.1 (fun r0=>kf ⟨[⟨.bool,.k,r0⟩],[]⟩)
noncomputable def run_S198 (N:Nat):=runOf sg_S198 (F_S198 N)
noncomputable def es_S198 (N:Nat):List Entry:=[⟨178,[.val],(run_S178 N)⟩,⟨126,[.val,.val],(run_S126 N)⟩,⟨224,[.val,.val],(run_S224 N)⟩,⟨225,[.val,.val,.val],(run_S225 N)⟩]
noncomputable def body_S198:Code:=match Tryz.f198.body with | some c=>c | none=>.skip
noncomputable def L_S198 (N n:Nat) (key:Nat) (S:St) (K:Ks):Option Ret:=bif Nat.beq key 4 then withVals ks_S198_l4 S (fun x=>S198_l4 N x.1 x.2.1 x.2.2.1 x.2.2.2.1 n (K (.x 0) (shape ko_S198_l4_0 ())) (fun z0=>K .r (shape ko_S198_l4_1 (z0,()))) x.2.2.2.2.1) else none
theorem L0_S198 (N key:Nat) (S:St) (K:Ks):L_S198 N 0 key S K=none:=(bif0 (withVals0 fun _=>rfl) rfl)
noncomputable def c_S198_0:Code:=(loopsIn body_S198).getD 0 .skip
theorem ls_S198:loopsIn body_S198=[c_S198_0]:=by kernel_rfl
theorem rd_S198_4 (N n:Nat) (x:Vals ks_S198_l4) (K:Ks):L_S198 N (n + 1) 4 (shape ks_S198_l4 x) (h_S198.onOut 4 K)=peRound h_S198 (Orc.of (es_S198 N)) (mixL (L_S198 N) N n 4) c_S198_0 (shape ks_S198_l4 x) (h_S198.onOut 4 K):=by kernel_rfl
theorem fn_S198 (N:Nat) (x:AVals sg_S198) (kf:Ret→Option Ret):F_S198 N x kf=peFunc h_S198 (Orc.of (es_S198 N)) (L_S198 N N) Tryz.f198 (ashape sg_S198 x) kf:=by kernel_rfl
theorem sd_S198 {Γ : Gl} (N:Nat):Sound Γ Tryz.prog 198 (run_S198 N):=fun_ok2 (hh:=h_S198) mixed tab_ok (es:=es_S198 N) ⟨sd_S178 N,⟨sd_S126 N,⟨sd_S224 N,⟨sd_S225 N,trivial⟩⟩⟩⟩ (fn:=Tryz.f198) (body:=body_S198) (by kernel_rfl) (by kernel_rfl) (by kernel_rfl) (by kernel_rfl) (by kernel_rfl) (Lf:=L_S198 N) (L0_S198 N) ls_S198 (round_cons (key:=4) (ks:=ks_S198_l4) (by kernel_rfl) (by kernel_rfl) (rd_S198_4 N) trivial) (N:=N) (by kernel_rfl) (fn_S198 N) (.inl (by kernel_rfl))
noncomputable def h_S199:Hint:={ tab,hn:=[],loops:=[],outs:=[],ords:=[] }
noncomputable def sg_S199:List AK:=[.v tQIIIE .k]
noncomputable def F_S199 (N:Nat) (x:AVals sg_S199) (kf:Ret→Option Ret):Option Ret:=S199 N x.1 (fun r0=>kf ⟨[⟨.bool,.k,r0⟩],[]⟩)
noncomputable def run_S199 (N:Nat):=runOf sg_S199 (F_S199 N)
noncomputable def es_S199 (N:Nat):List Entry:=[⟨195,[.val,.val,.val],(run_S195 N)⟩]
noncomputable def body_S199:Code:=match Tryz.f199.body with | some c=>c | none=>.skip
theorem ls_S199:loopsIn body_S199=[]:=by kernel_rfl
theorem fn_S199 (N:Nat) (x:AVals sg_S199) (kf:Ret→Option Ret):F_S199 N x kf=peFunc h_S199 (Orc.of (es_S199 N)) (noL N N) Tryz.f199 (ashape sg_S199 x) kf:=by kernel_rfl
theorem sd_S199 {Γ : Gl} (N:Nat):Sound Γ Tryz.prog 199 (run_S199 N):=fun_ok2 (hh:=h_S199) mixed tab_ok (es:=es_S199 N) ⟨sd_S195 N,trivial⟩ (fn:=Tryz.f199) (body:=body_S199) (by kernel_rfl) (by kernel_rfl) (by kernel_rfl) (by kernel_rfl) (by kernel_rfl) (Lf:=noL N) (noL0 N) ls_S199 trivial (N:=N) (by kernel_rfl) (fn_S199 N) (.inl (by kernel_rfl))
noncomputable def ks_S122_l7:List Kd:=[dK,.v (.ptr tQLQIIIIILIELQIILIELQIIELILQIIIELQIIIIEIE) (.o 31 none .k),dK,.v (.ptr tQIIIE) (.o 136 none .k),.v (.int .i64) .k,dK,dK,dK,dK,dK,dK,dK,dK,dK,dK,dK,dK,dK,dK,dK,dK,dK,dK,dK,dK,dK,dK,dK,dK,dK,dK,dK,dK,dK,dK,dK,dK,dK,dK,dK,dK,dK,dK,dK,dK,dK,dK,dK,dK,dK,dK,dK,dK,dK,dK,dK,dK,dK,dK,dK,dK,dK,dK,dK,dK,dK,dK,dK,dK,dK,dK,dK,dK,dK,dK,dK,dK,dK,dK,dK,dK,dK,dK,dK,dK,dK,dK,dK,dK,dK,dK,dK,dK,dK,dK,dK,dK,dK,dK,dK,dK,dK,dK,dK,dK,dK,dK,dK,dK,dK,dK,dK,dK,dK,dK]
noncomputable def ko_S122_l7_0:List Kd:=[dK,dK,dK,dK,dK,dK,dK,dK,dK,dK,dK,dK,dK,dK,dK,dK,dK,dK,dK,dK,dK,dK,dK,dK,dK,dK,dK,dK,dK,dK,dK,dK,dK,dK,dK,dK,dK,dK,dK,dK,dK,dK,dK,dK,dK,dK,dK,dK,dK,dK,dK,dK,dK,dK,dK,dK,dK,dK,dK,dK,dK,dK,dK,dK,dK,dK,dK,dK,dK,dK,dK,dK,dK,dK,dK,dK,dK,dK,dK,dK,dK,dK,dK,dK,dK,dK,dK,dK,dK,dK,dK,dK,dK,dK,dK,dK,dK,dK,dK,dK,dK,dK,dK,dK,dK,dK,dK,dK,dK,dK,dK,dK,dK,dK,dK]
noncomputable def ko_S122_l7_1:List Kd:=[dK,dK,.v .bool .k,dK,dK,dK,dK,dK,dK,dK,dK,dK,dK,dK,dK,dK,dK,dK,dK,dK,dK,dK,dK,dK,dK,dK,dK,dK,dK,dK,dK,dK,dK,dK,dK,dK,dK,dK,dK,dK,dK,dK,dK,dK,dK,dK,dK,dK,dK,dK,dK,dK,dK,dK,dK,dK,dK,dK,dK,dK,dK,dK,dK,dK,dK,dK,dK,dK,dK,dK,dK,dK,dK,dK,dK,dK,dK,dK,dK,dK,dK,dK,dK,dK,dK,dK,dK,dK,dK,dK,dK,dK,dK,dK,dK,dK,dK,dK,dK,dK,dK,dK,dK,dK,dK,dK,dK,dK,dK,dK,dK,dK,dK,dK,dK]
noncomputable def h_S122:Hint:={ tab,hn:=[],loops:=[(7,ks_S122_l7)],outs:=[(7,2,ko_S122_l7_0),(7,1,ko_S122_l7_1)],ords:=[(1,(OT.seq [0,1,2,3,4,5,6,7,8,9,10,11,12,13,14,15,16,17,18,19,20,21,22,23,24,25,26,27,28,29,30,31,32,33,34,35,36,37,38,39,40,41,42,44,45,43,46,47] .done)),(9,(OT.seq [0,1,2,3,4,5,6,7,8,9,10,11,12,13,14,15,16,17,18,19,20,21,22,23,24,25,26,27,28,29] .done))] }
noncomputable def sg_S122:List AK:=[.v tQLQIIIIILIELQIILIELQIIELILQIIIELQIIIIEIE .k]
noncomputable def F_S122 (N:Nat) (x:AVals sg_S122) (kf:Ret→Option Ret):Option Ret:=S122 N x.1 (fun r0=>kf ⟨[⟨.bool,.k,r0⟩],[]⟩)
noncomputable def run_S122 (N:Nat):=runOf sg_S122 (F_S122 N)
noncomputable def es_S122 (N:Nat):List Entry:=[⟨175,[.val],(run_S175 N)⟩,⟨178,[.val],(run_S178 N)⟩,⟨158,[.val],(run_S158 N)⟩,⟨195,[.val,.val,.val],(run_S195 N)⟩,⟨196,[.val],(run_S196 N)⟩,⟨197,[.val,.val],(run_S197 N)⟩,⟨198,[.val,.val,.val,.val],(run_S198 N)⟩,⟨199,[.val],(run_S199 N)⟩]
noncomputable def body_S122:Code:=match Tryz.f122.body with | some c=>c | none=>.skip
noncomputable def L_S122 (N n:Nat) (key:Nat) (S:St) (K:Ks):Option Ret:=bif Nat.beq key 7 then withVals ks_S122_l7 S (fun x=>S122_l7 N x.1 x.2.1 n (K (.x 0) (shape ko_S122_l7_0 ())) (fun z0=>K .r (shape ko_S122_l7_1 (z0,()))) x.2.2.1) else none
theorem L0_S122 (N key:Nat) (S:St) (K:Ks):L_S122 N 0 key S K=none:=(bif0 (withVals0 fun _=>rfl) rfl)
noncomputable def c_S122_0:Code:=(loopsIn body_S122).getD 0 .skip
theorem ls_S122:loopsIn body_S122=[c_S122_0]:=by kernel_rfl
theorem rd_S122_7 (N n:Nat) (x:Vals ks_S122_l7) (K:Ks):L_S122 N (n + 1) 7 (shape ks_S122_l7 x) (h_S122.onOut 7 K)=peRound h_S122 (Orc.of (es_S122 N)) (mixL (L_S122 N) N n 7) c_S122_0 (shape ks_S122_l7 x) (h_S122.onOut 7 K):=by kernel_rfl
theorem fn_S122 (N:Nat) (x:AVals sg_S122) (kf:Ret→Option Ret):F_S122 N x kf=peFunc h_S122 (Orc.of (es_S122 N)) (L_S122 N N) Tryz.f122 (ashape sg_S122 x) kf:=by kernel_rfl
theorem sd_S122 {Γ : Gl} (N:Nat):Sound Γ Tryz.prog 122 (run_S122 N):=fun_ok2 (hh:=h_S122) mixed tab_ok (es:=es_S122 N) ⟨sd_S175 N,⟨sd_S178 N,⟨sd_S158 N,⟨sd_S195 N,⟨sd_S196 N,⟨sd_S197 N,⟨sd_S198 N,⟨sd_S199 N,trivial⟩⟩⟩⟩⟩⟩⟩⟩ (fn:=Tryz.f122) (body:=body_S122) (by kernel_rfl) (by kernel_rfl) (by kernel_rfl) (by kernel_rfl) (by kernel_rfl) (Lf:=L_S122 N) (L0_S122 N) ls_S122 (round_cons (key:=7) (ks:=ks_S122_l7) (by kernel_rfl) (by kernel_rfl) (rd_S122_7 N) trivial) (N:=N) (by kernel_rfl) (fn_S122 N) (.inl (by kernel_rfl))
noncomputable def h_S93:Hint:={ tab,hn:=[],loops:=[],outs:=[],ords:=[] }
noncomputable def sg_S93:List AK:=[.v tQLQIIIIILIELQIILIELQIIELILQIIIELQIIIIEIE .k,.v tQLQIIIIILIELQIILIELQIIELILQIIIELQIIIIEIE (.p (.o 46 none (.p .k (.p .k (.p .k (.p .k (.p .k (.o 3 none .k))))))) (.p (.o 80 none (.p .k (.p .k (.o 3 none .k)))) (.p (.o 104 none .k) (.p (.o 3 none .k) (.p (.o 136 none .k) (.p (.o 102 none .k) .k)))))),.v .bool .k,.v (.int .i64) .k,.v (.int .i64) .k]
noncomputable def F_S93 (N:Nat) (x:AVals sg_S93) (kf:Ret→Option Ret):Option Ret:=S93 N x.1 x.2.1 x.2.2.1 x.2.2.2.1 x.2.2.2.2.1 (fun r0 r1=>kf ⟨[⟨tQLQIIIIILIELQIILIELQIIELILQIIIELQIIIIEIE,(.p (.o 46 none (.p .k (.p .k (.p .k (.p .k (.p .k (.o 3 none .k))))))) (.p (.o 80 none (.p .k (.p .k (.o 3 none .k)))) (.p (.o 104 none .k) (.p (.o 3 none .k) (.p (.o 136 none .k) (.p (.o 102 none .k) .k)))))),r0⟩,⟨.bool,.k,r1⟩],[]⟩)
noncomputable def run_S93 (N:Nat):=runOf sg_S93 (F_S93 N)
noncomputable def es_S93 (N:Nat):List Entry:=[⟨180,[.val,.val,.val],(run_S180 N)⟩,⟨122,[.val],(run_S122 N)⟩,⟨90,[.val],(run_S90 N)⟩]
noncomputable def body_S93:Code:=match Tryz.f93.body with | some c=>c | none=>.skip
theorem ls_S93:loopsIn body_S93=[]:=by kernel_rfl
theorem fn_S93 (N:Nat) (x:AVals sg_S93) (kf:Ret→Option Ret):F_S93 N x kf=peFunc h_S93 (Orc.of (es_S93 N)) (noL N N) Tryz.f93 (ashape sg_S93 x) kf:=by kernel_rfl
theorem sd_S93 {Γ : Gl} (N:Nat):Sound Γ Tryz.prog 93 (run_S93 N):=fun_ok2 (hh:=h_S93) mixed tab_ok (es:=es_S93 N) ⟨sd_S180 N,⟨sd_S122 N,⟨sd_S90 N,trivial⟩⟩⟩ (fn:=Tryz.f93) (body:=body_S93) (by kernel_rfl) (by kernel_rfl) (by kernel_rfl) (by kernel_rfl) (by kernel_rfl) (Lf:=noL N) (noL0 N) ls_S93 trivial (N:=N) (by kernel_rfl) (fn_S93 N) (.inl (by kernel_rfl))
noncomputable def h_S21:Hint:={ tab,hn:=[],loops:=[],outs:=[],ords:=[(7,(OT.seq [0,1,2,3,4,5,6,7,8,9,10,11,12,13,14,15,16,17,18,19,20,21] .done))] }
noncomputable def sg_S21:List AK:=[.v tQLQIIIIILIELQIILIELQIIELILQIIIELQIIIIEIE .k]
noncomputable def F_S21 (N:Nat) (x:AVals sg_S21) (kf:Ret→Option Ret):Option Ret:=S21 N x.1 (fun r0 r1=>kf ⟨[⟨tQLQIIIIILIELQIILIELQIIELILQIIIELQIIIIEIE,(.p (.o 46 none (.p .k (.p .k (.p .k (.p .k (.p .k (.o 3 none .k))))))) (.p (.o 80 none (.p .k (.p .k (.o 3 none .k)))) (.p (.o 104 none .k) (.p (.o 3 none .k) (.p (.o 136 none .k) (.p (.o 102 none .k) .k)))))),r0⟩,⟨.bool,.k,r1⟩],[]⟩)
noncomputable def run_S21 (N:Nat):=runOf sg_S21 (F_S21 N)
noncomputable def es_S21 (N:Nat):List Entry:=[⟨90,[.val],(run_S90 N)⟩,⟨91,[.val],(run_S91 N)⟩,⟨92,[.val,.val,.val],(run_S92 N)⟩,⟨94,[.val],(run_S94 N)⟩,⟨93,[.val,.take,.val,.val,.val],(run_S93 N)⟩]
noncomputable def body_S21:Code:=match Tryz.f21.body with | some c=>c | none=>.skip
theorem ls_S21:loopsIn body_S21=[]:=by kernel_rfl
theorem fn_S21 (N:Nat) (x:AVals sg_S21) (kf:Ret→Option Ret):F_S21 N x kf=peFunc h_S21 (Orc.of (es_S21 N)) (noL N N) Tryz.f21 (ashape sg_S21 x) kf:=by kernel_rfl
theorem sd_S21 {Γ : Gl} (N:Nat):Sound Γ Tryz.prog 21 (run_S21 N):=fun_ok2 (hh:=h_S21) mixed tab_ok (es:=es_S21 N) ⟨sd_S90 N,⟨sd_S91 N,⟨sd_S92 N,⟨sd_S94 N,⟨sd_S93 N,trivial⟩⟩⟩⟩⟩ (fn:=Tryz.f21) (body:=body_S21) (by kernel_rfl) (by kernel_rfl) (by kernel_rfl) (by kernel_rfl) (by kernel_rfl) (Lf:=noL N) (noL0 N) ls_S21 trivial (N:=N) (by kernel_rfl) (fn_S21 N) (.inl (by kernel_rfl))
noncomputable def h_S166:Hint:={ tab,hn:=[],loops:=[],outs:=[],ords:=[] }
noncomputable def sg_S166:List AK:=[.v (.sl (.int .i64)) .k]
noncomputable def F_S166 (N:Nat) (x:AVals sg_S166) (kf:Ret→Option Ret):Option Ret:=S166 N x.1 (fun r0=>kf ⟨[⟨(.sl (.int .i64)),(.o 3 none .k),r0⟩],[]⟩)
noncomputable def run_S166 (N:Nat):=runOf sg_S166 (F_S166 N)
noncomputable def es_S166 (N:Nat):List Entry:=[]
noncomputable def body_S166:Code:=match Tryz.f166.body with | some c=>c | none=>.skip
theorem ls_S166:loopsIn body_S166=[]:=by kernel_rfl
theorem fn_S166 (N:Nat) (x:AVals sg_S166) (kf:Ret→Option Ret):F_S166 N x kf=peFunc h_S166 (Orc.of (es_S166 N)) (noL N N) Tryz.f166 (ashape sg_S166 x) kf:=by kernel_rfl
theorem det_S166 (N:Nat) (x:AVals sg_S166):Det (F_S166 N x):=by
 obtain ⟨l,u⟩:=x
 unfold F_S166 S166
 cases l with
 | nil=>exact ⟨some _,fun K=>both_self _⟩
 | cons a l =>
  simp only [List.isEmpty_cons,cond_false]
  exact Det.bif _ (Det.pure _) Det.none
theorem sd_S166 {Γ : Gl} (N:Nat):Sound Γ Tryz.prog 166 (run_S166 N):=fun_ok2 (hh:=h_S166) mixed tab_ok (es:=es_S166 N) trivial (fn:=Tryz.f166) (body:=body_S166) (by kernel_rfl) (by kernel_rfl) (by kernel_rfl) (by kernel_rfl) (by kernel_rfl) (Lf:=noL N) (noL0 N) ls_S166 trivial (N:=N) (by kernel_rfl) (fn_S166 N) (.inr (det_S166 N))
noncomputable def ks_I163_l3:List Kd:=[dK,dK,dK,.v (.sl tQIIIIILIE) (.o 46 none (.p .k (.p .k (.p .k (.p .k (.p .k (.o 3 none .k))))))),dK,dK,dK,.v (.sl tQIIIIILIE) .k,.v (.int .i64) .k,.v (.int .i64) .k,dK,dK,dK,dK,dK,dK,dK,dK,dK,dK,dK,dK,dK]
noncomputable def ko_I163_l3_0:List Kd:=[dK,dK,dK,.v (.sl tQIIIIILIE) (.o 46 none (.p .k (.p .k (.p .k (.p .k (.p .k (.o 3 none .k))))))),dK,dK,dK,dK,dK,dK,dK,dK,dK,dK,dK,dK,dK,dK,dK,dK,dK,dK,dK]
noncomputable def h_I163:Hint:={ tab,hn:=[(6,(.p .k (.p .k (.p .k (.p .k (.p .k (.o 3 none .k)))))))],loops:=[(3,ks_I163_l3)],outs:=[(3,2,ko_I163_l3_0)],ords:=[] }
noncomputable def sg_I163:List AK:=[.v (.sl tQIIIIILIE) .k]
noncomputable def F_I163 (N:Nat) (x:AVals sg_I163) (kf:Ret→Option Ret):Option Ret:=I163 N x.1 (fun r0=>kf ⟨[⟨(.sl tQIIIIILIE),(.o 46 none (.p .k (.p .k (.p .k (.p .k (.p .k (.o 3 none .k))))))),r0⟩],[]⟩)
noncomputable def run_I163 (N:Nat):=runOf sg_I163 (F_I163 N)
noncomputable def es_I163 (N:Nat):List Entry:=[⟨166,[.val],(run_S166 N)⟩]
noncomputable def body_I163:Code:=match Tryz.f163.body with | some c=>c | none=>.skip
noncomputable def L_I163 (N n:Nat) (key:Nat) (S:St) (K:Ks):Option Ret:=bif Nat.beq key 3 then withVals ks_I163_l3 S (fun x=>I163_l3 N x.2.1 x.2.2.1 n (fun z0=>K (.x 0) (shape ko_I163_l3_0 (z0,()))) x.1 x.2.2.2.1) else none
theorem L0_I163 (N key:Nat) (S:St) (K:Ks):L_I163 N 0 key S K=none:=(bif0 (withVals0 fun _=>rfl) rfl)
noncomputable def c_I163_0:Code:=(loopsIn body_I163).getD 0 .skip
theorem ls_I163:loopsIn body_I163=[c_I163_0]:=by kernel_rfl
theorem rd_I163_3 (N n:Nat) (x:Vals ks_I163_l3) (K:Ks):L_I163 N (n + 1) 3 (shape ks_I163_l3 x) (h_I163.onOut 3 K)=peRound h_I163 (Orc.of (es_I163 N)) (mixL (L_I163 N) N n 3) c_I163_0 (shape ks_I163_l3 x) (h_I163.onOut 3 K):=by kernel_rfl
theorem fn_I163 (N:Nat) (x:AVals sg_I163) (kf:Ret→Option Ret):F_I163 N x kf=peFunc h_I163 (Orc.of (es_I163 N)) (L_I163 N N) Tryz.f163 (ashape sg_I163 x) kf:=by kernel_rfl
theorem sd_I163 {Γ : Gl} (N:Nat):Sound Γ Tryz.prog 163 (run_I163 N):=fun_ok2 (hh:=h_I163) mixed tab_ok (es:=es_I163 N) ⟨sd_S166 N,trivial⟩ (fn:=Tryz.f163) (body:=body_I163) (by kernel_rfl) (by kernel_rfl) (by kernel_rfl) (by kernel_rfl) (by kernel_rfl) (Lf:=L_I163 N) (L0_I163 N) ls_I163 (round_cons (key:=3) (ks:=ks_I163_l3) (by kernel_rfl) (by kernel_rfl) (rd_I163_3 N) trivial) (N:=N) (by kernel_rfl) (fn_I163 N) (.inl (by kernel_rfl))
noncomputable def ks_I164_l3:List Kd:=[dK,dK,dK,.v (.sl tQIILIE) (.o 80 none (.p .k (.p .k (.o 3 none .k)))),dK,dK,dK,.v (.sl tQIILIE) .k,.v (.int .i64) .k,.v (.int .i64) .k,dK,dK,dK,dK,dK,dK,dK,dK,dK,dK,dK,dK,dK]
noncomputable def ko_I164_l3_0:List Kd:=[dK,dK,dK,.v (.sl tQIILIE) (.o 80 none (.p .k (.p .k (.o 3 none .k)))),dK,dK,dK,dK,dK,dK,dK,dK,dK,dK,dK,dK,dK,dK,dK,dK,dK,dK,dK]
noncomputable def h_I164:Hint:={ tab,hn:=[(6,(.p .k (.p .k (.o 3 none .k))))],loops:=[(3,ks_I164_l3)],outs:=[(3,2,ko_I164_l3_0)],ords:=[] }
noncomputable def sg_I164:List AK:=[.v (.sl tQIILIE) .k]
noncomputable def F_I164 (N:Nat) (x:AVals sg_I164) (kf:Ret→Option Ret):Option Ret:=I164 N x.1 (fun r0=>kf ⟨[⟨(.sl tQIILIE),(.o 80 none (.p .k (.p .k (.o 3 none .k)))),r0⟩],[]⟩)
noncomputable def run_I164 (N:Nat):=runOf sg_I164 (F_I164 N)
noncomputable def es_I164 (N:Nat):List Entry:=[⟨166,[.val],(run_S166 N)⟩]
noncomputable def body_I164:Code:=match Tryz.f164.body with | some c=>c | none=>.skip
noncomputable def L_I164 (N n:Nat) (key:Nat) (S:St) (K:Ks):Option Ret:=bif Nat.beq key 3 then withVals ks_I164_l3 S (fun x=>I164_l3 N x.2.1 x.2.2.1 n (fun z0=>K (.x 0) (shape ko_I164_l3_0 (z0,()))) x.1 x.2.2.2.1) else none
theorem L0_I164 (N key:Nat) (S:St) (K:Ks):L_I164 N 0 key S K=none:=(bif0 (withVals0 fun _=>rfl) rfl)
noncomputable def c_I164_0:Code:=(loopsIn body_I164).getD 0 .skip
theorem ls_I164:loopsIn body_I164=[c_I164_0]:=by kernel_rfl
theorem rd_I164_3 (N n:Nat) (x:Vals ks_I164_l3) (K:Ks):L_I164 N (n + 1) 3 (shape ks_I164_l3 x) (h_I164.onOut 3 K)=peRound h_I164 (Orc.of (es_I164 N)) (mixL (L_I164 N) N n 3) c_I164_0 (shape ks_I164_l3 x) (h_I164.onOut 3 K):=by kernel_rfl
theorem fn_I164 (N:Nat) (x:AVals sg_I164) (kf:Ret→Option Ret):F_I164 N x kf=peFunc h_I164 (Orc.of (es_I164 N)) (L_I164 N N) Tryz.f164 (ashape sg_I164 x) kf:=by kernel_rfl
theorem sd_I164 {Γ : Gl} (N:Nat):Sound Γ Tryz.prog 164 (run_I164 N):=fun_ok2 (hh:=h_I164) mixed tab_ok (es:=es_I164 N) ⟨sd_S166 N,trivial⟩ (fn:=Tryz.f164) (body:=body_I164) (by kernel_rfl) (by kernel_rfl) (by kernel_rfl) (by kernel_rfl) (by kernel_rfl) (Lf:=L_I164 N) (L0_I164 N) ls_I164 (round_cons (key:=3) (ks:=ks_I164_l3) (by kernel_rfl) (by kernel_rfl) (rd_I164_3 N) trivial) (N:=N) (by kernel_rfl) (fn_I164 N) (.inl (by kernel_rfl))
noncomputable def h_S165:Hint:={ tab,hn:=[],loops:=[],outs:=[],ords:=[] }
noncomputable def sg_S165:List AK:=[.v (.sl tQIIE) .k]
noncomputable def F_S165 (N:Nat) (x:AVals sg_S165) (kf:Ret→Option Ret):Option Ret:=S165 N x.1 (fun r0=>kf ⟨[⟨(.sl tQIIE),(.o 104 none .k),r0⟩],[]⟩)
noncomputable def run_S165 (N:Nat):=runOf sg_S165 (F_S165 N)
noncomputable def es_S165 (N:Nat):List Entry:=[]
noncomputable def body_S165:Code:=match Tryz.f165.body with | some c=>c | none=>.skip
theorem ls_S165:loopsIn body_S165=[]:=by kernel_rfl
theorem fn_S165 (N:Nat) (x:AVals sg_S165) (kf:Ret→Option Ret):F_S165 N x kf=peFunc h_S165 (Orc.of (es_S165 N)) (noL N N) Tryz.f165 (ashape sg_S165 x) kf:=by kernel_rfl
theorem det_S165 (N:Nat) (x:AVals sg_S165):Det (F_S165 N x):=by
 obtain ⟨l,u⟩:=x
 unfold F_S165 S165
 cases l with
 | nil=>exact ⟨some _,fun K=>both_self _⟩
 | cons a l =>
  simp only [List.isEmpty_cons,cond_false]
  exact Det.bif _ (Det.pure _) Det.none
theorem sd_S165 {Γ : Gl} (N:Nat):Sound Γ Tryz.prog 165 (run_S165 N):=fun_ok2 (hh:=h_S165) mixed tab_ok (es:=es_S165 N) trivial (fn:=Tryz.f165) (body:=body_S165) (by kernel_rfl) (by kernel_rfl) (by kernel_rfl) (by kernel_rfl) (by kernel_rfl) (Lf:=noL N) (noL0 N) ls_S165 trivial (N:=N) (by kernel_rfl) (fn_S165 N) (.inr (det_S165 N))
noncomputable def h_S167:Hint:={ tab,hn:=[],loops:=[],outs:=[],ords:=[] }
noncomputable def sg_S167:List AK:=[.v (.sl tQIIIE) .k]
noncomputable def F_S167 (N:Nat) (x:AVals sg_S167) (kf:Ret→Option Ret):Option Ret:=S167 N x.1 (fun r0=>kf ⟨[⟨(.sl tQIIIE),(.o 136 none .k),r0⟩],[]⟩)
noncomputable def run_S167 (N:Nat):=runOf sg_S167 (F_S167 N)
noncomputable def es_S167 (N:Nat):List Entry:=[]
noncomputable def body_S167:Code:=match Tryz.f167.body with | some c=>c | none=>.skip
theorem ls_S167:loopsIn body_S167=[]:=by kernel_rfl
theorem fn_S167 (N:Nat) (x:AVals sg_S167) (kf:Ret→Option Ret):F_S167 N x kf=peFunc h_S167 (Orc.of (es_S167 N)) (noL N N) Tryz.f167 (ashape sg_S167 x) kf:=by kernel_rfl
theorem det_S167 (N:Nat) (x:AVals sg_S167):Det (F_S167 N x):=by
 obtain ⟨l,u⟩:=x
 unfold F_S167 S167
 cases l with
 | nil=>exact ⟨some _,fun K=>both_self _⟩
 | cons a l =>
  simp only [List.isEmpty_cons,cond_false]
  exact Det.bif _ (Det.pure _) Det.none
theorem sd_S167 {Γ : Gl} (N:Nat):Sound Γ Tryz.prog 167 (run_S167 N):=fun_ok2 (hh:=h_S167) mixed tab_ok (es:=es_S167 N) trivial (fn:=Tryz.f167) (body:=body_S167) (by kernel_rfl) (by kernel_rfl) (by kernel_rfl) (by kernel_rfl) (by kernel_rfl) (Lf:=noL N) (noL0 N) ls_S167 trivial (N:=N) (by kernel_rfl) (fn_S167 N) (.inr (det_S167 N))
noncomputable def h_S168:Hint:={ tab,hn:=[],loops:=[],outs:=[],ords:=[] }
noncomputable def sg_S168:List AK:=[.v (.sl tQIIIIE) .k]
noncomputable def F_S168 (N:Nat) (x:AVals sg_S168) (kf:Ret→Option Ret):Option Ret:=S168 N x.1 (fun r0=>kf ⟨[⟨(.sl tQIIIIE),(.o 102 none .k),r0⟩],[]⟩)
noncomputable def run_S168 (N:Nat):=runOf sg_S168 (F_S168 N)
noncomputable def es_S168 (N:Nat):List Entry:=[]
noncomputable def body_S168:Code:=match Tryz.f168.body with | some c=>c | none=>.skip
theorem ls_S168:loopsIn body_S168=[]:=by kernel_rfl
theorem fn_S168 (N:Nat) (x:AVals sg_S168) (kf:Ret→Option Ret):F_S168 N x kf=peFunc h_S168 (Orc.of (es_S168 N)) (noL N N) Tryz.f168 (ashape sg_S168 x) kf:=by kernel_rfl
theorem det_S168 (N:Nat) (x:AVals sg_S168):Det (F_S168 N x):=by
 obtain ⟨l,u⟩:=x
 unfold F_S168 S168
 cases l with
 | nil=>exact ⟨some _,fun K=>both_self _⟩
 | cons a l =>
  simp only [List.isEmpty_cons,cond_false]
  exact Det.bif _ (Det.pure _) Det.none
theorem sd_S168 {Γ : Gl} (N:Nat):Sound Γ Tryz.prog 168 (run_S168 N):=fun_ok2 (hh:=h_S168) mixed tab_ok (es:=es_S168 N) trivial (fn:=Tryz.f168) (body:=body_S168) (by kernel_rfl) (by kernel_rfl) (by kernel_rfl) (by kernel_rfl) (by kernel_rfl) (Lf:=noL N) (noL0 N) ls_S168 trivial (N:=N) (by kernel_rfl) (fn_S168 N) (.inr (det_S168 N))
noncomputable def h_I70:Hint:={ tab,hn:=[],loops:=[],outs:=[],ords:=[(1,(OT.seq [0,1,3,4,2,6,5,7,8,9] .done)),(2,(OT.seq [0,1,3,4,6,7,9,10,2,12,5,8,11,13,14,15,16,17,18,19] .done))] }
noncomputable def sg_I70:List AK:=[.v tQLQIIIIILIELQIILIELQIIELILQIIIELQIIIIEIE .k]
noncomputable def F_I70 (N:Nat) (x:AVals sg_I70) (kf:Ret→Option Ret):Option Ret:=I70 N x.1 (fun r0=>kf ⟨[⟨tQLQIIIIILIELQIILIELQIIELILQIIIELQIIIIEIE,(.p (.o 46 none (.p .k (.p .k (.p .k (.p .k (.p .k (.o 3 none .k))))))) (.p (.o 80 none (.p .k (.p .k (.o 3 none .k)))) (.p (.o 104 none .k) (.p (.o 3 none .k) (.p (.o 136 none .k) (.p (.o 102 none .k) .k)))))),r0⟩],[]⟩)
noncomputable def run_I70 (N:Nat):=runOf sg_I70 (F_I70 N)
noncomputable def es_I70 (N:Nat):List Entry:=[⟨163,[.val],(run_I163 N)⟩,⟨164,[.val],(run_I164 N)⟩,⟨165,[.val],(run_S165 N)⟩,⟨166,[.val],(run_S166 N)⟩,⟨167,[.val],(run_S167 N)⟩,⟨168,[.val],(run_S168 N)⟩]
noncomputable def body_I70:Code:=match Tryz.f70.body with | some c=>c | none=>.skip
theorem ls_I70:loopsIn body_I70=[]:=by kernel_rfl
theorem fn_I70 (N:Nat) (x:AVals sg_I70) (kf:Ret→Option Ret):F_I70 N x kf=peFunc h_I70 (Orc.of (es_I70 N)) (noL N N) Tryz.f70 (ashape sg_I70 x) kf:=by kernel_rfl
theorem sd_I70 {Γ : Gl} (N:Nat):Sound Γ Tryz.prog 70 (run_I70 N):=fun_ok2 (hh:=h_I70) mixed tab_ok (es:=es_I70 N) ⟨sd_I163 N,⟨sd_I164 N,⟨sd_S165 N,⟨sd_S166 N,⟨sd_S167 N,⟨sd_S168 N,trivial⟩⟩⟩⟩⟩⟩ (fn:=Tryz.f70) (body:=body_I70) (by kernel_rfl) (by kernel_rfl) (by kernel_rfl) (by kernel_rfl) (by kernel_rfl) (Lf:=noL N) (noL0 N) ls_I70 trivial (N:=N) (by kernel_rfl) (fn_I70 N) (.inl (by kernel_rfl))
noncomputable def h_I144:Hint:={ tab,hn:=[],loops:=[],outs:=[],ords:=[] }
noncomputable def sg_I144:List AK:=[.v (.int .i64) .k,.v (.int .i64) .k,.v (.int .i64) .k]
noncomputable def F_I144 (N:Nat) (x:AVals sg_I144) (kf:Ret→Option Ret):Option Ret:=I144 N x.1 x.2.1 x.2.2.1 (fun r0=>kf ⟨[⟨.bool,.k,r0⟩],[]⟩)
noncomputable def run_I144 (N:Nat):=runOf sg_I144 (F_I144 N)
noncomputable def es_I144 (N:Nat):List Entry:=[]
noncomputable def body_I144:Code:=match Tryz.f144.body with | some c=>c | none=>.skip
theorem ls_I144:loopsIn body_I144=[]:=by kernel_rfl
theorem fn_I144 (N:Nat) (x:AVals sg_I144) (kf:Ret→Option Ret):F_I144 N x kf=peFunc h_I144 (Orc.of (es_I144 N)) (noL N N) Tryz.f144 (ashape sg_I144 x) kf:=by kernel_rfl
theorem sd_I144 {Γ : Gl} (N:Nat):Sound Γ Tryz.prog 144 (run_I144 N):=fun_ok2 (hh:=h_I144) mixed tab_ok (es:=es_I144 N) trivial (fn:=Tryz.f144) (body:=body_I144) (by kernel_rfl) (by kernel_rfl) (by kernel_rfl) (by kernel_rfl) (by kernel_rfl) (Lf:=noL N) (noL0 N) ls_I144 trivial (N:=N) (by kernel_rfl) (fn_I144 N) (.inl (by kernel_rfl))
noncomputable def h_I147:Hint:={ tab,hn:=[],loops:=[],outs:=[],ords:=[] }
noncomputable def sg_I147:List AK:=[.v tQIIIIILIE .k,.v (.ptr (.int .i64)) .k]
noncomputable def F_I147 (N:Nat) (x:AVals sg_I147) (kf:Ret→Option Ret):Option Ret:=I147 N x.1 x.2.1 (fun r0=>kf ⟨[⟨.bool,.k,r0⟩],[]⟩)
noncomputable def run_I147 (N:Nat):=runOf sg_I147 (F_I147 N)
noncomputable def es_I147 (N:Nat):List Entry:=[]
noncomputable def body_I147:Code:=match Tryz.f147.body with | some c=>c | none=>.skip
theorem ls_I147:loopsIn body_I147=[]:=by kernel_rfl
theorem fn_I147 (N:Nat) (x:AVals sg_I147) (kf:Ret→Option Ret):F_I147 N x kf=peFunc h_I147 (Orc.of (es_I147 N)) (noL N N) Tryz.f147 (ashape sg_I147 x) kf:=by kernel_rfl
theorem sd_I147 {Γ : Gl} (N:Nat):Sound Γ Tryz.prog 147 (run_I147 N):=fun_ok2 (hh:=h_I147) mixed tab_ok (es:=es_I147 N) trivial (fn:=Tryz.f147) (body:=body_I147) (by kernel_rfl) (by kernel_rfl) (by kernel_rfl) (by kernel_rfl) (by kernel_rfl) (Lf:=noL N) (noL0 N) ls_I147 trivial (N:=N) (by kernel_rfl) (fn_I147 N) (.inl (by kernel_rfl))
noncomputable def ks_S146_l2:List Kd:=[.v (.sl tQIIIIILIE) .k,.clo 147 [.kv (.ptr (.int .i64))],dK,dK,dK,dK,dK,.v (.int .i64) .k,.v (.int .i64) .k,dK,dK,dK,dK,dK,dK,dK,dK,dK,dK]
noncomputable def ko_S146_l2_0:List Kd:=[dK,dK,dK,dK,dK,dK,dK,dK,dK,dK,dK,dK,dK,dK,dK,dK,dK,dK,dK]
noncomputable def ko_S146_l2_1:List Kd:=[dK,dK,dK,dK,.v (.int .i64) .k,dK,dK,dK,dK,dK,dK,dK,dK,dK,dK,dK,dK,dK,dK]
noncomputable def h_S146:Hint:={ tab,hn:=[],loops:=[(2,ks_S146_l2)],outs:=[(2,2,ko_S146_l2_0),(2,1,ko_S146_l2_1)],ords:=[] }
noncomputable def sg_S146:List AK:=[.v (.sl tQIIIIILIE) .k,.fn 147 [(.ptr (.int .i64))]]
noncomputable def F_S146 (N:Nat) (x:AVals sg_S146) (kf:Ret→Option Ret):Option Ret:=S146 N x.1 x.2.1.1 (fun r0=>kf ⟨[⟨(.int .i64),.k,r0⟩],[]⟩)
noncomputable def run_S146 (N:Nat):=runOf sg_S146 (F_S146 N)
noncomputable def es_S146 (N:Nat):List Entry:=[⟨147,[.val],(run_I147 N)⟩]
noncomputable def body_S146:Code:=match Tryz.f146.body with | some c=>c | none=>.skip
noncomputable def L_S146 (N n:Nat) (key:Nat) (S:St) (K:Ks):Option Ret:=bif Nat.beq key 2 then withVals ks_S146_l2 S (fun x=>S146_l2 N x.1 x.2.1.1 x.2.2.1 n (K (.x 0) (shape ko_S146_l2_0 ())) (fun z0=>K .r (shape ko_S146_l2_1 (z0,()))) x.2.2.2.1) else none
theorem L0_S146 (N key:Nat) (S:St) (K:Ks):L_S146 N 0 key S K=none:=(bif0 (withVals0 fun _=>rfl) rfl)
noncomputable def c_S146_0:Code:=(loopsIn body_S146).getD 0 .skip
theorem ls_S146:loopsIn body_S146=[c_S146_0]:=by kernel_rfl
theorem rd_S146_2 (N n:Nat) (x:Vals ks_S146_l2) (K:Ks):L_S146 N (n + 1) 2 (shape ks_S146_l2 x) (h_S146.onOut 2 K)=peRound h_S146 (Orc.of (es_S146 N)) (mixL (L_S146 N) N n 2) c_S146_0 (shape ks_S146_l2 x) (h_S146.onOut 2 K):=by kernel_rfl
theorem fn_S146 (N:Nat) (x:AVals sg_S146) (kf:Ret→Option Ret):F_S146 N x kf=peFunc h_S146 (Orc.of (es_S146 N)) (L_S146 N N) Tryz.f146 (ashape sg_S146 x) kf:=by kernel_rfl
theorem sd_S146 {Γ : Gl} (N:Nat):Sound Γ Tryz.prog 146 (run_S146 N):=fun_ok2 (hh:=h_S146) mixed tab_ok (es:=es_S146 N) ⟨sd_I147 N,trivial⟩ (fn:=Tryz.f146) (body:=body_S146) (by kernel_rfl) (by kernel_rfl) (by kernel_rfl) (by kernel_rfl) (by kernel_rfl) (Lf:=L_S146 N) (L0_S146 N) ls_S146 (round_cons (key:=2) (ks:=ks_S146_l2) (by kernel_rfl) (by kernel_rfl) (rd_S146_2 N) trivial) (N:=N) (by kernel_rfl) (fn_S146 N) (.inl (by kernel_rfl))
noncomputable def h_I40:Hint:={ tab,hn:=[],loops:=[],outs:=[],ords:=[] }
noncomputable def sg_I40:List AK:=[.v (.sl tQIIIIILIE) .k,.v (.int .i64) .k]
noncomputable def F_I40 (N:Nat) (x:AVals sg_I40) (kf:Ret→Option Ret):Option Ret:=I40 N x.1 x.2.1 (fun r0=>kf ⟨[⟨(.int .i64),.k,r0⟩],[]⟩)
noncomputable def run_I40 (N:Nat):=runOf sg_I40 (F_I40 N)
noncomputable def es_I40 (N:Nat):List Entry:=[⟨146,[.val,.val],(run_S146 N)⟩]
noncomputable def body_I40:Code:=match Tryz.f40.body with | some c=>c | none=>.skip
theorem ls_I40:loopsIn body_I40=[]:=by kernel_rfl
theorem fn_I40 (N:Nat) (x:AVals sg_I40) (kf:Ret→Option Ret):F_I40 N x kf=peFunc h_I40 (Orc.of (es_I40 N)) (noL N N) Tryz.f40 (ashape sg_I40 x) kf:=by kernel_rfl
theorem sd_I40 {Γ : Gl} (N:Nat):Sound Γ Tryz.prog 40 (run_I40 N):=fun_ok2 (hh:=h_I40) mixed tab_ok (es:=es_I40 N) ⟨sd_S146 N,trivial⟩ (fn:=Tryz.f40) (body:=body_I40) (by kernel_rfl) (by kernel_rfl) (by kernel_rfl) (by kernel_rfl) (by kernel_rfl) (Lf:=noL N) (noL0 N) ls_I40 trivial (N:=N) (by kernel_rfl) (fn_I40 N) (.inl (by kernel_rfl))
noncomputable def ks_I78_l3:List Kd:=[dK,.v (.int .i64) .k,dK,dK,dK,.v (.int .i64) .k,dK,dK,.v (.sl (.int .i64)) .k,.v (.int .i64) .k,.v (.int .i64) .k,dK,dK,dK,dK,dK,dK,dK,dK,dK,dK]
noncomputable def ko_I78_l3_0:List Kd:=[dK,dK,dK,dK,dK,.v (.int .i64) .k,dK,dK,dK,dK,dK,dK,dK,dK,dK,dK,dK,dK,dK,dK,dK]
noncomputable def h_I78:Hint:={ tab,hn:=[],loops:=[(3,ks_I78_l3)],outs:=[(3,2,ko_I78_l3_0)],ords:=[] }
noncomputable def sg_I78:List AK:=[.v (.sl (.int .i64)) .k,.v (.int .i64) .k]
noncomputable def F_I78 (N:Nat) (x:AVals sg_I78) (kf:Ret→Option Ret):Option Ret:=I78 N x.1 x.2.1 (fun r0=>kf ⟨[⟨(.int .i64),.k,r0⟩],[]⟩)
noncomputable def run_I78 (N:Nat):=runOf sg_I78 (F_I78 N)
noncomputable def es_I78 (N:Nat):List Entry:=[]
noncomputable def body_I78:Code:=match Tryz.f78.body with | some c=>c | none=>.skip
noncomputable def L_I78 (N n:Nat) (key:Nat) (S:St) (K:Ks):Option Ret:=bif Nat.beq key 3 then withVals ks_I78_l3 S (fun x=>I78_l3 x.1 x.2.2.1 x.2.2.2.1 n (fun z0=>K (.x 0) (shape ko_I78_l3_0 (z0,()))) x.2.1 x.2.2.2.2.1) else none
theorem L0_I78 (N key:Nat) (S:St) (K:Ks):L_I78 N 0 key S K=none:=(bif0 (withVals0 fun _=>rfl) rfl)
noncomputable def c_I78_0:Code:=(loopsIn body_I78).getD 0 .skip
theorem ls_I78:loopsIn body_I78=[c_I78_0]:=by kernel_rfl
theorem rd_I78_3 (N n:Nat) (x:Vals ks_I78_l3) (K:Ks):L_I78 N (n + 1) 3 (shape ks_I78_l3 x) (h_I78.onOut 3 K)=peRound h_I78 (Orc.of (es_I78 N)) (mixL (L_I78 N) N n 3) c_I78_0 (shape ks_I78_l3 x) (h_I78.onOut 3 K):=by kernel_rfl
theorem fn_I78 (N:Nat) (x:AVals sg_I78) (kf:Ret→Option Ret):F_I78 N x kf=peFunc h_I78 (Orc.of (es_I78 N)) (L_I78 N N) Tryz.f78 (ashape sg_I78 x) kf:=by kernel_rfl
theorem sd_I78 {Γ : Gl} (N:Nat):Sound Γ Tryz.prog 78 (run_I78 N):=fun_ok2 (hh:=h_I78) mixed tab_ok (es:=es_I78 N) trivial (fn:=Tryz.f78) (body:=body_I78) (by kernel_rfl) (by kernel_rfl) (by kernel_rfl) (by kernel_rfl) (by kernel_rfl) (Lf:=L_I78 N) (L0_I78 N) ls_I78 (round_cons (key:=3) (ks:=ks_I78_l3) (by kernel_rfl) (by kernel_rfl) (rd_I78_3 N) trivial) (N:=N) (by kernel_rfl) (fn_I78 N) (.inl (by kernel_rfl))
noncomputable def ks_I143_l10:List Kd:=[.v (.sl tQIIIIILIE) .k,dK,dK,dK,.v (.ptr tQIIIIILIE) (.o 46 none .k),dK,dK,dK,dK,dK,dK,dK,.v (.sl tQIIIIILIE) .k,.v (.int .i64) .k,.v (.int .i64) .k,dK,dK,dK,dK,dK,dK,dK,dK,dK,dK,dK,dK,dK,dK,dK,dK,dK,dK,dK,dK,dK,dK,dK,dK,dK,dK,dK,dK,dK,dK,dK,dK,dK,dK,dK,dK,dK,dK,dK,dK,dK,dK,dK,dK,dK,dK,dK,dK,dK,dK,dK,dK,dK,dK,dK,dK,dK,.v (.sl (.int .i64)) .k,.v (.int .i64) .k,.v (.int .i64) .k,dK,dK,dK,dK,dK,dK,dK,dK,dK,dK,dK,dK,dK,dK,dK,dK,dK,dK,dK,dK,dK,dK,dK,dK,dK,dK,dK,dK,dK,dK,dK]
noncomputable def ko_I143_l10_0:List Kd:=[.v (.sl tQIIIIILIE) .k,dK,dK,dK,dK,dK,dK,dK,dK,dK,dK,dK,.v (.sl tQIIIIILIE) .k,.v (.int .i64) .k,.v (.int .i64) .k,dK,dK,dK,dK,dK,dK,dK,dK,dK,dK,dK,dK,dK,dK,dK,dK,dK,dK,dK,dK,dK,dK,dK,dK,dK,dK,dK,dK,dK,dK,dK,dK,dK,dK,dK,dK,dK,dK,dK,dK,dK,dK,dK,dK,dK,dK,dK,dK,dK,dK,dK,dK,dK,dK,dK,dK,dK,dK,dK,dK,dK,dK,dK,dK,dK,dK,dK,dK,dK,dK,dK,dK,dK,dK,dK,dK,dK,dK,dK,dK,dK,dK,dK,dK,dK,dK,dK,dK,dK,dK,dK]
noncomputable def ko_I143_l10_1:List Kd:=[dK,dK,.v .bool .k,dK,dK,dK,dK,dK,dK,dK,dK,dK,dK,dK,dK,dK,dK,dK,dK,dK,dK,dK,dK,dK,dK,dK,dK,dK,dK,dK,dK,dK,dK,dK,dK,dK,dK,dK,dK,dK,dK,dK,dK,dK,dK,dK,dK,dK,dK,dK,dK,dK,dK,dK,dK,dK,dK,dK,dK,dK,dK,dK,dK,dK,dK,dK,dK,dK,dK,dK,dK,dK,dK,dK,dK,dK,dK,dK,dK,dK,dK,dK,dK,dK,dK,dK,dK,dK,dK,dK,dK,dK,dK,dK,dK,dK,dK,dK,dK,dK,dK,dK,dK,dK,dK,dK]
noncomputable def ks_I143_l4:List Kd:=[.v (.sl tQIIIIILIE) .k,dK,dK,dK,dK,dK,dK,dK,dK,dK,dK,dK,.v (.sl tQIIIIILIE) .k,.v (.int .i64) .k,.v (.int .i64) .k,dK,dK,dK,dK,dK,dK,dK,dK,dK,dK,dK,dK,dK,dK,dK,dK,dK,dK,dK,dK,dK,dK,dK,dK,dK,dK,dK,dK,dK,dK,dK,dK,dK,dK,dK,dK,dK,dK,dK,dK,dK,dK,dK,dK,dK,dK,dK,dK,dK,dK,dK,dK,dK,dK,dK,dK,dK,dK,dK,dK,dK,dK,dK,dK,dK,dK,dK,dK,dK,dK,dK,dK,dK,dK,dK,dK,dK,dK,dK,dK,dK,dK,dK,dK,dK,dK,dK,dK,dK,dK,dK]
noncomputable def ko_I143_l4_0:List Kd:=[dK,dK,dK,dK,dK,dK,dK,dK,dK,dK,dK,dK,dK,dK,dK,dK,dK,dK,dK,dK,dK,dK,dK,dK,dK,dK,dK,dK,dK,dK,dK,dK,dK,dK,dK,dK,dK,dK,dK,dK,dK,dK,dK,dK,dK,dK,dK,dK,dK,dK,dK,dK,dK,dK,dK,dK,dK,dK,dK,dK,dK,dK,dK,dK,dK,dK,dK,dK,dK,dK,dK,dK,dK,dK,dK,dK,dK,dK,dK,dK,dK,dK,dK,dK,dK,dK,dK,dK,dK,dK,dK,dK,dK,dK,dK,dK,dK,dK,dK,dK,dK,dK,dK,dK,dK,dK]
noncomputable def ko_I143_l4_1:List Kd:=[dK,dK,.v .bool .k,dK,dK,dK,dK,dK,dK,dK,dK,dK,dK,dK,dK,dK,dK,dK,dK,dK,dK,dK,dK,dK,dK,dK,dK,dK,dK,dK,dK,dK,dK,dK,dK,dK,dK,dK,dK,dK,dK,dK,dK,dK,dK,dK,dK,dK,dK,dK,dK,dK,dK,dK,dK,dK,dK,dK,dK,dK,dK,dK,dK,dK,dK,dK,dK,dK,dK,dK,dK,dK,dK,dK,dK,dK,dK,dK,dK,dK,dK,dK,dK,dK,dK,dK,dK,dK,dK,dK,dK,dK,dK,dK,dK,dK,dK,dK,dK,dK,dK,dK,dK,dK,dK,dK]
noncomputable def h_I143:Hint:={ tab,hn:=[],loops:=[(10,ks_I143_l10),(4,ks_I143_l4)],outs:=[(10,4,ko_I143_l10_0),(10,1,ko_I143_l10_1),(4,2,ko_I143_l4_0),(4,1,ko_I143_l4_1)],ords:=[(7,(OT.seq [0,1,2,3,4,5,6,7,8,9,10,11,12,13,14,15,16,17,18,19,20,21,22,23,24,25,26,27,28,29,30,31,32,33,34,35,36,37,38,39,40,41,42,43,44,45,46,47,48] .done)),(13,(OT.seq [0,1,2,3,4,5,6,7,8,9,10,11,13,14,15,16,17,18,19,12,20,21,22] .done))] }
noncomputable def sg_I143:List AK:=[.v (.sl tQIIIIILIE) .k]
noncomputable def F_I143 (N:Nat) (x:AVals sg_I143) (kf:Ret→Option Ret):Option Ret:=I143 N x.1 (fun r0=>kf ⟨[⟨.bool,.k,r0⟩],[]⟩)
noncomputable def run_I143 (N:Nat):=runOf sg_I143 (F_I143 N)
noncomputable def es_I143 (N:Nat):List Entry:=[⟨144,[.val,.val,.val],(run_I144 N)⟩,⟨40,[.val,.val],(run_I40 N)⟩,⟨78,[.val,.val],(run_I78 N)⟩]
noncomputable def body_I143:Code:=match Tryz.f143.body with | some c=>c | none=>.skip
noncomputable def L_I143 (N n:Nat) (key:Nat) (S:St) (K:Ks):Option Ret:=bif Nat.beq key 4 then withVals ks_I143_l4 S (fun x=>I143_l4 N x.1 x.2.1 x.2.2.1 n (K (.x 0) (shape ko_I143_l4_0 ())) (fun z0=>K .r (shape ko_I143_l4_1 (z0,()))) x.2.2.2.1) else bif Nat.beq key 10 then withVals ks_I143_l10 S (fun x=>I143_l10 N x.1 x.2.1 x.2.2.1 x.2.2.2.1 x.2.2.2.2.1 x.2.2.2.2.2.1 x.2.2.2.2.2.2.1 n (K (.x 2) (shape ko_I143_l10_0 (x.1,x.2.2.1,x.2.2.2.1,x.2.2.2.2.1,()))) (fun z0=>K .r (shape ko_I143_l10_1 (z0,()))) x.2.2.2.2.2.2.2.1) else none
theorem L0_I143 (N key:Nat) (S:St) (K:Ks):L_I143 N 0 key S K=none:=(bif0 (withVals0 fun _=>rfl) (bif0 (withVals0 fun _=>rfl) rfl))
noncomputable def c_I143_0:Code:=(loopsIn body_I143).getD 0 .skip
noncomputable def c_I143_1:Code:=(loopsIn body_I143).getD 1 .skip
theorem ls_I143:loopsIn body_I143=[c_I143_0,c_I143_1]:=by kernel_rfl
theorem rd_I143_10 (N n:Nat) (x:Vals ks_I143_l10) (K:Ks):L_I143 N (n + 1) 10 (shape ks_I143_l10 x) (h_I143.onOut 10 K)=peRound h_I143 (Orc.of (es_I143 N)) (mixL (L_I143 N) N n 10) c_I143_1 (shape ks_I143_l10 x) (h_I143.onOut 10 K):=by kernel_rfl
theorem rd_I143_4 (N n:Nat) (x:Vals ks_I143_l4) (K:Ks):L_I143 N (n + 1) 4 (shape ks_I143_l4 x) (h_I143.onOut 4 K)=peRound h_I143 (Orc.of (es_I143 N)) (mixL (L_I143 N) N n 4) c_I143_0 (shape ks_I143_l4 x) (h_I143.onOut 4 K):=by kernel_rfl
theorem fn_I143 (N:Nat) (x:AVals sg_I143) (kf:Ret→Option Ret):F_I143 N x kf=peFunc h_I143 (Orc.of (es_I143 N)) (L_I143 N N) Tryz.f143 (ashape sg_I143 x) kf:=by kernel_rfl
theorem sd_I143 {Γ : Gl} (N:Nat):Sound Γ Tryz.prog 143 (run_I143 N):=fun_ok2 (hh:=h_I143) mixed tab_ok (es:=es_I143 N) ⟨sd_I144 N,⟨sd_I40 N,⟨sd_I78 N,trivial⟩⟩⟩ (fn:=Tryz.f143) (body:=body_I143) (by kernel_rfl) (by kernel_rfl) (by kernel_rfl) (by kernel_rfl) (by kernel_rfl) (Lf:=L_I143 N) (L0_I143 N) ls_I143 (round_cons (key:=4) (ks:=ks_I143_l4) (by kernel_rfl) (by kernel_rfl) (rd_I143_4 N) (round_cons (key:=10) (ks:=ks_I143_l10) (by kernel_rfl) (by kernel_rfl) (rd_I143_10 N) trivial)) (N:=N) (by kernel_rfl) (fn_I143 N) (.inl (by kernel_rfl))
noncomputable def ks_I79_l9:List Kd:=[.v (.sl tQIILIE) .k,dK,dK,dK,.v (.ptr tQIILIE) (.o 80 none .k),dK,dK,dK,dK,dK,.v (.sl tQIILIE) .k,.v (.int .i64) .k,.v (.int .i64) .k,dK,dK,dK,dK,dK,dK,dK,dK,dK,dK,dK,dK,dK,dK,dK,dK,dK,dK,dK,dK,dK,dK,dK,dK,dK,dK,dK,dK,dK,dK,.v (.sl (.int .i64)) .k,.v (.int .i64) .k,.v (.int .i64) .k,dK,dK,dK,dK,dK,dK,dK,dK,dK,dK,dK,dK,dK,dK,dK,dK,dK,dK,dK,dK,dK,dK,dK]
noncomputable def ko_I79_l9_0:List Kd:=[.v (.sl tQIILIE) .k,dK,dK,dK,dK,dK,dK,dK,dK,dK,.v (.sl tQIILIE) .k,.v (.int .i64) .k,.v (.int .i64) .k,dK,dK,dK,dK,dK,dK,dK,dK,dK,dK,dK,dK,dK,dK,dK,dK,dK,dK,dK,dK,dK,dK,dK,dK,dK,dK,dK,dK,dK,dK,dK,dK,dK,dK,dK,dK,dK,dK,dK,dK,dK,dK,dK,dK,dK,dK,dK,dK,dK,dK,dK,dK,dK,dK,dK,dK]
noncomputable def ko_I79_l9_1:List Kd:=[dK,dK,.v .bool .k,dK,dK,dK,dK,dK,dK,dK,dK,dK,dK,dK,dK,dK,dK,dK,dK,dK,dK,dK,dK,dK,dK,dK,dK,dK,dK,dK,dK,dK,dK,dK,dK,dK,dK,dK,dK,dK,dK,dK,dK,dK,dK,dK,dK,dK,dK,dK,dK,dK,dK,dK,dK,dK,dK,dK,dK,dK,dK,dK,dK,dK,dK,dK,dK,dK,dK]
noncomputable def ks_I79_l4:List Kd:=[.v (.sl tQIILIE) .k,dK,dK,dK,dK,dK,dK,dK,dK,dK,.v (.sl tQIILIE) .k,.v (.int .i64) .k,.v (.int .i64) .k,dK,dK,dK,dK,dK,dK,dK,dK,dK,dK,dK,dK,dK,dK,dK,dK,dK,dK,dK,dK,dK,dK,dK,dK,dK,dK,dK,dK,dK,dK,dK,dK,dK,dK,dK,dK,dK,dK,dK,dK,dK,dK,dK,dK,dK,dK,dK,dK,dK,dK,dK,dK,dK,dK,dK,dK]
noncomputable def ko_I79_l4_0:List Kd:=[dK,dK,dK,dK,dK,dK,dK,dK,dK,dK,dK,dK,dK,dK,dK,dK,dK,dK,dK,dK,dK,dK,dK,dK,dK,dK,dK,dK,dK,dK,dK,dK,dK,dK,dK,dK,dK,dK,dK,dK,dK,dK,dK,dK,dK,dK,dK,dK,dK,dK,dK,dK,dK,dK,dK,dK,dK,dK,dK,dK,dK,dK,dK,dK,dK,dK,dK,dK,dK]
noncomputable def ko_I79_l4_1:List Kd:=[dK,dK,.v .bool .k,dK,dK,dK,dK,dK,dK,dK,dK,dK,dK,dK,dK,dK,dK,dK,dK,dK,dK,dK,dK,dK,dK,dK,dK,dK,dK,dK,dK,dK,dK,dK,dK,dK,dK,dK,dK,dK,dK,dK,dK,dK,dK,dK,dK,dK,dK,dK,dK,dK,dK,dK,dK,dK,dK,dK,dK,dK,dK,dK,dK,dK,dK,dK,dK,dK,dK]
noncomputable def h_I79:Hint:={ tab,hn:=[],loops:=[(9,ks_I79_l9),(4,ks_I79_l4)],outs:=[(9,4,ko_I79_l9_0),(9,1,ko_I79_l9_1),(4,2,ko_I79_l4_0),(4,1,ko_I79_l4_1)],ords:=[(6,(OT.seq [0,1,2,3,4,5,6,7,8,9,10,11,12,13,14,15,16,17,18,19,20,21,22,23,24] .done))] }
noncomputable def sg_I79:List AK:=[.v (.sl tQIILIE) .k]
noncomputable def F_I79 (N:Nat) (x:AVals sg_I79) (kf:Ret→Option Ret):Option Ret:=I79 N x.1 (fun r0=>kf ⟨[⟨.bool,.k,r0⟩],[]⟩)
noncomputable def run_I79 (N:Nat):=runOf sg_I79 (F_I79 N)
noncomputable def es_I79 (N:Nat):List Entry:=[⟨144,[.val,.val,.val],(run_I144 N)⟩]
noncomputable def body_I79:Code:=match Tryz.f79.body with | some c=>c | none=>.skip
noncomputable def L_I79 (N n:Nat) (key:Nat) (S:St) (K:Ks):Option Ret:=bif Nat.beq key 4 then withVals ks_I79_l4 S (fun x=>I79_l4 N x.1 x.2.1 x.2.2.1 n (K (.x 0) (shape ko_I79_l4_0 ())) (fun z0=>K .r (shape ko_I79_l4_1 (z0,()))) x.2.2.2.1) else bif Nat.beq key 9 then withVals ks_I79_l9 S (fun x=>I79_l9 N x.1 x.2.1 x.2.2.1 x.2.2.2.1 x.2.2.2.2.1 x.2.2.2.2.2.1 x.2.2.2.2.2.2.1 n (K (.x 2) (shape ko_I79_l9_0 (x.1,x.2.2.1,x.2.2.2.1,x.2.2.2.2.1,()))) (fun z0=>K .r (shape ko_I79_l9_1 (z0,()))) x.2.2.2.2.2.2.2.1) else none
theorem L0_I79 (N key:Nat) (S:St) (K:Ks):L_I79 N 0 key S K=none:=(bif0 (withVals0 fun _=>rfl) (bif0 (withVals0 fun _=>rfl) rfl))
noncomputable def c_I79_0:Code:=(loopsIn body_I79).getD 0 .skip
noncomputable def c_I79_1:Code:=(loopsIn body_I79).getD 1 .skip
theorem ls_I79:loopsIn body_I79=[c_I79_0,c_I79_1]:=by kernel_rfl
theorem rd_I79_9 (N n:Nat) (x:Vals ks_I79_l9) (K:Ks):L_I79 N (n + 1) 9 (shape ks_I79_l9 x) (h_I79.onOut 9 K)=peRound h_I79 (Orc.of (es_I79 N)) (mixL (L_I79 N) N n 9) c_I79_1 (shape ks_I79_l9 x) (h_I79.onOut 9 K):=by kernel_rfl
theorem rd_I79_4 (N n:Nat) (x:Vals ks_I79_l4) (K:Ks):L_I79 N (n + 1) 4 (shape ks_I79_l4 x) (h_I79.onOut 4 K)=peRound h_I79 (Orc.of (es_I79 N)) (mixL (L_I79 N) N n 4) c_I79_0 (shape ks_I79_l4 x) (h_I79.onOut 4 K):=by kernel_rfl
theorem fn_I79 (N:Nat) (x:AVals sg_I79) (kf:Ret→Option Ret):F_I79 N x kf=peFunc h_I79 (Orc.of (es_I79 N)) (L_I79 N N) Tryz.f79 (ashape sg_I79 x) kf:=by kernel_rfl
theorem sd_I79 {Γ : Gl} (N:Nat):Sound Γ Tryz.prog 79 (run_I79 N):=fun_ok2 (hh:=h_I79) mixed tab_ok (es:=es_I79 N) ⟨sd_I144 N,trivial⟩ (fn:=Tryz.f79) (body:=body_I79) (by kernel_rfl) (by kernel_rfl) (by kernel_rfl) (by kernel_rfl) (by kernel_rfl) (Lf:=L_I79 N) (L0_I79 N) ls_I79 (round_cons (key:=4) (ks:=ks_I79_l4) (by kernel_rfl) (by kernel_rfl) (rd_I79_4 N) (round_cons (key:=9) (ks:=ks_I79_l9) (by kernel_rfl) (by kernel_rfl) (rd_I79_9 N) trivial)) (N:=N) (by kernel_rfl) (fn_I79 N) (.inl (by kernel_rfl))
noncomputable def h_I262:Hint:={ tab,hn:=[],loops:=[],outs:=[],ords:=[] }
noncomputable def sg_I262:List AK:=[.v (.int .i64) .k,.v (.int .i64) .k]
noncomputable def F_I262 (N:Nat) (x:AVals sg_I262) (kf:Ret→Option Ret):Option Ret:=I262 N x.1 x.2.1 (fun r0=>kf ⟨[⟨(.int .i64),.k,r0⟩],[]⟩)
noncomputable def run_I262 (N:Nat):=runOf sg_I262 (F_I262 N)
noncomputable def es_I262 (N:Nat):List Entry:=[⟨144,[.val,.val,.val],(run_I144 N)⟩]
noncomputable def body_I262:Code:=match Tryz.f262.body with | some c=>c | none=>.skip
theorem ls_I262:loopsIn body_I262=[]:=by kernel_rfl
theorem fn_I262 (N:Nat) (x:AVals sg_I262) (kf:Ret→Option Ret):F_I262 N x kf=peFunc h_I262 (Orc.of (es_I262 N)) (noL N N) Tryz.f262 (ashape sg_I262 x) kf:=by kernel_rfl
theorem sd_I262 {Γ : Gl} (N:Nat):Sound Γ Tryz.prog 262 (run_I262 N):=fun_ok2 (hh:=h_I262) mixed tab_ok (es:=es_I262 N) ⟨sd_I144 N,trivial⟩ (fn:=Tryz.f262) (body:=body_I262) (by kernel_rfl) (by kernel_rfl) (by kernel_rfl) (by kernel_rfl) (by kernel_rfl) (Lf:=noL N) (noL0 N) ls_I262 trivial (N:=N) (by kernel_rfl) (fn_I262 N) (.inl (by kernel_rfl))
noncomputable def h_I249:Hint:={ tab,hn:=[],loops:=[],outs:=[],ords:=[] }
noncomputable def sg_I249:List AK:=[.v (.int .i64) .k,.v (.int .i64) .k]
noncomputable def F_I249 (N:Nat) (x:AVals sg_I249) (kf:Ret→Option Ret):Option Ret:=I249 N x.1 x.2.1 (fun r0=>kf ⟨[⟨(.int .i64),.k,r0⟩],[]⟩)
noncomputable def run_I249 (N:Nat):=runOf sg_I249 (F_I249 N)
noncomputable def es_I249 (N:Nat):List Entry:=[⟨262,[.val,.val],(run_I262 N)⟩]
noncomputable def body_I249:Code:=match Tryz.f249.body with | some c=>c | none=>.skip
theorem ls_I249:loopsIn body_I249=[]:=by kernel_rfl
theorem fn_I249 (N:Nat) (x:AVals sg_I249) (kf:Ret→Option Ret):F_I249 N x kf=peFunc h_I249 (Orc.of (es_I249 N)) (noL N N) Tryz.f249 (ashape sg_I249 x) kf:=by kernel_rfl
theorem sd_I249 {Γ : Gl} (N:Nat):Sound Γ Tryz.prog 249 (run_I249 N):=fun_ok2 (hh:=h_I249) mixed tab_ok (es:=es_I249 N) ⟨sd_I262 N,trivial⟩ (fn:=Tryz.f249) (body:=body_I249) (by kernel_rfl) (by kernel_rfl) (by kernel_rfl) (by kernel_rfl) (by kernel_rfl) (Lf:=noL N) (noL0 N) ls_I249 trivial (N:=N) (by kernel_rfl) (fn_I249 N) (.inl (by kernel_rfl))
noncomputable def ks_I219_l3:List Kd:=[dK,dK,dK,.v (.int .i64) .k,dK,dK,.v (.sl (.int .i64)) .k,.v (.int .i64) .k,.v (.int .i64) .k,dK,dK,dK,dK,dK,dK,dK,dK]
noncomputable def ko_I219_l3_0:List Kd:=[dK,dK,dK,.v (.int .i64) .k,dK,dK,dK,dK,dK,dK,dK,dK,dK,dK,dK,dK,dK]
noncomputable def h_I219:Hint:={ tab,hn:=[],loops:=[(3,ks_I219_l3)],outs:=[(3,2,ko_I219_l3_0)],ords:=[] }
noncomputable def sg_I219:List AK:=[.v (.sl (.int .i64)) .k]
noncomputable def F_I219 (N:Nat) (x:AVals sg_I219) (kf:Ret→Option Ret):Option Ret:=I219 N x.1 (fun r0=>kf ⟨[⟨(.int .i64),.k,r0⟩],[]⟩)
noncomputable def run_I219 (N:Nat):=runOf sg_I219 (F_I219 N)
noncomputable def es_I219 (N:Nat):List Entry:=[⟨249,[.val,.val],(run_I249 N)⟩]
noncomputable def body_I219:Code:=match Tryz.f219.body with | some c=>c | none=>.skip
noncomputable def L_I219 (N n:Nat) (key:Nat) (S:St) (K:Ks):Option Ret:=bif Nat.beq key 3 then withVals ks_I219_l3 S (fun x=>I219_l3 N x.2.1 x.2.2.1 n (fun z0=>K (.x 0) (shape ko_I219_l3_0 (z0,()))) x.1 x.2.2.2.1) else none
theorem L0_I219 (N key:Nat) (S:St) (K:Ks):L_I219 N 0 key S K=none:=(bif0 (withVals0 fun _=>rfl) rfl)
noncomputable def c_I219_0:Code:=(loopsIn body_I219).getD 0 .skip
theorem ls_I219:loopsIn body_I219=[c_I219_0]:=by kernel_rfl
theorem rd_I219_3 (N n:Nat) (x:Vals ks_I219_l3) (K:Ks):L_I219 N (n + 1) 3 (shape ks_I219_l3 x) (h_I219.onOut 3 K)=peRound h_I219 (Orc.of (es_I219 N)) (mixL (L_I219 N) N n 3) c_I219_0 (shape ks_I219_l3 x) (h_I219.onOut 3 K):=by kernel_rfl
theorem fn_I219 (N:Nat) (x:AVals sg_I219) (kf:Ret→Option Ret):F_I219 N x kf=peFunc h_I219 (Orc.of (es_I219 N)) (L_I219 N N) Tryz.f219 (ashape sg_I219 x) kf:=by kernel_rfl
theorem sd_I219 {Γ : Gl} (N:Nat):Sound Γ Tryz.prog 219 (run_I219 N):=fun_ok2 (hh:=h_I219) mixed tab_ok (es:=es_I219 N) ⟨sd_I249 N,trivial⟩ (fn:=Tryz.f219) (body:=body_I219) (by kernel_rfl) (by kernel_rfl) (by kernel_rfl) (by kernel_rfl) (by kernel_rfl) (Lf:=L_I219 N) (L0_I219 N) ls_I219 (round_cons (key:=3) (ks:=ks_I219_l3) (by kernel_rfl) (by kernel_rfl) (rd_I219_3 N) trivial) (N:=N) (by kernel_rfl) (fn_I219 N) (.inl (by kernel_rfl))
noncomputable def h_I169:Hint:={ tab,hn:=[],loops:=[],outs:=[],ords:=[] }
noncomputable def sg_I169:List AK:=[.v (.int .i64) .k,.v tQIIIIE .k]
noncomputable def F_I169 (N:Nat) (x:AVals sg_I169) (kf:Ret→Option Ret):Option Ret:=I169 N x.1 x.2.1 (fun r0=>kf ⟨[⟨(.int .i64),.k,r0⟩],[]⟩)
noncomputable def run_I169 (N:Nat):=runOf sg_I169 (F_I169 N)
noncomputable def es_I169 (N:Nat):List Entry:=[⟨219,[.val],(run_I219 N)⟩]
noncomputable def body_I169:Code:=match Tryz.f169.body with | some c=>c | none=>.skip
theorem ls_I169:loopsIn body_I169=[]:=by kernel_rfl
theorem fn_I169 (N:Nat) (x:AVals sg_I169) (kf:Ret→Option Ret):F_I169 N x kf=peFunc h_I169 (Orc.of (es_I169 N)) (noL N N) Tryz.f169 (ashape sg_I169 x) kf:=by kernel_rfl
theorem sd_I169 {Γ : Gl} (N:Nat):Sound Γ Tryz.prog 169 (run_I169 N):=fun_ok2 (hh:=h_I169) mixed tab_ok (es:=es_I169 N) ⟨sd_I219 N,trivial⟩ (fn:=Tryz.f169) (body:=body_I169) (by kernel_rfl) (by kernel_rfl) (by kernel_rfl) (by kernel_rfl) (by kernel_rfl) (Lf:=noL N) (noL0 N) ls_I169 trivial (N:=N) (by kernel_rfl) (fn_I169 N) (.inl (by kernel_rfl))
noncomputable def ks_I75_l5:List Kd:=[dK,dK,dK,.v (.int .i64) .k,dK,dK,dK,dK,dK,.v (.sl tQIIIIE) .k,.v (.int .i64) .k,.v (.int .i64) .k,dK,dK,dK,dK,dK,dK,dK,dK,dK,dK,dK,dK,dK,dK,dK,dK,dK,dK,dK,dK,dK,dK,dK,dK,dK,dK,dK,dK,dK,dK,dK,dK]
noncomputable def ko_I75_l5_0:List Kd:=[dK,dK,dK,dK,dK,dK,dK,dK,dK,dK,dK,dK,dK,dK,dK,dK,dK,dK,dK,dK,dK,dK,dK,dK,dK,dK,dK,dK,dK,dK,dK,dK,dK,dK,dK,dK,dK,dK,dK,dK,dK,dK,dK,dK]
noncomputable def ko_I75_l5_1:List Kd:=[dK,dK,.v .bool .k,dK,dK,dK,dK,dK,dK,dK,dK,dK,dK,dK,dK,dK,dK,dK,dK,dK,dK,dK,dK,dK,dK,dK,dK,dK,dK,dK,dK,dK,dK,dK,dK,dK,dK,dK,dK,dK,dK,dK,dK,dK]
noncomputable def h_I75:Hint:={ tab,hn:=[],loops:=[(5,ks_I75_l5)],outs:=[(5,2,ko_I75_l5_0),(5,1,ko_I75_l5_1)],ords:=[(7,(OT.seq [0,1,2,3,4,5,6,7,8,9,10,11,12,13,14,15,16,17,18,19,20,21,22,23,24] .done))] }
noncomputable def sg_I75:List AK:=[.v (.sl tQIIIIE) .k]
noncomputable def F_I75 (N:Nat) (x:AVals sg_I75) (kf:Ret→Option Ret):Option Ret:=I75 N x.1 (fun r0=>kf ⟨[⟨.bool,.k,r0⟩],[]⟩)
noncomputable def run_I75 (N:Nat):=runOf sg_I75 (F_I75 N)
noncomputable def es_I75 (N:Nat):List Entry:=[⟨144,[.val,.val,.val],(run_I144 N)⟩,⟨169,[.val,.val],(run_I169 N)⟩]
noncomputable def body_I75:Code:=match Tryz.f75.body with | some c=>c | none=>.skip
noncomputable def L_I75 (N n:Nat) (key:Nat) (S:St) (K:Ks):Option Ret:=bif Nat.beq key 5 then withVals ks_I75_l5 S (fun x=>I75_l5 N x.2.1 x.2.2.1 n (K (.x 0) (shape ko_I75_l5_0 ())) (fun z0=>K .r (shape ko_I75_l5_1 (z0,()))) x.1 x.2.2.2.1) else none
theorem L0_I75 (N key:Nat) (S:St) (K:Ks):L_I75 N 0 key S K=none:=(bif0 (withVals0 fun _=>rfl) rfl)
noncomputable def c_I75_0:Code:=(loopsIn body_I75).getD 0 .skip
theorem ls_I75:loopsIn body_I75=[c_I75_0]:=by kernel_rfl
theorem rd_I75_5 (N n:Nat) (x:Vals ks_I75_l5) (K:Ks):L_I75 N (n + 1) 5 (shape ks_I75_l5 x) (h_I75.onOut 5 K)=peRound h_I75 (Orc.of (es_I75 N)) (mixL (L_I75 N) N n 5) c_I75_0 (shape ks_I75_l5 x) (h_I75.onOut 5 K):=by kernel_rfl
theorem fn_I75 (N:Nat) (x:AVals sg_I75) (kf:Ret→Option Ret):F_I75 N x kf=peFunc h_I75 (Orc.of (es_I75 N)) (L_I75 N N) Tryz.f75 (ashape sg_I75 x) kf:=by kernel_rfl
theorem sd_I75 {Γ : Gl} (N:Nat):Sound Γ Tryz.prog 75 (run_I75 N):=fun_ok2 (hh:=h_I75) mixed tab_ok (es:=es_I75 N) ⟨sd_I144 N,⟨sd_I169 N,trivial⟩⟩ (fn:=Tryz.f75) (body:=body_I75) (by kernel_rfl) (by kernel_rfl) (by kernel_rfl) (by kernel_rfl) (by kernel_rfl) (Lf:=L_I75 N) (L0_I75 N) ls_I75 (round_cons (key:=5) (ks:=ks_I75_l5) (by kernel_rfl) (by kernel_rfl) (rd_I75_5 N) trivial) (N:=N) (by kernel_rfl) (fn_I75 N) (.inl (by kernel_rfl))
noncomputable def h_I16:Hint:={ tab,hn:=[],loops:=[],outs:=[],ords:=[] }
noncomputable def sg_I16:List AK:=[.v tQLQIIIIILIELQIILIELQIIELILQIIIELQIIIIEIE .k]
noncomputable def F_I16 (N:Nat) (x:AVals sg_I16) (kf:Ret→Option Ret):Option Ret:=I16 N x.1 (fun r0=>kf ⟨[⟨.bool,.k,r0⟩],[]⟩)
noncomputable def run_I16 (N:Nat):=runOf sg_I16 (F_I16 N)
noncomputable def es_I16 (N:Nat):List Entry:=[]
noncomputable def body_I16:Code:=match Tryz.f16.body with | some c=>c | none=>.skip
theorem ls_I16:loopsIn body_I16=[]:=by kernel_rfl
theorem fn_I16 (N:Nat) (x:AVals sg_I16) (kf:Ret→Option Ret):F_I16 N x kf=peFunc h_I16 (Orc.of (es_I16 N)) (noL N N) Tryz.f16 (ashape sg_I16 x) kf:=by kernel_rfl
theorem sd_I16 {Γ : Gl} (N:Nat):Sound Γ Tryz.prog 16 (run_I16 N):=fun_ok2 (hh:=h_I16) mixed tab_ok (es:=es_I16 N) trivial (fn:=Tryz.f16) (body:=body_I16) (by kernel_rfl) (by kernel_rfl) (by kernel_rfl) (by kernel_rfl) (by kernel_rfl) (Lf:=noL N) (noL0 N) ls_I16 trivial (N:=N) (by kernel_rfl) (fn_I16 N) (.inl (by kernel_rfl))
noncomputable def ks_S170_l2:List Kd:=[.v (.sl (.int .i64)) .k,.v (.int .i64) .k,dK,dK,dK,dK,dK,.v (.int .i64) .k,.v (.int .i64) .k,dK,dK,dK,dK,dK,dK,dK,dK,dK,dK]
noncomputable def ko_S170_l2_0:List Kd:=[dK,dK,dK,dK,dK,dK,dK,dK,dK,dK,dK,dK,dK,dK,dK,dK,dK,dK,dK]
noncomputable def ko_S170_l2_1:List Kd:=[dK,dK,dK,dK,.v (.int .i64) .k,dK,dK,dK,dK,dK,dK,dK,dK,dK,dK,dK,dK,dK,dK]
noncomputable def h_S170:Hint:={ tab,hn:=[],loops:=[(2,ks_S170_l2)],outs:=[(2,2,ko_S170_l2_0),(2,1,ko_S170_l2_1)],ords:=[] }
noncomputable def sg_S170:List AK:=[.v (.sl (.int .i64)) .k,.v (.int .i64) .k]
noncomputable def F_S170 (N:Nat) (x:AVals sg_S170) (kf:Ret→Option Ret):Option Ret:=S170 N x.1 x.2.1 (fun r0=>kf ⟨[⟨(.int .i64),.k,r0⟩],[]⟩)
noncomputable def run_S170 (N:Nat):=runOf sg_S170 (F_S170 N)
noncomputable def es_S170 (N:Nat):List Entry:=[]
noncomputable def body_S170:Code:=match Tryz.f170.body with | some c=>c | none=>.skip
noncomputable def L_S170 (N n:Nat) (key:Nat) (S:St) (K:Ks):Option Ret:=bif Nat.beq key 2 then withVals ks_S170_l2 S (fun x=>S170_l2 x.1 x.2.1 x.2.2.1 n (K (.x 0) (shape ko_S170_l2_0 ())) (fun z0=>K .r (shape ko_S170_l2_1 (z0,()))) x.2.2.2.1) else none
theorem L0_S170 (N key:Nat) (S:St) (K:Ks):L_S170 N 0 key S K=none:=(bif0 (withVals0 fun _=>rfl) rfl)
noncomputable def c_S170_0:Code:=(loopsIn body_S170).getD 0 .skip
theorem ls_S170:loopsIn body_S170=[c_S170_0]:=by kernel_rfl
theorem rd_S170_2 (N n:Nat) (x:Vals ks_S170_l2) (K:Ks):L_S170 N (n + 1) 2 (shape ks_S170_l2 x) (h_S170.onOut 2 K)=peRound h_S170 (Orc.of (es_S170 N)) (mixL (L_S170 N) N n 2) c_S170_0 (shape ks_S170_l2 x) (h_S170.onOut 2 K):=by kernel_rfl
theorem fn_S170 (N:Nat) (x:AVals sg_S170) (kf:Ret→Option Ret):F_S170 N x kf=peFunc h_S170 (Orc.of (es_S170 N)) (L_S170 N N) Tryz.f170 (ashape sg_S170 x) kf:=by kernel_rfl
theorem sd_S170 {Γ : Gl} (N:Nat):Sound Γ Tryz.prog 170 (run_S170 N):=fun_ok2 (hh:=h_S170) mixed tab_ok (es:=es_S170 N) trivial (fn:=Tryz.f170) (body:=body_S170) (by kernel_rfl) (by kernel_rfl) (by kernel_rfl) (by kernel_rfl) (by kernel_rfl) (Lf:=L_S170 N) (L0_S170 N) ls_S170 (round_cons (key:=2) (ks:=ks_S170_l2) (by kernel_rfl) (by kernel_rfl) (rd_S170_2 N) trivial) (N:=N) (by kernel_rfl) (fn_S170 N) (.inl (by kernel_rfl))
noncomputable def h_S82:Hint:={ tab,hn:=[],loops:=[],outs:=[],ords:=[] }
noncomputable def sg_S82:List AK:=[.v (.sl (.int .i64)) .k,.v (.int .i64) .k]
noncomputable def F_S82 (N:Nat) (x:AVals sg_S82) (kf:Ret→Option Ret):Option Ret:=S82 N x.1 x.2.1 (fun r0=>kf ⟨[⟨.bool,.k,r0⟩],[]⟩)
noncomputable def run_S82 (N:Nat):=runOf sg_S82 (F_S82 N)
noncomputable def es_S82 (N:Nat):List Entry:=[⟨170,[.val,.val],(run_S170 N)⟩]
noncomputable def body_S82:Code:=match Tryz.f82.body with | some c=>c | none=>.skip
theorem ls_S82:loopsIn body_S82=[]:=by kernel_rfl
theorem fn_S82 (N:Nat) (x:AVals sg_S82) (kf:Ret→Option Ret):F_S82 N x kf=peFunc h_S82 (Orc.of (es_S82 N)) (noL N N) Tryz.f82 (ashape sg_S82 x) kf:=by kernel_rfl
theorem sd_S82 {Γ : Gl} (N:Nat):Sound Γ Tryz.prog 82 (run_S82 N):=fun_ok2 (hh:=h_S82) mixed tab_ok (es:=es_S82 N) ⟨sd_S170 N,trivial⟩ (fn:=Tryz.f82) (body:=body_S82) (by kernel_rfl) (by kernel_rfl) (by kernel_rfl) (by kernel_rfl) (by kernel_rfl) (Lf:=noL N) (noL0 N) ls_S82 trivial (N:=N) (by kernel_rfl) (fn_S82 N) (.inl (by kernel_rfl))
noncomputable def h_I19:Hint:={ tab,hn:=[],loops:=[],outs:=[],ords:=[] }
noncomputable def sg_I19:List AK:=[.v (.sl tQIIIIILIE) .k,.v (.int .i64) .k,.v (.int .i64) .k]
noncomputable def F_I19 (N:Nat) (x:AVals sg_I19) (kf:Ret→Option Ret):Option Ret:=I19 N x.1 x.2.1 x.2.2.1 (fun r0=>kf ⟨[⟨.bool,.k,r0⟩],[]⟩)
noncomputable def run_I19 (N:Nat):=runOf sg_I19 (F_I19 N)
noncomputable def es_I19 (N:Nat):List Entry:=[⟨40,[.val,.val],(run_I40 N)⟩,⟨82,[.val,.val],(run_S82 N)⟩]
noncomputable def body_I19:Code:=match Tryz.f19.body with | some c=>c | none=>.skip
theorem ls_I19:loopsIn body_I19=[]:=by kernel_rfl
theorem fn_I19 (N:Nat) (x:AVals sg_I19) (kf:Ret→Option Ret):F_I19 N x kf=peFunc h_I19 (Orc.of (es_I19 N)) (noL N N) Tryz.f19 (ashape sg_I19 x) kf:=by kernel_rfl
theorem sd_I19 {Γ : Gl} (N:Nat):Sound Γ Tryz.prog 19 (run_I19 N):=fun_ok2 (hh:=h_I19) mixed tab_ok (es:=es_I19 N) ⟨sd_I40 N,⟨sd_S82 N,trivial⟩⟩ (fn:=Tryz.f19) (body:=body_I19) (by kernel_rfl) (by kernel_rfl) (by kernel_rfl) (by kernel_rfl) (by kernel_rfl) (Lf:=noL N) (noL0 N) ls_I19 trivial (N:=N) (by kernel_rfl) (fn_I19 N) (.inl (by kernel_rfl))
noncomputable def h_I77:Hint:={ tab,hn:=[],loops:=[],outs:=[],ords:=[(2,(OT.seq [0,1,2,3,4,5,6,7,8,9,10,11,12,13,14,15,16,17,18,19,20,21,22,23,24,25,26,27,28,29,30,31,32,33,34,35] .done))] }
noncomputable def sg_I77:List AK:=[.v (.sl tQIIIIILIE) .k,.v (.int .i64) .k,.v (.int .i64) .k]
noncomputable def F_I77 (N:Nat) (x:AVals sg_I77) (kf:Ret→Option Ret):Option Ret:=I77 N x.1 x.2.1 x.2.2.1 (fun r0=>kf ⟨[⟨.bool,.k,r0⟩],[]⟩)
noncomputable def run_I77 (N:Nat):=runOf sg_I77 (F_I77 N)
noncomputable def es_I77 (N:Nat):List Entry:=[⟨40,[.val,.val],(run_I40 N)⟩,⟨143,[.val],(run_I143 N)⟩,⟨19,[.val,.val,.val],(run_I19 N)⟩]
noncomputable def body_I77:Code:=match Tryz.f77.body with | some c=>c | none=>.skip
theorem ls_I77:loopsIn body_I77=[]:=by kernel_rfl
theorem fn_I77 (N:Nat) (x:AVals sg_I77) (kf:Ret→Option Ret):F_I77 N x kf=peFunc h_I77 (Orc.of (es_I77 N)) (noL N N) Tryz.f77 (ashape sg_I77 x) kf:=by kernel_rfl
theorem sd_I77 {Γ : Gl} (N:Nat):Sound Γ Tryz.prog 77 (run_I77 N):=fun_ok2 (hh:=h_I77) mixed tab_ok (es:=es_I77 N) ⟨sd_I40 N,⟨sd_I143 N,⟨sd_I19 N,trivial⟩⟩⟩ (fn:=Tryz.f77) (body:=body_I77) (by kernel_rfl) (by kernel_rfl) (by kernel_rfl) (by kernel_rfl) (by kernel_rfl) (Lf:=noL N) (noL0 N) ls_I77 trivial (N:=N) (by kernel_rfl) (fn_I77 N) (.inl (by kernel_rfl))
noncomputable def ks_I17_l3:List Kd:=[.v (.sl tQIIIIILIE) .k,dK,dK,dK,dK,.v (.sl (.int .i64)) (.o 3 none .k),dK,dK,dK,dK,dK,.v (.sl tQIIE) .k,.v (.int .i64) .k,.v (.int .i64) .k,dK,dK,dK,dK,dK,dK,dK,dK,dK,dK,dK,dK,dK,dK,dK,dK,dK,dK,dK,dK,dK,dK,dK,dK,dK,dK,dK,dK,dK,dK]
noncomputable def ko_I17_l3_0:List Kd:=[.v (.sl tQIIIIILIE) .k,dK,dK,dK,dK,.v (.sl (.int .i64)) (.o 3 none .k),dK,dK,dK,dK,dK,dK,dK,dK,dK,dK,dK,dK,dK,dK,dK,dK,dK,dK,dK,dK,dK,dK,dK,dK,dK,dK,dK,dK,dK,dK,dK,dK,dK,dK,dK,dK,dK,dK]
noncomputable def ko_I17_l3_1:List Kd:=[dK,dK,dK,dK,.v .bool .k,dK,dK,dK,dK,dK,dK,dK,dK,dK,dK,dK,dK,dK,dK,dK,dK,dK,dK,dK,dK,dK,dK,dK,dK,dK,dK,dK,dK,dK,dK,dK,dK,dK,dK,dK,dK,dK,dK,dK]
noncomputable def ks_I17_l10:List Kd:=[dK,dK,dK,dK,dK,.v (.sl (.int .i64)) (.o 3 none .k),dK,dK,dK,dK,dK,dK,dK,dK,dK,dK,dK,dK,dK,dK,dK,dK,dK,dK,dK,dK,dK,dK,dK,dK,dK,dK,.v (.sl tQIIIIILIE) .k,.v (.int .i64) .k,.v (.int .i64) .k,dK,dK,dK,dK,dK,dK,dK,dK,dK]
noncomputable def ko_I17_l10_0:List Kd:=[dK,dK,dK,dK,dK,dK,dK,dK,dK,dK,dK,dK,dK,dK,dK,dK,dK,dK,dK,dK,dK,dK,dK,dK,dK,dK,dK,dK,dK,dK,dK,dK,dK,dK,dK,dK,dK,dK,dK,dK,dK,dK,dK,dK]
noncomputable def ko_I17_l10_1:List Kd:=[dK,dK,dK,dK,.v .bool .k,dK,dK,dK,dK,dK,dK,dK,dK,dK,dK,dK,dK,dK,dK,dK,dK,dK,dK,dK,dK,dK,dK,dK,dK,dK,dK,dK,dK,dK,dK,dK,dK,dK,dK,dK,dK,dK,dK,dK]
noncomputable def h_I17:Hint:={ tab,hn:=[],loops:=[(3,ks_I17_l3),(10,ks_I17_l10)],outs:=[(3,2,ko_I17_l3_0),(3,1,ko_I17_l3_1),(10,4,ko_I17_l10_0),(10,1,ko_I17_l10_1)],ords:=[] }
noncomputable def sg_I17:List AK:=[.v (.sl tQIIIIILIE) .k,.v (.sl tQIIE) .k]
noncomputable def F_I17 (N:Nat) (x:AVals sg_I17) (kf:Ret→Option Ret):Option Ret:=I17 N x.1 x.2.1 (fun r0=>kf ⟨[⟨.bool,.k,r0⟩],[]⟩)
noncomputable def run_I17 (N:Nat):=runOf sg_I17 (F_I17 N)
noncomputable def es_I17 (N:Nat):List Entry:=[⟨77,[.val,.val,.val],(run_I77 N)⟩,⟨78,[.val,.val],(run_I78 N)⟩]
noncomputable def body_I17:Code:=match Tryz.f17.body with | some c=>c | none=>.skip
noncomputable def L_I17 (N n:Nat) (key:Nat) (S:St) (K:Ks):Option Ret:=bif Nat.beq key 3 then withVals ks_I17_l3 S (fun x=>I17_l3 N x.1 x.2.2.1 x.2.2.2.1 n (fun z0=>K (.x 0) (shape ko_I17_l3_0 (x.1,z0,()))) (fun z0=>K .r (shape ko_I17_l3_1 (z0,()))) x.2.1 x.2.2.2.2.1) else bif Nat.beq key 10 then withVals ks_I17_l10 S (fun x=>I17_l10 N x.1 x.2.1 x.2.2.1 n (K (.x 2) (shape ko_I17_l10_0 ())) (fun z0=>K .r (shape ko_I17_l10_1 (z0,()))) x.2.2.2.1) else none
theorem L0_I17 (N key:Nat) (S:St) (K:Ks):L_I17 N 0 key S K=none:=(bif0 (withVals0 fun _=>rfl) (bif0 (withVals0 fun _=>rfl) rfl))
noncomputable def c_I17_0:Code:=(loopsIn body_I17).getD 0 .skip
noncomputable def c_I17_1:Code:=(loopsIn body_I17).getD 1 .skip
theorem ls_I17:loopsIn body_I17=[c_I17_0,c_I17_1]:=by kernel_rfl
theorem rd_I17_10 (N n:Nat) (x:Vals ks_I17_l10) (K:Ks):L_I17 N (n + 1) 10 (shape ks_I17_l10 x) (h_I17.onOut 10 K)=peRound h_I17 (Orc.of (es_I17 N)) (mixL (L_I17 N) N n 10) c_I17_1 (shape ks_I17_l10 x) (h_I17.onOut 10 K):=by kernel_rfl
theorem rd_I17_3 (N n:Nat) (x:Vals ks_I17_l3) (K:Ks):L_I17 N (n + 1) 3 (shape ks_I17_l3 x) (h_I17.onOut 3 K)=peRound h_I17 (Orc.of (es_I17 N)) (mixL (L_I17 N) N n 3) c_I17_0 (shape ks_I17_l3 x) (h_I17.onOut 3 K):=by kernel_rfl
theorem fn_I17 (N:Nat) (x:AVals sg_I17) (kf:Ret→Option Ret):F_I17 N x kf=peFunc h_I17 (Orc.of (es_I17 N)) (L_I17 N N) Tryz.f17 (ashape sg_I17 x) kf:=by kernel_rfl
theorem sd_I17 {Γ : Gl} (N:Nat):Sound Γ Tryz.prog 17 (run_I17 N):=fun_ok2 (hh:=h_I17) mixed tab_ok (es:=es_I17 N) ⟨sd_I77 N,⟨sd_I78 N,trivial⟩⟩ (fn:=Tryz.f17) (body:=body_I17) (by kernel_rfl) (by kernel_rfl) (by kernel_rfl) (by kernel_rfl) (by kernel_rfl) (Lf:=L_I17 N) (L0_I17 N) ls_I17 (round_cons (key:=3) (ks:=ks_I17_l3) (by kernel_rfl) (by kernel_rfl) (rd_I17_3 N) (round_cons (key:=10) (ks:=ks_I17_l10) (by kernel_rfl) (by kernel_rfl) (rd_I17_10 N) trivial)) (N:=N) (by kernel_rfl) (fn_I17 N) (.inl (by kernel_rfl))
noncomputable def h_I81:Hint:={ tab,hn:=[],loops:=[],outs:=[],ords:=[] }
noncomputable def sg_I81:List AK:=[.v tQIILIE .k,.v (.ptr (.int .i64)) .k]
noncomputable def F_I81 (N:Nat) (x:AVals sg_I81) (kf:Ret→Option Ret):Option Ret:=I81 N x.1 x.2.1 (fun r0=>kf ⟨[⟨.bool,.k,r0⟩],[]⟩)
noncomputable def run_I81 (N:Nat):=runOf sg_I81 (F_I81 N)
noncomputable def es_I81 (N:Nat):List Entry:=[]
noncomputable def body_I81:Code:=match Tryz.f81.body with | some c=>c | none=>.skip
theorem ls_I81:loopsIn body_I81=[]:=by kernel_rfl
theorem fn_I81 (N:Nat) (x:AVals sg_I81) (kf:Ret→Option Ret):F_I81 N x kf=peFunc h_I81 (Orc.of (es_I81 N)) (noL N N) Tryz.f81 (ashape sg_I81 x) kf:=by kernel_rfl
theorem sd_I81 {Γ : Gl} (N:Nat):Sound Γ Tryz.prog 81 (run_I81 N):=fun_ok2 (hh:=h_I81) mixed tab_ok (es:=es_I81 N) trivial (fn:=Tryz.f81) (body:=body_I81) (by kernel_rfl) (by kernel_rfl) (by kernel_rfl) (by kernel_rfl) (by kernel_rfl) (Lf:=noL N) (noL0 N) ls_I81 trivial (N:=N) (by kernel_rfl) (fn_I81 N) (.inl (by kernel_rfl))
noncomputable def ks_S80_l2:List Kd:=[.v (.sl tQIILIE) .k,.clo 81 [.kv (.ptr (.int .i64))],dK,dK,dK,dK,dK,.v (.int .i64) .k,.v (.int .i64) .k,dK,dK,dK,dK,dK,dK,dK,dK,dK,dK]
noncomputable def ko_S80_l2_0:List Kd:=[dK,dK,dK,dK,dK,dK,dK,dK,dK,dK,dK,dK,dK,dK,dK,dK,dK,dK,dK]
noncomputable def ko_S80_l2_1:List Kd:=[dK,dK,dK,dK,.v (.int .i64) .k,dK,dK,dK,dK,dK,dK,dK,dK,dK,dK,dK,dK,dK,dK]
noncomputable def h_S80:Hint:={ tab,hn:=[],loops:=[(2,ks_S80_l2)],outs:=[(2,2,ko_S80_l2_0),(2,1,ko_S80_l2_1)],ords:=[] }
noncomputable def sg_S80:List AK:=[.v (.sl tQIILIE) .k,.fn 81 [(.ptr (.int .i64))]]
noncomputable def F_S80 (N:Nat) (x:AVals sg_S80) (kf:Ret→Option Ret):Option Ret:=S80 N x.1 x.2.1.1 (fun r0=>kf ⟨[⟨(.int .i64),.k,r0⟩],[]⟩)
noncomputable def run_S80 (N:Nat):=runOf sg_S80 (F_S80 N)
noncomputable def es_S80 (N:Nat):List Entry:=[⟨81,[.val],(run_I81 N)⟩]
noncomputable def body_S80:Code:=match Tryz.f80.body with | some c=>c | none=>.skip
noncomputable def L_S80 (N n:Nat) (key:Nat) (S:St) (K:Ks):Option Ret:=bif Nat.beq key 2 then withVals ks_S80_l2 S (fun x=>S80_l2 N x.1 x.2.1.1 x.2.2.1 n (K (.x 0) (shape ko_S80_l2_0 ())) (fun z0=>K .r (shape ko_S80_l2_1 (z0,()))) x.2.2.2.1) else none
theorem L0_S80 (N key:Nat) (S:St) (K:Ks):L_S80 N 0 key S K=none:=(bif0 (withVals0 fun _=>rfl) rfl)
noncomputable def c_S80_0:Code:=(loopsIn body_S80).getD 0 .skip
theorem ls_S80:loopsIn body_S80=[c_S80_0]:=by kernel_rfl
theorem rd_S80_2 (N n:Nat) (x:Vals ks_S80_l2) (K:Ks):L_S80 N (n + 1) 2 (shape ks_S80_l2 x) (h_S80.onOut 2 K)=peRound h_S80 (Orc.of (es_S80 N)) (mixL (L_S80 N) N n 2) c_S80_0 (shape ks_S80_l2 x) (h_S80.onOut 2 K):=by kernel_rfl
theorem fn_S80 (N:Nat) (x:AVals sg_S80) (kf:Ret→Option Ret):F_S80 N x kf=peFunc h_S80 (Orc.of (es_S80 N)) (L_S80 N N) Tryz.f80 (ashape sg_S80 x) kf:=by kernel_rfl
theorem sd_S80 {Γ : Gl} (N:Nat):Sound Γ Tryz.prog 80 (run_S80 N):=fun_ok2 (hh:=h_S80) mixed tab_ok (es:=es_S80 N) ⟨sd_I81 N,trivial⟩ (fn:=Tryz.f80) (body:=body_S80) (by kernel_rfl) (by kernel_rfl) (by kernel_rfl) (by kernel_rfl) (by kernel_rfl) (Lf:=L_S80 N) (L0_S80 N) ls_S80 (round_cons (key:=2) (ks:=ks_S80_l2) (by kernel_rfl) (by kernel_rfl) (rd_S80_2 N) trivial) (N:=N) (by kernel_rfl) (fn_S80 N) (.inl (by kernel_rfl))
noncomputable def ks_I83_l2:List Kd:=[.v (.sl tQIIIIILIE) .k,dK,dK,dK,.v (.ptr tQIILIE) (.o 80 none .k),dK,dK,dK,dK,dK,dK,dK,dK,dK,.v (.sl (.int .i64)) (.o 3 none .k),.v (.int .i64) .k,.v (.int .i64) .k,dK,dK,dK,dK,dK,dK,dK,dK,dK,dK,dK,dK,dK,dK,dK,dK,dK,dK,dK,dK,dK,dK,dK,dK,dK]
noncomputable def ko_I83_l2_0:List Kd:=[dK,dK,dK,dK,dK,dK,dK,dK,dK,dK,dK,dK,dK,dK,dK,dK,dK,dK,dK,dK,dK,dK,dK,dK,dK,dK,dK,dK,dK,dK,dK,dK,dK,dK,dK,dK,dK,dK,dK,dK,dK,dK]
noncomputable def ko_I83_l2_1:List Kd:=[dK,dK,dK,dK,dK,dK,.v .bool .k,dK,dK,dK,dK,dK,dK,dK,dK,dK,dK,dK,dK,dK,dK,dK,dK,dK,dK,dK,dK,dK,dK,dK,dK,dK,dK,dK,dK,dK,dK,dK,dK,dK,dK,dK]
noncomputable def h_I83:Hint:={ tab,hn:=[],loops:=[(2,ks_I83_l2)],outs:=[(2,2,ko_I83_l2_0),(2,1,ko_I83_l2_1)],ords:=[(5,(OT.seq [0,1,2,3,4,5,6,7,8,9,10,11,12,13,14,15,16,17] .done))] }
noncomputable def sg_I83:List AK:=[.v (.sl tQIIIIILIE) .k,.v tQIILIE .k,.v tQIIE .k]
noncomputable def F_I83 (N:Nat) (x:AVals sg_I83) (kf:Ret→Option Ret):Option Ret:=I83 N x.1 x.2.1 x.2.2.1 (fun r0=>kf ⟨[⟨.bool,.k,r0⟩],[]⟩)
noncomputable def run_I83 (N:Nat):=runOf sg_I83 (F_I83 N)
noncomputable def es_I83 (N:Nat):List Entry:=[⟨40,[.val,.val],(run_I40 N)⟩,⟨82,[.val,.val],(run_S82 N)⟩]
noncomputable def body_I83:Code:=match Tryz.f83.body with | some c=>c | none=>.skip
noncomputable def L_I83 (N n:Nat) (key:Nat) (S:St) (K:Ks):Option Ret:=bif Nat.beq key 2 then withVals ks_I83_l2 S (fun x=>I83_l2 N x.1 x.2.1 x.2.2.1 x.2.2.2.1 n (K (.x 0) (shape ko_I83_l2_0 ())) (fun z0=>K .r (shape ko_I83_l2_1 (z0,()))) x.2.2.2.2.1) else none
theorem L0_I83 (N key:Nat) (S:St) (K:Ks):L_I83 N 0 key S K=none:=(bif0 (withVals0 fun _=>rfl) rfl)
noncomputable def c_I83_0:Code:=(loopsIn body_I83).getD 0 .skip
theorem ls_I83:loopsIn body_I83=[c_I83_0]:=by kernel_rfl
theorem rd_I83_2 (N n:Nat) (x:Vals ks_I83_l2) (K:Ks):L_I83 N (n + 1) 2 (shape ks_I83_l2 x) (h_I83.onOut 2 K)=peRound h_I83 (Orc.of (es_I83 N)) (mixL (L_I83 N) N n 2) c_I83_0 (shape ks_I83_l2 x) (h_I83.onOut 2 K):=by kernel_rfl
theorem fn_I83 (N:Nat) (x:AVals sg_I83) (kf:Ret→Option Ret):F_I83 N x kf=peFunc h_I83 (Orc.of (es_I83 N)) (L_I83 N N) Tryz.f83 (ashape sg_I83 x) kf:=by kernel_rfl
theorem sd_I83 {Γ : Gl} (N:Nat):Sound Γ Tryz.prog 83 (run_I83 N):=fun_ok2 (hh:=h_I83) mixed tab_ok (es:=es_I83 N) ⟨sd_I40 N,⟨sd_S82 N,trivial⟩⟩ (fn:=Tryz.f83) (body:=body_I83) (by kernel_rfl) (by kernel_rfl) (by kernel_rfl) (by kernel_rfl) (by kernel_rfl) (Lf:=L_I83 N) (L0_I83 N) ls_I83 (round_cons (key:=2) (ks:=ks_I83_l2) (by kernel_rfl) (by kernel_rfl) (rd_I83_2 N) trivial) (N:=N) (by kernel_rfl) (fn_I83 N) (.inl (by kernel_rfl))
noncomputable def ks_I18_l4:List Kd:=[.v (.sl tQIIIIILIE) .k,.v (.sl tQIILIE) .k,.v (.sl tQIIE) .k,.v (.sl (.int .i64)) .k,dK,dK,dK,dK,dK,dK,dK,dK,dK,dK,dK,dK,dK,dK,dK,dK,dK,dK,.v (.sl (.int .i64)) .k,.v (.int .i64) .k,.v (.int .i64) .k,dK,dK,dK,dK,dK,dK,dK,dK,dK,dK,dK,dK,dK,dK,dK,dK,dK,dK,dK,dK,dK,dK,dK,dK,dK,dK,dK,dK,dK,dK]
noncomputable def ko_I18_l4_0:List Kd:=[dK,dK,dK,dK,dK,dK,dK,dK,dK,dK,dK,dK,dK,dK,dK,dK,dK,dK,dK,dK,dK,dK,dK,dK,dK,dK,dK,dK,dK,dK,dK,dK,dK,dK,dK,dK,dK,dK,dK,dK,dK,dK,dK,dK,dK,dK,dK,dK,dK,dK,dK,dK,dK,dK,dK]
noncomputable def ko_I18_l4_1:List Kd:=[dK,dK,dK,dK,dK,dK,dK,dK,.v .bool .k,dK,dK,dK,dK,dK,dK,dK,dK,dK,dK,dK,dK,dK,dK,dK,dK,dK,dK,dK,dK,dK,dK,dK,dK,dK,dK,dK,dK,dK,dK,dK,dK,dK,dK,dK,dK,dK,dK,dK,dK,dK,dK,dK,dK,dK,dK]
noncomputable def h_I18:Hint:={ tab,hn:=[],loops:=[(4,ks_I18_l4)],outs:=[(4,2,ko_I18_l4_0),(4,1,ko_I18_l4_1)],ords:=[(7,(OT.seq [0,1,2,3,4,5,6,7,8,9,10,11,12,13,14,15,16,17,18,19,20,21] .done))] }
noncomputable def sg_I18:List AK:=[.v (.sl tQIIIIILIE) .k,.v (.sl tQIILIE) .k,.v (.sl tQIIE) .k,.v (.sl (.int .i64)) .k]
noncomputable def F_I18 (N:Nat) (x:AVals sg_I18) (kf:Ret→Option Ret):Option Ret:=I18 N x.1 x.2.1 x.2.2.1 x.2.2.2.1 (fun r0=>kf ⟨[⟨.bool,.k,r0⟩],[]⟩)
noncomputable def run_I18 (N:Nat):=runOf sg_I18 (F_I18 N)
noncomputable def es_I18 (N:Nat):List Entry:=[⟨79,[.val],(run_I79 N)⟩,⟨80,[.val,.val],(run_S80 N)⟩,⟨82,[.val,.val],(run_S82 N)⟩,⟨83,[.val,.val,.val],(run_I83 N)⟩]
noncomputable def body_I18:Code:=match Tryz.f18.body with | some c=>c | none=>.skip
noncomputable def L_I18 (N n:Nat) (key:Nat) (S:St) (K:Ks):Option Ret:=bif Nat.beq key 4 then withVals ks_I18_l4 S (fun x=>I18_l4 N x.1 x.2.1 x.2.2.1 x.2.2.2.1 x.2.2.2.2.1 x.2.2.2.2.2.1 n (K (.x 0) (shape ko_I18_l4_0 ())) (fun z0=>K .r (shape ko_I18_l4_1 (z0,()))) x.2.2.2.2.2.2.1) else none
theorem L0_I18 (N key:Nat) (S:St) (K:Ks):L_I18 N 0 key S K=none:=(bif0 (withVals0 fun _=>rfl) rfl)
noncomputable def c_I18_0:Code:=(loopsIn body_I18).getD 0 .skip
theorem ls_I18:loopsIn body_I18=[c_I18_0]:=by kernel_rfl
theorem rd_I18_4 (N n:Nat) (x:Vals ks_I18_l4) (K:Ks):L_I18 N (n + 1) 4 (shape ks_I18_l4 x) (h_I18.onOut 4 K)=peRound h_I18 (Orc.of (es_I18 N)) (mixL (L_I18 N) N n 4) c_I18_0 (shape ks_I18_l4 x) (h_I18.onOut 4 K):=by kernel_rfl
theorem fn_I18 (N:Nat) (x:AVals sg_I18) (kf:Ret→Option Ret):F_I18 N x kf=peFunc h_I18 (Orc.of (es_I18 N)) (L_I18 N N) Tryz.f18 (ashape sg_I18 x) kf:=by kernel_rfl
theorem sd_I18 {Γ : Gl} (N:Nat):Sound Γ Tryz.prog 18 (run_I18 N):=fun_ok2 (hh:=h_I18) mixed tab_ok (es:=es_I18 N) ⟨sd_I79 N,⟨sd_S80 N,⟨sd_S82 N,⟨sd_I83 N,trivial⟩⟩⟩⟩ (fn:=Tryz.f18) (body:=body_I18) (by kernel_rfl) (by kernel_rfl) (by kernel_rfl) (by kernel_rfl) (by kernel_rfl) (Lf:=L_I18 N) (L0_I18 N) ls_I18 (round_cons (key:=4) (ks:=ks_I18_l4) (by kernel_rfl) (by kernel_rfl) (rd_I18_4 N) trivial) (N:=N) (by kernel_rfl) (fn_I18 N) (.inl (by kernel_rfl))
noncomputable def h_I138:Hint:={ tab,hn:=[],loops:=[],outs:=[],ords:=[] }
noncomputable def sg_I138:List AK:=[.v tQIIIE .k]
noncomputable def F_I138 (N:Nat) (x:AVals sg_I138) (kf:Ret→Option Ret):Option Ret:=I138 N x.1 (fun r0=>kf ⟨[⟨.bool,.k,r0⟩],[]⟩)
noncomputable def run_I138 (N:Nat):=runOf sg_I138 (F_I138 N)
noncomputable def es_I138 (N:Nat):List Entry:=[⟨144,[.val,.val,.val],(run_I144 N)⟩]
noncomputable def body_I138:Code:=match Tryz.f138.body with | some c=>c | none=>.skip
theorem ls_I138:loopsIn body_I138=[]:=by kernel_rfl
theorem fn_I138 (N:Nat) (x:AVals sg_I138) (kf:Ret→Option Ret):F_I138 N x kf=peFunc h_I138 (Orc.of (es_I138 N)) (noL N N) Tryz.f138 (ashape sg_I138 x) kf:=by kernel_rfl
theorem sd_I138 {Γ : Gl} (N:Nat):Sound Γ Tryz.prog 138 (run_I138 N):=fun_ok2 (hh:=h_I138) mixed tab_ok (es:=es_I138 N) ⟨sd_I144 N,trivial⟩ (fn:=Tryz.f138) (body:=body_I138) (by kernel_rfl) (by kernel_rfl) (by kernel_rfl) (by kernel_rfl) (by kernel_rfl) (Lf:=noL N) (noL0 N) ls_I138 trivial (N:=N) (by kernel_rfl) (fn_I138 N) (.inl (by kernel_rfl))
noncomputable def ks_I145_l5:List Kd:=[dK,dK,dK,.v (.int .i64) .k,dK,dK,dK,dK,dK,dK,.v (.sl tQIIIIILIE) .k,.v (.int .i64) .k,.v (.int .i64) .k,dK,dK,dK,dK,dK,dK,dK,dK,dK]
noncomputable def ko_I145_l5_0:List Kd:=[dK,dK,dK,.v (.int .i64) .k,dK,dK,dK,dK,dK,dK,dK,dK,dK,dK,dK,dK,dK,dK,dK,dK,dK,dK]
noncomputable def h_I145:Hint:={ tab,hn:=[],loops:=[(5,ks_I145_l5)],outs:=[(5,2,ko_I145_l5_0)],ords:=[] }
noncomputable def sg_I145:List AK:=[.v (.sl tQIIIIILIE) .k]
noncomputable def F_I145 (N:Nat) (x:AVals sg_I145) (kf:Ret→Option Ret):Option Ret:=I145 N x.1 (fun r0=>kf ⟨[⟨(.int .i64),.k,r0⟩],[]⟩)
noncomputable def run_I145 (N:Nat):=runOf sg_I145 (F_I145 N)
noncomputable def es_I145 (N:Nat):List Entry:=[⟨143,[.val],(run_I143 N)⟩]
noncomputable def body_I145:Code:=match Tryz.f145.body with | some c=>c | none=>.skip
noncomputable def L_I145 (N n:Nat) (key:Nat) (S:St) (K:Ks):Option Ret:=bif Nat.beq key 5 then withVals ks_I145_l5 S (fun x=>I145_l5 x.2.1 x.2.2.1 n (fun z0=>K (.x 0) (shape ko_I145_l5_0 (z0,()))) x.1 x.2.2.2.1) else none
theorem L0_I145 (N key:Nat) (S:St) (K:Ks):L_I145 N 0 key S K=none:=(bif0 (withVals0 fun _=>rfl) rfl)
noncomputable def c_I145_0:Code:=(loopsIn body_I145).getD 0 .skip
theorem ls_I145:loopsIn body_I145=[c_I145_0]:=by kernel_rfl
theorem rd_I145_5 (N n:Nat) (x:Vals ks_I145_l5) (K:Ks):L_I145 N (n + 1) 5 (shape ks_I145_l5 x) (h_I145.onOut 5 K)=peRound h_I145 (Orc.of (es_I145 N)) (mixL (L_I145 N) N n 5) c_I145_0 (shape ks_I145_l5 x) (h_I145.onOut 5 K):=by kernel_rfl
theorem fn_I145 (N:Nat) (x:AVals sg_I145) (kf:Ret→Option Ret):F_I145 N x kf=peFunc h_I145 (Orc.of (es_I145 N)) (L_I145 N N) Tryz.f145 (ashape sg_I145 x) kf:=by kernel_rfl
theorem sd_I145 {Γ : Gl} (N:Nat):Sound Γ Tryz.prog 145 (run_I145 N):=fun_ok2 (hh:=h_I145) mixed tab_ok (es:=es_I145 N) ⟨sd_I143 N,trivial⟩ (fn:=Tryz.f145) (body:=body_I145) (by kernel_rfl) (by kernel_rfl) (by kernel_rfl) (by kernel_rfl) (by kernel_rfl) (Lf:=L_I145 N) (L0_I145 N) ls_I145 (round_cons (key:=5) (ks:=ks_I145_l5) (by kernel_rfl) (by kernel_rfl) (rd_I145_5 N) trivial) (N:=N) (by kernel_rfl) (fn_I145 N) (.inl (by kernel_rfl))
end Go.Pv.R
