/- Each function of the program that the law reaches computes its plain function, part 2. -/
import Derived.Test.YtcpakhaogbempaaGreatSnd1
import Derived.Test.YtcpakhaogbempaaGreatProg
namespace Go.Pv.R
open Go.Proofs
set_option linter.unusedVariables false
set_option maxRecDepth 100000
noncomputable def ks_I71_l5:List Kd:=[dK,dK,dK,dK,.v (.ptr tQIIIIILIE) (.o 46 none .k),dK,dK,dK,.v (.sl tQIIIIILIE) .k,.v (.int .i64) .k,.v (.int .i64) .k,dK,dK,dK,dK,.v (.sl (.int .i64)) .k,.v (.int .i64) .k,.v (.int .i64) .k,dK,dK,dK,dK,dK,dK,dK,dK,dK,dK]
noncomputable def ko_I71_l5_0:List Kd:=[dK,dK,dK,dK,dK,dK,dK,dK,.v (.sl tQIIIIILIE) .k,.v (.int .i64) .k,.v (.int .i64) .k,dK,dK,dK,dK,dK,dK,dK,dK,dK,dK,dK,dK,dK,dK,dK,dK,dK]
noncomputable def ko_I71_l5_1:List Kd:=[dK,dK,.v .bool .k,dK,dK,dK,dK,dK,dK,dK,dK,dK,dK,dK,dK,dK,dK,dK,dK,dK,dK,dK,dK,dK,dK,dK,dK,dK]
noncomputable def ks_I71_l2:List Kd:=[dK,dK,dK,dK,dK,dK,dK,dK,.v (.sl tQIIIIILIE) .k,.v (.int .i64) .k,.v (.int .i64) .k,dK,dK,dK,dK,dK,dK,dK,dK,dK,dK,dK,dK,dK,dK,dK,dK,dK]
noncomputable def ko_I71_l2_0:List Kd:=[dK,dK,dK,dK,dK,dK,dK,dK,dK,dK,dK,dK,dK,dK,dK,dK,dK,dK,dK,dK,dK,dK,dK,dK,dK,dK,dK,dK]
noncomputable def ko_I71_l2_1:List Kd:=[dK,dK,.v .bool .k,dK,dK,dK,dK,dK,dK,dK,dK,dK,dK,dK,dK,dK,dK,dK,dK,dK,dK,dK,dK,dK,dK,dK,dK,dK]
noncomputable def h_I71:Hint:={ tab,hn:=[],loops:=[(5,ks_I71_l5),(2,ks_I71_l2)],outs:=[(5,4,ko_I71_l5_0),(5,1,ko_I71_l5_1),(2,2,ko_I71_l2_0),(2,1,ko_I71_l2_1)],ords:=[] }
noncomputable def sg_I71:List AK:=[.v tQLQIIIIILIELQIILIELQIIELILQIIIELQIIIIEIE .k]
noncomputable def F_I71 (N:Nat) (x:AVals sg_I71) (kf:Ret→Option Ret):Option Ret:=I71 N x.1 (fun r0=>kf ⟨[⟨.bool,.k,r0⟩],[]⟩)
noncomputable def run_I71 (N:Nat):=runOf sg_I71 (F_I71 N)
noncomputable def es_I71 (N:Nat):List Entry:=[⟨78,[.val,.val],(run_I78 N)⟩]
noncomputable def body_I71:Code:=match Tryz.f71.body with | some c=>c | none=>.skip
noncomputable def L_I71 (N n:Nat) (key:Nat) (S:St) (K:Ks):Option Ret:=bif Nat.beq key 2 then withVals ks_I71_l2 S (fun x=>I71_l2 N x.1 x.2.1 n (K (.x 0) (shape ko_I71_l2_0 ())) (fun z0=>K .r (shape ko_I71_l2_1 (z0,()))) x.2.2.1) else bif Nat.beq key 5 then withVals ks_I71_l5 S (fun x=>I71_l5 N x.1 x.2.1 x.2.2.1 x.2.2.2.1 x.2.2.2.2.1 x.2.2.2.2.2.1 n (K (.x 2) (shape ko_I71_l5_0 (x.2.1,x.2.2.1,x.2.2.2.1,()))) (fun z0=>K .r (shape ko_I71_l5_1 (z0,()))) x.2.2.2.2.2.2.1) else none
theorem L0_I71 (N key:Nat) (S:St) (K:Ks):L_I71 N 0 key S K=none:=(bif0 (withVals0 fun _=>rfl) (bif0 (withVals0 fun _=>rfl) rfl))
noncomputable def c_I71_0:Code:=(loopsIn body_I71).getD 0 .skip
noncomputable def c_I71_1:Code:=(loopsIn body_I71).getD 1 .skip
theorem ls_I71:loopsIn body_I71=[c_I71_0,c_I71_1]:=by kernel_rfl
theorem rd_I71_5 (N n:Nat) (x:Vals ks_I71_l5) (K:Ks):L_I71 N (n + 1) 5 (shape ks_I71_l5 x) (h_I71.onOut 5 K)=peRound h_I71 (Orc.of (es_I71 N)) (mixL (L_I71 N) N n 5) c_I71_1 (shape ks_I71_l5 x) (h_I71.onOut 5 K):=by kernel_rfl
theorem rd_I71_2 (N n:Nat) (x:Vals ks_I71_l2) (K:Ks):L_I71 N (n + 1) 2 (shape ks_I71_l2 x) (h_I71.onOut 2 K)=peRound h_I71 (Orc.of (es_I71 N)) (mixL (L_I71 N) N n 2) c_I71_0 (shape ks_I71_l2 x) (h_I71.onOut 2 K):=by kernel_rfl
theorem fn_I71 (N:Nat) (x:AVals sg_I71) (kf:Ret→Option Ret):F_I71 N x kf=peFunc h_I71 (Orc.of (es_I71 N)) (L_I71 N N) Tryz.f71 (ashape sg_I71 x) kf:=by kernel_rfl
theorem sd_I71 {Γ : Gl} (N:Nat):Sound Γ Tryz.prog 71 (run_I71 N):=fun_ok2 (hh:=h_I71) mixed tab_ok (es:=es_I71 N) ⟨sd_I78 N,trivial⟩ (fn:=Tryz.f71) (body:=body_I71) (by kernel_rfl) (by kernel_rfl) (by kernel_rfl) (by kernel_rfl) (by kernel_rfl) (Lf:=L_I71 N) (L0_I71 N) ls_I71 (round_cons (key:=2) (ks:=ks_I71_l2) (by kernel_rfl) (by kernel_rfl) (rd_I71_2 N) (round_cons (key:=5) (ks:=ks_I71_l5) (by kernel_rfl) (by kernel_rfl) (rd_I71_5 N) trivial)) (N:=N) (by kernel_rfl) (fn_I71 N) (.inl (by kernel_rfl))
noncomputable def ks_I72_l2:List Kd:=[dK,.v (.ptr tQLQIIIIILIELQIILIELQIIELILQIIIELQIIIIEIE) (.o 31 none .k),dK,dK,dK,dK,dK,.v (.sl tQIIE) .k,.v (.int .i64) .k,.v (.int .i64) .k,dK,dK,dK,dK,dK,dK,dK,dK,dK,dK,dK,dK,dK,dK,dK,dK,dK,dK,dK,dK,dK,dK,dK,dK,dK,dK,dK,dK,dK,dK,dK,dK]
noncomputable def ko_I72_l2_0:List Kd:=[dK,dK,dK,dK,dK,dK,dK,dK,dK,dK,dK,dK,dK,dK,dK,dK,dK,dK,dK,dK,dK,dK,dK,dK,dK,dK,dK,dK,dK,dK,dK,dK,dK,dK,dK,dK,dK,dK,dK,dK,dK,dK]
noncomputable def ko_I72_l2_1:List Kd:=[dK,dK,.v .bool .k,dK,dK,dK,dK,dK,dK,dK,dK,dK,dK,dK,dK,dK,dK,dK,dK,dK,dK,dK,dK,dK,dK,dK,dK,dK,dK,dK,dK,dK,dK,dK,dK,dK,dK,dK,dK,dK,dK,dK]
noncomputable def h_I72:Hint:={ tab,hn:=[],loops:=[(2,ks_I72_l2)],outs:=[(2,2,ko_I72_l2_0),(2,1,ko_I72_l2_1)],ords:=[(6,(OT.seq [0,1,2,3,4,5,6,7,8] .done)),(7,(OT.seq [0,1,2,3,4,5,6,7,8,9,10,11,12,13] .done))] }
noncomputable def sg_I72:List AK:=[.v tQLQIIIIILIELQIILIELQIIELILQIIIELQIIIIEIE .k]
noncomputable def F_I72 (N:Nat) (x:AVals sg_I72) (kf:Ret→Option Ret):Option Ret:=I72 N x.1 (fun r0=>kf ⟨[⟨.bool,.k,r0⟩],[]⟩)
noncomputable def run_I72 (N:Nat):=runOf sg_I72 (F_I72 N)
noncomputable def es_I72 (N:Nat):List Entry:=[⟨130,[.val,.val],(run_I130 N)⟩,⟨83,[.val,.val,.val],(run_I83 N)⟩]
noncomputable def body_I72:Code:=match Tryz.f72.body with | some c=>c | none=>.skip
noncomputable def L_I72 (N n:Nat) (key:Nat) (S:St) (K:Ks):Option Ret:=bif Nat.beq key 2 then withVals ks_I72_l2 S (fun x=>I72_l2 N x.1 x.2.1 x.2.2.1 n (K (.x 0) (shape ko_I72_l2_0 ())) (fun z0=>K .r (shape ko_I72_l2_1 (z0,()))) x.2.2.2.1) else none
theorem L0_I72 (N key:Nat) (S:St) (K:Ks):L_I72 N 0 key S K=none:=(bif0 (withVals0 fun _=>rfl) rfl)
noncomputable def c_I72_0:Code:=(loopsIn body_I72).getD 0 .skip
theorem ls_I72:loopsIn body_I72=[c_I72_0]:=by kernel_rfl
theorem rd_I72_2 (N n:Nat) (x:Vals ks_I72_l2) (K:Ks):L_I72 N (n + 1) 2 (shape ks_I72_l2 x) (h_I72.onOut 2 K)=peRound h_I72 (Orc.of (es_I72 N)) (mixL (L_I72 N) N n 2) c_I72_0 (shape ks_I72_l2 x) (h_I72.onOut 2 K):=by kernel_rfl
theorem fn_I72 (N:Nat) (x:AVals sg_I72) (kf:Ret→Option Ret):F_I72 N x kf=peFunc h_I72 (Orc.of (es_I72 N)) (L_I72 N N) Tryz.f72 (ashape sg_I72 x) kf:=by kernel_rfl
theorem sd_I72 {Γ : Gl} (N:Nat):Sound Γ Tryz.prog 72 (run_I72 N):=fun_ok2 (hh:=h_I72) mixed tab_ok (es:=es_I72 N) ⟨sd_I130 N,⟨sd_I83 N,trivial⟩⟩ (fn:=Tryz.f72) (body:=body_I72) (by kernel_rfl) (by kernel_rfl) (by kernel_rfl) (by kernel_rfl) (by kernel_rfl) (Lf:=L_I72 N) (L0_I72 N) ls_I72 (round_cons (key:=2) (ks:=ks_I72_l2) (by kernel_rfl) (by kernel_rfl) (rd_I72_2 N) trivial) (N:=N) (by kernel_rfl) (fn_I72 N) (.inl (by kernel_rfl))
noncomputable def ks_I73_l3:List Kd:=[dK,.v (.ptr tQLQIIIIILIELQIILIELQIIELILQIIIELQIIIIEIE) (.o 31 none .k),dK,.v (.int .i64) .k,dK,dK,dK,dK,dK,dK,dK,dK,dK,dK,dK,dK,dK,.v (.sl tQIIIIE) .k,.v (.int .i64) .k,.v (.int .i64) .k,dK,dK,dK,dK,dK,dK,dK,dK,dK,dK,dK,dK,dK,dK,dK,dK,dK,dK,dK,dK,dK]
noncomputable def ko_I73_l3_0:List Kd:=[dK,.v (.ptr tQLQIIIIILIELQIILIELQIIELILQIIIELQIIIIEIE) (.o 31 none .k),dK,.v (.int .i64) .k,dK,dK,dK,dK,dK,dK,dK,dK,dK,dK,dK,dK,dK,dK,dK,dK,dK,dK,dK,dK,dK,dK,dK,dK,dK,dK,dK,dK,dK,dK,dK,dK,dK,dK,dK,dK,dK]
noncomputable def h_I73:Hint:={ tab,hn:=[],loops:=[(3,ks_I73_l3)],outs:=[(3,2,ko_I73_l3_0)],ords:=[(1,(OT.seq [0,1,2,3,4,5,6,7,8,9,10] .done))] }
noncomputable def sg_I73:List AK:=[.v tQLQIIIIILIELQIILIELQIIELILQIIIELQIIIIEIE .k]
noncomputable def F_I73 (N:Nat) (x:AVals sg_I73) (kf:Ret→Option Ret):Option Ret:=I73 N x.1 (fun r0=>kf ⟨[⟨.bool,.k,r0⟩],[]⟩)
noncomputable def run_I73 (N:Nat):=runOf sg_I73 (F_I73 N)
noncomputable def es_I73 (N:Nat):List Entry:=[⟨41,[.val],(run_I41 N)⟩,⟨75,[.val],(run_I75 N)⟩,⟨144,[.val,.val,.val],(run_I144 N)⟩]
noncomputable def body_I73:Code:=match Tryz.f73.body with | some c=>c | none=>.skip
noncomputable def L_I73 (N n:Nat) (key:Nat) (S:St) (K:Ks):Option Ret:=bif Nat.beq key 3 then withVals ks_I73_l3 S (fun x=>I73_l3 x.1 x.2.2.1 x.2.2.2.1 n (fun z0=>K (.x 0) (shape ko_I73_l3_0 (x.1,z0,()))) x.2.1 x.2.2.2.2.1) else none
theorem L0_I73 (N key:Nat) (S:St) (K:Ks):L_I73 N 0 key S K=none:=(bif0 (withVals0 fun _=>rfl) rfl)
noncomputable def c_I73_0:Code:=(loopsIn body_I73).getD 0 .skip
theorem ls_I73:loopsIn body_I73=[c_I73_0]:=by kernel_rfl
theorem rd_I73_3 (N n:Nat) (x:Vals ks_I73_l3) (K:Ks):L_I73 N (n + 1) 3 (shape ks_I73_l3 x) (h_I73.onOut 3 K)=peRound h_I73 (Orc.of (es_I73 N)) (mixL (L_I73 N) N n 3) c_I73_0 (shape ks_I73_l3 x) (h_I73.onOut 3 K):=by kernel_rfl
theorem fn_I73 (N:Nat) (x:AVals sg_I73) (kf:Ret→Option Ret):F_I73 N x kf=peFunc h_I73 (Orc.of (es_I73 N)) (L_I73 N N) Tryz.f73 (ashape sg_I73 x) kf:=by kernel_rfl
theorem sd_I73 {Γ : Gl} (N:Nat):Sound Γ Tryz.prog 73 (run_I73 N):=fun_ok2 (hh:=h_I73) mixed tab_ok (es:=es_I73 N) ⟨sd_I41 N,⟨sd_I75 N,⟨sd_I144 N,trivial⟩⟩⟩ (fn:=Tryz.f73) (body:=body_I73) (by kernel_rfl) (by kernel_rfl) (by kernel_rfl) (by kernel_rfl) (by kernel_rfl) (Lf:=L_I73 N) (L0_I73 N) ls_I73 (round_cons (key:=3) (ks:=ks_I73_l3) (by kernel_rfl) (by kernel_rfl) (rd_I73_3 N) trivial) (N:=N) (by kernel_rfl) (fn_I73 N) (.inl (by kernel_rfl))
noncomputable def ks_I74_l3:List Kd:=[dK,.v (.ptr tQLQIIIIILIELQIILIELQIIELILQIIIELQIIIIEIE) (.o 31 none .k),dK,.v (.int .i64) .k,.v (.int .i64) .k,.v (.int .i64) .k,dK,dK,dK,.v (.sl tQIIIIILIE) .k,.v (.int .i64) .k,.v (.int .i64) .k,dK,dK,dK,dK,dK,dK,dK,dK,dK,dK,dK,dK,dK,dK,dK,dK,dK,dK,dK,dK,dK,dK,dK,dK,dK,dK,dK,dK,dK,dK,dK,dK]
noncomputable def ko_I74_l3_0:List Kd:=[dK,.v (.ptr tQLQIIIIILIELQIILIELQIIELILQIIIELQIIIIEIE) (.o 31 none .k),dK,.v (.int .i64) .k,.v (.int .i64) .k,.v (.int .i64) .k,dK,dK,dK,dK,dK,dK,dK,dK,dK,dK,dK,dK,dK,dK,dK,dK,dK,dK,dK,dK,dK,dK,dK,dK,dK,dK,dK,dK,dK,dK,dK,dK,dK,dK,dK,dK,dK,dK]
noncomputable def h_I74:Hint:={ tab,hn:=[],loops:=[(3,ks_I74_l3)],outs:=[(3,2,ko_I74_l3_0)],ords:=[] }
noncomputable def sg_I74:List AK:=[.v tQLQIIIIILIELQIILIELQIIELILQIIIELQIIIIEIE .k]
noncomputable def F_I74 (N:Nat) (x:AVals sg_I74) (kf:Ret→Option Ret):Option Ret:=I74 N x.1 (fun r0=>kf ⟨[⟨.bool,.k,r0⟩],[]⟩)
noncomputable def run_I74 (N:Nat):=runOf sg_I74 (F_I74 N)
noncomputable def es_I74 (N:Nat):List Entry:=[⟨143,[.val],(run_I143 N)⟩]
noncomputable def body_I74:Code:=match Tryz.f74.body with | some c=>c | none=>.skip
noncomputable def L_I74 (N n:Nat) (key:Nat) (S:St) (K:Ks):Option Ret:=bif Nat.beq key 3 then withVals ks_I74_l3 S (fun x=>I74_l3 x.1 x.2.2.2.2.1 x.2.2.2.2.2.1 n (fun z0 z1 z2=>K (.x 0) (shape ko_I74_l3_0 (x.1,z0,z1,z2,()))) x.2.1 x.2.2.1 x.2.2.2.1 x.2.2.2.2.2.2.1) else none
theorem L0_I74 (N key:Nat) (S:St) (K:Ks):L_I74 N 0 key S K=none:=(bif0 (withVals0 fun _=>rfl) rfl)
noncomputable def c_I74_0:Code:=(loopsIn body_I74).getD 0 .skip
theorem ls_I74:loopsIn body_I74=[c_I74_0]:=by kernel_rfl
theorem rd_I74_3 (N n:Nat) (x:Vals ks_I74_l3) (K:Ks):L_I74 N (n + 1) 3 (shape ks_I74_l3 x) (h_I74.onOut 3 K)=peRound h_I74 (Orc.of (es_I74 N)) (mixL (L_I74 N) N n 3) c_I74_0 (shape ks_I74_l3 x) (h_I74.onOut 3 K):=by kernel_rfl
theorem fn_I74 (N:Nat) (x:AVals sg_I74) (kf:Ret→Option Ret):F_I74 N x kf=peFunc h_I74 (Orc.of (es_I74 N)) (L_I74 N N) Tryz.f74 (ashape sg_I74 x) kf:=by kernel_rfl
theorem sd_I74 {Γ : Gl} (N:Nat):Sound Γ Tryz.prog 74 (run_I74 N):=fun_ok2 (hh:=h_I74) mixed tab_ok (es:=es_I74 N) ⟨sd_I143 N,trivial⟩ (fn:=Tryz.f74) (body:=body_I74) (by kernel_rfl) (by kernel_rfl) (by kernel_rfl) (by kernel_rfl) (by kernel_rfl) (Lf:=L_I74 N) (L0_I74 N) ls_I74 (round_cons (key:=3) (ks:=ks_I74_l3) (by kernel_rfl) (by kernel_rfl) (rd_I74_3 N) trivial) (N:=N) (by kernel_rfl) (fn_I74 N) (.inl (by kernel_rfl))
noncomputable def h_I14:Hint:={ tab,hn:=[],loops:=[],outs:=[],ords:=[] }
noncomputable def sg_I14:List AK:=[.v tQLQIIIIILIELQIILIELQIIELILQIIIELQIIIIEIE .k]
noncomputable def F_I14 (N:Nat) (x:AVals sg_I14) (kf:Ret→Option Ret):Option Ret:=I14 N x.1 (fun r0=>kf ⟨[⟨.str,.k,r0⟩],[]⟩)
noncomputable def run_I14 (N:Nat):=runOf sg_I14 (F_I14 N)
noncomputable def es_I14 (N:Nat):List Entry:=[⟨71,[.val],(run_I71 N)⟩,⟨72,[.val],(run_I72 N)⟩,⟨73,[.val],(run_I73 N)⟩,⟨74,[.val],(run_I74 N)⟩,⟨39,[.val],(run_I39 N)⟩]
noncomputable def body_I14:Code:=match Tryz.f14.body with | some c=>c | none=>.skip
theorem ls_I14:loopsIn body_I14=[]:=by kernel_rfl
theorem fn_I14 (N:Nat) (x:AVals sg_I14) (kf:Ret→Option Ret):F_I14 N x kf=peFunc h_I14 (Orc.of (es_I14 N)) (noL N N) Tryz.f14 (ashape sg_I14 x) kf:=by kernel_rfl
theorem sd_I14 {Γ : Gl} (N:Nat):Sound Γ Tryz.prog 14 (run_I14 N):=fun_ok2 (hh:=h_I14) mixed tab_ok (es:=es_I14 N) ⟨sd_I71 N,⟨sd_I72 N,⟨sd_I73 N,⟨sd_I74 N,⟨sd_I39 N,trivial⟩⟩⟩⟩⟩ (fn:=Tryz.f14) (body:=body_I14) (by kernel_rfl) (by kernel_rfl) (by kernel_rfl) (by kernel_rfl) (by kernel_rfl) (Lf:=noL N) (noL0 N) ls_I14 trivial (N:=N) (by kernel_rfl) (fn_I14 N) (.inl (by kernel_rfl))
noncomputable def ks_S76_l4:List Kd:=[.v (.sl tQIIIIE) .k,.v (.sl tQIIIIE) .k,dK,dK,dK,dK,dK,dK,dK,dK,dK,dK,.v (.int .i64) .k,.v (.int .i64) .k,dK,dK,dK,dK,dK,dK,dK,dK,dK,dK,dK,dK]
noncomputable def ko_S76_l4_0:List Kd:=[dK,dK,dK,dK,dK,dK,dK,dK,dK,dK,dK,dK,dK,dK,dK,dK,dK,dK,dK,dK,dK,dK,dK,dK,dK,dK]
noncomputable def ko_S76_l4_1:List Kd:=[dK,dK,dK,dK,.v .bool .k,dK,dK,dK,dK,dK,dK,dK,dK,dK,dK,dK,dK,dK,dK,dK,dK,dK,dK,dK,dK,dK]
noncomputable def h_S76:Hint:={ tab,hn:=[],loops:=[(4,ks_S76_l4)],outs:=[(4,2,ko_S76_l4_0),(4,1,ko_S76_l4_1)],ords:=[(6,(OT.seq [0,1,2,3,4,5,6,7,8] .done))] }
noncomputable def sg_S76:List AK:=[.v (.sl tQIIIIE) .k,.v (.sl tQIIIIE) .k]
noncomputable def F_S76 (N:Nat) (x:AVals sg_S76) (kf:Ret→Option Ret):Option Ret:=S76 N x.1 x.2.1 (fun r0=>kf ⟨[⟨.bool,.k,r0⟩],[]⟩)
noncomputable def run_S76 (N:Nat):=runOf sg_S76 (F_S76 N)
noncomputable def es_S76 (N:Nat):List Entry:=[]
noncomputable def body_S76:Code:=match Tryz.f76.body with | some c=>c | none=>.skip
noncomputable def L_S76 (N n:Nat) (key:Nat) (S:St) (K:Ks):Option Ret:=bif Nat.beq key 4 then withVals ks_S76_l4 S (fun x=>S76_l4 x.1 x.2.1 x.2.2.1 n (K (.x 0) (shape ko_S76_l4_0 ())) (fun z0=>K .r (shape ko_S76_l4_1 (z0,()))) x.2.2.2.1) else none
theorem L0_S76 (N key:Nat) (S:St) (K:Ks):L_S76 N 0 key S K=none:=(bif0 (withVals0 fun _=>rfl) rfl)
noncomputable def c_S76_0:Code:=(loopsIn body_S76).getD 0 .skip
theorem ls_S76:loopsIn body_S76=[c_S76_0]:=by kernel_rfl
theorem rd_S76_4 (N n:Nat) (x:Vals ks_S76_l4) (K:Ks):L_S76 N (n + 1) 4 (shape ks_S76_l4 x) (h_S76.onOut 4 K)=peRound h_S76 (Orc.of (es_S76 N)) (mixL (L_S76 N) N n 4) c_S76_0 (shape ks_S76_l4 x) (h_S76.onOut 4 K):=by kernel_rfl
theorem fn_S76 (N:Nat) (x:AVals sg_S76) (kf:Ret→Option Ret):F_S76 N x kf=peFunc h_S76 (Orc.of (es_S76 N)) (L_S76 N N) Tryz.f76 (ashape sg_S76 x) kf:=by kernel_rfl
theorem sd_S76 {Γ : Gl} (N:Nat):Sound Γ Tryz.prog 76 (run_S76 N):=fun_ok2 (hh:=h_S76) mixed tab_ok (es:=es_S76 N) trivial (fn:=Tryz.f76) (body:=body_S76) (by kernel_rfl) (by kernel_rfl) (by kernel_rfl) (by kernel_rfl) (by kernel_rfl) (Lf:=L_S76 N) (L0_S76 N) ls_S76 (round_cons (key:=4) (ks:=ks_S76_l4) (by kernel_rfl) (by kernel_rfl) (rd_S76_4 N) trivial) (N:=N) (by kernel_rfl) (fn_S76 N) (.inl (by kernel_rfl))
noncomputable def h_I15:Hint:={ tab,hn:=[],loops:=[],outs:=[],ords:=[] }
noncomputable def sg_I15:List AK:=[.v (.sl tQIIIIE) .k,.v (.sl tQIIIIE) .k]
noncomputable def F_I15 (N:Nat) (x:AVals sg_I15) (kf:Ret→Option Ret):Option Ret:=I15 N x.1 x.2.1 (fun r0=>kf ⟨[⟨.bool,.k,r0⟩],[]⟩)
noncomputable def run_I15 (N:Nat):=runOf sg_I15 (F_I15 N)
noncomputable def es_I15 (N:Nat):List Entry:=[⟨75,[.val],(run_I75 N)⟩,⟨76,[.val,.val],(run_S76 N)⟩]
noncomputable def body_I15:Code:=match Tryz.f15.body with | some c=>c | none=>.skip
theorem ls_I15:loopsIn body_I15=[]:=by kernel_rfl
theorem fn_I15 (N:Nat) (x:AVals sg_I15) (kf:Ret→Option Ret):F_I15 N x kf=peFunc h_I15 (Orc.of (es_I15 N)) (noL N N) Tryz.f15 (ashape sg_I15 x) kf:=by kernel_rfl
theorem sd_I15 {Γ : Gl} (N:Nat):Sound Γ Tryz.prog 15 (run_I15 N):=fun_ok2 (hh:=h_I15) mixed tab_ok (es:=es_I15 N) ⟨sd_I75 N,⟨sd_S76 N,trivial⟩⟩ (fn:=Tryz.f15) (body:=body_I15) (by kernel_rfl) (by kernel_rfl) (by kernel_rfl) (by kernel_rfl) (by kernel_rfl) (Lf:=noL N) (noL0 N) ls_I15 trivial (N:=N) (by kernel_rfl) (fn_I15 N) (.inl (by kernel_rfl))
noncomputable def ks_L3_l18:List Kd:=[dK,dK,dK,dK,.v (.sl tQIIIIE) (.o 38 none .k),.v (.ptr tQLQIIIIILIELQIILIELQIIELILQIIIELQIIIIEIE) (.o 31 none .k),.v (.int .i64) .k,dK,.v (.int .i64) .k,.v (.int .i64) .k,dK,dK,dK,dK,dK,dK,dK,dK,dK,dK,dK,dK,dK,dK,dK,dK,dK,dK,dK,dK,dK,dK,dK,dK,dK,dK,dK,dK,dK,dK,dK,dK,dK,dK,dK,dK,dK,dK,dK,dK,dK,dK,dK,dK,dK,dK,dK,dK,dK,dK,dK,dK,dK,dK,dK,dK,dK,dK,dK,dK,dK,dK,dK,dK,dK,dK,dK,dK,dK,dK,dK,dK,dK,dK,dK,dK,dK,dK,dK,dK,dK,dK,dK,dK,dK,dK,dK,dK,dK,dK,dK,dK,dK,dK,dK,dK,dK,dK,dK,dK,dK,dK,dK,dK,dK,dK,dK,dK,dK,dK,dK]
noncomputable def ko_L3_l18_0:List Kd:=[dK,dK,dK,dK,.v (.sl tQIIIIE) (.o 38 none .k),.v (.ptr tQLQIIIIILIELQIILIELQIIELILQIIIELQIIIIEIE) (.o 31 none .k),.v (.int .i64) .k,dK,.v (.int .i64) .k,dK,dK,dK,dK,dK,dK,dK,dK,dK,dK,dK,dK,dK,dK,dK,dK,dK,dK,dK,dK,dK,dK,dK,dK,dK,dK,dK,dK,dK,dK,dK,dK,dK,dK,dK,dK,dK,dK,dK,dK,dK,dK,dK,dK,dK,dK,dK,dK,dK,dK,dK,dK,dK,dK,dK,dK,dK,dK,dK,dK,dK,dK,dK,dK,dK,dK,dK,dK,dK,dK,dK,dK,dK,dK,dK,dK,dK,dK,dK,dK,dK,dK,dK,dK,dK,dK,dK,dK,dK,dK,dK,dK,dK,dK,dK,dK,dK,dK,dK,dK,dK,dK,dK,dK,dK,dK,dK,dK,dK,dK,dK,dK]
noncomputable def ko_L3_l18_1:List Kd:=[dK,dK,.v .bool .k,dK,dK,dK,dK,dK,dK,dK,dK,dK,dK,dK,dK,dK,dK,dK,dK,dK,dK,dK,dK,dK,dK,dK,dK,dK,dK,dK,dK,dK,dK,dK,dK,dK,dK,dK,dK,dK,dK,dK,dK,dK,dK,dK,dK,dK,dK,dK,dK,dK,dK,dK,dK,dK,dK,dK,dK,dK,dK,dK,dK,dK,dK,dK,dK,dK,dK,dK,dK,dK,dK,dK,dK,dK,dK,dK,dK,dK,dK,dK,dK,dK,dK,dK,dK,dK,dK,dK,dK,dK,dK,dK,dK,dK,dK,dK,dK,dK,dK,dK,dK,dK,dK,dK,dK,dK,dK,dK,dK,dK,dK,dK,dK,dK,dK,dK,dK,dK,dK]
noncomputable def ks_L3_l15:List Kd:=[dK,dK,dK,dK,.v (.sl tQIIIIE) (.o 38 none .k),.v (.ptr tQLQIIIIILIELQIILIELQIIELILQIIIELQIIIIEIE) (.o 31 none .k),.v (.int .i64) .k,dK,.v (.int .i64) .k,dK,dK,dK,dK,dK,dK,dK,dK,dK,dK,dK,dK,dK,dK,dK,dK,dK,dK,dK,dK,dK,dK,dK,dK,dK,dK,dK,dK,dK,dK,dK,dK,dK,dK,dK,dK,dK,dK,dK,dK,dK,dK,dK,dK,dK,dK,dK,dK,dK,dK,dK,dK,dK,dK,dK,dK,dK,dK,dK,dK,dK,dK,dK,dK,dK,dK,dK,dK,dK,dK,dK,dK,dK,dK,dK,dK,dK,dK,dK,dK,dK,dK,dK,dK,dK,dK,dK,dK,dK,dK,dK,dK,dK,dK,dK,dK,dK,dK,dK,dK,dK,dK,dK,dK,dK,dK,dK,dK,dK,dK,dK,dK]
noncomputable def ko_L3_l15_0:List Kd:=[dK,dK,dK,dK,.v (.sl tQIIIIE) (.o 38 none .k),.v (.ptr tQLQIIIIILIELQIILIELQIIELILQIIIELQIIIIEIE) (.o 31 none .k),.v (.int .i64) .k,dK,dK,dK,dK,dK,dK,dK,dK,dK,dK,dK,dK,dK,dK,dK,dK,dK,dK,dK,dK,dK,dK,dK,dK,dK,dK,dK,dK,dK,dK,dK,dK,dK,dK,dK,dK,dK,dK,dK,dK,dK,dK,dK,dK,dK,dK,dK,dK,dK,dK,dK,dK,dK,dK,dK,dK,dK,dK,dK,dK,dK,dK,dK,dK,dK,dK,dK,dK,dK,dK,dK,dK,dK,dK,dK,dK,dK,dK,dK,dK,dK,dK,dK,dK,dK,dK,dK,dK,dK,dK,dK,dK,dK,dK,dK,dK,dK,dK,dK,dK,dK,dK,dK,dK,dK,dK,dK,dK,dK,dK,dK,dK,dK,dK]
noncomputable def ko_L3_l15_1:List Kd:=[dK,dK,.v .bool .k,dK,dK,dK,dK,dK,dK,dK,dK,dK,dK,dK,dK,dK,dK,dK,dK,dK,dK,dK,dK,dK,dK,dK,dK,dK,dK,dK,dK,dK,dK,dK,dK,dK,dK,dK,dK,dK,dK,dK,dK,dK,dK,dK,dK,dK,dK,dK,dK,dK,dK,dK,dK,dK,dK,dK,dK,dK,dK,dK,dK,dK,dK,dK,dK,dK,dK,dK,dK,dK,dK,dK,dK,dK,dK,dK,dK,dK,dK,dK,dK,dK,dK,dK,dK,dK,dK,dK,dK,dK,dK,dK,dK,dK,dK,dK,dK,dK,dK,dK,dK,dK,dK,dK,dK,dK,dK,dK,dK,dK,dK,dK,dK,dK,dK,dK,dK,dK,dK]
noncomputable def ks_L3_l6:List Kd:=[dK,dK,dK,dK,.v (.sl tQIIIIE) (.o 38 none .k),.v (.ptr tQLQIIIIILIELQIILIELQIIELILQIIIELQIIIIEIE) (.o 31 none .k),.v (.int .i64) .k,dK,dK,dK,dK,dK,dK,dK,dK,dK,dK,dK,dK,dK,dK,dK,dK,dK,dK,dK,dK,dK,dK,dK,dK,dK,dK,dK,dK,dK,dK,dK,dK,dK,dK,dK,dK,dK,dK,dK,dK,dK,dK,dK,dK,dK,dK,dK,dK,dK,dK,dK,dK,dK,dK,dK,dK,dK,dK,dK,dK,dK,dK,dK,dK,dK,dK,dK,dK,dK,dK,dK,dK,dK,dK,dK,dK,dK,dK,dK,dK,dK,dK,dK,dK,dK,dK,dK,dK,dK,dK,dK,dK,dK,dK,dK,dK,dK,dK,dK,dK,dK,dK,dK,dK,dK,dK,dK,dK,dK,dK,dK,dK,dK,dK]
noncomputable def ko_L3_l6_0:List Kd:=[dK,dK,dK,dK,dK,dK,dK,dK,dK,dK,dK,dK,dK,dK,dK,dK,dK,dK,dK,dK,dK,dK,dK,dK,dK,dK,dK,dK,dK,dK,dK,dK,dK,dK,dK,dK,dK,dK,dK,dK,dK,dK,dK,dK,dK,dK,dK,dK,dK,dK,dK,dK,dK,dK,dK,dK,dK,dK,dK,dK,dK,dK,dK,dK,dK,dK,dK,dK,dK,dK,dK,dK,dK,dK,dK,dK,dK,dK,dK,dK,dK,dK,dK,dK,dK,dK,dK,dK,dK,dK,dK,dK,dK,dK,dK,dK,dK,dK,dK,dK,dK,dK,dK,dK,dK,dK,dK,dK,dK,dK,dK,dK,dK,dK,dK,dK,dK,dK,dK,dK,dK]
noncomputable def ko_L3_l6_1:List Kd:=[dK,dK,.v .bool .k,dK,dK,dK,dK,dK,dK,dK,dK,dK,dK,dK,dK,dK,dK,dK,dK,dK,dK,dK,dK,dK,dK,dK,dK,dK,dK,dK,dK,dK,dK,dK,dK,dK,dK,dK,dK,dK,dK,dK,dK,dK,dK,dK,dK,dK,dK,dK,dK,dK,dK,dK,dK,dK,dK,dK,dK,dK,dK,dK,dK,dK,dK,dK,dK,dK,dK,dK,dK,dK,dK,dK,dK,dK,dK,dK,dK,dK,dK,dK,dK,dK,dK,dK,dK,dK,dK,dK,dK,dK,dK,dK,dK,dK,dK,dK,dK,dK,dK,dK,dK,dK,dK,dK,dK,dK,dK,dK,dK,dK,dK,dK,dK,dK,dK,dK,dK,dK,dK]
noncomputable def h_L3:Hint:={ tab,hn:=[],loops:=[(18,ks_L3_l18),(15,ks_L3_l15),(6,ks_L3_l6)],outs:=[(18,6,ko_L3_l18_0),(18,1,ko_L3_l18_1),(15,4,ko_L3_l15_0),(15,1,ko_L3_l15_1),(6,2,ko_L3_l6_0),(6,1,ko_L3_l6_1)],ords:=[(9,(OT.seq [0,1,2,3,4,5,6,7,8,9] .done)),(20,(OT.seq [0,1,2,3,4,5,6,7,8,9,10,11,12,13,14,15,16,17,18,19,20,21,22,23,24,25,26,27,28,29] .done))],frz:=[(4,[(5,[.deref])]),(9,[(5,[.deref])])] }
noncomputable def sg_L3:List AK:=[.v (.sl (.int .u8)) .k]
noncomputable def F_L3 (N:Nat) (x:AVals sg_L3) (kf:Ret→Option Ret):Option Ret:=L3 N x.1 (fun r0=>kf ⟨[⟨.bool,.k,r0⟩],[]⟩)
noncomputable def run_L3 (N:Nat):=runOf sg_L3 (F_L3 N)
noncomputable def es_L3 (N:Nat):List Entry:=[⟨11,[.val],(run_L11 N)⟩,⟨12,[.val],(run_S12 N)⟩,⟨13,[.val,.val],(run_I13 N)⟩,⟨14,[.val],(run_I14 N)⟩,⟨15,[.val,.val],(run_I15 N)⟩,⟨16,[.val],(run_I16 N)⟩,⟨17,[.val,.val],(run_I17 N)⟩,⟨18,[.val,.val,.val,.val],(run_I18 N)⟩,⟨19,[.val,.val,.val],(run_I19 N)⟩]
noncomputable def body_L3:Code:=match Tryz.f3.body with | some c=>c | none=>.skip
noncomputable def L_L3 (N n:Nat) (key:Nat) (S:St) (K:Ks):Option Ret:=bif Nat.beq key 6 then withVals ks_L3_l6 S (fun x=>L3_l6 N x.1 n (K (.x 0) (shape ko_L3_l6_0 ())) (fun z0=>K .r (shape ko_L3_l6_1 (z0,()))) x.2.1 x.2.2.1) else bif Nat.beq key 15 then withVals ks_L3_l15 S (fun x=>L3_l15 N x.1 x.2.1 x.2.2.1 n (K (.x 2) (shape ko_L3_l15_0 (x.1,x.2.1,x.2.2.1,()))) (fun z0=>K .r (shape ko_L3_l15_1 (z0,()))) x.2.2.2.1) else bif Nat.beq key 18 then withVals ks_L3_l18 S (fun x=>L3_l18 N x.1 x.2.1 x.2.2.1 x.2.2.2.1 n (K (.x 4) (shape ko_L3_l18_0 (x.1,x.2.1,x.2.2.1,x.2.2.2.1,()))) (fun z0=>K .r (shape ko_L3_l18_1 (z0,()))) x.2.2.2.2.1) else none
theorem L0_L3 (N key:Nat) (S:St) (K:Ks):L_L3 N 0 key S K=none:=(bif0 (withVals0 fun _=>rfl) (bif0 (withVals0 fun _=>rfl) (bif0 (withVals0 fun _=>rfl) rfl)))
noncomputable def c_L3_0:Code:=(loopsIn body_L3).getD 0 .skip
noncomputable def c_L3_1:Code:=(loopsIn body_L3).getD 1 .skip
noncomputable def c_L3_2:Code:=(loopsIn body_L3).getD 2 .skip
theorem ls_L3:loopsIn body_L3=[c_L3_0,c_L3_1,c_L3_2]:=by kernel_rfl
theorem rd_L3_18 (N n:Nat) (x:Vals ks_L3_l18) (K:Ks):L_L3 N (n + 1) 18 (shape ks_L3_l18 x) (h_L3.onOut 18 K)=peRound h_L3 (Orc.of (es_L3 N)) (mixL (L_L3 N) N n 18) c_L3_2 (shape ks_L3_l18 x) (h_L3.onOut 18 K):=by kernel_rfl
theorem rd_L3_15 (N n:Nat) (x:Vals ks_L3_l15) (K:Ks):L_L3 N (n + 1) 15 (shape ks_L3_l15 x) (h_L3.onOut 15 K)=peRound h_L3 (Orc.of (es_L3 N)) (mixL (L_L3 N) N n 15) c_L3_1 (shape ks_L3_l15 x) (h_L3.onOut 15 K):=by kernel_rfl
theorem rd_L3_6 (N n:Nat) (x:Vals ks_L3_l6) (K:Ks):L_L3 N (n + 1) 6 (shape ks_L3_l6 x) (h_L3.onOut 6 K)=peRound h_L3 (Orc.of (es_L3 N)) (mixL (L_L3 N) N n 6) c_L3_0 (shape ks_L3_l6 x) (h_L3.onOut 6 K):=by kernel_rfl
theorem fn_L3 (N:Nat) (x:AVals sg_L3) (kf:Ret→Option Ret):F_L3 N x kf=peFunc h_L3 (Orc.of (es_L3 N)) (L_L3 N N) Tryz.f3 (ashape sg_L3 x) kf:=by kernel_rfl
theorem sd_L3 {Γ : Gl} (N:Nat):Sound Γ Tryz.prog 3 (run_L3 N):=fun_ok2 (hh:=h_L3) mixed tab_ok (es:=es_L3 N) ⟨sd_L11 N,⟨sd_S12 N,⟨sd_I13 N,⟨sd_I14 N,⟨sd_I15 N,⟨sd_I16 N,⟨sd_I17 N,⟨sd_I18 N,⟨sd_I19 N,trivial⟩⟩⟩⟩⟩⟩⟩⟩⟩ (fn:=Tryz.f3) (body:=body_L3) (by kernel_rfl) (by kernel_rfl) (by kernel_rfl) (by kernel_rfl) (by kernel_rfl) (Lf:=L_L3 N) (L0_L3 N) ls_L3 (round_cons (key:=6) (ks:=ks_L3_l6) (by kernel_rfl) (by kernel_rfl) (rd_L3_6 N) (round_cons (key:=15) (ks:=ks_L3_l15) (by kernel_rfl) (by kernel_rfl) (rd_L3_15 N) (round_cons (key:=18) (ks:=ks_L3_l18) (by kernel_rfl) (by kernel_rfl) (rd_L3_18 N) trivial))) (N:=N) (by kernel_rfl) (fn_L3 N) (.inl (by kernel_rfl))
end Go.Pv.R
