/- Each function of the program that the law reaches computes its plain function, part 1. -/
import Derived.Test.YtalebakjiclomaaSnd0
import Derived.Test.YtalebakjiclomaaProg
namespace Go.Pv.R
open Go.Proofs
set_option linter.unusedVariables false
set_option maxRecDepth 100000
noncomputable def ks_S62_l6:List Kd:=[.v (.sl tQIIIIILIE) .k,dK,dK,.v (.sl tQIIIIILIE) (.o 59 none .k),.v (.int .i64) .k,.v (.int .i64) .k,dK,dK,dK,dK,dK,dK,dK,dK,dK,dK,dK,dK,dK,dK,dK,dK,dK,dK,dK,dK,dK,dK,dK,dK,dK,dK,dK,dK,dK,dK,dK,dK,dK,dK,dK,dK,dK,dK,dK,dK,dK,dK,dK,dK,dK,dK,dK,dK,dK,dK,dK,dK,dK,dK,dK,dK,dK,dK,dK,dK,dK,dK]
noncomputable def ko_S62_l6_0:List Kd:=[.v (.sl tQIIIIILIE) .k,dK,dK,.v (.sl tQIIIIILIE) (.o 59 none .k),.v (.int .i64) .k,.v (.int .i64) .k,dK,dK,dK,dK,dK,dK,dK,dK,dK,dK,dK,dK,dK,dK,dK,dK,dK,dK,dK,dK,dK,dK,dK,dK,dK,dK,dK,dK,dK,dK,dK,dK,dK,dK,dK,dK,dK,dK,dK,dK,dK,dK,dK,dK,dK,dK,dK,dK,dK,dK,dK,dK,dK,dK,dK,dK,dK,dK,dK,dK,dK,dK]
noncomputable def ks_S62_l3:List Kd:=[.v (.sl tQIIIIILIE) .k,dK,dK,.v (.sl tQIIIIILIE) (.o 59 none .k),.v (.int .i64) .k,dK,dK,dK,dK,dK,dK,dK,dK,dK,dK,dK,dK,dK,dK,dK,dK,dK,dK,dK,dK,dK,dK,dK,dK,dK,dK,dK,dK,dK,dK,dK,dK,dK,dK,dK,dK,dK,dK,dK,dK,dK,dK,dK,dK,dK,dK,dK,dK,dK,dK,dK,dK,dK,dK,dK,dK,dK,dK,dK,dK,dK,dK,dK]
noncomputable def ko_S62_l3_0:List Kd:=[dK,dK,dK,.v (.sl tQIIIIILIE) (.o 59 none .k),dK,dK,dK,dK,dK,dK,dK,dK,dK,dK,dK,dK,dK,dK,dK,dK,dK,dK,dK,dK,dK,dK,dK,dK,dK,dK,dK,dK,dK,dK,dK,dK,dK,dK,dK,dK,dK,dK,dK,dK,dK,dK,dK,dK,dK,dK,dK,dK,dK,dK,dK,dK,dK,dK,dK,dK,dK,dK,dK,dK,dK,dK,dK,dK]
noncomputable def ks_S62_l11:List Kd:=[dK,dK,dK,.v (.sl tQIIIIILIE) (.o 59 none .k),dK,dK,.v (.sl (.int .i64)) (.o 3 none .k),.v (.int .i64) .k,dK,dK,dK,dK,dK,dK,dK,dK,dK,dK,dK,dK,dK,dK,dK,dK,dK,dK,dK,dK,dK,dK,dK,dK,dK,dK,dK,dK,dK,dK,dK,dK,dK,dK,dK,dK,dK,dK,dK,dK,dK,dK,dK,dK,dK,dK,dK,dK,dK,dK,dK,dK,dK,dK,dK,dK,dK,dK,dK,dK]
noncomputable def ko_S62_l11_0:List Kd:=[dK,dK,dK,dK,dK,dK,.v (.sl (.int .i64)) (.o 3 none .k),dK,dK,dK,dK,dK,dK,dK,dK,dK,dK,dK,dK,dK,dK,dK,dK,dK,dK,dK,dK,dK,dK,dK,dK,dK,dK,dK,dK,dK,dK,dK,dK,dK,dK,dK,dK,dK,dK,dK,dK,dK,dK,dK,dK,dK,dK,dK,dK,dK,dK,dK,dK,dK,dK,dK,dK,dK,dK,dK,dK,dK]
noncomputable def h_S62:Hint:={ tab,hn:=[],loops:=[(6,ks_S62_l6),(3,ks_S62_l3),(11,ks_S62_l11)],outs:=[(6,4,ko_S62_l6_0),(3,2,ko_S62_l3_0),(11,6,ko_S62_l11_0)],ords:=[(6,(OT.seq [0,1,2,3,4,5,6,7,8,9,10,11,12,13] .done)),(8,(OT.seq [1,2,3,5,6,7,11,12,13] (.par [0,4,8,9] [[37],[44,45],[44,45,46]] (OT.seq [10,14,15] .done))))] }
noncomputable def sg_S62:List AK:=[.v (.sl tQIIIIILIE) .k]
noncomputable def F_S62 (N:Nat) (x:AVals sg_S62) (kf:Ret→Option Ret):Option Ret:=S62 N x.1 (fun r0=>kf ⟨[⟨(.sl (.int .i64)),(.o 3 none .k),r0⟩],[]⟩)
noncomputable def run_S62 (N:Nat):=runOf sg_S62 (F_S62 N)
noncomputable def es_S62 (N:Nat):List Entry:=[⟨60,[.val],(run_S60 N)⟩,⟨73,[.val,.val],(run_S73 N)⟩]
noncomputable def body_S62:Code:=match Try.f62.body with | some c=>c | none=>.skip
noncomputable def L_S62 (N n:Nat) (key:Nat) (S:St) (K:Ks):Option Ret:=bif Nat.beq key 3 then withVals ks_S62_l3 S (fun x=>S62_l3 N x.1 n (fun z0=>K (.x 0) (shape ko_S62_l3_0 (z0,()))) x.2.1 x.2.2.1) else bif Nat.beq key 6 then withVals ks_S62_l6 S (fun x=>S62_l6 N x.1 x.2.1 x.2.2.1 n (fun z0=>K (.x 2) (shape ko_S62_l6_0 (x.1,x.2.1,x.2.2.1,z0,()))) x.2.2.2.1) else bif Nat.beq key 11 then withVals ks_S62_l11 S (fun x=>S62_l11 x.1 n (fun z0=>K (.x 4) (shape ko_S62_l11_0 (z0,()))) x.2.1 x.2.2.1) else none
theorem L0_S62 (N key:Nat) (S:St) (K:Ks):L_S62 N 0 key S K=none:=(bif0 (withVals0 fun _=>rfl) (bif0 (withVals0 fun _=>rfl) (bif0 (withVals0 fun _=>rfl) rfl)))
noncomputable def c_S62_0:Code:=(loopsIn body_S62).getD 0 .skip
noncomputable def c_S62_1:Code:=(loopsIn body_S62).getD 1 .skip
noncomputable def c_S62_2:Code:=(loopsIn body_S62).getD 2 .skip
theorem ls_S62:loopsIn body_S62=[c_S62_0,c_S62_1,c_S62_2]:=by kernel_rfl
theorem rd_S62_11 (N n:Nat) (x:Vals ks_S62_l11) (K:Ks):L_S62 N (n + 1) 11 (shape ks_S62_l11 x) (h_S62.onOut 11 K)=peRound h_S62 (Orc.of (es_S62 N)) (mixL (L_S62 N) N n 11) c_S62_2 (shape ks_S62_l11 x) (h_S62.onOut 11 K):=by kernel_rfl
theorem rd_S62_6 (N n:Nat) (x:Vals ks_S62_l6) (K:Ks):L_S62 N (n + 1) 6 (shape ks_S62_l6 x) (h_S62.onOut 6 K)=peRound h_S62 (Orc.of (es_S62 N)) (mixL (L_S62 N) N n 6) c_S62_1 (shape ks_S62_l6 x) (h_S62.onOut 6 K):=by kernel_rfl
theorem rd_S62_3 (N n:Nat) (x:Vals ks_S62_l3) (K:Ks):L_S62 N (n + 1) 3 (shape ks_S62_l3 x) (h_S62.onOut 3 K)=peRound h_S62 (Orc.of (es_S62 N)) (mixL (L_S62 N) N n 3) c_S62_0 (shape ks_S62_l3 x) (h_S62.onOut 3 K):=by kernel_rfl
theorem fn_S62 (N:Nat) (x:AVals sg_S62) (kf:Ret→Option Ret):F_S62 N x kf=peFunc h_S62 (Orc.of (es_S62 N)) (L_S62 N N) Try.f62 (ashape sg_S62 x) kf:=by kernel_rfl
theorem sd_S62 {Γ : Gl} (N:Nat):Sound Γ Try.prog 62 (run_S62 N):=fun_ok2 (hh:=h_S62) mixed tab_ok (es:=es_S62 N) ⟨sd_S60 N,⟨sd_S73 N,trivial⟩⟩ (fn:=Try.f62) (body:=body_S62) (by kernel_rfl) (by kernel_rfl) (by kernel_rfl) (by kernel_rfl) (by kernel_rfl) (Lf:=L_S62 N) (L0_S62 N) ls_S62 (round_cons (key:=3) (ks:=ks_S62_l3) (by kernel_rfl) (by kernel_rfl) (rd_S62_3 N) (round_cons (key:=6) (ks:=ks_S62_l6) (by kernel_rfl) (by kernel_rfl) (rd_S62_6 N) (round_cons (key:=11) (ks:=ks_S62_l11) (by kernel_rfl) (by kernel_rfl) (rd_S62_11 N) trivial))) (N:=N) (by kernel_rfl) (fn_S62 N) (.inl (by kernel_rfl))
noncomputable def ks_S74_l2:List Kd:=[.v (.sl (.int .i64)) .k,.v (.int .i64) .k,dK,dK,dK,.v (.int .i64) .k,dK,dK,dK,dK,dK,dK,dK,dK,dK,dK,dK,dK]
noncomputable def ko_S74_l2_0:List Kd:=[dK,dK,dK,dK,dK,dK,dK,dK,dK,dK,dK,dK,dK,dK,dK,dK,dK,dK]
noncomputable def ko_S74_l2_1:List Kd:=[dK,dK,dK,dK,.v .bool .k,dK,dK,dK,dK,dK,dK,dK,dK,dK,dK,dK,dK,dK]
noncomputable def h_S74:Hint:={ tab,hn:=[],loops:=[(2,ks_S74_l2)],outs:=[(2,2,ko_S74_l2_0),(2,1,ko_S74_l2_1)],ords:=[] }
noncomputable def sg_S74:List AK:=[.v (.sl (.int .i64)) .k,.v (.int .i64) .k]
noncomputable def F_S74 (N:Nat) (x:AVals sg_S74) (kf:Ret→Option Ret):Option Ret:=S74 N x.1 x.2.1 (fun r0=>kf ⟨[⟨.bool,.k,r0⟩],[]⟩)
noncomputable def run_S74 (N:Nat):=runOf sg_S74 (F_S74 N)
noncomputable def es_S74 (N:Nat):List Entry:=[]
noncomputable def body_S74:Code:=match Try.f74.body with | some c=>c | none=>.skip
noncomputable def L_S74 (N n:Nat) (key:Nat) (S:St) (K:Ks):Option Ret:=bif Nat.beq key 2 then withVals ks_S74_l2 S (fun x=>S74_l2 x.1 x.2.1 n (K (.x 0) (shape ko_S74_l2_0 ())) (fun z0=>K .r (shape ko_S74_l2_1 (z0,()))) x.2.2.1) else none
theorem L0_S74 (N key:Nat) (S:St) (K:Ks):L_S74 N 0 key S K=none:=(bif0 (withVals0 fun _=>rfl) rfl)
noncomputable def c_S74_0:Code:=(loopsIn body_S74).getD 0 .skip
theorem ls_S74:loopsIn body_S74=[c_S74_0]:=by kernel_rfl
theorem rd_S74_2 (N n:Nat) (x:Vals ks_S74_l2) (K:Ks):L_S74 N (n + 1) 2 (shape ks_S74_l2 x) (h_S74.onOut 2 K)=peRound h_S74 (Orc.of (es_S74 N)) (mixL (L_S74 N) N n 2) c_S74_0 (shape ks_S74_l2 x) (h_S74.onOut 2 K):=by kernel_rfl
theorem fn_S74 (N:Nat) (x:AVals sg_S74) (kf:Ret→Option Ret):F_S74 N x kf=peFunc h_S74 (Orc.of (es_S74 N)) (L_S74 N N) Try.f74 (ashape sg_S74 x) kf:=by kernel_rfl
theorem sd_S74 {Γ : Gl} (N:Nat):Sound Γ Try.prog 74 (run_S74 N):=fun_ok2 (hh:=h_S74) mixed tab_ok (es:=es_S74 N) trivial (fn:=Try.f74) (body:=body_S74) (by kernel_rfl) (by kernel_rfl) (by kernel_rfl) (by kernel_rfl) (by kernel_rfl) (Lf:=L_S74 N) (L0_S74 N) ls_S74 (round_cons (key:=2) (ks:=ks_S74_l2) (by kernel_rfl) (by kernel_rfl) (rd_S74_2 N) trivial) (N:=N) (by kernel_rfl) (fn_S74 N) (.inl (by kernel_rfl))
noncomputable def h_S80:Hint:={ tab,hn:=[],loops:=[],outs:=[],ords:=[] }
noncomputable def sg_S80:List AK:=[.v (.sl tQIIIIILIE) .k,.v (.int .i64) .k,.v (.int .i64) .k]
noncomputable def F_S80 (N:Nat) (x:AVals sg_S80) (kf:Ret→Option Ret):Option Ret:=S80 N x.1 x.2.1 x.2.2.1 (fun r0=>kf ⟨[⟨.bool,.k,r0⟩],[]⟩)
noncomputable def run_S80 (N:Nat):=runOf sg_S80 (F_S80 N)
noncomputable def es_S80 (N:Nat):List Entry:=[⟨68,[.val,.val],(run_S68 N)⟩,⟨74,[.val,.val],(run_S74 N)⟩]
noncomputable def body_S80:Code:=match Try.f80.body with | some c=>c | none=>.skip
theorem ls_S80:loopsIn body_S80=[]:=by kernel_rfl
theorem fn_S80 (N:Nat) (x:AVals sg_S80) (kf:Ret→Option Ret):F_S80 N x kf=peFunc h_S80 (Orc.of (es_S80 N)) (noL N N) Try.f80 (ashape sg_S80 x) kf:=by kernel_rfl
theorem sd_S80 {Γ : Gl} (N:Nat):Sound Γ Try.prog 80 (run_S80 N):=fun_ok2 (hh:=h_S80) mixed tab_ok (es:=es_S80 N) ⟨sd_S68 N,⟨sd_S74 N,trivial⟩⟩ (fn:=Try.f80) (body:=body_S80) (by kernel_rfl) (by kernel_rfl) (by kernel_rfl) (by kernel_rfl) (by kernel_rfl) (Lf:=noL N) (noL0 N) ls_S80 trivial (N:=N) (by kernel_rfl) (fn_S80 N) (.inl (by kernel_rfl))
noncomputable def h_S71:Hint:={ tab,hn:=[],loops:=[],outs:=[],ords:=[(3,(OT.seq [0,1,2,3,4,5,6,7,8,9,10,11,12,13,14,15,16,17,18,19,20,21,22,23,24,25,26,27,28,29,30,31,32,33,34,35] .done))] }
noncomputable def sg_S71:List AK:=[.v (.sl tQIIIIILIE) .k,.v (.int .i64) .k,.v (.int .i64) .k]
noncomputable def F_S71 (N:Nat) (x:AVals sg_S71) (kf:Ret→Option Ret):Option Ret:=S71 N x.1 x.2.1 x.2.2.1 (fun r0=>kf ⟨[⟨.bool,.k,r0⟩],[]⟩)
noncomputable def run_S71 (N:Nat):=runOf sg_S71 (F_S71 N)
noncomputable def es_S71 (N:Nat):List Entry:=[⟨68,[.val,.val],(run_S68 N)⟩,⟨60,[.val],(run_S60 N)⟩,⟨80,[.val,.val,.val],(run_S80 N)⟩]
noncomputable def body_S71:Code:=match Try.f71.body with | some c=>c | none=>.skip
theorem ls_S71:loopsIn body_S71=[]:=by kernel_rfl
theorem fn_S71 (N:Nat) (x:AVals sg_S71) (kf:Ret→Option Ret):F_S71 N x kf=peFunc h_S71 (Orc.of (es_S71 N)) (noL N N) Try.f71 (ashape sg_S71 x) kf:=by kernel_rfl
theorem sd_S71 {Γ : Gl} (N:Nat):Sound Γ Try.prog 71 (run_S71 N):=fun_ok2 (hh:=h_S71) mixed tab_ok (es:=es_S71 N) ⟨sd_S68 N,⟨sd_S60 N,⟨sd_S80 N,trivial⟩⟩⟩ (fn:=Try.f71) (body:=body_S71) (by kernel_rfl) (by kernel_rfl) (by kernel_rfl) (by kernel_rfl) (by kernel_rfl) (Lf:=noL N) (noL0 N) ls_S71 trivial (N:=N) (by kernel_rfl) (fn_S71 N) (.inl (by kernel_rfl))
noncomputable def h_S72:Hint:={ tab,hn:=[],loops:=[],outs:=[],ords:=[(5,(OT.seq [0,1,2,3,4,5,6,7,8,9,10,11,12,13,14,15,16,17,18,19,20,21,22,23,24,25,26,27,28,29,30,31,32,33,34] .done))] }
noncomputable def sg_S72:List AK:=[.v (.sl tQIIIIILIE) .k,.v (.int .i64) .k,.v (.int .i64) .k]
noncomputable def F_S72 (N:Nat) (x:AVals sg_S72) (kf:Ret→Option Ret):Option Ret:=S72 N x.1 x.2.1 x.2.2.1 (fun r0=>kf ⟨[⟨tQIIE,.k,r0⟩],[]⟩)
noncomputable def run_S72 (N:Nat):=runOf sg_S72 (F_S72 N)
noncomputable def es_S72 (N:Nat):List Entry:=[⟨68,[.val,.val],(run_S68 N)⟩,⟨60,[.val],(run_S60 N)⟩,⟨73,[.val,.val],(run_S73 N)⟩]
noncomputable def body_S72:Code:=match Try.f72.body with | some c=>c | none=>.skip
theorem ls_S72:loopsIn body_S72=[]:=by kernel_rfl
theorem fn_S72 (N:Nat) (x:AVals sg_S72) (kf:Ret→Option Ret):F_S72 N x kf=peFunc h_S72 (Orc.of (es_S72 N)) (noL N N) Try.f72 (ashape sg_S72 x) kf:=by kernel_rfl
theorem sd_S72 {Γ : Gl} (N:Nat):Sound Γ Try.prog 72 (run_S72 N):=fun_ok2 (hh:=h_S72) mixed tab_ok (es:=es_S72 N) ⟨sd_S68 N,⟨sd_S60 N,⟨sd_S73 N,trivial⟩⟩⟩ (fn:=Try.f72) (body:=body_S72) (by kernel_rfl) (by kernel_rfl) (by kernel_rfl) (by kernel_rfl) (by kernel_rfl) (Lf:=noL N) (noL0 N) ls_S72 trivial (N:=N) (by kernel_rfl) (fn_S72 N) (.inl (by kernel_rfl))
noncomputable def ks_S61_l4:List Kd:=[.v (.sl tQIIIIILIE) .k,.v (.sl (.int .i64)) .k,dK,dK,dK,dK,.v (.int .i64) .k,dK,dK,dK,dK,dK,dK,dK,dK,dK,dK,dK,dK,dK,dK,dK,dK,dK,dK,dK,dK,dK,dK,dK,dK,dK,dK,dK,dK,dK,dK,dK,dK,dK,dK,dK,dK,dK,dK,dK,dK,dK,dK,dK,dK,dK,dK,dK,dK,dK,dK,dK,dK,dK]
noncomputable def ko_S61_l4_0:List Kd:=[dK,dK,dK,dK,dK,dK,dK,dK,dK,dK,dK,dK,dK,dK,dK,dK,dK,dK,dK,dK,dK,dK,dK,dK,dK,dK,dK,dK,dK,dK,dK,dK,dK,dK,dK,dK,dK,dK,dK,dK,dK,dK,dK,dK,dK,dK,dK,dK,dK,dK,dK,dK,dK,dK,dK,dK,dK,dK,dK,dK]
noncomputable def ko_S61_l4_1:List Kd:=[dK,dK,dK,dK,.v (.sl tQIIE) (.o 68 none .k),.v .bool .k,dK,dK,dK,dK,dK,dK,dK,dK,dK,dK,dK,dK,dK,dK,dK,dK,dK,dK,dK,dK,dK,dK,dK,dK,dK,dK,dK,dK,dK,dK,dK,dK,dK,dK,dK,dK,dK,dK,dK,dK,dK,dK,dK,dK,dK,dK,dK,dK,dK,dK,dK,dK,dK,dK]
noncomputable def h_S61:Hint:={ tab,hn:=[],loops:=[(4,ks_S61_l4)],outs:=[(4,2,ko_S61_l4_0),(4,1,ko_S61_l4_1)],ords:=[(6,(OT.seq [0,1,2,3,4,5,6,7,8,9] .done)),(7,(OT.seq [1,2,3,5,6,7,8,0,4,9,10] .done)),(10,(OT.seq [0,1,2,3,4,5,6,7,10,8,9,11,12,13] .done))] }
noncomputable def sg_S61:List AK:=[.v (.sl tQIIIIILIE) .k,.v (.sl (.int .i64)) .k]
noncomputable def F_S61 (N:Nat) (x:AVals sg_S61) (kf:Ret→Option Ret):Option Ret:=S61 N x.1 x.2.1 (fun r0 r1=>kf ⟨[⟨(.sl tQIIE),(.o 68 none .k),r0⟩,⟨.bool,.k,r1⟩],[]⟩)
noncomputable def run_S61 (N:Nat):=runOf sg_S61 (F_S61 N)
noncomputable def es_S61 (N:Nat):List Entry:=[⟨71,[.val,.val,.val],(run_S71 N)⟩,⟨72,[.val,.val,.val],(run_S72 N)⟩,⟨61,[.val,.val],(run_S61 N)⟩]
noncomputable def body_S61:Code:=match Try.f61.body with | some c=>c | none=>.skip
noncomputable def L_S61 (N n:Nat) (key:Nat) (S:St) (K:Ks):Option Ret:=bif Nat.beq key 4 then withVals ks_S61_l4 S (fun x=>S61_l4 N (S61 N) x.1 x.2.1 n (K (.x 0) (shape ko_S61_l4_0 ())) (fun z0 z1=>K .r (shape ko_S61_l4_1 (z0,z1,()))) x.2.2.1) else none
theorem L0_S61 (N key:Nat) (S:St) (K:Ks):L_S61 N 0 key S K=none:=(bif0 (withVals0 fun _=>rfl) rfl)
noncomputable def c_S61_0:Code:=(loopsIn body_S61).getD 0 .skip
theorem ls_S61:loopsIn body_S61=[c_S61_0]:=by kernel_rfl
theorem rd_S61_4 (N n:Nat) (x:Vals ks_S61_l4) (K:Ks):L_S61 N (n + 1) 4 (shape ks_S61_l4 x) (h_S61.onOut 4 K)=peRound h_S61 (Orc.of (es_S61 N)) (mixL (L_S61 N) N n 4) c_S61_0 (shape ks_S61_l4 x) (h_S61.onOut 4 K):=by kernel_rfl
theorem fn_S61 (N:Nat) (x:AVals sg_S61) (kf:Ret→Option Ret):F_S61 (N + 1) x kf=peFunc h_S61 (Orc.of (es_S61 N)) (L_S61 N N) Try.f61 (ashape sg_S61 x) kf:=by kernel_rfl
theorem sd_S61 {Γ : Gl} : ∀ N:Nat,Sound Γ Try.prog 61 (run_S61 N)
 | 0=>sound_zero fun al kf=>by
  unfold run_S61 runOf
  split <;> rfl
 | N + 1=>fun_ok2 (hh:=h_S61) mixed tab_ok (es:=es_S61 N) ⟨sd_S71 N,⟨sd_S72 N,⟨sd_S61 N,trivial⟩⟩⟩ (fn:=Try.f61) (body:=body_S61) (by kernel_rfl) (by kernel_rfl) (by kernel_rfl) (by kernel_rfl) (by kernel_rfl) (Lf:=L_S61 N) (L0_S61 N) ls_S61 (round_cons (key:=4) (ks:=ks_S61_l4) (by kernel_rfl) (by kernel_rfl) (rd_S61_4 N) trivial) (N:=N) (by kernel_rfl) (fn_S61 N) (.inl (by kernel_rfl))
noncomputable def h_S45:Hint:={ tab,hn:=[],loops:=[],outs:=[],ords:=[] }
noncomputable def sg_S45:List AK:=[.v (.sl tQIIIIILIE) .k]
noncomputable def F_S45 (N:Nat) (x:AVals sg_S45) (kf:Ret→Option Ret):Option Ret:=S45 N x.1 (fun r0 r1=>kf ⟨[⟨(.sl tQIIE),(.o 68 none .k),r0⟩,⟨.bool,.k,r1⟩],[]⟩)
noncomputable def run_S45 (N:Nat):=runOf sg_S45 (F_S45 N)
noncomputable def es_S45 (N:Nat):List Entry:=[⟨60,[.val],(run_S60 N)⟩,⟨62,[.val],(run_S62 N)⟩,⟨61,[.val,.val],(run_S61 N)⟩]
noncomputable def body_S45:Code:=match Try.f45.body with | some c=>c | none=>.skip
theorem ls_S45:loopsIn body_S45=[]:=by kernel_rfl
theorem fn_S45 (N:Nat) (x:AVals sg_S45) (kf:Ret→Option Ret):F_S45 N x kf=peFunc h_S45 (Orc.of (es_S45 N)) (noL N N) Try.f45 (ashape sg_S45 x) kf:=by kernel_rfl
theorem sd_S45 {Γ : Gl} (N:Nat):Sound Γ Try.prog 45 (run_S45 N):=fun_ok2 (hh:=h_S45) mixed tab_ok (es:=es_S45 N) ⟨sd_S60 N,⟨sd_S62 N,⟨sd_S61 N,trivial⟩⟩⟩ (fn:=Try.f45) (body:=body_S45) (by kernel_rfl) (by kernel_rfl) (by kernel_rfl) (by kernel_rfl) (by kernel_rfl) (Lf:=noL N) (noL0 N) ls_S45 trivial (N:=N) (by kernel_rfl) (fn_S45 N) (.inl (by kernel_rfl))
noncomputable def ks_S63_l7:List Kd:=[.v (.sl tQIILIE) .k,dK,dK,.v (.int .i64) .k,.v (.int .i64) .k,dK,dK,dK,dK,dK,dK,dK,dK,dK,dK,dK,dK,dK,dK,dK,dK,dK,dK,dK,dK,dK,dK,dK,dK,dK,dK,dK,dK,dK,dK,dK,dK,dK,dK,dK,dK,dK,dK,dK,dK,dK,dK,dK,dK,dK,dK,dK,dK,dK,dK,dK,dK,dK,dK,dK,dK,dK,dK,dK,dK,dK,dK,dK,dK,dK,dK,dK,dK,dK,dK,dK,dK,dK,dK,dK,dK,dK,dK,dK,dK,dK,dK,dK,dK,dK,dK,dK]
noncomputable def ko_S63_l7_0:List Kd:=[.v (.sl tQIILIE) .k,dK,dK,.v (.int .i64) .k,dK,dK,dK,dK,dK,dK,dK,dK,dK,dK,dK,dK,dK,dK,dK,dK,dK,dK,dK,dK,dK,dK,dK,dK,dK,dK,dK,dK,dK,dK,dK,dK,dK,dK,dK,dK,dK,dK,dK,dK,dK,dK,dK,dK,dK,dK,dK,dK,dK,dK,dK,dK,dK,dK,dK,dK,dK,dK,dK,dK,dK,dK,dK,dK,dK,dK,dK,dK,dK,dK,dK,dK,dK,dK,dK,dK,dK,dK,dK,dK,dK,dK,dK,dK,dK,dK,dK,dK]
noncomputable def ko_S63_l7_1:List Kd:=[dK,dK,.v .bool .k,dK,dK,dK,dK,dK,dK,dK,dK,dK,dK,dK,dK,dK,dK,dK,dK,dK,dK,dK,dK,dK,dK,dK,dK,dK,dK,dK,dK,dK,dK,dK,dK,dK,dK,dK,dK,dK,dK,dK,dK,dK,dK,dK,dK,dK,dK,dK,dK,dK,dK,dK,dK,dK,dK,dK,dK,dK,dK,dK,dK,dK,dK,dK,dK,dK,dK,dK,dK,dK,dK,dK,dK,dK,dK,dK,dK,dK,dK,dK,dK,dK,dK,dK,dK,dK,dK,dK,dK,dK]
noncomputable def ks_S63_l2:List Kd:=[.v (.sl tQIILIE) .k,dK,dK,.v (.int .i64) .k,dK,dK,dK,dK,dK,dK,dK,dK,dK,dK,dK,dK,dK,dK,dK,dK,dK,dK,dK,dK,dK,dK,dK,dK,dK,dK,dK,dK,dK,dK,dK,dK,dK,dK,dK,dK,dK,dK,dK,dK,dK,dK,dK,dK,dK,dK,dK,dK,dK,dK,dK,dK,dK,dK,dK,dK,dK,dK,dK,dK,dK,dK,dK,dK,dK,dK,dK,dK,dK,dK,dK,dK,dK,dK,dK,dK,dK,dK,dK,dK,dK,dK,dK,dK,dK,dK,dK,dK]
noncomputable def ko_S63_l2_0:List Kd:=[.v (.sl tQIILIE) .k,dK,dK,dK,dK,dK,dK,dK,dK,dK,dK,dK,dK,dK,dK,dK,dK,dK,dK,dK,dK,dK,dK,dK,dK,dK,dK,dK,dK,dK,dK,dK,dK,dK,dK,dK,dK,dK,dK,dK,dK,dK,dK,dK,dK,dK,dK,dK,dK,dK,dK,dK,dK,dK,dK,dK,dK,dK,dK,dK,dK,dK,dK,dK,dK,dK,dK,dK,dK,dK,dK,dK,dK,dK,dK,dK,dK,dK,dK,dK,dK,dK,dK,dK,dK,dK,dK,dK,dK,dK,dK,dK]
noncomputable def ko_S63_l2_1:List Kd:=[dK,dK,.v .bool .k,dK,dK,dK,dK,dK,dK,dK,dK,dK,dK,dK,dK,dK,dK,dK,dK,dK,dK,dK,dK,dK,dK,dK,dK,dK,dK,dK,dK,dK,dK,dK,dK,dK,dK,dK,dK,dK,dK,dK,dK,dK,dK,dK,dK,dK,dK,dK,dK,dK,dK,dK,dK,dK,dK,dK,dK,dK,dK,dK,dK,dK,dK,dK,dK,dK,dK,dK,dK,dK,dK,dK,dK,dK,dK,dK,dK,dK,dK,dK,dK,dK,dK,dK,dK,dK,dK,dK,dK,dK]
noncomputable def h_S63:Hint:={ tab,hn:=[],loops:=[(7,ks_S63_l7),(2,ks_S63_l2)],outs:=[(7,4,ko_S63_l7_0),(7,1,ko_S63_l7_1),(2,2,ko_S63_l2_0),(2,1,ko_S63_l2_1)],ords:=[(4,(OT.seq [0,1,2,3,4,5,6,7,8,9,10,11,12,13,14,15,16,17,18,19,20,21,22,23,24,25,26,27,28,29,30,31,32,33] .done)),(9,(OT.seq [0,1,2,3,4,5,6,7,8,9,10,11,12,13,14,15,16,17,18,19,20,21,22,23,24,25,26,27,28,29,30,31,32,33] .done))] }
noncomputable def sg_S63:List AK:=[.v (.sl tQIILIE) .k]
noncomputable def F_S63 (N:Nat) (x:AVals sg_S63) (kf:Ret→Option Ret):Option Ret:=S63 N x.1 (fun r0=>kf ⟨[⟨.bool,.k,r0⟩],[]⟩)
noncomputable def run_S63 (N:Nat):=runOf sg_S63 (F_S63 N)
noncomputable def es_S63 (N:Nat):List Entry:=[⟨69,[.val,.val,.val],(run_S69 N)⟩]
noncomputable def body_S63:Code:=match Try.f63.body with | some c=>c | none=>.skip
noncomputable def L_S63 (N n:Nat) (key:Nat) (S:St) (K:Ks):Option Ret:=bif Nat.beq key 2 then withVals ks_S63_l2 S (fun x=>S63_l2 N x.1 n (K (.x 0) (shape ko_S63_l2_0 (x.1,()))) (fun z0=>K .r (shape ko_S63_l2_1 (z0,()))) x.2.1) else bif Nat.beq key 7 then withVals ks_S63_l7 S (fun x=>S63_l7 N x.1 x.2.1 n (K (.x 2) (shape ko_S63_l7_0 (x.1,x.2.1,()))) (fun z0=>K .r (shape ko_S63_l7_1 (z0,()))) x.2.2.1) else none
theorem L0_S63 (N key:Nat) (S:St) (K:Ks):L_S63 N 0 key S K=none:=(bif0 (withVals0 fun _=>rfl) (bif0 (withVals0 fun _=>rfl) rfl))
noncomputable def c_S63_0:Code:=(loopsIn body_S63).getD 0 .skip
noncomputable def c_S63_1:Code:=(loopsIn body_S63).getD 1 .skip
theorem ls_S63:loopsIn body_S63=[c_S63_0,c_S63_1]:=by kernel_rfl
theorem rd_S63_7 (N n:Nat) (x:Vals ks_S63_l7) (K:Ks):L_S63 N (n + 1) 7 (shape ks_S63_l7 x) (h_S63.onOut 7 K)=peRound h_S63 (Orc.of (es_S63 N)) (mixL (L_S63 N) N n 7) c_S63_1 (shape ks_S63_l7 x) (h_S63.onOut 7 K):=by kernel_rfl
theorem rd_S63_2 (N n:Nat) (x:Vals ks_S63_l2) (K:Ks):L_S63 N (n + 1) 2 (shape ks_S63_l2 x) (h_S63.onOut 2 K)=peRound h_S63 (Orc.of (es_S63 N)) (mixL (L_S63 N) N n 2) c_S63_0 (shape ks_S63_l2 x) (h_S63.onOut 2 K):=by kernel_rfl
theorem fn_S63 (N:Nat) (x:AVals sg_S63) (kf:Ret→Option Ret):F_S63 N x kf=peFunc h_S63 (Orc.of (es_S63 N)) (L_S63 N N) Try.f63 (ashape sg_S63 x) kf:=by kernel_rfl
theorem sd_S63 {Γ : Gl} (N:Nat):Sound Γ Try.prog 63 (run_S63 N):=fun_ok2 (hh:=h_S63) mixed tab_ok (es:=es_S63 N) ⟨sd_S69 N,trivial⟩ (fn:=Try.f63) (body:=body_S63) (by kernel_rfl) (by kernel_rfl) (by kernel_rfl) (by kernel_rfl) (by kernel_rfl) (Lf:=L_S63 N) (L0_S63 N) ls_S63 (round_cons (key:=2) (ks:=ks_S63_l2) (by kernel_rfl) (by kernel_rfl) (rd_S63_2 N) (round_cons (key:=7) (ks:=ks_S63_l7) (by kernel_rfl) (by kernel_rfl) (rd_S63_7 N) trivial)) (N:=N) (by kernel_rfl) (fn_S63 N) (.inl (by kernel_rfl))
noncomputable def h_S75:Hint:={ tab,hn:=[],loops:=[],outs:=[],ords:=[(3,(OT.seq [0,1,2,3,4,5,6,7,8,9,10,11,12,13,14,15,16,17,18,19,20,21,22,23,24,25,26,27,28,29,30,31,32,33,34,35,36,37,38,39,40,41,42] .done))] }
noncomputable def sg_S75:List AK:=[.v (.sl tQIIIIILIE) .k,.v tQIILIE .k,.v tQIIE .k]
noncomputable def F_S75 (N:Nat) (x:AVals sg_S75) (kf:Ret→Option Ret):Option Ret:=S75 N x.1 x.2.1 x.2.2.1 (fun r0=>kf ⟨[⟨.bool,.k,r0⟩],[]⟩)
noncomputable def run_S75 (N:Nat):=runOf sg_S75 (F_S75 N)
noncomputable def es_S75 (N:Nat):List Entry:=[⟨68,[.val,.val],(run_S68 N)⟩,⟨74,[.val,.val],(run_S74 N)⟩]
noncomputable def body_S75:Code:=match Try.f75.body with | some c=>c | none=>.skip
theorem ls_S75:loopsIn body_S75=[]:=by kernel_rfl
theorem fn_S75 (N:Nat) (x:AVals sg_S75) (kf:Ret→Option Ret):F_S75 N x kf=peFunc h_S75 (Orc.of (es_S75 N)) (noL N N) Try.f75 (ashape sg_S75 x) kf:=by kernel_rfl
theorem sd_S75 {Γ : Gl} (N:Nat):Sound Γ Try.prog 75 (run_S75 N):=fun_ok2 (hh:=h_S75) mixed tab_ok (es:=es_S75 N) ⟨sd_S68 N,⟨sd_S74 N,trivial⟩⟩ (fn:=Try.f75) (body:=body_S75) (by kernel_rfl) (by kernel_rfl) (by kernel_rfl) (by kernel_rfl) (by kernel_rfl) (Lf:=noL N) (noL0 N) ls_S75 trivial (N:=N) (by kernel_rfl) (fn_S75 N) (.inl (by kernel_rfl))
noncomputable def ks_S64_l4:List Kd:=[.v (.sl tQIIIIILIE) .k,.v (.sl tQIILIE) .k,.v (.sl tQIIE) .k,.v (.sl (.int .i64)) .k,dK,dK,dK,dK,dK,dK,.v (.int .i64) .k,dK,dK,dK,dK,dK,dK,dK,dK,dK,dK,dK,dK,dK,dK,dK,dK,dK,dK,dK,dK,dK,dK,dK,dK,dK,dK,dK,dK,dK,dK,dK,dK,dK,dK,dK,dK,dK,dK,dK,dK,dK,dK,dK,dK,dK,dK,dK,dK,dK,dK,dK,dK,dK,dK,dK,dK,dK,dK,dK]
noncomputable def ko_S64_l4_0:List Kd:=[dK,dK,dK,dK,dK,dK,dK,dK,dK,dK,dK,dK,dK,dK,dK,dK,dK,dK,dK,dK,dK,dK,dK,dK,dK,dK,dK,dK,dK,dK,dK,dK,dK,dK,dK,dK,dK,dK,dK,dK,dK,dK,dK,dK,dK,dK,dK,dK,dK,dK,dK,dK,dK,dK,dK,dK,dK,dK,dK,dK,dK,dK,dK,dK,dK,dK,dK,dK,dK,dK]
noncomputable def ko_S64_l4_1:List Kd:=[dK,dK,dK,dK,dK,dK,dK,dK,.v (.sl (.int .i64)) (.o 3 none .k),.v .bool .k,dK,dK,dK,dK,dK,dK,dK,dK,dK,dK,dK,dK,dK,dK,dK,dK,dK,dK,dK,dK,dK,dK,dK,dK,dK,dK,dK,dK,dK,dK,dK,dK,dK,dK,dK,dK,dK,dK,dK,dK,dK,dK,dK,dK,dK,dK,dK,dK,dK,dK,dK,dK,dK,dK,dK,dK,dK,dK,dK,dK]
noncomputable def h_S64:Hint:={ tab,hn:=[],loops:=[(4,ks_S64_l4)],outs:=[(4,2,ko_S64_l4_0),(4,1,ko_S64_l4_1)],ords:=[(6,(OT.seq [0,1,2,3,4,5,6,7,8,9,10,11,12,13,14,15,16,17,18] .done)),(7,(OT.seq [5,0,1,2,3,7,8,9,10] (.par [4,6,11,12] [[47],[53,54],[54,55]] (OT.seq [13,14,15,16,17,18,19] .done))))] }
noncomputable def sg_S64:List AK:=[.v (.sl tQIIIIILIE) .k,.v (.sl tQIILIE) .k,.v (.sl tQIIE) .k,.v (.sl (.int .i64)) .k]
noncomputable def F_S64 (N:Nat) (x:AVals sg_S64) (kf:Ret→Option Ret):Option Ret:=S64 N x.1 x.2.1 x.2.2.1 x.2.2.2.1 (fun r0 r1=>kf ⟨[⟨(.sl (.int .i64)),(.o 3 none .k),r0⟩,⟨.bool,.k,r1⟩],[]⟩)
noncomputable def run_S64 (N:Nat):=runOf sg_S64 (F_S64 N)
noncomputable def es_S64 (N:Nat):List Entry:=[⟨74,[.val,.val],(run_S74 N)⟩,⟨75,[.val,.val,.val],(run_S75 N)⟩,⟨64,[.val,.val,.val,.val],(run_S64 N)⟩]
noncomputable def body_S64:Code:=match Try.f64.body with | some c=>c | none=>.skip
noncomputable def L_S64 (N n:Nat) (key:Nat) (S:St) (K:Ks):Option Ret:=bif Nat.beq key 4 then withVals ks_S64_l4 S (fun x=>S64_l4 N (S64 N) x.1 x.2.1 x.2.2.1 x.2.2.2.1 n (K (.x 0) (shape ko_S64_l4_0 ())) (fun z0 z1=>K .r (shape ko_S64_l4_1 (z0,z1,()))) x.2.2.2.2.1) else none
theorem L0_S64 (N key:Nat) (S:St) (K:Ks):L_S64 N 0 key S K=none:=(bif0 (withVals0 fun _=>rfl) rfl)
noncomputable def c_S64_0:Code:=(loopsIn body_S64).getD 0 .skip
theorem ls_S64:loopsIn body_S64=[c_S64_0]:=by kernel_rfl
theorem rd_S64_4 (N n:Nat) (x:Vals ks_S64_l4) (K:Ks):L_S64 N (n + 1) 4 (shape ks_S64_l4 x) (h_S64.onOut 4 K)=peRound h_S64 (Orc.of (es_S64 N)) (mixL (L_S64 N) N n 4) c_S64_0 (shape ks_S64_l4 x) (h_S64.onOut 4 K):=by kernel_rfl
theorem fn_S64 (N:Nat) (x:AVals sg_S64) (kf:Ret→Option Ret):F_S64 (N + 1) x kf=peFunc h_S64 (Orc.of (es_S64 N)) (L_S64 N N) Try.f64 (ashape sg_S64 x) kf:=by kernel_rfl
theorem sd_S64 {Γ : Gl} : ∀ N:Nat,Sound Γ Try.prog 64 (run_S64 N)
 | 0=>sound_zero fun al kf=>by
  unfold run_S64 runOf
  split <;> rfl
 | N + 1=>fun_ok2 (hh:=h_S64) mixed tab_ok (es:=es_S64 N) ⟨sd_S74 N,⟨sd_S75 N,⟨sd_S64 N,trivial⟩⟩⟩ (fn:=Try.f64) (body:=body_S64) (by kernel_rfl) (by kernel_rfl) (by kernel_rfl) (by kernel_rfl) (by kernel_rfl) (Lf:=L_S64 N) (L0_S64 N) ls_S64 (round_cons (key:=4) (ks:=ks_S64_l4) (by kernel_rfl) (by kernel_rfl) (rd_S64_4 N) trivial) (N:=N) (by kernel_rfl) (fn_S64 N) (.inl (by kernel_rfl))
noncomputable def h_S46:Hint:={ tab,hn:=[],loops:=[],outs:=[],ords:=[] }
noncomputable def sg_S46:List AK:=[.v (.sl tQIIIIILIE) .k,.v (.sl tQIILIE) .k,.v (.sl tQIIE) .k]
noncomputable def F_S46 (N:Nat) (x:AVals sg_S46) (kf:Ret→Option Ret):Option Ret:=S46 N x.1 x.2.1 x.2.2.1 (fun r0 r1=>kf ⟨[⟨(.sl (.int .i64)),(.o 3 none .k),r0⟩,⟨.bool,.k,r1⟩],[]⟩)
noncomputable def run_S46 (N:Nat):=runOf sg_S46 (F_S46 N)
noncomputable def es_S46 (N:Nat):List Entry:=[⟨63,[.val],(run_S63 N)⟩,⟨60,[.val],(run_S60 N)⟩,⟨64,[.val,.val,.val,.val],(run_S64 N)⟩]
noncomputable def body_S46:Code:=match Try.f46.body with | some c=>c | none=>.skip
theorem ls_S46:loopsIn body_S46=[]:=by kernel_rfl
theorem fn_S46 (N:Nat) (x:AVals sg_S46) (kf:Ret→Option Ret):F_S46 N x kf=peFunc h_S46 (Orc.of (es_S46 N)) (noL N N) Try.f46 (ashape sg_S46 x) kf:=by kernel_rfl
theorem sd_S46 {Γ : Gl} (N:Nat):Sound Γ Try.prog 46 (run_S46 N):=fun_ok2 (hh:=h_S46) mixed tab_ok (es:=es_S46 N) ⟨sd_S63 N,⟨sd_S60 N,⟨sd_S64 N,trivial⟩⟩⟩ (fn:=Try.f46) (body:=body_S46) (by kernel_rfl) (by kernel_rfl) (by kernel_rfl) (by kernel_rfl) (by kernel_rfl) (Lf:=noL N) (noL0 N) ls_S46 trivial (N:=N) (by kernel_rfl) (fn_S46 N) (.inl (by kernel_rfl))
noncomputable def h_S65:Hint:={ tab,hn:=[],loops:=[],outs:=[],ords:=[],lent:=some (0,false) }
noncomputable def sg_S65:List AK:=[.v (.ptr tQLIIIE) (.o 80 (some 0) .k),.v (.sl (.int .i64)) .k]
noncomputable def F_S65 (N:Nat) (x:AVals sg_S65) (kf:Ret→Option Ret):Option Ret:=S65 N x.1 x.2.1 (fun r0 z=>kf ⟨[⟨(.int .i64),.k,r0⟩],[⟨(.ptr tQLIIIE),(.o 80 (some 0) .k),z⟩]⟩)
noncomputable def run_S65 (N:Nat):=runOf sg_S65 (F_S65 N)
noncomputable def es_S65 (N:Nat):List Entry:=[⟨25,[.lend,.val],(run_S25 N)⟩]
noncomputable def body_S65:Code:=match Try.f65.body with | some c=>c | none=>.skip
theorem ls_S65:loopsIn body_S65=[]:=by kernel_rfl
theorem fn_S65 (N:Nat) (x:AVals sg_S65) (kf:Ret→Option Ret):F_S65 N x kf=peFunc h_S65 (Orc.of (es_S65 N)) (noL N N) Try.f65 (ashape sg_S65 x) kf:=by kernel_rfl
theorem sd_S65 {Γ : Gl} (N:Nat):Sound Γ Try.prog 65 (run_S65 N):=fun_ok2 (hh:=h_S65) mixed tab_ok (es:=es_S65 N) ⟨sd_S25 N,trivial⟩ (fn:=Try.f65) (body:=body_S65) (by kernel_rfl) (by kernel_rfl) (by kernel_rfl) (by kernel_rfl) (by kernel_rfl) (Lf:=noL N) (noL0 N) ls_S65 trivial (N:=N) (by kernel_rfl) (fn_S65 N) (.inl (by kernel_rfl))
noncomputable def h_S48:Hint:={ tab,hn:=[(18,.k),(27,.k),(36,.k),(58,.k)],loops:=[],outs:=[],ords:=[],lent:=some (0,false) }
noncomputable def sg_S48:List AK:=[.v (.ptr tQLIIIE) (.o 80 (some 0) .k)]
noncomputable def F_S48 (N:Nat) (x:AVals sg_S48) (kf:Ret→Option Ret):Option Ret:=S48 N x.1 (fun r0 z=>kf ⟨[⟨(.sl tQIIIIILIE),(.o 59 none (.p .k (.p .k (.p .k (.p .k (.p .k (.o 3 none .k))))))),r0⟩],[⟨(.ptr tQLIIIE),(.o 80 (some 0) .k),z⟩]⟩)
noncomputable def run_S48 (N:Nat):=runOf sg_S48 (F_S48 N)
noncomputable def es_S48 (N:Nat):List Entry:=[⟨42,[.lend],(run_S42 N)⟩,⟨25,[.lend,.val],(run_S25 N)⟩,⟨65,[.lend,.val],(run_S65 N)⟩]
noncomputable def body_S48:Code:=match Try.f48.body with | some c=>c | none=>.skip
theorem ls_S48:loopsIn body_S48=[]:=by kernel_rfl
theorem fn_S48 (N:Nat) (x:AVals sg_S48) (kf:Ret→Option Ret):F_S48 N x kf=peFunc h_S48 (Orc.of (es_S48 N)) (noL N N) Try.f48 (ashape sg_S48 x) kf:=by kernel_rfl
theorem sd_S48 {Γ : Gl} (N:Nat):Sound Γ Try.prog 48 (run_S48 N):=fun_ok2 (hh:=h_S48) mixed tab_ok (es:=es_S48 N) ⟨sd_S42 N,⟨sd_S25 N,⟨sd_S65 N,trivial⟩⟩⟩ (fn:=Try.f48) (body:=body_S48) (by kernel_rfl) (by kernel_rfl) (by kernel_rfl) (by kernel_rfl) (by kernel_rfl) (Lf:=noL N) (noL0 N) ls_S48 trivial (N:=N) (by kernel_rfl) (fn_S48 N) (.inl (by kernel_rfl))
noncomputable def h_S49:Hint:={ tab,hn:=[(18,.k),(27,.k)],loops:=[],outs:=[],ords:=[],lent:=some (0,false) }
noncomputable def sg_S49:List AK:=[.v (.ptr tQLIIIE) (.o 80 (some 0) .k)]
noncomputable def F_S49 (N:Nat) (x:AVals sg_S49) (kf:Ret→Option Ret):Option Ret:=S49 N x.1 (fun r0 z=>kf ⟨[⟨(.sl tQIILIE),(.o 64 none (.p .k (.p .k (.o 3 none .k)))),r0⟩],[⟨(.ptr tQLIIIE),(.o 80 (some 0) .k),z⟩]⟩)
noncomputable def run_S49 (N:Nat):=runOf sg_S49 (F_S49 N)
noncomputable def es_S49 (N:Nat):List Entry:=[⟨43,[.lend],(run_S43 N)⟩,⟨25,[.lend,.val],(run_S25 N)⟩,⟨65,[.lend,.val],(run_S65 N)⟩]
noncomputable def body_S49:Code:=match Try.f49.body with | some c=>c | none=>.skip
theorem ls_S49:loopsIn body_S49=[]:=by kernel_rfl
theorem fn_S49 (N:Nat) (x:AVals sg_S49) (kf:Ret→Option Ret):F_S49 N x kf=peFunc h_S49 (Orc.of (es_S49 N)) (noL N N) Try.f49 (ashape sg_S49 x) kf:=by kernel_rfl
theorem sd_S49 {Γ : Gl} (N:Nat):Sound Γ Try.prog 49 (run_S49 N):=fun_ok2 (hh:=h_S49) mixed tab_ok (es:=es_S49 N) ⟨sd_S43 N,⟨sd_S25 N,⟨sd_S65 N,trivial⟩⟩⟩ (fn:=Try.f49) (body:=body_S49) (by kernel_rfl) (by kernel_rfl) (by kernel_rfl) (by kernel_rfl) (by kernel_rfl) (Lf:=noL N) (noL0 N) ls_S49 trivial (N:=N) (by kernel_rfl) (fn_S49 N) (.inl (by kernel_rfl))
noncomputable def h_S77:Hint:={ tab,hn:=[],loops:=[],outs:=[],ords:=[] }
noncomputable def sg_S77:List AK:=[.v (.sl tQIIIIE) .k]
noncomputable def F_S77 (N:Nat) (x:AVals sg_S77) (kf:Ret→Option Ret):Option Ret:=S77 N x.1 (fun r0=>kf ⟨[⟨(.int .i64),.k,r0⟩],[]⟩)
noncomputable def run_S77 (N:Nat):=runOf sg_S77 (F_S77 N)
noncomputable def es_S77 (N:Nat):List Entry:=[]
noncomputable def body_S77:Code:=match Try.f77.body with | some c=>c | none=>.skip
theorem ls_S77:loopsIn body_S77=[]:=by kernel_rfl
theorem fn_S77 (N:Nat) (x:AVals sg_S77) (kf:Ret→Option Ret):F_S77 N x kf=peFunc h_S77 (Orc.of (es_S77 N)) (noL N N) Try.f77 (ashape sg_S77 x) kf:=by kernel_rfl
theorem sd_S77 {Γ : Gl} (N:Nat):Sound Γ Try.prog 77 (run_S77 N):=fun_ok2 (hh:=h_S77) mixed tab_ok (es:=es_S77 N) trivial (fn:=Try.f77) (body:=body_S77) (by kernel_rfl) (by kernel_rfl) (by kernel_rfl) (by kernel_rfl) (by kernel_rfl) (Lf:=noL N) (noL0 N) ls_S77 trivial (N:=N) (by kernel_rfl) (fn_S77 N) (.inl (by kernel_rfl))
noncomputable def h_S82:Hint:={ tab,hn:=[],loops:=[],outs:=[],ords:=[] }
noncomputable def sg_S82:List AK:=[.v (.int .i64) .k,.v (.int .i64) .k]
noncomputable def F_S82 (N:Nat) (x:AVals sg_S82) (kf:Ret→Option Ret):Option Ret:=S82 N x.1 x.2.1 (fun r0=>kf ⟨[⟨(.int .i64),.k,r0⟩],[]⟩)
noncomputable def run_S82 (N:Nat):=runOf sg_S82 (F_S82 N)
noncomputable def es_S82 (N:Nat):List Entry:=[⟨69,[.val,.val,.val],(run_S69 N)⟩]
noncomputable def body_S82:Code:=match Try.f82.body with | some c=>c | none=>.skip
theorem ls_S82:loopsIn body_S82=[]:=by kernel_rfl
theorem fn_S82 (N:Nat) (x:AVals sg_S82) (kf:Ret→Option Ret):F_S82 N x kf=peFunc h_S82 (Orc.of (es_S82 N)) (noL N N) Try.f82 (ashape sg_S82 x) kf:=by kernel_rfl
theorem sd_S82 {Γ : Gl} (N:Nat):Sound Γ Try.prog 82 (run_S82 N):=fun_ok2 (hh:=h_S82) mixed tab_ok (es:=es_S82 N) ⟨sd_S69 N,trivial⟩ (fn:=Try.f82) (body:=body_S82) (by kernel_rfl) (by kernel_rfl) (by kernel_rfl) (by kernel_rfl) (by kernel_rfl) (Lf:=noL N) (noL0 N) ls_S82 trivial (N:=N) (by kernel_rfl) (fn_S82 N) (.inl (by kernel_rfl))
noncomputable def ks_S81_l3:List Kd:=[.v (.sl (.int .i64)) .k,dK,dK,.v (.int .i64) .k,.v (.int .i64) .k,dK,dK,dK,dK,dK,dK,dK,dK,dK,dK,dK,dK,dK,dK,dK,dK,dK]
noncomputable def ko_S81_l3_0:List Kd:=[dK,dK,dK,.v (.int .i64) .k,dK,dK,dK,dK,dK,dK,dK,dK,dK,dK,dK,dK,dK,dK,dK,dK,dK,dK]
noncomputable def h_S81:Hint:={ tab,hn:=[],loops:=[(3,ks_S81_l3)],outs:=[(3,2,ko_S81_l3_0)],ords:=[] }
noncomputable def sg_S81:List AK:=[.v (.sl (.int .i64)) .k]
noncomputable def F_S81 (N:Nat) (x:AVals sg_S81) (kf:Ret→Option Ret):Option Ret:=S81 N x.1 (fun r0=>kf ⟨[⟨(.int .i64),.k,r0⟩],[]⟩)
noncomputable def run_S81 (N:Nat):=runOf sg_S81 (F_S81 N)
noncomputable def es_S81 (N:Nat):List Entry:=[⟨82,[.val,.val],(run_S82 N)⟩]
noncomputable def body_S81:Code:=match Try.f81.body with | some c=>c | none=>.skip
noncomputable def L_S81 (N n:Nat) (key:Nat) (S:St) (K:Ks):Option Ret:=bif Nat.beq key 3 then withVals ks_S81_l3 S (fun x=>S81_l3 N x.1 n (fun z0=>K (.x 0) (shape ko_S81_l3_0 (z0,()))) x.2.1 x.2.2.1) else none
theorem L0_S81 (N key:Nat) (S:St) (K:Ks):L_S81 N 0 key S K=none:=(bif0 (withVals0 fun _=>rfl) rfl)
noncomputable def c_S81_0:Code:=(loopsIn body_S81).getD 0 .skip
theorem ls_S81:loopsIn body_S81=[c_S81_0]:=by kernel_rfl
theorem rd_S81_3 (N n:Nat) (x:Vals ks_S81_l3) (K:Ks):L_S81 N (n + 1) 3 (shape ks_S81_l3 x) (h_S81.onOut 3 K)=peRound h_S81 (Orc.of (es_S81 N)) (mixL (L_S81 N) N n 3) c_S81_0 (shape ks_S81_l3 x) (h_S81.onOut 3 K):=by kernel_rfl
theorem fn_S81 (N:Nat) (x:AVals sg_S81) (kf:Ret→Option Ret):F_S81 N x kf=peFunc h_S81 (Orc.of (es_S81 N)) (L_S81 N N) Try.f81 (ashape sg_S81 x) kf:=by kernel_rfl
theorem sd_S81 {Γ : Gl} (N:Nat):Sound Γ Try.prog 81 (run_S81 N):=fun_ok2 (hh:=h_S81) mixed tab_ok (es:=es_S81 N) ⟨sd_S82 N,trivial⟩ (fn:=Try.f81) (body:=body_S81) (by kernel_rfl) (by kernel_rfl) (by kernel_rfl) (by kernel_rfl) (by kernel_rfl) (Lf:=L_S81 N) (L0_S81 N) ls_S81 (round_cons (key:=3) (ks:=ks_S81_l3) (by kernel_rfl) (by kernel_rfl) (rd_S81_3 N) trivial) (N:=N) (by kernel_rfl) (fn_S81 N) (.inl (by kernel_rfl))
noncomputable def h_S76:Hint:={ tab,hn:=[],loops:=[],outs:=[],ords:=[] }
noncomputable def sg_S76:List AK:=[.v (.int .i64) .k,.v tQIIIIE .k]
noncomputable def F_S76 (N:Nat) (x:AVals sg_S76) (kf:Ret→Option Ret):Option Ret:=S76 N x.1 x.2.1 (fun r0=>kf ⟨[⟨(.int .i64),.k,r0⟩],[]⟩)
noncomputable def run_S76 (N:Nat):=runOf sg_S76 (F_S76 N)
noncomputable def es_S76 (N:Nat):List Entry:=[⟨81,[.val],(run_S81 N)⟩]
noncomputable def body_S76:Code:=match Try.f76.body with | some c=>c | none=>.skip
theorem ls_S76:loopsIn body_S76=[]:=by kernel_rfl
theorem fn_S76 (N:Nat) (x:AVals sg_S76) (kf:Ret→Option Ret):F_S76 N x kf=peFunc h_S76 (Orc.of (es_S76 N)) (noL N N) Try.f76 (ashape sg_S76 x) kf:=by kernel_rfl
theorem sd_S76 {Γ : Gl} (N:Nat):Sound Γ Try.prog 76 (run_S76 N):=fun_ok2 (hh:=h_S76) mixed tab_ok (es:=es_S76 N) ⟨sd_S81 N,trivial⟩ (fn:=Try.f76) (body:=body_S76) (by kernel_rfl) (by kernel_rfl) (by kernel_rfl) (by kernel_rfl) (by kernel_rfl) (Lf:=noL N) (noL0 N) ls_S76 trivial (N:=N) (by kernel_rfl) (fn_S76 N) (.inl (by kernel_rfl))
noncomputable def ks_S78_l3:List Kd:=[.v (.sl tQIIIIE) .k,dK,dK,.v (.int .i64) .k,.v (.int .i64) .k,dK,dK,dK,dK,dK,dK,dK,dK,dK,dK,dK,dK,dK,dK,dK,dK,dK,dK,dK,dK,dK,dK,dK,dK,dK,dK,dK,dK,dK,dK,dK,dK,dK,dK,dK,dK,dK,dK,dK,dK,dK,dK,dK,dK,dK]
noncomputable def ko_S78_l3_0:List Kd:=[.v (.sl tQIIIIE) .k,dK,dK,dK,dK,dK,dK,dK,dK,dK,dK,dK,dK,dK,dK,dK,dK,dK,dK,dK,dK,dK,dK,dK,dK,dK,dK,dK,dK,dK,dK,dK,dK,dK,dK,dK,dK,dK,dK,dK,dK,dK,dK,dK,dK,dK,dK,dK,dK,dK]
noncomputable def ko_S78_l3_1:List Kd:=[dK,dK,.v .bool .k,dK,dK,dK,dK,dK,dK,dK,dK,dK,dK,dK,dK,dK,dK,dK,dK,dK,dK,dK,dK,dK,dK,dK,dK,dK,dK,dK,dK,dK,dK,dK,dK,dK,dK,dK,dK,dK,dK,dK,dK,dK,dK,dK,dK,dK,dK,dK]
noncomputable def h_S78:Hint:={ tab,hn:=[],loops:=[(3,ks_S78_l3)],outs:=[(3,2,ko_S78_l3_0),(3,1,ko_S78_l3_1)],ords:=[] }
noncomputable def sg_S78:List AK:=[.v (.sl tQIIIIE) .k]
noncomputable def F_S78 (N:Nat) (x:AVals sg_S78) (kf:Ret→Option Ret):Option Ret:=S78 N x.1 (fun r0=>kf ⟨[⟨.bool,.k,r0⟩],[]⟩)
noncomputable def run_S78 (N:Nat):=runOf sg_S78 (F_S78 N)
noncomputable def es_S78 (N:Nat):List Entry:=[⟨76,[.val,.val],(run_S76 N)⟩,⟨69,[.val,.val,.val],(run_S69 N)⟩]
noncomputable def body_S78:Code:=match Try.f78.body with | some c=>c | none=>.skip
noncomputable def L_S78 (N n:Nat) (key:Nat) (S:St) (K:Ks):Option Ret:=bif Nat.beq key 3 then withVals ks_S78_l3 S (fun x=>S78_l3 N x.1 n (K (.x 0) (shape ko_S78_l3_0 (x.1,()))) (fun z0=>K .r (shape ko_S78_l3_1 (z0,()))) x.2.1 x.2.2.1) else none
theorem L0_S78 (N key:Nat) (S:St) (K:Ks):L_S78 N 0 key S K=none:=(bif0 (withVals0 fun _=>rfl) rfl)
noncomputable def c_S78_0:Code:=(loopsIn body_S78).getD 0 .skip
theorem ls_S78:loopsIn body_S78=[c_S78_0]:=by kernel_rfl
theorem rd_S78_3 (N n:Nat) (x:Vals ks_S78_l3) (K:Ks):L_S78 N (n + 1) 3 (shape ks_S78_l3 x) (h_S78.onOut 3 K)=peRound h_S78 (Orc.of (es_S78 N)) (mixL (L_S78 N) N n 3) c_S78_0 (shape ks_S78_l3 x) (h_S78.onOut 3 K):=by kernel_rfl
theorem fn_S78 (N:Nat) (x:AVals sg_S78) (kf:Ret→Option Ret):F_S78 N x kf=peFunc h_S78 (Orc.of (es_S78 N)) (L_S78 N N) Try.f78 (ashape sg_S78 x) kf:=by kernel_rfl
theorem sd_S78 {Γ : Gl} (N:Nat):Sound Γ Try.prog 78 (run_S78 N):=fun_ok2 (hh:=h_S78) mixed tab_ok (es:=es_S78 N) ⟨sd_S76 N,⟨sd_S69 N,trivial⟩⟩ (fn:=Try.f78) (body:=body_S78) (by kernel_rfl) (by kernel_rfl) (by kernel_rfl) (by kernel_rfl) (by kernel_rfl) (Lf:=L_S78 N) (L0_S78 N) ls_S78 (round_cons (key:=3) (ks:=ks_S78_l3) (by kernel_rfl) (by kernel_rfl) (rd_S78_3 N) trivial) (N:=N) (by kernel_rfl) (fn_S78 N) (.inl (by kernel_rfl))
noncomputable def h_S66:Hint:={ tab,hn:=[],loops:=[],outs:=[],ords:=[(2,(OT.seq [0,2,1,3,4,5] .done)),(3,(OT.seq [1] (.any [0,2,3,4] (OT.seq [5,6] .done))))] }
noncomputable def sg_S66:List AK:=[.v (.sl tQIIIIE) .k,.v (.int .i64) .k,.v (.int .i64) .k]
noncomputable def F_S66 (N:Nat) (x:AVals sg_S66) (kf:Ret→Option Ret):Option Ret:=S66 N x.1 x.2.1 x.2.2.1 (fun r0 r1=>kf ⟨[⟨(.sl tQIIIIE),(.o 56 none .k),r0⟩,⟨.bool,.k,r1⟩],[]⟩)
noncomputable def run_S66 (N:Nat):=runOf sg_S66 (F_S66 N)
noncomputable def es_S66 (N:Nat):List Entry:=[⟨77,[.val],(run_S77 N)⟩,⟨76,[.val,.val],(run_S76 N)⟩,⟨78,[.val],(run_S78 N)⟩]
noncomputable def body_S66:Code:=match Try.f66.body with | some c=>c | none=>.skip
theorem ls_S66:loopsIn body_S66=[]:=by kernel_rfl
theorem fn_S66 (N:Nat) (x:AVals sg_S66) (kf:Ret→Option Ret):F_S66 N x kf=peFunc h_S66 (Orc.of (es_S66 N)) (noL N N) Try.f66 (ashape sg_S66 x) kf:=by kernel_rfl
theorem sd_S66 {Γ : Gl} (N:Nat):Sound Γ Try.prog 66 (run_S66 N):=fun_ok2 (hh:=h_S66) mixed tab_ok (es:=es_S66 N) ⟨sd_S77 N,⟨sd_S76 N,⟨sd_S78 N,trivial⟩⟩⟩ (fn:=Try.f66) (body:=body_S66) (by kernel_rfl) (by kernel_rfl) (by kernel_rfl) (by kernel_rfl) (by kernel_rfl) (Lf:=noL N) (noL0 N) ls_S66 trivial (N:=N) (by kernel_rfl) (fn_S66 N) (.inl (by kernel_rfl))
noncomputable def ks_S50_l3:List Kd:=[.v (.ptr tQLIIIE) (.o 80 (some 0) .k),dK,dK,.v (.sl tQIIIIE) (.o 56 none .k),.v (.int .i64) .k,dK,dK,dK,dK,dK,dK,dK,dK,dK,dK,dK,dK,dK,dK,dK,dK,dK,dK,dK,dK,dK,dK,dK,dK,dK,dK,dK,dK,dK,dK,dK,dK,dK,dK,dK,dK,dK,dK,dK,dK,dK,dK,dK,dK,dK,dK,dK,dK,dK,dK,dK,dK,dK,dK,dK,dK,dK,dK,dK,dK,dK]
noncomputable def ko_S50_l3_0:List Kd:=[.v (.ptr tQLIIIE) (.o 80 (some 0) .k),dK,dK,.v (.sl tQIIIIE) (.o 56 none .k),dK,dK,dK,dK,dK,dK,dK,dK,dK,dK,dK,dK,dK,dK,dK,dK,dK,dK,dK,dK,dK,dK,dK,dK,dK,dK,dK,dK,dK,dK,dK,dK,dK,dK,dK,dK,dK,dK,dK,dK,dK,dK,dK,dK,dK,dK,dK,dK,dK,dK,dK,dK,dK,dK,dK,dK,dK,dK,dK,dK,dK,dK]
noncomputable def h_S50:Hint:={ tab,hn:=[(37,.k)],loops:=[(3,ks_S50_l3)],outs:=[(3,2,ko_S50_l3_0)],ords:=[],lent:=some (0,false) }
noncomputable def sg_S50:List AK:=[.v (.ptr tQLIIIE) (.o 80 (some 0) .k)]
noncomputable def F_S50 (N:Nat) (x:AVals sg_S50) (kf:Ret→Option Ret):Option Ret:=S50 N x.1 (fun r0 z=>kf ⟨[⟨(.sl tQIIIIE),(.o 56 none .k),r0⟩],[⟨(.ptr tQLIIIE),(.o 80 (some 0) .k),z⟩]⟩)
noncomputable def run_S50 (N:Nat):=runOf sg_S50 (F_S50 N)
noncomputable def es_S50 (N:Nat):List Entry:=[⟨25,[.lend,.val],(run_S25 N)⟩,⟨66,[.val,.val,.val],(run_S66 N)⟩,⟨65,[.lend,.val],(run_S65 N)⟩]
noncomputable def body_S50:Code:=match Try.f50.body with | some c=>c | none=>.skip
noncomputable def L_S50 (N n:Nat) (key:Nat) (S:St) (K:Ks):Option Ret:=bif Nat.beq key 3 then withVals ks_S50_l3 S (fun x=>S50_l3 N n (fun z0 z1=>K (.x 0) (shape ko_S50_l3_0 (z0,z1,()))) x.1 x.2.1 x.2.2.1) else none
theorem L0_S50 (N key:Nat) (S:St) (K:Ks):L_S50 N 0 key S K=none:=(bif0 (withVals0 fun _=>rfl) rfl)
noncomputable def c_S50_0:Code:=(loopsIn body_S50).getD 0 .skip
theorem ls_S50:loopsIn body_S50=[c_S50_0]:=by kernel_rfl
theorem rd_S50_3 (N n:Nat) (x:Vals ks_S50_l3) (K:Ks):L_S50 N (n + 1) 3 (shape ks_S50_l3 x) (h_S50.onOut 3 K)=peRound h_S50 (Orc.of (es_S50 N)) (mixL (L_S50 N) N n 3) c_S50_0 (shape ks_S50_l3 x) (h_S50.onOut 3 K):=by kernel_rfl
theorem fn_S50 (N:Nat) (x:AVals sg_S50) (kf:Ret→Option Ret):F_S50 N x kf=peFunc h_S50 (Orc.of (es_S50 N)) (L_S50 N N) Try.f50 (ashape sg_S50 x) kf:=by kernel_rfl
theorem sd_S50 {Γ : Gl} (N:Nat):Sound Γ Try.prog 50 (run_S50 N):=fun_ok2 (hh:=h_S50) mixed tab_ok (es:=es_S50 N) ⟨sd_S25 N,⟨sd_S66 N,⟨sd_S65 N,trivial⟩⟩⟩ (fn:=Try.f50) (body:=body_S50) (by kernel_rfl) (by kernel_rfl) (by kernel_rfl) (by kernel_rfl) (by kernel_rfl) (Lf:=L_S50 N) (L0_S50 N) ls_S50 (round_cons (key:=3) (ks:=ks_S50_l3) (by kernel_rfl) (by kernel_rfl) (rd_S50_3 N) trivial) (N:=N) (by kernel_rfl) (fn_S50 N) (.inl (by kernel_rfl))
noncomputable def h_S23:Hint:={ tab,hn:=[],loops:=[],outs:=[],ords:=[(7,(OT.seq [0,1] (.ali 2 .done))),(8,(OT.seq [0,1,2,3] (.ali 4 .done))),(10,(OT.seq [0,1,2,3,4,5,6,7] .done))],lent:=some (0,false),keep:=[6] }
noncomputable def sg_S23:List AK:=[.v (.ptr tQLIIIE) (.o 80 (some 0) .k)]
noncomputable def F_S23 (N:Nat) (x:AVals sg_S23) (kf:Ret→Option Ret):Option Ret:=S23 N x.1 (fun r0 z=>kf ⟨[⟨tQLQIIIIILIELQIILIELQIIELILQIIIELQIIIIEIE,(.p (.o 59 none (.p .k (.p .k (.p .k (.p .k (.p .k (.o 3 none .k))))))) (.p (.o 64 none (.p .k (.p .k (.o 3 none .k)))) (.p (.o 68 none .k) (.p (.o 3 none .k) (.p (.o 46 none .k) (.p (.o 56 none .k) .k)))))),r0⟩],[⟨(.ptr tQLIIIE),(.o 80 (some 0) .k),z⟩]⟩)
noncomputable def run_S23 (N:Nat):=runOf sg_S23 (F_S23 N)
noncomputable def es_S23 (N:Nat):List Entry:=[⟨42,[.lend],(run_S42 N)⟩,⟨43,[.lend],(run_S43 N)⟩,⟨44,[.val],(run_S44 N)⟩,⟨45,[.val],(run_S45 N)⟩,⟨46,[.val,.val,.val],(run_S46 N)⟩,⟨47,[.lend,.val],(run_S47 N)⟩,⟨25,[.lend,.val],(run_S25 N)⟩,⟨48,[.lend],(run_S48 N)⟩,⟨49,[.lend],(run_S49 N)⟩,⟨50,[.lend],(run_S50 N)⟩]
noncomputable def body_S23:Code:=match Try.f23.body with | some c=>c | none=>.skip
theorem ls_S23:loopsIn body_S23=[]:=by kernel_rfl
theorem fng_S23 (g0:TG0_S23) (g1:TG1_S23) (g2:TG2_S23) (g3:TG3_S23) (g4:TG4_S23) (g5:TG5_S23) (g6:TG6_S23) (g7:TG0_S23) (g8:TG1_S23) (g9:TG7_S23) (N:Nat) (x:AVals sg_S23) (kf:Ret→Option Ret):S23_g g0 g1 g2 g3 g4 g5 g6 g7 g8 g9 N x.1 (fun r0 z=>kf ⟨[⟨tQLQIIIIILIELQIILIELQIIELILQIIIELQIIIIEIE,(.p (.o 59 none (.p .k (.p .k (.p .k (.p .k (.p .k (.o 3 none .k))))))) (.p (.o 64 none (.p .k (.p .k (.o 3 none .k)))) (.p (.o 68 none .k) (.p (.o 3 none .k) (.p (.o 46 none .k) (.p (.o 56 none .k) .k)))))),r0⟩],[⟨(.ptr tQLIIIE),(.o 80 (some 0) .k),z⟩]⟩)=peFunc h_S23 (Orc.of [⟨42,[.lend],(runOf sg_S42 (fun x kf=>g0 N x.1 (fun r0 z=>kf ⟨[⟨(.sl tQIIIIILIE),(.o 59 none (.p .k (.p .k (.p .k (.p .k (.p .k (.o 3 none .k))))))),r0⟩],[⟨(.ptr tQLIIIE),(.o 80 (some 0) .k),z⟩]⟩)))⟩,⟨43,[.lend],(runOf sg_S43 (fun x kf=>g1 N x.1 (fun r0 z=>kf ⟨[⟨(.sl tQIILIE),(.o 64 none (.p .k (.p .k (.o 3 none .k)))),r0⟩],[⟨(.ptr tQLIIIE),(.o 80 (some 0) .k),z⟩]⟩)))⟩,⟨44,[.val],(runOf sg_S44 (fun x kf=>g2 N x.1 (fun r0=>kf ⟨[⟨(.int .i64),.k,r0⟩],[]⟩)))⟩,⟨45,[.val],(runOf sg_S45 (fun x kf=>g3 N x.1 (fun r0 r1=>kf ⟨[⟨(.sl tQIIE),(.o 68 none .k),r0⟩,⟨.bool,.k,r1⟩],[]⟩)))⟩,⟨46,[.val,.val,.val],(runOf sg_S46 (fun x kf=>g4 N x.1 x.2.1 x.2.2.1 (fun r0 r1=>kf ⟨[⟨(.sl (.int .i64)),(.o 3 none .k),r0⟩,⟨.bool,.k,r1⟩],[]⟩)))⟩,⟨47,[.lend,.val],(runOf sg_S47 (fun x kf=>g5 N x.1 x.2.1 (fun r0 z=>kf ⟨[⟨.bool,.k,r0⟩],[⟨(.ptr tQLIIIE),(.o 80 (some 0) .k),z⟩]⟩)))⟩,⟨25,[.lend,.val],(runOf sg_S25 (fun x kf=>g6 N x.1 x.2.1 (fun r0 z=>kf ⟨[⟨(.int .i64),.k,r0⟩],[⟨(.ptr tQLIIIE),(.o 80 (some 0) .k),z⟩]⟩)))⟩,⟨48,[.lend],(runOf sg_S48 (fun x kf=>g7 N x.1 (fun r0 z=>kf ⟨[⟨(.sl tQIIIIILIE),(.o 59 none (.p .k (.p .k (.p .k (.p .k (.p .k (.o 3 none .k))))))),r0⟩],[⟨(.ptr tQLIIIE),(.o 80 (some 0) .k),z⟩]⟩)))⟩,⟨49,[.lend],(runOf sg_S49 (fun x kf=>g8 N x.1 (fun r0 z=>kf ⟨[⟨(.sl tQIILIE),(.o 64 none (.p .k (.p .k (.o 3 none .k)))),r0⟩],[⟨(.ptr tQLIIIE),(.o 80 (some 0) .k),z⟩]⟩)))⟩,⟨50,[.lend],(runOf sg_S50 (fun x kf=>g9 N x.1 (fun r0 z=>kf ⟨[⟨(.sl tQIIIIE),(.o 56 none .k),r0⟩],[⟨(.ptr tQLIIIE),(.o 80 (some 0) .k),z⟩]⟩)))⟩]) (fun key S K=>none) Try.f23 (ashape sg_S23 x) kf:=by kernel_rfl
theorem fn_S23 (N:Nat) (x:AVals sg_S23) (kf:Ret→Option Ret):F_S23 N x kf=peFunc h_S23 (Orc.of (es_S23 N)) (noL N N) Try.f23 (ashape sg_S23 x) kf:=fng_S23 S42 S43 S44 S45 S46 S47 S25 S48 S49 S50 N x kf
theorem sd_S23 {Γ : Gl} (N:Nat):Sound Γ Try.prog 23 (run_S23 N):=fun_ok2 (hh:=h_S23) mixed tab_ok (es:=es_S23 N) ⟨sd_S42 N,⟨sd_S43 N,⟨sd_S44 N,⟨sd_S45 N,⟨sd_S46 N,⟨sd_S47 N,⟨sd_S25 N,⟨sd_S48 N,⟨sd_S49 N,⟨sd_S50 N,trivial⟩⟩⟩⟩⟩⟩⟩⟩⟩⟩ (fn:=Try.f23) (body:=body_S23) (by kernel_rfl) (by kernel_rfl) (by kernel_rfl) (by kernel_rfl) (by kernel_rfl) (Lf:=noL N) (noL0 N) ls_S23 trivial (N:=N) (by kernel_rfl) (fn_S23 N) (.inl (by kernel_rfl))
noncomputable def h_S21:Hint:={ tab,hn:=[],loops:=[],outs:=[],ords:=[] }
noncomputable def sg_S21:List AK:=[.v (.sl (.int .u8)) .k]
noncomputable def F_S21 (N:Nat) (x:AVals sg_S21) (kf:Ret→Option Ret):Option Ret:=S21 N x.1 (fun r0=>kf ⟨[⟨tQLQIIIIILIELQIILIELQIIELILQIIIELQIIIIEIE,(.p (.o 59 none (.p .k (.p .k (.p .k (.p .k (.p .k (.o 3 none .k))))))) (.p (.o 64 none (.p .k (.p .k (.o 3 none .k)))) (.p (.o 68 none .k) (.p (.o 3 none .k) (.p (.o 46 none .k) (.p (.o 56 none .k) .k)))))),r0⟩],[]⟩)
noncomputable def run_S21 (N:Nat):=runOf sg_S21 (F_S21 N)
noncomputable def es_S21 (N:Nat):List Entry:=[⟨22,[.val],(run_S22 N)⟩,⟨23,[.lend],(run_S23 N)⟩]
noncomputable def body_S21:Code:=match Try.f21.body with | some c=>c | none=>.skip
theorem ls_S21:loopsIn body_S21=[]:=by kernel_rfl
theorem fn_S21 (N:Nat) (x:AVals sg_S21) (kf:Ret→Option Ret):F_S21 N x kf=peFunc h_S21 (Orc.of (es_S21 N)) (noL N N) Try.f21 (ashape sg_S21 x) kf:=by kernel_rfl
theorem sd_S21 {Γ : Gl} (N:Nat):Sound Γ Try.prog 21 (run_S21 N):=fun_ok2 (hh:=h_S21) mixed tab_ok (es:=es_S21 N) ⟨sd_S22 N,⟨sd_S23 N,trivial⟩⟩ (fn:=Try.f21) (body:=body_S21) (by kernel_rfl) (by kernel_rfl) (by kernel_rfl) (by kernel_rfl) (by kernel_rfl) (Lf:=noL N) (noL0 N) ls_S21 trivial (N:=N) (by kernel_rfl) (fn_S21 N) (.inl (by kernel_rfl))
noncomputable def h_S8:Hint:={ tab,hn:=[],loops:=[],outs:=[],ords:=[] }
noncomputable def sg_S8:List AK:=[.v (.sl (.int .u8)) .k]
noncomputable def F_S8 (N:Nat) (x:AVals sg_S8) (kf:Ret→Option Ret):Option Ret:=S8 N x.1 (fun r0=>kf ⟨[⟨tQLQIIIIILIELQIILIELQIIELILQIIIELQIIIIEIE,(.p (.o 59 none (.p .k (.p .k (.p .k (.p .k (.p .k (.o 3 none .k))))))) (.p (.o 64 none (.p .k (.p .k (.o 3 none .k)))) (.p (.o 68 none .k) (.p (.o 3 none .k) (.p (.o 46 none .k) (.p (.o 56 none .k) .k)))))),r0⟩],[]⟩)
noncomputable def run_S8 (N:Nat):=runOf sg_S8 (F_S8 N)
noncomputable def es_S8 (N:Nat):List Entry:=[⟨21,[.val],(run_S21 N)⟩]
noncomputable def body_S8:Code:=match Try.f8.body with | some c=>c | none=>.skip
theorem ls_S8:loopsIn body_S8=[]:=by kernel_rfl
theorem fn_S8 (N:Nat) (x:AVals sg_S8) (kf:Ret→Option Ret):F_S8 N x kf=peFunc h_S8 (Orc.of (es_S8 N)) (noL N N) Try.f8 (ashape sg_S8 x) kf:=by kernel_rfl
theorem sd_S8 {Γ : Gl} (N:Nat):Sound Γ Try.prog 8 (run_S8 N):=fun_ok2 (hh:=h_S8) mixed tab_ok (es:=es_S8 N) ⟨sd_S21 N,trivial⟩ (fn:=Try.f8) (body:=body_S8) (by kernel_rfl) (by kernel_rfl) (by kernel_rfl) (by kernel_rfl) (by kernel_rfl) (Lf:=noL N) (noL0 N) ls_S8 trivial (N:=N) (by kernel_rfl) (fn_S8 N) (.inl (by kernel_rfl))
noncomputable def ks_I9_l3:List Kd:=[dK,dK,dK,.v (.sl (.int .i64)) (.o 3 none .k),dK,dK,dK,dK,.v (.sl tQIIIE) .k,.v (.int .i64) .k,.v (.int .i64) .k,dK,dK,dK,dK,dK,dK,dK,dK,dK,dK,dK,dK,dK]
noncomputable def ko_I9_l3_0:List Kd:=[dK,dK,dK,.v (.sl (.int .i64)) (.o 3 none .k),dK,dK,dK,dK,dK,dK,dK,dK,dK,dK,dK,dK,dK,dK,dK,dK,dK,dK,dK,dK]
noncomputable def h_I9:Hint:={ tab,hn:=[],loops:=[(3,ks_I9_l3)],outs:=[(3,2,ko_I9_l3_0)],ords:=[] }
noncomputable def sg_I9:List AK:=[.v tQLQIIIIILIELQIILIELQIIELILQIIIELQIIIIEIE .k]
noncomputable def F_I9 (N:Nat) (x:AVals sg_I9) (kf:Ret→Option Ret):Option Ret:=I9 N x.1 (fun r0=>kf ⟨[⟨(.sl (.int .i64)),(.o 3 none .k),r0⟩],[]⟩)
noncomputable def run_I9 (N:Nat):=runOf sg_I9 (F_I9 N)
noncomputable def es_I9 (N:Nat):List Entry:=[]
noncomputable def body_I9:Code:=match Try.f9.body with | some c=>c | none=>.skip
noncomputable def L_I9 (N n:Nat) (key:Nat) (S:St) (K:Ks):Option Ret:=bif Nat.beq key 3 then withVals ks_I9_l3 S (fun x=>I9_l3 x.2.1 x.2.2.1 n (fun z0=>K (.x 0) (shape ko_I9_l3_0 (z0,()))) x.1 x.2.2.2.1) else none
theorem L0_I9 (N key:Nat) (S:St) (K:Ks):L_I9 N 0 key S K=none:=(bif0 (withVals0 fun _=>rfl) rfl)
noncomputable def c_I9_0:Code:=(loopsIn body_I9).getD 0 .skip
theorem ls_I9:loopsIn body_I9=[c_I9_0]:=by kernel_rfl
theorem rd_I9_3 (N n:Nat) (x:Vals ks_I9_l3) (K:Ks):L_I9 N (n + 1) 3 (shape ks_I9_l3 x) (h_I9.onOut 3 K)=peRound h_I9 (Orc.of (es_I9 N)) (mixL (L_I9 N) N n 3) c_I9_0 (shape ks_I9_l3 x) (h_I9.onOut 3 K):=by kernel_rfl
theorem fn_I9 (N:Nat) (x:AVals sg_I9) (kf:Ret→Option Ret):F_I9 N x kf=peFunc h_I9 (Orc.of (es_I9 N)) (L_I9 N N) Try.f9 (ashape sg_I9 x) kf:=by kernel_rfl
theorem sd_I9 {Γ : Gl} (N:Nat):Sound Γ Try.prog 9 (run_I9 N):=fun_ok2 (hh:=h_I9) mixed tab_ok (es:=es_I9 N) trivial (fn:=Try.f9) (body:=body_I9) (by kernel_rfl) (by kernel_rfl) (by kernel_rfl) (by kernel_rfl) (by kernel_rfl) (Lf:=L_I9 N) (L0_I9 N) ls_I9 (round_cons (key:=3) (ks:=ks_I9_l3) (by kernel_rfl) (by kernel_rfl) (rd_I9_3 N) trivial) (N:=N) (by kernel_rfl) (fn_I9 N) (.inl (by kernel_rfl))
noncomputable def ks_L10_l2:List Kd:=[.v (.sl (.int .i64)) .k,dK,dK,.v (.int .i64) .k,dK,dK,dK,dK,dK,dK,dK,dK,dK,dK,dK,dK,dK,dK,dK,dK]
noncomputable def ko_L10_l2_0:List Kd:=[dK,dK,dK,dK,dK,dK,dK,dK,dK,dK,dK,dK,dK,dK,dK,dK,dK,dK,dK,dK]
noncomputable def ko_L10_l2_1:List Kd:=[dK,dK,.v .bool .k,dK,dK,dK,dK,dK,dK,dK,dK,dK,dK,dK,dK,dK,dK,dK,dK,dK]
noncomputable def h_L10:Hint:={ tab,hn:=[],loops:=[(2,ks_L10_l2)],outs:=[(2,2,ko_L10_l2_0),(2,1,ko_L10_l2_1)],ords:=[(4,(OT.seq [0,1,2,3,4,5,6,7,8,9] .done))] }
noncomputable def sg_L10:List AK:=[.v (.sl (.int .i64)) .k]
noncomputable def F_L10 (N:Nat) (x:AVals sg_L10) (kf:Ret→Option Ret):Option Ret:=L10 N x.1 (fun r0=>kf ⟨[⟨.bool,.k,r0⟩],[]⟩)
noncomputable def run_L10 (N:Nat):=runOf sg_L10 (F_L10 N)
noncomputable def es_L10 (N:Nat):List Entry:=[]
noncomputable def body_L10:Code:=match Try.f10.body with | some c=>c | none=>.skip
noncomputable def L_L10 (N n:Nat) (key:Nat) (S:St) (K:Ks):Option Ret:=bif Nat.beq key 2 then withVals ks_L10_l2 S (fun x=>L10_l2 x.1 n (K (.x 0) (shape ko_L10_l2_0 ())) (fun z0=>K .r (shape ko_L10_l2_1 (z0,()))) x.2.1) else none
theorem L0_L10 (N key:Nat) (S:St) (K:Ks):L_L10 N 0 key S K=none:=(bif0 (withVals0 fun _=>rfl) rfl)
noncomputable def c_L10_0:Code:=(loopsIn body_L10).getD 0 .skip
theorem ls_L10:loopsIn body_L10=[c_L10_0]:=by kernel_rfl
theorem rd_L10_2 (N n:Nat) (x:Vals ks_L10_l2) (K:Ks):L_L10 N (n + 1) 2 (shape ks_L10_l2 x) (h_L10.onOut 2 K)=peRound h_L10 (Orc.of (es_L10 N)) (mixL (L_L10 N) N n 2) c_L10_0 (shape ks_L10_l2 x) (h_L10.onOut 2 K):=by kernel_rfl
theorem fn_L10 (N:Nat) (x:AVals sg_L10) (kf:Ret→Option Ret):F_L10 N x kf=peFunc h_L10 (Orc.of (es_L10 N)) (L_L10 N N) Try.f10 (ashape sg_L10 x) kf:=by kernel_rfl
theorem sd_L10 {Γ : Gl} (N:Nat):Sound Γ Try.prog 10 (run_L10 N):=fun_ok2 (hh:=h_L10) mixed tab_ok (es:=es_L10 N) trivial (fn:=Try.f10) (body:=body_L10) (by kernel_rfl) (by kernel_rfl) (by kernel_rfl) (by kernel_rfl) (by kernel_rfl) (Lf:=L_L10 N) (L0_L10 N) ls_L10 (round_cons (key:=2) (ks:=ks_L10_l2) (by kernel_rfl) (by kernel_rfl) (rd_L10_2 N) trivial) (N:=N) (by kernel_rfl) (fn_L10 N) (.inl (by kernel_rfl))
noncomputable def ks_S52_l3:List Kd:=[.v (.sl tQIILIE) .k,dK,dK,.v (.sl tQIILIE) (.o 64 none (.p .k (.p .k (.o 3 none .k)))),.v (.int .i64) .k,dK,dK,dK,dK,dK,dK,dK,dK,dK,dK,dK,dK,dK,dK,dK,dK,dK,dK,dK,dK,dK,dK]
noncomputable def ko_S52_l3_0:List Kd:=[dK,dK,dK,.v (.sl tQIILIE) (.o 64 none (.p .k (.p .k (.o 3 none .k)))),dK,dK,dK,dK,dK,dK,dK,dK,dK,dK,dK,dK,dK,dK,dK,dK,dK,dK,dK,dK,dK,dK,dK]
noncomputable def h_S52:Hint:={ tab,hn:=[(6,(.p .k (.p .k (.o 3 none .k))))],loops:=[(3,ks_S52_l3)],outs:=[(3,2,ko_S52_l3_0)],ords:=[] }
noncomputable def sg_S52:List AK:=[.v (.sl tQIILIE) .k]
noncomputable def F_S52 (N:Nat) (x:AVals sg_S52) (kf:Ret→Option Ret):Option Ret:=S52 N x.1 (fun r0=>kf ⟨[⟨(.sl tQIILIE),(.o 64 none (.p .k (.p .k (.o 3 none .k)))),r0⟩],[]⟩)
noncomputable def run_S52 (N:Nat):=runOf sg_S52 (F_S52 N)
noncomputable def es_S52 (N:Nat):List Entry:=[]
noncomputable def body_S52:Code:=match Try.f52.body with | some c=>c | none=>.skip
noncomputable def L_S52 (N n:Nat) (key:Nat) (S:St) (K:Ks):Option Ret:=bif Nat.beq key 3 then withVals ks_S52_l3 S (fun x=>S52_l3 x.1 n (fun z0=>K (.x 0) (shape ko_S52_l3_0 (z0,()))) x.2.1 x.2.2.1) else none
theorem L0_S52 (N key:Nat) (S:St) (K:Ks):L_S52 N 0 key S K=none:=(bif0 (withVals0 fun _=>rfl) rfl)
noncomputable def c_S52_0:Code:=(loopsIn body_S52).getD 0 .skip
theorem ls_S52:loopsIn body_S52=[c_S52_0]:=by kernel_rfl
theorem rd_S52_3 (N n:Nat) (x:Vals ks_S52_l3) (K:Ks):L_S52 N (n + 1) 3 (shape ks_S52_l3 x) (h_S52.onOut 3 K)=peRound h_S52 (Orc.of (es_S52 N)) (mixL (L_S52 N) N n 3) c_S52_0 (shape ks_S52_l3 x) (h_S52.onOut 3 K):=by kernel_rfl
theorem fn_S52 (N:Nat) (x:AVals sg_S52) (kf:Ret→Option Ret):F_S52 N x kf=peFunc h_S52 (Orc.of (es_S52 N)) (L_S52 N N) Try.f52 (ashape sg_S52 x) kf:=by kernel_rfl
theorem sd_S52 {Γ : Gl} (N:Nat):Sound Γ Try.prog 52 (run_S52 N):=fun_ok2 (hh:=h_S52) mixed tab_ok (es:=es_S52 N) trivial (fn:=Try.f52) (body:=body_S52) (by kernel_rfl) (by kernel_rfl) (by kernel_rfl) (by kernel_rfl) (by kernel_rfl) (Lf:=L_S52 N) (L0_S52 N) ls_S52 (round_cons (key:=3) (ks:=ks_S52_l3) (by kernel_rfl) (by kernel_rfl) (rd_S52_3 N) trivial) (N:=N) (by kernel_rfl) (fn_S52 N) (.inl (by kernel_rfl))
noncomputable def h_S24:Hint:={ tab,hn:=[],loops:=[],outs:=[],ords:=[(1,(OT.seq [0,1,3,4,7,8,11,15,19,22] (.any [2,5,6,9,10,12,13,14,16,17,18,20,21,23] (OT.seq [24,25] .done))))] }
noncomputable def sg_S24:List AK:=[.v tQLQIIIIILIELQIILIELQIIELILQIIIELQIIIIEIE .k]
noncomputable def F_S24 (N:Nat) (x:AVals sg_S24) (kf:Ret→Option Ret):Option Ret:=S24 N x.1 (fun r0=>kf ⟨[⟨tQLQIIIIILIELQIILIELQIIELILQIIIELQIIIIEIE,(.p (.o 59 none (.p .k (.p .k (.p .k (.p .k (.p .k (.o 3 none .k))))))) (.p (.o 64 none (.p .k (.p .k (.o 3 none .k)))) (.p (.o 68 none .k) (.p (.o 3 none .k) (.p (.o 46 none .k) (.p (.o 56 none .k) .k)))))),r0⟩],[]⟩)
noncomputable def run_S24 (N:Nat):=runOf sg_S24 (F_S24 N)
noncomputable def es_S24 (N:Nat):List Entry:=[⟨51,[.val],(run_S51 N)⟩,⟨52,[.val],(run_S52 N)⟩]
noncomputable def body_S24:Code:=match Try.f24.body with | some c=>c | none=>.skip
theorem ls_S24:loopsIn body_S24=[]:=by kernel_rfl
theorem fn_S24 (N:Nat) (x:AVals sg_S24) (kf:Ret→Option Ret):F_S24 N x kf=peFunc h_S24 (Orc.of (es_S24 N)) (noL N N) Try.f24 (ashape sg_S24 x) kf:=by kernel_rfl
theorem sd_S24 {Γ : Gl} (N:Nat):Sound Γ Try.prog 24 (run_S24 N):=fun_ok2 (hh:=h_S24) mixed tab_ok (es:=es_S24 N) ⟨sd_S51 N,⟨sd_S52 N,trivial⟩⟩ (fn:=Try.f24) (body:=body_S24) (by kernel_rfl) (by kernel_rfl) (by kernel_rfl) (by kernel_rfl) (by kernel_rfl) (Lf:=noL N) (noL0 N) ls_S24 trivial (N:=N) (by kernel_rfl) (fn_S24 N) (.inl (by kernel_rfl))
noncomputable def h_S11:Hint:={ tab,hn:=[],loops:=[],outs:=[],ords:=[(11,(OT.seq [0] (.par [1,2] [[6,34]] (OT.seq [3] .done))))] }
noncomputable def sg_S11:List AK:=[.v (.sl (.int .u8)) .k]
noncomputable def F_S11 (N:Nat) (x:AVals sg_S11) (kf:Ret→Option Ret):Option Ret:=S11 N x.1 (fun r0 r1=>kf ⟨[⟨tQLQIIIIILIELQIILIELQIIELILQIIIELQIIIIEIE,(.p (.o 59 none (.p .k (.p .k (.p .k (.p .k (.p .k (.o 3 none .k))))))) (.p (.o 64 none (.p .k (.p .k (.o 3 none .k)))) (.p (.o 68 none .k) (.p (.o 3 none .k) (.p (.o 46 none .k) (.p (.o 56 none .k) .k)))))),r0⟩,⟨tQLQIIIIILIELQIILIELQIIELILQIIIELQIIIIEIE,(.p (.o 59 none (.p .k (.p .k (.p .k (.p .k (.p .k (.o 3 none .k))))))) (.p (.o 64 none (.p .k (.p .k (.o 3 none .k)))) (.p (.o 68 none .k) (.p (.o 3 none .k) (.p (.o 46 none .k) (.p (.o 56 none .k) .k)))))),r1⟩],[]⟩)
noncomputable def run_S11 (N:Nat):=runOf sg_S11 (F_S11 N)
noncomputable def es_S11 (N:Nat):List Entry:=[⟨22,[.val],(run_S22 N)⟩,⟨23,[.lend],(run_S23 N)⟩,⟨24,[.val],(run_S24 N)⟩,⟨25,[.lend,.val],(run_S25 N)⟩]
noncomputable def body_S11:Code:=match Try.f11.body with | some c=>c | none=>.skip
theorem ls_S11:loopsIn body_S11=[]:=by kernel_rfl
theorem fn_S11 (N:Nat) (x:AVals sg_S11) (kf:Ret→Option Ret):F_S11 N x kf=peFunc h_S11 (Orc.of (es_S11 N)) (noL N N) Try.f11 (ashape sg_S11 x) kf:=by kernel_rfl
theorem sd_S11 {Γ : Gl} (N:Nat):Sound Γ Try.prog 11 (run_S11 N):=fun_ok2 (hh:=h_S11) mixed tab_ok (es:=es_S11 N) ⟨sd_S22 N,⟨sd_S23 N,⟨sd_S24 N,⟨sd_S25 N,trivial⟩⟩⟩⟩ (fn:=Try.f11) (body:=body_S11) (by kernel_rfl) (by kernel_rfl) (by kernel_rfl) (by kernel_rfl) (by kernel_rfl) (Lf:=noL N) (noL0 N) ls_S11 trivial (N:=N) (by kernel_rfl) (fn_S11 N) (.inl (by kernel_rfl))
noncomputable def ks_S28_l4:List Kd:=[.v (.sl (.int .i64)) .k,.v (.sl (.int .i64)) .k,dK,dK,dK,dK,dK,dK,dK,dK,dK,dK,.v (.int .i64) .k,.v (.int .i64) .k,dK,dK,dK,dK,dK,dK,dK,dK,dK,dK,dK,dK]
noncomputable def ko_S28_l4_0:List Kd:=[dK,dK,dK,dK,dK,dK,dK,dK,dK,dK,dK,dK,dK,dK,dK,dK,dK,dK,dK,dK,dK,dK,dK,dK,dK,dK]
noncomputable def ko_S28_l4_1:List Kd:=[dK,dK,dK,dK,.v .bool .k,dK,dK,dK,dK,dK,dK,dK,dK,dK,dK,dK,dK,dK,dK,dK,dK,dK,dK,dK,dK,dK]
noncomputable def h_S28:Hint:={ tab,hn:=[],loops:=[(4,ks_S28_l4)],outs:=[(4,2,ko_S28_l4_0),(4,1,ko_S28_l4_1)],ords:=[(6,(OT.seq [0,1,2,3,4,5,6,7,8] .done))] }
noncomputable def sg_S28:List AK:=[.v (.sl (.int .i64)) .k,.v (.sl (.int .i64)) .k]
noncomputable def F_S28 (N:Nat) (x:AVals sg_S28) (kf:Ret→Option Ret):Option Ret:=S28 N x.1 x.2.1 (fun r0=>kf ⟨[⟨.bool,.k,r0⟩],[]⟩)
noncomputable def run_S28 (N:Nat):=runOf sg_S28 (F_S28 N)
noncomputable def es_S28 (N:Nat):List Entry:=[]
noncomputable def body_S28:Code:=match Try.f28.body with | some c=>c | none=>.skip
noncomputable def L_S28 (N n:Nat) (key:Nat) (S:St) (K:Ks):Option Ret:=bif Nat.beq key 4 then withVals ks_S28_l4 S (fun x=>S28_l4 x.1 x.2.1 x.2.2.1 n (K (.x 0) (shape ko_S28_l4_0 ())) (fun z0=>K .r (shape ko_S28_l4_1 (z0,()))) x.2.2.2.1) else none
theorem L0_S28 (N key:Nat) (S:St) (K:Ks):L_S28 N 0 key S K=none:=(bif0 (withVals0 fun _=>rfl) rfl)
noncomputable def c_S28_0:Code:=(loopsIn body_S28).getD 0 .skip
theorem ls_S28:loopsIn body_S28=[c_S28_0]:=by kernel_rfl
theorem rd_S28_4 (N n:Nat) (x:Vals ks_S28_l4) (K:Ks):L_S28 N (n + 1) 4 (shape ks_S28_l4 x) (h_S28.onOut 4 K)=peRound h_S28 (Orc.of (es_S28 N)) (mixL (L_S28 N) N n 4) c_S28_0 (shape ks_S28_l4 x) (h_S28.onOut 4 K):=by kernel_rfl
theorem fn_S28 (N:Nat) (x:AVals sg_S28) (kf:Ret→Option Ret):F_S28 N x kf=peFunc h_S28 (Orc.of (es_S28 N)) (L_S28 N N) Try.f28 (ashape sg_S28 x) kf:=by kernel_rfl
theorem sd_S28 {Γ : Gl} (N:Nat):Sound Γ Try.prog 28 (run_S28 N):=fun_ok2 (hh:=h_S28) mixed tab_ok (es:=es_S28 N) trivial (fn:=Try.f28) (body:=body_S28) (by kernel_rfl) (by kernel_rfl) (by kernel_rfl) (by kernel_rfl) (by kernel_rfl) (Lf:=L_S28 N) (L0_S28 N) ls_S28 (round_cons (key:=4) (ks:=ks_S28_l4) (by kernel_rfl) (by kernel_rfl) (rd_S28_4 N) trivial) (N:=N) (by kernel_rfl) (fn_S28 N) (.inl (by kernel_rfl))
noncomputable def h_I27:Hint:={ tab,hn:=[],loops:=[],outs:=[],ords:=[] }
noncomputable def sg_I27:List AK:=[.v tQIIIIILIE .k,.v tQIIIIILIE .k]
noncomputable def F_I27 (N:Nat) (x:AVals sg_I27) (kf:Ret→Option Ret):Option Ret:=I27 N x.1 x.2.1 (fun r0=>kf ⟨[⟨.bool,.k,r0⟩],[]⟩)
noncomputable def run_I27 (N:Nat):=runOf sg_I27 (F_I27 N)
noncomputable def es_I27 (N:Nat):List Entry:=[⟨28,[.val,.val],(run_S28 N)⟩]
noncomputable def body_I27:Code:=match Try.f27.body with | some c=>c | none=>.skip
theorem ls_I27:loopsIn body_I27=[]:=by kernel_rfl
theorem fn_I27 (N:Nat) (x:AVals sg_I27) (kf:Ret→Option Ret):F_I27 N x kf=peFunc h_I27 (Orc.of (es_I27 N)) (noL N N) Try.f27 (ashape sg_I27 x) kf:=by kernel_rfl
theorem sd_I27 {Γ : Gl} (N:Nat):Sound Γ Try.prog 27 (run_I27 N):=fun_ok2 (hh:=h_I27) mixed tab_ok (es:=es_I27 N) ⟨sd_S28 N,trivial⟩ (fn:=Try.f27) (body:=body_I27) (by kernel_rfl) (by kernel_rfl) (by kernel_rfl) (by kernel_rfl) (by kernel_rfl) (Lf:=noL N) (noL0 N) ls_I27 trivial (N:=N) (by kernel_rfl) (fn_I27 N) (.inl (by kernel_rfl))
noncomputable def ks_S26_l4:List Kd:=[dK,.v (.sl tQIIIIILIE) .k,.clo 27 [],dK,dK,dK,dK,dK,dK,dK,dK,dK,dK,dK,dK,.v (.sl tQIIIIILIE) .k,.v (.int .i64) .k,.v (.int .i64) .k,dK,dK,dK,dK,dK,dK,dK,dK,dK,dK,dK,dK,dK,dK]
noncomputable def ko_S26_l4_0:List Kd:=[dK,dK,dK,dK,dK,dK,dK,dK,dK,dK,dK,dK,dK,dK,dK,dK,dK,dK,dK,dK,dK,dK,dK,dK,dK,dK,dK,dK,dK,dK,dK,dK]
noncomputable def ko_S26_l4_1:List Kd:=[dK,dK,dK,dK,dK,dK,.v .bool .k,dK,dK,dK,dK,dK,dK,dK,dK,dK,dK,dK,dK,dK,dK,dK,dK,dK,dK,dK,dK,dK,dK,dK,dK,dK]
noncomputable def h_S26:Hint:={ tab,hn:=[],loops:=[(4,ks_S26_l4)],outs:=[(4,2,ko_S26_l4_0),(4,1,ko_S26_l4_1)],ords:=[] }
noncomputable def sg_S26:List AK:=[.v (.sl tQIIIIILIE) .k,.v (.sl tQIIIIILIE) .k,.fn 27 []]
noncomputable def F_S26 (N:Nat) (x:AVals sg_S26) (kf:Ret→Option Ret):Option Ret:=S26 N x.1 x.2.1 (fun r0=>kf ⟨[⟨.bool,.k,r0⟩],[]⟩)
noncomputable def run_S26 (N:Nat):=runOf sg_S26 (F_S26 N)
noncomputable def es_S26 (N:Nat):List Entry:=[⟨27,[.val,.val],(run_I27 N)⟩]
noncomputable def body_S26:Code:=match Try.f26.body with | some c=>c | none=>.skip
noncomputable def L_S26 (N n:Nat) (key:Nat) (S:St) (K:Ks):Option Ret:=bif Nat.beq key 4 then withVals ks_S26_l4 S (fun x=>S26_l4 N x.1 x.2.2.1 x.2.2.2.1 n (K (.x 0) (shape ko_S26_l4_0 ())) (fun z0=>K .r (shape ko_S26_l4_1 (z0,()))) x.2.2.2.2.1) else none
theorem L0_S26 (N key:Nat) (S:St) (K:Ks):L_S26 N 0 key S K=none:=(bif0 (withVals0 fun _=>rfl) rfl)
noncomputable def c_S26_0:Code:=(loopsIn body_S26).getD 0 .skip
theorem ls_S26:loopsIn body_S26=[c_S26_0]:=by kernel_rfl
theorem rd_S26_4 (N n:Nat) (x:Vals ks_S26_l4) (K:Ks):L_S26 N (n + 1) 4 (shape ks_S26_l4 x) (h_S26.onOut 4 K)=peRound h_S26 (Orc.of (es_S26 N)) (mixL (L_S26 N) N n 4) c_S26_0 (shape ks_S26_l4 x) (h_S26.onOut 4 K):=by kernel_rfl
theorem fn_S26 (N:Nat) (x:AVals sg_S26) (kf:Ret→Option Ret):F_S26 N x kf=peFunc h_S26 (Orc.of (es_S26 N)) (L_S26 N N) Try.f26 (ashape sg_S26 x) kf:=by kernel_rfl
theorem sd_S26 {Γ : Gl} (N:Nat):Sound Γ Try.prog 26 (run_S26 N):=fun_ok2 (hh:=h_S26) mixed tab_ok (es:=es_S26 N) ⟨sd_I27 N,trivial⟩ (fn:=Try.f26) (body:=body_S26) (by kernel_rfl) (by kernel_rfl) (by kernel_rfl) (by kernel_rfl) (by kernel_rfl) (Lf:=L_S26 N) (L0_S26 N) ls_S26 (round_cons (key:=4) (ks:=ks_S26_l4) (by kernel_rfl) (by kernel_rfl) (rd_S26_4 N) trivial) (N:=N) (by kernel_rfl) (fn_S26 N) (.inl (by kernel_rfl))
noncomputable def h_I30:Hint:={ tab,hn:=[],loops:=[],outs:=[],ords:=[] }
noncomputable def sg_I30:List AK:=[.v tQIILIE .k,.v tQIILIE .k]
noncomputable def F_I30 (N:Nat) (x:AVals sg_I30) (kf:Ret→Option Ret):Option Ret:=I30 N x.1 x.2.1 (fun r0=>kf ⟨[⟨.bool,.k,r0⟩],[]⟩)
noncomputable def run_I30 (N:Nat):=runOf sg_I30 (F_I30 N)
noncomputable def es_I30 (N:Nat):List Entry:=[⟨28,[.val,.val],(run_S28 N)⟩]
noncomputable def body_I30:Code:=match Try.f30.body with | some c=>c | none=>.skip
theorem ls_I30:loopsIn body_I30=[]:=by kernel_rfl
theorem fn_I30 (N:Nat) (x:AVals sg_I30) (kf:Ret→Option Ret):F_I30 N x kf=peFunc h_I30 (Orc.of (es_I30 N)) (noL N N) Try.f30 (ashape sg_I30 x) kf:=by kernel_rfl
theorem sd_I30 {Γ : Gl} (N:Nat):Sound Γ Try.prog 30 (run_I30 N):=fun_ok2 (hh:=h_I30) mixed tab_ok (es:=es_I30 N) ⟨sd_S28 N,trivial⟩ (fn:=Try.f30) (body:=body_I30) (by kernel_rfl) (by kernel_rfl) (by kernel_rfl) (by kernel_rfl) (by kernel_rfl) (Lf:=noL N) (noL0 N) ls_I30 trivial (N:=N) (by kernel_rfl) (fn_I30 N) (.inl (by kernel_rfl))
noncomputable def ks_S29_l4:List Kd:=[dK,.v (.sl tQIILIE) .k,.clo 30 [],dK,dK,dK,dK,dK,dK,dK,dK,dK,dK,dK,dK,.v (.sl tQIILIE) .k,.v (.int .i64) .k,.v (.int .i64) .k,dK,dK,dK,dK,dK,dK,dK,dK,dK,dK,dK,dK,dK,dK]
noncomputable def ko_S29_l4_0:List Kd:=[dK,dK,dK,dK,dK,dK,dK,dK,dK,dK,dK,dK,dK,dK,dK,dK,dK,dK,dK,dK,dK,dK,dK,dK,dK,dK,dK,dK,dK,dK,dK,dK]
noncomputable def ko_S29_l4_1:List Kd:=[dK,dK,dK,dK,dK,dK,.v .bool .k,dK,dK,dK,dK,dK,dK,dK,dK,dK,dK,dK,dK,dK,dK,dK,dK,dK,dK,dK,dK,dK,dK,dK,dK,dK]
noncomputable def h_S29:Hint:={ tab,hn:=[],loops:=[(4,ks_S29_l4)],outs:=[(4,2,ko_S29_l4_0),(4,1,ko_S29_l4_1)],ords:=[] }
noncomputable def sg_S29:List AK:=[.v (.sl tQIILIE) .k,.v (.sl tQIILIE) .k,.fn 30 []]
noncomputable def F_S29 (N:Nat) (x:AVals sg_S29) (kf:Ret→Option Ret):Option Ret:=S29 N x.1 x.2.1 (fun r0=>kf ⟨[⟨.bool,.k,r0⟩],[]⟩)
noncomputable def run_S29 (N:Nat):=runOf sg_S29 (F_S29 N)
noncomputable def es_S29 (N:Nat):List Entry:=[⟨30,[.val,.val],(run_I30 N)⟩]
noncomputable def body_S29:Code:=match Try.f29.body with | some c=>c | none=>.skip
noncomputable def L_S29 (N n:Nat) (key:Nat) (S:St) (K:Ks):Option Ret:=bif Nat.beq key 4 then withVals ks_S29_l4 S (fun x=>S29_l4 N x.1 x.2.2.1 x.2.2.2.1 n (K (.x 0) (shape ko_S29_l4_0 ())) (fun z0=>K .r (shape ko_S29_l4_1 (z0,()))) x.2.2.2.2.1) else none
theorem L0_S29 (N key:Nat) (S:St) (K:Ks):L_S29 N 0 key S K=none:=(bif0 (withVals0 fun _=>rfl) rfl)
noncomputable def c_S29_0:Code:=(loopsIn body_S29).getD 0 .skip
theorem ls_S29:loopsIn body_S29=[c_S29_0]:=by kernel_rfl
theorem rd_S29_4 (N n:Nat) (x:Vals ks_S29_l4) (K:Ks):L_S29 N (n + 1) 4 (shape ks_S29_l4 x) (h_S29.onOut 4 K)=peRound h_S29 (Orc.of (es_S29 N)) (mixL (L_S29 N) N n 4) c_S29_0 (shape ks_S29_l4 x) (h_S29.onOut 4 K):=by kernel_rfl
theorem fn_S29 (N:Nat) (x:AVals sg_S29) (kf:Ret→Option Ret):F_S29 N x kf=peFunc h_S29 (Orc.of (es_S29 N)) (L_S29 N N) Try.f29 (ashape sg_S29 x) kf:=by kernel_rfl
theorem sd_S29 {Γ : Gl} (N:Nat):Sound Γ Try.prog 29 (run_S29 N):=fun_ok2 (hh:=h_S29) mixed tab_ok (es:=es_S29 N) ⟨sd_I30 N,trivial⟩ (fn:=Try.f29) (body:=body_S29) (by kernel_rfl) (by kernel_rfl) (by kernel_rfl) (by kernel_rfl) (by kernel_rfl) (Lf:=L_S29 N) (L0_S29 N) ls_S29 (round_cons (key:=4) (ks:=ks_S29_l4) (by kernel_rfl) (by kernel_rfl) (rd_S29_4 N) trivial) (N:=N) (by kernel_rfl) (fn_S29 N) (.inl (by kernel_rfl))
noncomputable def ks_S31_l4:List Kd:=[.v (.sl tQIIE) .k,.v (.sl tQIIE) .k,dK,dK,dK,dK,dK,dK,dK,dK,dK,dK,.v (.int .i64) .k,.v (.int .i64) .k,dK,dK,dK,dK,dK,dK,dK,dK,dK,dK,dK,dK]
noncomputable def ko_S31_l4_0:List Kd:=[dK,dK,dK,dK,dK,dK,dK,dK,dK,dK,dK,dK,dK,dK,dK,dK,dK,dK,dK,dK,dK,dK,dK,dK,dK,dK]
noncomputable def ko_S31_l4_1:List Kd:=[dK,dK,dK,dK,.v .bool .k,dK,dK,dK,dK,dK,dK,dK,dK,dK,dK,dK,dK,dK,dK,dK,dK,dK,dK,dK,dK,dK]
noncomputable def h_S31:Hint:={ tab,hn:=[],loops:=[(4,ks_S31_l4)],outs:=[(4,2,ko_S31_l4_0),(4,1,ko_S31_l4_1)],ords:=[(6,(OT.seq [0,1,2,3,4,5,6,7,8] .done))] }
noncomputable def sg_S31:List AK:=[.v (.sl tQIIE) .k,.v (.sl tQIIE) .k]
noncomputable def F_S31 (N:Nat) (x:AVals sg_S31) (kf:Ret→Option Ret):Option Ret:=S31 N x.1 x.2.1 (fun r0=>kf ⟨[⟨.bool,.k,r0⟩],[]⟩)
noncomputable def run_S31 (N:Nat):=runOf sg_S31 (F_S31 N)
noncomputable def es_S31 (N:Nat):List Entry:=[]
noncomputable def body_S31:Code:=match Try.f31.body with | some c=>c | none=>.skip
noncomputable def L_S31 (N n:Nat) (key:Nat) (S:St) (K:Ks):Option Ret:=bif Nat.beq key 4 then withVals ks_S31_l4 S (fun x=>S31_l4 x.1 x.2.1 x.2.2.1 n (K (.x 0) (shape ko_S31_l4_0 ())) (fun z0=>K .r (shape ko_S31_l4_1 (z0,()))) x.2.2.2.1) else none
theorem L0_S31 (N key:Nat) (S:St) (K:Ks):L_S31 N 0 key S K=none:=(bif0 (withVals0 fun _=>rfl) rfl)
noncomputable def c_S31_0:Code:=(loopsIn body_S31).getD 0 .skip
theorem ls_S31:loopsIn body_S31=[c_S31_0]:=by kernel_rfl
theorem rd_S31_4 (N n:Nat) (x:Vals ks_S31_l4) (K:Ks):L_S31 N (n + 1) 4 (shape ks_S31_l4 x) (h_S31.onOut 4 K)=peRound h_S31 (Orc.of (es_S31 N)) (mixL (L_S31 N) N n 4) c_S31_0 (shape ks_S31_l4 x) (h_S31.onOut 4 K):=by kernel_rfl
theorem fn_S31 (N:Nat) (x:AVals sg_S31) (kf:Ret→Option Ret):F_S31 N x kf=peFunc h_S31 (Orc.of (es_S31 N)) (L_S31 N N) Try.f31 (ashape sg_S31 x) kf:=by kernel_rfl
theorem sd_S31 {Γ : Gl} (N:Nat):Sound Γ Try.prog 31 (run_S31 N):=fun_ok2 (hh:=h_S31) mixed tab_ok (es:=es_S31 N) trivial (fn:=Try.f31) (body:=body_S31) (by kernel_rfl) (by kernel_rfl) (by kernel_rfl) (by kernel_rfl) (by kernel_rfl) (Lf:=L_S31 N) (L0_S31 N) ls_S31 (round_cons (key:=4) (ks:=ks_S31_l4) (by kernel_rfl) (by kernel_rfl) (rd_S31_4 N) trivial) (N:=N) (by kernel_rfl) (fn_S31 N) (.inl (by kernel_rfl))
noncomputable def ks_S32_l4:List Kd:=[.v (.sl tQIIIE) .k,.v (.sl tQIIIE) .k,dK,dK,dK,dK,dK,dK,dK,dK,dK,dK,.v (.int .i64) .k,.v (.int .i64) .k,dK,dK,dK,dK,dK,dK,dK,dK,dK,dK,dK,dK]
noncomputable def ko_S32_l4_0:List Kd:=[dK,dK,dK,dK,dK,dK,dK,dK,dK,dK,dK,dK,dK,dK,dK,dK,dK,dK,dK,dK,dK,dK,dK,dK,dK,dK]
noncomputable def ko_S32_l4_1:List Kd:=[dK,dK,dK,dK,.v .bool .k,dK,dK,dK,dK,dK,dK,dK,dK,dK,dK,dK,dK,dK,dK,dK,dK,dK,dK,dK,dK,dK]
noncomputable def h_S32:Hint:={ tab,hn:=[],loops:=[(4,ks_S32_l4)],outs:=[(4,2,ko_S32_l4_0),(4,1,ko_S32_l4_1)],ords:=[(6,(OT.seq [0,1,2,3,4,5,6,7,8] .done))] }
noncomputable def sg_S32:List AK:=[.v (.sl tQIIIE) .k,.v (.sl tQIIIE) .k]
noncomputable def F_S32 (N:Nat) (x:AVals sg_S32) (kf:Ret→Option Ret):Option Ret:=S32 N x.1 x.2.1 (fun r0=>kf ⟨[⟨.bool,.k,r0⟩],[]⟩)
noncomputable def run_S32 (N:Nat):=runOf sg_S32 (F_S32 N)
noncomputable def es_S32 (N:Nat):List Entry:=[]
noncomputable def body_S32:Code:=match Try.f32.body with | some c=>c | none=>.skip
noncomputable def L_S32 (N n:Nat) (key:Nat) (S:St) (K:Ks):Option Ret:=bif Nat.beq key 4 then withVals ks_S32_l4 S (fun x=>S32_l4 x.1 x.2.1 x.2.2.1 n (K (.x 0) (shape ko_S32_l4_0 ())) (fun z0=>K .r (shape ko_S32_l4_1 (z0,()))) x.2.2.2.1) else none
theorem L0_S32 (N key:Nat) (S:St) (K:Ks):L_S32 N 0 key S K=none:=(bif0 (withVals0 fun _=>rfl) rfl)
noncomputable def c_S32_0:Code:=(loopsIn body_S32).getD 0 .skip
theorem ls_S32:loopsIn body_S32=[c_S32_0]:=by kernel_rfl
theorem rd_S32_4 (N n:Nat) (x:Vals ks_S32_l4) (K:Ks):L_S32 N (n + 1) 4 (shape ks_S32_l4 x) (h_S32.onOut 4 K)=peRound h_S32 (Orc.of (es_S32 N)) (mixL (L_S32 N) N n 4) c_S32_0 (shape ks_S32_l4 x) (h_S32.onOut 4 K):=by kernel_rfl
theorem fn_S32 (N:Nat) (x:AVals sg_S32) (kf:Ret→Option Ret):F_S32 N x kf=peFunc h_S32 (Orc.of (es_S32 N)) (L_S32 N N) Try.f32 (ashape sg_S32 x) kf:=by kernel_rfl
theorem sd_S32 {Γ : Gl} (N:Nat):Sound Γ Try.prog 32 (run_S32 N):=fun_ok2 (hh:=h_S32) mixed tab_ok (es:=es_S32 N) trivial (fn:=Try.f32) (body:=body_S32) (by kernel_rfl) (by kernel_rfl) (by kernel_rfl) (by kernel_rfl) (by kernel_rfl) (Lf:=L_S32 N) (L0_S32 N) ls_S32 (round_cons (key:=4) (ks:=ks_S32_l4) (by kernel_rfl) (by kernel_rfl) (rd_S32_4 N) trivial) (N:=N) (by kernel_rfl) (fn_S32 N) (.inl (by kernel_rfl))
noncomputable def ks_S33_l4:List Kd:=[.v (.sl tQIIIIE) .k,.v (.sl tQIIIIE) .k,dK,dK,dK,dK,dK,dK,dK,dK,dK,dK,.v (.int .i64) .k,.v (.int .i64) .k,dK,dK,dK,dK,dK,dK,dK,dK,dK,dK,dK,dK]
noncomputable def ko_S33_l4_0:List Kd:=[dK,dK,dK,dK,dK,dK,dK,dK,dK,dK,dK,dK,dK,dK,dK,dK,dK,dK,dK,dK,dK,dK,dK,dK,dK,dK]
noncomputable def ko_S33_l4_1:List Kd:=[dK,dK,dK,dK,.v .bool .k,dK,dK,dK,dK,dK,dK,dK,dK,dK,dK,dK,dK,dK,dK,dK,dK,dK,dK,dK,dK,dK]
noncomputable def h_S33:Hint:={ tab,hn:=[],loops:=[(4,ks_S33_l4)],outs:=[(4,2,ko_S33_l4_0),(4,1,ko_S33_l4_1)],ords:=[(6,(OT.seq [0,1,2,3,4,5,6,7,8] .done))] }
noncomputable def sg_S33:List AK:=[.v (.sl tQIIIIE) .k,.v (.sl tQIIIIE) .k]
noncomputable def F_S33 (N:Nat) (x:AVals sg_S33) (kf:Ret→Option Ret):Option Ret:=S33 N x.1 x.2.1 (fun r0=>kf ⟨[⟨.bool,.k,r0⟩],[]⟩)
noncomputable def run_S33 (N:Nat):=runOf sg_S33 (F_S33 N)
noncomputable def es_S33 (N:Nat):List Entry:=[]
noncomputable def body_S33:Code:=match Try.f33.body with | some c=>c | none=>.skip
noncomputable def L_S33 (N n:Nat) (key:Nat) (S:St) (K:Ks):Option Ret:=bif Nat.beq key 4 then withVals ks_S33_l4 S (fun x=>S33_l4 x.1 x.2.1 x.2.2.1 n (K (.x 0) (shape ko_S33_l4_0 ())) (fun z0=>K .r (shape ko_S33_l4_1 (z0,()))) x.2.2.2.1) else none
theorem L0_S33 (N key:Nat) (S:St) (K:Ks):L_S33 N 0 key S K=none:=(bif0 (withVals0 fun _=>rfl) rfl)
noncomputable def c_S33_0:Code:=(loopsIn body_S33).getD 0 .skip
theorem ls_S33:loopsIn body_S33=[c_S33_0]:=by kernel_rfl
theorem rd_S33_4 (N n:Nat) (x:Vals ks_S33_l4) (K:Ks):L_S33 N (n + 1) 4 (shape ks_S33_l4 x) (h_S33.onOut 4 K)=peRound h_S33 (Orc.of (es_S33 N)) (mixL (L_S33 N) N n 4) c_S33_0 (shape ks_S33_l4 x) (h_S33.onOut 4 K):=by kernel_rfl
theorem fn_S33 (N:Nat) (x:AVals sg_S33) (kf:Ret→Option Ret):F_S33 N x kf=peFunc h_S33 (Orc.of (es_S33 N)) (L_S33 N N) Try.f33 (ashape sg_S33 x) kf:=by kernel_rfl
theorem sd_S33 {Γ : Gl} (N:Nat):Sound Γ Try.prog 33 (run_S33 N):=fun_ok2 (hh:=h_S33) mixed tab_ok (es:=es_S33 N) trivial (fn:=Try.f33) (body:=body_S33) (by kernel_rfl) (by kernel_rfl) (by kernel_rfl) (by kernel_rfl) (by kernel_rfl) (Lf:=L_S33 N) (L0_S33 N) ls_S33 (round_cons (key:=4) (ks:=ks_S33_l4) (by kernel_rfl) (by kernel_rfl) (rd_S33_4 N) trivial) (N:=N) (by kernel_rfl) (fn_S33 N) (.inl (by kernel_rfl))
noncomputable def h_I12:Hint:={ tab,hn:=[],loops:=[],outs:=[],ords:=[] }
noncomputable def sg_I12:List AK:=[.v tQLQIIIIILIELQIILIELQIIELILQIIIELQIIIIEIE .k,.v tQLQIIIIILIELQIILIELQIIELILQIIIELQIIIIEIE .k]
noncomputable def F_I12 (N:Nat) (x:AVals sg_I12) (kf:Ret→Option Ret):Option Ret:=I12 N x.1 x.2.1 (fun r0=>kf ⟨[⟨.bool,.k,r0⟩],[]⟩)
noncomputable def run_I12 (N:Nat):=runOf sg_I12 (F_I12 N)
noncomputable def es_I12 (N:Nat):List Entry:=[⟨26,[.val,.val,.val],(run_S26 N)⟩,⟨29,[.val,.val,.val],(run_S29 N)⟩,⟨31,[.val,.val],(run_S31 N)⟩,⟨28,[.val,.val],(run_S28 N)⟩,⟨32,[.val,.val],(run_S32 N)⟩,⟨33,[.val,.val],(run_S33 N)⟩]
noncomputable def body_I12:Code:=match Try.f12.body with | some c=>c | none=>.skip
theorem ls_I12:loopsIn body_I12=[]:=by kernel_rfl
theorem fn_I12 (N:Nat) (x:AVals sg_I12) (kf:Ret→Option Ret):F_I12 N x kf=peFunc h_I12 (Orc.of (es_I12 N)) (noL N N) Try.f12 (ashape sg_I12 x) kf:=by kernel_rfl
theorem sd_I12 {Γ : Gl} (N:Nat):Sound Γ Try.prog 12 (run_I12 N):=fun_ok2 (hh:=h_I12) mixed tab_ok (es:=es_I12 N) ⟨sd_S26 N,⟨sd_S29 N,⟨sd_S31 N,⟨sd_S28 N,⟨sd_S32 N,⟨sd_S33 N,trivial⟩⟩⟩⟩⟩⟩ (fn:=Try.f12) (body:=body_I12) (by kernel_rfl) (by kernel_rfl) (by kernel_rfl) (by kernel_rfl) (by kernel_rfl) (Lf:=noL N) (noL0 N) ls_I12 trivial (N:=N) (by kernel_rfl) (fn_I12 N) (.inl (by kernel_rfl))
noncomputable def h_L3:Hint:={ tab,hn:=[],loops:=[],outs:=[],ords:=[(7,(OT.seq [0,1,2,3,4,5,6,7,8,9,10,11,12,13,14,15,17,18,19,20,16,21,22,23] .done)),(10,(OT.seq [0,1,3,4,2,5,6,7,8,9,10,11,12] .done))] }
noncomputable def sg_L3:List AK:=[.v (.sl (.int .u8)) .k]
noncomputable def F_L3 (N:Nat) (x:AVals sg_L3) (kf:Ret→Option Ret):Option Ret:=L3 N x.1 (fun r0=>kf ⟨[⟨.bool,.k,r0⟩],[]⟩)
noncomputable def run_L3 (N:Nat):=runOf sg_L3 (F_L3 N)
noncomputable def es_L3 (N:Nat):List Entry:=[⟨4,[.val],(run_L4 N)⟩,⟨6,[],(run_I6 N)⟩,⟨5,[.val],(run_I5 N)⟩,⟨7,[.val],(run_I7 N)⟩,⟨8,[.val],(run_S8 N)⟩,⟨9,[.val],(run_I9 N)⟩,⟨10,[.val],(run_L10 N)⟩,⟨11,[.val],(run_S11 N)⟩,⟨12,[.val,.val],(run_I12 N)⟩]
noncomputable def body_L3:Code:=match Try.f3.body with | some c=>c | none=>.skip
theorem ls_L3:loopsIn body_L3=[]:=by kernel_rfl
theorem fng_L3 (g0:TG0_L3) (g1:TG1_L3) (g2:TG2_L3) (g3:TG2_L3) (g4:TG3_L3) (g5:TG4_L3) (g6:TG0_L3) (g7:TG5_L3) (g8:TG6_L3) (N:Nat) (x:AVals sg_L3) (kf:Ret→Option Ret):L3_g g0 g1 g2 g3 g4 g5 g6 g7 g8 N x.1 (fun r0=>kf ⟨[⟨.bool,.k,r0⟩],[]⟩)=peFunc h_L3 (Orc.of [⟨4,[.val],(runOf sg_L4 (fun x kf=>g0 N x.1 (fun r0=>kf ⟨[⟨.bool,.k,r0⟩],[]⟩)))⟩,⟨6,[],(runOf sg_I6 (fun x kf=>g1 N (fun r0=>kf ⟨[⟨tQLQIIIIILIELQIILIELQIIELILQIIIELQIIIIEIE,(.p (.o 59 none (.p .k (.p .k (.p .k (.p .k (.p .k (.o 3 none .k))))))) (.p (.o 64 none (.p .k (.p .k (.o 3 none .k)))) (.p (.o 68 none .k) (.p (.o 3 none .k) (.p (.o 46 none .k) (.p (.o 56 none .k) .k)))))),r0⟩],[]⟩)))⟩,⟨5,[.val],(runOf sg_I5 (fun x kf=>g2 N x.1 (fun r0=>kf ⟨[⟨.bool,.k,r0⟩],[]⟩)))⟩,⟨7,[.val],(runOf sg_I7 (fun x kf=>g3 N x.1 (fun r0=>kf ⟨[⟨.bool,.k,r0⟩],[]⟩)))⟩,⟨8,[.val],(runOf sg_S8 (fun x kf=>g4 N x.1 (fun r0=>kf ⟨[⟨tQLQIIIIILIELQIILIELQIIELILQIIIELQIIIIEIE,(.p (.o 59 none (.p .k (.p .k (.p .k (.p .k (.p .k (.o 3 none .k))))))) (.p (.o 64 none (.p .k (.p .k (.o 3 none .k)))) (.p (.o 68 none .k) (.p (.o 3 none .k) (.p (.o 46 none .k) (.p (.o 56 none .k) .k)))))),r0⟩],[]⟩)))⟩,⟨9,[.val],(runOf sg_I9 (fun x kf=>g5 N x.1 (fun r0=>kf ⟨[⟨(.sl (.int .i64)),(.o 3 none .k),r0⟩],[]⟩)))⟩,⟨10,[.val],(runOf sg_L10 (fun x kf=>g6 N x.1 (fun r0=>kf ⟨[⟨.bool,.k,r0⟩],[]⟩)))⟩,⟨11,[.val],(runOf sg_S11 (fun x kf=>g7 N x.1 (fun r0 r1=>kf ⟨[⟨tQLQIIIIILIELQIILIELQIIELILQIIIELQIIIIEIE,(.p (.o 59 none (.p .k (.p .k (.p .k (.p .k (.p .k (.o 3 none .k))))))) (.p (.o 64 none (.p .k (.p .k (.o 3 none .k)))) (.p (.o 68 none .k) (.p (.o 3 none .k) (.p (.o 46 none .k) (.p (.o 56 none .k) .k)))))),r0⟩,⟨tQLQIIIIILIELQIILIELQIIELILQIIIELQIIIIEIE,(.p (.o 59 none (.p .k (.p .k (.p .k (.p .k (.p .k (.o 3 none .k))))))) (.p (.o 64 none (.p .k (.p .k (.o 3 none .k)))) (.p (.o 68 none .k) (.p (.o 3 none .k) (.p (.o 46 none .k) (.p (.o 56 none .k) .k)))))),r1⟩],[]⟩)))⟩,⟨12,[.val,.val],(runOf sg_I12 (fun x kf=>g8 N x.1 x.2.1 (fun r0=>kf ⟨[⟨.bool,.k,r0⟩],[]⟩)))⟩]) (fun key S K=>none) Try.f3 (ashape sg_L3 x) kf:=by kernel_rfl
theorem fn_L3 (N:Nat) (x:AVals sg_L3) (kf:Ret→Option Ret):F_L3 N x kf=peFunc h_L3 (Orc.of (es_L3 N)) (noL N N) Try.f3 (ashape sg_L3 x) kf:=fng_L3 L4 I6 I5 I7 S8 I9 L10 S11 I12 N x kf
theorem sd_L3 {Γ : Gl} (N:Nat):Sound Γ Try.prog 3 (run_L3 N):=fun_ok2 (hh:=h_L3) mixed tab_ok (es:=es_L3 N) ⟨sd_L4 N,⟨sd_I6 N,⟨sd_I5 N,⟨sd_I7 N,⟨sd_S8 N,⟨sd_I9 N,⟨sd_L10 N,⟨sd_S11 N,⟨sd_I12 N,trivial⟩⟩⟩⟩⟩⟩⟩⟩⟩ (fn:=Try.f3) (body:=body_L3) (by kernel_rfl) (by kernel_rfl) (by kernel_rfl) (by kernel_rfl) (by kernel_rfl) (Lf:=noL N) (noL0 N) ls_L3 trivial (N:=N) (by kernel_rfl) (fn_L3 N) (.inl (by kernel_rfl))
end Go.Pv.R
