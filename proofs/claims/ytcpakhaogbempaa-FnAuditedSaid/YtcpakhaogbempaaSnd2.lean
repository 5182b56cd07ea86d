/- Each function of the program that the law reaches computes its plain function, part 2. -/
import Derived.Test.YtcpakhaogbempaaSnd1
import Derived.Test.YtcpakhaogbempaaProg
namespace Go.Pv.R
open Go.Proofs
set_option linter.unusedVariables false
set_option maxRecDepth 100000
noncomputable def ks_S167_l2:List Kd:=[.v (.sl (.int .i64)) .k,.v (.int .i64) .k,dK,dK,dK,.v (.int .i64) .k,dK,dK,dK,dK,dK,dK,dK,dK,dK,dK,dK,dK,dK,dK,dK,dK,dK,dK,dK,dK,dK,dK,dK,dK,dK,dK,dK,dK,dK,dK,dK,dK,dK,dK,dK,dK,dK,dK,dK,dK,dK]
noncomputable def ko_S167_l2_0:List Kd:=[.v (.sl (.int .i64)) .k,.v (.int .i64) .k,dK,dK,dK,.v (.int .i64) .k,dK,dK,dK,dK,dK,dK,dK,dK,dK,dK,dK,dK,dK,dK,dK,dK,dK,dK,dK,dK,dK,dK,dK,dK,dK,dK,dK,dK,dK,dK,dK,dK,dK,dK,dK,dK,dK,dK,dK,dK,dK]
noncomputable def h_S167:Hint:={ tab,hn:=[],loops:=[(2,ks_S167_l2)],outs:=[(2,2,ko_S167_l2_0)],ords:=[(6,(OT.seq [1,2,3,5,8,9,10] (.any [0,4,6] (OT.seq [7,11,12] .done))))] }
noncomputable def sg_S167:List AK:=[.v (.sl (.int .i64)) .k,.v (.int .i64) .k]
noncomputable def F_S167 (N:Nat) (x:AVals sg_S167) (kf:Ret→Option Ret):Option Ret:=S167 N x.1 x.2.1 (fun r0=>kf ⟨[⟨(.sl (.int .i64)),(.o 3 none .k),r0⟩],[]⟩)
noncomputable def run_S167 (N:Nat):=runOf sg_S167 (F_S167 N)
noncomputable def es_S167 (N:Nat):List Entry:=[]
noncomputable def body_S167:Code:=match Try.f167.body with | some c=>c | none=>.skip
noncomputable def L_S167 (N n:Nat) (key:Nat) (S:St) (K:Ks):Option Ret:=bif Nat.beq key 2 then withVals ks_S167_l2 S (fun x=>S167_l2 x.1 x.2.1 n (fun z0=>K (.x 0) (shape ko_S167_l2_0 (x.1,x.2.1,z0,()))) x.2.2.1) else none
theorem L0_S167 (N key:Nat) (S:St) (K:Ks):L_S167 N 0 key S K=none:=(bif0 (withVals0 fun _=>rfl) rfl)
noncomputable def c_S167_0:Code:=(loopsIn body_S167).getD 0 .skip
theorem ls_S167:loopsIn body_S167=[c_S167_0]:=by kernel_rfl
theorem rd_S167_2 (N n:Nat) (x:Vals ks_S167_l2) (K:Ks):L_S167 N (n + 1) 2 (shape ks_S167_l2 x) (h_S167.onOut 2 K)=peRound h_S167 (Orc.of (es_S167 N)) (mixL (L_S167 N) N n 2) c_S167_0 (shape ks_S167_l2 x) (h_S167.onOut 2 K):=by kernel_rfl
theorem fn_S167 (N:Nat) (x:AVals sg_S167) (kf:Ret→Option Ret):F_S167 N x kf=peFunc h_S167 (Orc.of (es_S167 N)) (L_S167 N N) Try.f167 (ashape sg_S167 x) kf:=by kernel_rfl
theorem sd_S167 {Γ : Gl} (N:Nat):Sound Γ Try.prog 167 (run_S167 N):=fun_ok2 (hh:=h_S167) mixed tab_ok (es:=es_S167 N) trivial (fn:=Try.f167) (body:=body_S167) (by kernel_rfl) (by kernel_rfl) (by kernel_rfl) (by kernel_rfl) (by kernel_rfl) (Lf:=L_S167 N) (L0_S167 N) ls_S167 (round_cons (key:=2) (ks:=ks_S167_l2) (by kernel_rfl) (by kernel_rfl) (rd_S167_2 N) trivial) (N:=N) (by kernel_rfl) (fn_S167 N) (.inl (by kernel_rfl))
noncomputable def ks_S149_l6:List Kd:=[dK,.v (.ptr tQLQIIIIILIELQIILIELQIIELILQIIIELQIIIIEIE) (.o 32 none .k),.v (.ptr tQLQIIIIILIELQIILIELQIIELILQIIIELQIIIIEIE) (.o 32 none (.p (.o 54 none (.p .k (.p .k (.p .k (.p .k (.p .k (.o 3 none .k))))))) (.p (.o 85 none (.p .k (.p .k (.o 3 none .k)))) (.p (.o 89 none .k) (.p (.o 3 none .k) (.p (.o 70 none .k) (.p (.o 79 none .k) .k))))))),dK,.v (.ptr tQLQIIIIILIELQIILIELQIIELILQIIIELQIIIIEIE) (.o 32 none (.p (.o 54 none (.p .k (.p .k (.p .k (.p .k (.p .k (.o 3 none .k))))))) (.p (.o 85 none (.p .k (.p .k (.o 3 none .k)))) (.p (.o 89 none .k) (.p (.o 3 none .k) (.p (.o 70 none .k) (.p (.o 79 none .k) .k))))))),.v .bool .k,.v (.int .i64) .k,dK,dK,dK,dK,dK,dK,dK,dK,dK,dK,dK,dK,dK,dK,dK,dK,dK,dK,dK,dK,dK,dK,dK,dK,dK,dK,dK,dK,dK,dK,dK,dK,dK,dK,dK,dK,dK,dK,dK,dK,dK,dK,dK,dK,dK,dK,dK,dK,dK,dK,dK,dK,dK,dK,dK,dK,dK,dK,dK,dK,dK,dK,dK,dK,dK,dK,dK,dK,dK,dK,dK,dK,dK,dK,dK,dK,dK,dK,dK,dK,dK,dK,dK,dK,dK,dK,dK,dK,dK,dK,dK,dK,dK,dK,dK,dK,dK,dK,dK,dK,dK,dK,dK,dK,dK,dK,dK,dK,dK,dK,dK,dK,dK]
noncomputable def ko_S149_l6_0:List Kd:=[dK,.v (.ptr tQLQIIIIILIELQIILIELQIIELILQIIIELQIIIIEIE) (.o 32 none .k),.v (.ptr tQLQIIIIILIELQIILIELQIIELILQIIIELQIIIIEIE) (.o 32 none (.p (.o 54 none (.p .k (.p .k (.p .k (.p .k (.p .k (.o 3 none .k))))))) (.p (.o 85 none (.p .k (.p .k (.o 3 none .k)))) (.p (.o 89 none .k) (.p (.o 3 none .k) (.p (.o 70 none .k) (.p (.o 79 none .k) .k))))))),dK,.v (.ptr tQLQIIIIILIELQIILIELQIIELILQIIIELQIIIIEIE) (.o 32 none (.p (.o 54 none (.p .k (.p .k (.p .k (.p .k (.p .k (.o 3 none .k))))))) (.p (.o 85 none (.p .k (.p .k (.o 3 none .k)))) (.p (.o 89 none .k) (.p (.o 3 none .k) (.p (.o 70 none .k) (.p (.o 79 none .k) .k))))))),.v .bool .k,dK,dK,dK,dK,dK,dK,dK,dK,dK,dK,dK,dK,dK,dK,dK,dK,dK,dK,dK,dK,dK,dK,dK,dK,dK,dK,dK,dK,dK,dK,dK,dK,dK,dK,dK,dK,dK,dK,dK,dK,dK,dK,dK,dK,dK,dK,dK,dK,dK,dK,dK,dK,dK,dK,dK,dK,dK,dK,dK,dK,dK,dK,dK,dK,dK,dK,dK,dK,dK,dK,dK,dK,dK,dK,dK,dK,dK,dK,dK,dK,dK,dK,dK,dK,dK,dK,dK,dK,dK,dK,dK,dK,dK,dK,dK,dK,dK,dK,dK,dK,dK,dK,dK,dK,dK,dK,dK,dK,dK,dK,dK,dK,dK,dK]
noncomputable def h_S149:Hint:={ tab,hn:=[],loops:=[(6,ks_S149_l6)],outs:=[(6,2,ko_S149_l6_0)],ords:=[(9,(OT.seq [0,1,2,3,4,5,6,7,8,9,10,11,12,13,14,17,18,19,20,15,16,21,22,23,24,25,26] .done)),(12,(OT.seq [0,1,2,3,4,5,6,7,8] .done)),(13,(OT.seq [0,1,2,3,4,5,6,7,8,9,10,11,12,13,14,16,17,18,19,20,21,15,22,23,24,25] .done))] }
noncomputable def sg_S149:List AK:=[.v tQLQIIIIILIELQIILIELQIIELILQIIIELQIIIIEIE .k]
noncomputable def F_S149 (N:Nat) (x:AVals sg_S149) (kf:Ret→Option Ret):Option Ret:=S149 N x.1 (fun r0 r1=>kf ⟨[⟨tQLQIIIIILIELQIILIELQIIELILQIIIELQIIIIEIE,(.p (.o 54 none (.p .k (.p .k (.p .k (.p .k (.p .k (.o 3 none .k))))))) (.p (.o 85 none (.p .k (.p .k (.o 3 none .k)))) (.p (.o 89 none .k) (.p (.o 3 none .k) (.p (.o 70 none .k) (.p (.o 79 none .k) .k)))))),r0⟩,⟨.bool,.k,r1⟩],[]⟩)
noncomputable def run_S149 (N:Nat):=runOf sg_S149 (F_S149 N)
noncomputable def es_S149 (N:Nat):List Entry:=[⟨49,[.val],(run_S49 N)⟩,⟨162,[.val],(run_S162 N)⟩,⟨161,[.val],(run_S161 N)⟩,⟨164,[.val],(run_S164 N)⟩,⟨165,[.val],(run_S165 N)⟩,⟨110,[.val,.val,.val,.val,.val,.val],(run_S110 N)⟩,⟨166,[.val,.val],(run_S166 N)⟩,⟨167,[.val,.val],(run_S167 N)⟩,⟨160,[.val,.take,.val,.val,.val],(run_S160 N)⟩]
noncomputable def body_S149:Code:=match Try.f149.body with | some c=>c | none=>.skip
noncomputable def L_S149 (N n:Nat) (key:Nat) (S:St) (K:Ks):Option Ret:=bif Nat.beq key 6 then withVals ks_S149_l6 S (fun x=>S149_l6 N x.1 x.2.1 n (fun z0 z1=>K (.x 0) (shape ko_S149_l6_0 (x.1,x.2.1,z0,z1,()))) x.2.2.1 x.2.2.2.1 x.2.2.2.2.1) else none
theorem L0_S149 (N key:Nat) (S:St) (K:Ks):L_S149 N 0 key S K=none:=(bif0 (withVals0 fun _=>rfl) rfl)
noncomputable def c_S149_0:Code:=(loopsIn body_S149).getD 0 .skip
theorem ls_S149:loopsIn body_S149=[c_S149_0]:=by kernel_rfl
theorem rd_S149_6 (N n:Nat) (x:Vals ks_S149_l6) (K:Ks):L_S149 N (n + 1) 6 (shape ks_S149_l6 x) (h_S149.onOut 6 K)=peRound h_S149 (Orc.of (es_S149 N)) (mixL (L_S149 N) N n 6) c_S149_0 (shape ks_S149_l6 x) (h_S149.onOut 6 K):=by kernel_rfl
theorem fn_S149 (N:Nat) (x:AVals sg_S149) (kf:Ret→Option Ret):F_S149 N x kf=peFunc h_S149 (Orc.of (es_S149 N)) (L_S149 N N) Try.f149 (ashape sg_S149 x) kf:=by kernel_rfl
theorem sd_S149 {Γ : Gl} (N:Nat):Sound Γ Try.prog 149 (run_S149 N):=fun_ok2 (hh:=h_S149) mixed tab_ok (es:=es_S149 N) ⟨sd_S49 N,⟨sd_S162 N,⟨sd_S161 N,⟨sd_S164 N,⟨sd_S165 N,⟨sd_S110 N,⟨sd_S166 N,⟨sd_S167 N,⟨sd_S160 N,trivial⟩⟩⟩⟩⟩⟩⟩⟩⟩ (fn:=Try.f149) (body:=body_S149) (by kernel_rfl) (by kernel_rfl) (by kernel_rfl) (by kernel_rfl) (by kernel_rfl) (Lf:=L_S149 N) (L0_S149 N) ls_S149 (round_cons (key:=6) (ks:=ks_S149_l6) (by kernel_rfl) (by kernel_rfl) (rd_S149_6 N) trivial) (N:=N) (by kernel_rfl) (fn_S149 N) (.inl (by kernel_rfl))
noncomputable def h_S150:Hint:={ tab,hn:=[],loops:=[],outs:=[],ords:=[(5,(OT.seq [0,1,2,3,5,6,7,8,9,4,10,11,12,13] .done))] }
noncomputable def sg_S150:List AK:=[.v tQLQIIIIILIELQIILIELQIIELILQIIIELQIIIIEIE .k,.v (.int .i64) .k]
noncomputable def F_S150 (N:Nat) (x:AVals sg_S150) (kf:Ret→Option Ret):Option Ret:=S150 N x.1 x.2.1 (fun r0 r1=>kf ⟨[⟨tQLQIIIIILIELQIILIELQIIELILQIIIELQIIIIEIE,(.p (.o 54 none (.p .k (.p .k (.p .k (.p .k (.p .k (.o 3 none .k))))))) (.p (.o 85 none (.p .k (.p .k (.o 3 none .k)))) (.p (.o 89 none .k) (.p (.o 3 none .k) (.p (.o 70 none .k) (.p (.o 79 none .k) .k)))))),r0⟩,⟨.bool,.k,r1⟩],[]⟩)
noncomputable def run_S150 (N:Nat):=runOf sg_S150 (F_S150 N)
noncomputable def es_S150 (N:Nat):List Entry:=[⟨49,[.val],(run_S49 N)⟩,⟨131,[.val,.val],(run_S131 N)⟩,⟨161,[.val],(run_S161 N)⟩,⟨89,[.val],(run_S89 N)⟩,⟨160,[.val,.take,.val,.val,.val],(run_S160 N)⟩]
noncomputable def body_S150:Code:=match Try.f150.body with | some c=>c | none=>.skip
theorem ls_S150:loopsIn body_S150=[]:=by kernel_rfl
theorem fn_S150 (N:Nat) (x:AVals sg_S150) (kf:Ret→Option Ret):F_S150 N x kf=peFunc h_S150 (Orc.of (es_S150 N)) (noL N N) Try.f150 (ashape sg_S150 x) kf:=by kernel_rfl
theorem sd_S150 {Γ : Gl} (N:Nat):Sound Γ Try.prog 150 (run_S150 N):=fun_ok2 (hh:=h_S150) mixed tab_ok (es:=es_S150 N) ⟨sd_S49 N,⟨sd_S131 N,⟨sd_S161 N,⟨sd_S89 N,⟨sd_S160 N,trivial⟩⟩⟩⟩⟩ (fn:=Try.f150) (body:=body_S150) (by kernel_rfl) (by kernel_rfl) (by kernel_rfl) (by kernel_rfl) (by kernel_rfl) (Lf:=noL N) (noL0 N) ls_S150 trivial (N:=N) (by kernel_rfl) (fn_S150 N) (.inl (by kernel_rfl))
noncomputable def h_S124:Hint:={ tab,hn:=[],loops:=[],outs:=[],ords:=[] }
noncomputable def sg_S124:List AK:=[.v tQLQIIIIILIELQIILIELQIIELILQIIIELQIIIIEIE .k,.v tQIIIIE .k]
noncomputable def F_S124 (N:Nat) (x:AVals sg_S124) (kf:Ret→Option Ret):Option Ret:=S124 N x.1 x.2.1 (fun r0 r1=>kf ⟨[⟨tQLQIIIIILIELQIILIELQIIELILQIIIELQIIIIEIE,(.p (.o 54 none (.p .k (.p .k (.p .k (.p .k (.p .k (.o 3 none .k))))))) (.p (.o 85 none (.p .k (.p .k (.o 3 none .k)))) (.p (.o 89 none .k) (.p (.o 3 none .k) (.p (.o 70 none .k) (.p (.o 79 none .k) .k)))))),r0⟩,⟨.bool,.k,r1⟩],[]⟩)
noncomputable def run_S124 (N:Nat):=runOf sg_S124 (F_S124 N)
noncomputable def es_S124 (N:Nat):List Entry:=[⟨145,[.val,.val,.val],(run_S145 N)⟩,⟨146,[.val,.val,.val],(run_S146 N)⟩,⟨147,[.val],(run_S147 N)⟩,⟨148,[.val,.val,.val,.val],(run_S148 N)⟩,⟨149,[.val],(run_S149 N)⟩,⟨150,[.val,.val],(run_S150 N)⟩,⟨49,[.val],(run_S49 N)⟩]
noncomputable def body_S124:Code:=match Try.f124.body with | some c=>c | none=>.skip
theorem ls_S124:loopsIn body_S124=[]:=by kernel_rfl
theorem fn_S124 (N:Nat) (x:AVals sg_S124) (kf:Ret→Option Ret):F_S124 N x kf=peFunc h_S124 (Orc.of (es_S124 N)) (noL N N) Try.f124 (ashape sg_S124 x) kf:=by kernel_rfl
theorem sd_S124 {Γ : Gl} (N:Nat):Sound Γ Try.prog 124 (run_S124 N):=fun_ok2 (hh:=h_S124) mixed tab_ok (es:=es_S124 N) ⟨sd_S145 N,⟨sd_S146 N,⟨sd_S147 N,⟨sd_S148 N,⟨sd_S149 N,⟨sd_S150 N,⟨sd_S49 N,trivial⟩⟩⟩⟩⟩⟩⟩ (fn:=Try.f124) (body:=body_S124) (by kernel_rfl) (by kernel_rfl) (by kernel_rfl) (by kernel_rfl) (by kernel_rfl) (Lf:=noL N) (noL0 N) ls_S124 trivial (N:=N) (by kernel_rfl) (fn_S124 N) (.inl (by kernel_rfl))
noncomputable def ks_S100_l3:List Kd:=[dK,.v (.sl tQIIIIE) .k,dK,dK,.v (.ptr tQLQIIIIILIELQIILIELQIIELILQIIIELQIIIIEIE) (.o 32 none (.p (.o 54 none (.p .k (.p .k (.p .k (.p .k (.p .k (.o 3 none .k))))))) (.p (.o 85 none (.p .k (.p .k (.o 3 none .k)))) (.p (.o 89 none .k) (.p (.o 3 none .k) (.p (.o 70 none .k) (.p (.o 79 none .k) .k))))))),.v (.ptr tQLQIIIIILIELQIILIELQIIELILQIIIELQIIIIEIE) (.o 32 none (.p (.o 54 none (.p .k (.p .k (.p .k (.p .k (.p .k (.o 3 none .k))))))) (.p (.o 85 none (.p .k (.p .k (.o 3 none .k)))) (.p (.o 89 none .k) (.p (.o 3 none .k) (.p (.o 70 none .k) (.p (.o 79 none .k) .k))))))),.v (.int .i64) .k,dK,dK,dK,dK,dK,dK,dK,dK,dK,dK,dK,dK,dK,dK,dK,dK,dK,dK]
noncomputable def ko_S100_l3_0:List Kd:=[dK,dK,dK,dK,.v (.ptr tQLQIIIIILIELQIILIELQIIELILQIIIELQIIIIEIE) (.o 32 none (.p (.o 54 none (.p .k (.p .k (.p .k (.p .k (.p .k (.o 3 none .k))))))) (.p (.o 85 none (.p .k (.p .k (.o 3 none .k)))) (.p (.o 89 none .k) (.p (.o 3 none .k) (.p (.o 70 none .k) (.p (.o 79 none .k) .k))))))),.v (.ptr tQLQIIIIILIELQIILIELQIIELILQIIIELQIIIIEIE) (.o 32 none (.p (.o 54 none (.p .k (.p .k (.p .k (.p .k (.p .k (.o 3 none .k))))))) (.p (.o 85 none (.p .k (.p .k (.o 3 none .k)))) (.p (.o 89 none .k) (.p (.o 3 none .k) (.p (.o 70 none .k) (.p (.o 79 none .k) .k))))))),dK,dK,dK,dK,dK,dK,dK,dK,dK,dK,dK,dK,dK,dK,dK,dK,dK,dK,dK]
noncomputable def h_S100:Hint:={ tab,hn:=[],loops:=[(3,ks_S100_l3)],outs:=[(3,2,ko_S100_l3_0)],ords:=[(5,(OT.seq [0,1,2,3,4,5,6,7,8,9] .done))] }
noncomputable def sg_S100:List AK:=[.v tQLQIIIIILIELQIILIELQIIELILQIIIELQIIIIEIE .k,.v (.sl tQIIIIE) .k]
noncomputable def F_S100 (N:Nat) (x:AVals sg_S100) (kf:Ret→Option Ret):Option Ret:=S100 N x.1 x.2.1 (fun r0=>kf ⟨[⟨tQLQIIIIILIELQIILIELQIIELILQIIIELQIIIIEIE,(.p (.o 54 none (.p .k (.p .k (.p .k (.p .k (.p .k (.o 3 none .k))))))) (.p (.o 85 none (.p .k (.p .k (.o 3 none .k)))) (.p (.o 89 none .k) (.p (.o 3 none .k) (.p (.o 70 none .k) (.p (.o 79 none .k) .k)))))),r0⟩],[]⟩)
noncomputable def run_S100 (N:Nat):=runOf sg_S100 (F_S100 N)
noncomputable def es_S100 (N:Nat):List Entry:=[⟨49,[.val],(run_S49 N)⟩,⟨124,[.val,.val],(run_S124 N)⟩]
noncomputable def body_S100:Code:=match Try.f100.body with | some c=>c | none=>.skip
noncomputable def L_S100 (N n:Nat) (key:Nat) (S:St) (K:Ks):Option Ret:=bif Nat.beq key 3 then withVals ks_S100_l3 S (fun x=>S100_l3 N x.1 x.2.1 n (fun z0=>K (.x 0) (shape ko_S100_l3_0 (x.2.1,z0,()))) x.2.2.1 x.2.2.2.1) else none
theorem L0_S100 (N key:Nat) (S:St) (K:Ks):L_S100 N 0 key S K=none:=(bif0 (withVals0 fun _=>rfl) rfl)
noncomputable def c_S100_0:Code:=(loopsIn body_S100).getD 0 .skip
theorem ls_S100:loopsIn body_S100=[c_S100_0]:=by kernel_rfl
theorem rd_S100_3 (N n:Nat) (x:Vals ks_S100_l3) (K:Ks):L_S100 N (n + 1) 3 (shape ks_S100_l3 x) (h_S100.onOut 3 K)=peRound h_S100 (Orc.of (es_S100 N)) (mixL (L_S100 N) N n 3) c_S100_0 (shape ks_S100_l3 x) (h_S100.onOut 3 K):=by kernel_rfl
theorem fn_S100 (N:Nat) (x:AVals sg_S100) (kf:Ret→Option Ret):F_S100 N x kf=peFunc h_S100 (Orc.of (es_S100 N)) (L_S100 N N) Try.f100 (ashape sg_S100 x) kf:=by kernel_rfl
theorem sd_S100 {Γ : Gl} (N:Nat):Sound Γ Try.prog 100 (run_S100 N):=fun_ok2 (hh:=h_S100) mixed tab_ok (es:=es_S100 N) ⟨sd_S49 N,⟨sd_S124 N,trivial⟩⟩ (fn:=Try.f100) (body:=body_S100) (by kernel_rfl) (by kernel_rfl) (by kernel_rfl) (by kernel_rfl) (by kernel_rfl) (Lf:=L_S100 N) (L0_S100 N) ls_S100 (round_cons (key:=3) (ks:=ks_S100_l3) (by kernel_rfl) (by kernel_rfl) (rd_S100_3 N) trivial) (N:=N) (by kernel_rfl) (fn_S100 N) (.inl (by kernel_rfl))
noncomputable def h_S70:Hint:={ tab,hn:=[(18,.k),(27,.k),(36,.k),(58,.k)],loops:=[],outs:=[],ords:=[],lent:=some (0,false) }
noncomputable def sg_S70:List AK:=[.v (.ptr tQLIIIE) (.o 108 (some 0) .k)]
noncomputable def F_S70 (N:Nat) (x:AVals sg_S70) (kf:Ret→Option Ret):Option Ret:=S70 N x.1 (fun r0 z=>kf ⟨[⟨(.sl tQIIIIILIE),(.o 54 none (.p .k (.p .k (.p .k (.p .k (.p .k (.o 3 none .k))))))),r0⟩],[⟨(.ptr tQLIIIE),(.o 108 (some 0) .k),z⟩]⟩)
noncomputable def run_S70 (N:Nat):=runOf sg_S70 (F_S70 N)
noncomputable def es_S70 (N:Nat):List Entry:=[⟨82,[.lend],(run_S82 N)⟩,⟨50,[.lend,.val],(run_S50 N)⟩,⟨102,[.lend,.val],(run_S102 N)⟩]
noncomputable def body_S70:Code:=match Try.f70.body with | some c=>c | none=>.skip
theorem ls_S70:loopsIn body_S70=[]:=by kernel_rfl
theorem fn_S70 (N:Nat) (x:AVals sg_S70) (kf:Ret→Option Ret):F_S70 N x kf=peFunc h_S70 (Orc.of (es_S70 N)) (noL N N) Try.f70 (ashape sg_S70 x) kf:=by kernel_rfl
theorem sd_S70 {Γ : Gl} (N:Nat):Sound Γ Try.prog 70 (run_S70 N):=fun_ok2 (hh:=h_S70) mixed tab_ok (es:=es_S70 N) ⟨sd_S82 N,⟨sd_S50 N,⟨sd_S102 N,trivial⟩⟩⟩ (fn:=Try.f70) (body:=body_S70) (by kernel_rfl) (by kernel_rfl) (by kernel_rfl) (by kernel_rfl) (by kernel_rfl) (Lf:=noL N) (noL0 N) ls_S70 trivial (N:=N) (by kernel_rfl) (fn_S70 N) (.inl (by kernel_rfl))
noncomputable def h_S88:Hint:={ tab,hn:=[(18,.k),(27,.k)],loops:=[],outs:=[],ords:=[],lent:=some (0,false) }
noncomputable def sg_S88:List AK:=[.v (.ptr tQLIIIE) (.o 108 (some 0) .k)]
noncomputable def F_S88 (N:Nat) (x:AVals sg_S88) (kf:Ret→Option Ret):Option Ret:=S88 N x.1 (fun r0 z=>kf ⟨[⟨(.sl tQIILIE),(.o 85 none (.p .k (.p .k (.o 3 none .k)))),r0⟩],[⟨(.ptr tQLIIIE),(.o 108 (some 0) .k),z⟩]⟩)
noncomputable def run_S88 (N:Nat):=runOf sg_S88 (F_S88 N)
noncomputable def es_S88 (N:Nat):List Entry:=[⟨83,[.lend],(run_S83 N)⟩,⟨50,[.lend,.val],(run_S50 N)⟩,⟨102,[.lend,.val],(run_S102 N)⟩]
noncomputable def body_S88:Code:=match Try.f88.body with | some c=>c | none=>.skip
theorem ls_S88:loopsIn body_S88=[]:=by kernel_rfl
theorem fn_S88 (N:Nat) (x:AVals sg_S88) (kf:Ret→Option Ret):F_S88 N x kf=peFunc h_S88 (Orc.of (es_S88 N)) (noL N N) Try.f88 (ashape sg_S88 x) kf:=by kernel_rfl
theorem sd_S88 {Γ : Gl} (N:Nat):Sound Γ Try.prog 88 (run_S88 N):=fun_ok2 (hh:=h_S88) mixed tab_ok (es:=es_S88 N) ⟨sd_S83 N,⟨sd_S50 N,⟨sd_S102 N,trivial⟩⟩⟩ (fn:=Try.f88) (body:=body_S88) (by kernel_rfl) (by kernel_rfl) (by kernel_rfl) (by kernel_rfl) (by kernel_rfl) (Lf:=noL N) (noL0 N) ls_S88 trivial (N:=N) (by kernel_rfl) (fn_S88 N) (.inl (by kernel_rfl))
noncomputable def ks_S75_l3:List Kd:=[.v (.ptr tQLIIIE) (.o 108 (some 0) .k),dK,dK,.v (.sl tQIIIIE) (.o 79 none .k),.v (.int .i64) .k,dK,dK,dK,dK,dK,dK,dK,dK,dK,dK,dK,dK,dK,dK,dK,dK,dK,dK,dK,dK,dK,dK,dK,dK,dK,dK,dK,dK,dK,dK,dK,dK,dK,dK,dK,dK,dK,dK,dK,dK,dK,dK,dK,dK,dK,dK,dK,dK,dK,dK,dK,dK,dK,dK,dK,dK,dK,dK,dK,dK,dK]
noncomputable def ko_S75_l3_0:List Kd:=[.v (.ptr tQLIIIE) (.o 108 (some 0) .k),dK,dK,.v (.sl tQIIIIE) (.o 79 none .k),dK,dK,dK,dK,dK,dK,dK,dK,dK,dK,dK,dK,dK,dK,dK,dK,dK,dK,dK,dK,dK,dK,dK,dK,dK,dK,dK,dK,dK,dK,dK,dK,dK,dK,dK,dK,dK,dK,dK,dK,dK,dK,dK,dK,dK,dK,dK,dK,dK,dK,dK,dK,dK,dK,dK,dK,dK,dK,dK,dK,dK,dK]
noncomputable def h_S75:Hint:={ tab,hn:=[(37,.k)],loops:=[(3,ks_S75_l3)],outs:=[(3,2,ko_S75_l3_0)],ords:=[],lent:=some (0,false) }
noncomputable def sg_S75:List AK:=[.v (.ptr tQLIIIE) (.o 108 (some 0) .k)]
noncomputable def F_S75 (N:Nat) (x:AVals sg_S75) (kf:Ret→Option Ret):Option Ret:=S75 N x.1 (fun r0 z=>kf ⟨[⟨(.sl tQIIIIE),(.o 79 none .k),r0⟩],[⟨(.ptr tQLIIIE),(.o 108 (some 0) .k),z⟩]⟩)
noncomputable def run_S75 (N:Nat):=runOf sg_S75 (F_S75 N)
noncomputable def es_S75 (N:Nat):List Entry:=[⟨50,[.lend,.val],(run_S50 N)⟩,⟨104,[.val,.val,.val],(run_S104 N)⟩,⟨102,[.lend,.val],(run_S102 N)⟩]
noncomputable def body_S75:Code:=match Try.f75.body with | some c=>c | none=>.skip
noncomputable def L_S75 (N n:Nat) (key:Nat) (S:St) (K:Ks):Option Ret:=bif Nat.beq key 3 then withVals ks_S75_l3 S (fun x=>S75_l3 N n (fun z0 z1=>K (.x 0) (shape ko_S75_l3_0 (z0,z1,()))) x.1 x.2.1 x.2.2.1) else none
theorem L0_S75 (N key:Nat) (S:St) (K:Ks):L_S75 N 0 key S K=none:=(bif0 (withVals0 fun _=>rfl) rfl)
noncomputable def c_S75_0:Code:=(loopsIn body_S75).getD 0 .skip
theorem ls_S75:loopsIn body_S75=[c_S75_0]:=by kernel_rfl
theorem rd_S75_3 (N n:Nat) (x:Vals ks_S75_l3) (K:Ks):L_S75 N (n + 1) 3 (shape ks_S75_l3 x) (h_S75.onOut 3 K)=peRound h_S75 (Orc.of (es_S75 N)) (mixL (L_S75 N) N n 3) c_S75_0 (shape ks_S75_l3 x) (h_S75.onOut 3 K):=by kernel_rfl
theorem fn_S75 (N:Nat) (x:AVals sg_S75) (kf:Ret→Option Ret):F_S75 N x kf=peFunc h_S75 (Orc.of (es_S75 N)) (L_S75 N N) Try.f75 (ashape sg_S75 x) kf:=by kernel_rfl
theorem sd_S75 {Γ : Gl} (N:Nat):Sound Γ Try.prog 75 (run_S75 N):=fun_ok2 (hh:=h_S75) mixed tab_ok (es:=es_S75 N) ⟨sd_S50 N,⟨sd_S104 N,⟨sd_S102 N,trivial⟩⟩⟩ (fn:=Try.f75) (body:=body_S75) (by kernel_rfl) (by kernel_rfl) (by kernel_rfl) (by kernel_rfl) (by kernel_rfl) (Lf:=L_S75 N) (L0_S75 N) ls_S75 (round_cons (key:=3) (ks:=ks_S75_l3) (by kernel_rfl) (by kernel_rfl) (rd_S75_3 N) trivial) (N:=N) (by kernel_rfl) (fn_S75 N) (.inl (by kernel_rfl))
noncomputable def h_S66:Hint:={ tab,hn:=[],loops:=[],outs:=[],ords:=[] }
noncomputable def sg_S66:List AK:=[.v (.sl (.int .u8)) .k]
noncomputable def F_S66 (N:Nat) (x:AVals sg_S66) (kf:Ret→Option Ret):Option Ret:=S66 N x.1 (fun r0=>kf ⟨[⟨tQLQIIIIILIELQIILIELQIIELILQIIIELQIIIIEIE,(.p (.o 54 none (.p .k (.p .k (.p .k (.p .k (.p .k (.o 3 none .k))))))) (.p (.o 85 none (.p .k (.p .k (.o 3 none .k)))) (.p (.o 89 none .k) (.p (.o 3 none .k) (.p (.o 70 none .k) (.p (.o 79 none .k) .k)))))),r0⟩],[]⟩)
noncomputable def run_S66 (N:Nat):=runOf sg_S66 (F_S66 N)
noncomputable def es_S66 (N:Nat):List Entry:=[⟨99,[.val],(run_S99 N)⟩,⟨100,[.val,.val],(run_S100 N)⟩,⟨47,[.val],(run_S47 N)⟩,⟨50,[.lend,.val],(run_S50 N)⟩,⟨70,[.lend],(run_S70 N)⟩,⟨88,[.lend],(run_S88 N)⟩,⟨75,[.lend],(run_S75 N)⟩]
noncomputable def body_S66:Code:=match Try.f66.body with | some c=>c | none=>.skip
theorem ls_S66:loopsIn body_S66=[]:=by kernel_rfl
theorem fn_S66 (N:Nat) (x:AVals sg_S66) (kf:Ret→Option Ret):F_S66 N x kf=peFunc h_S66 (Orc.of (es_S66 N)) (noL N N) Try.f66 (ashape sg_S66 x) kf:=by kernel_rfl
theorem sd_S66 {Γ : Gl} (N:Nat):Sound Γ Try.prog 66 (run_S66 N):=fun_ok2 (hh:=h_S66) mixed tab_ok (es:=es_S66 N) ⟨sd_S99 N,⟨sd_S100 N,⟨sd_S47 N,⟨sd_S50 N,⟨sd_S70 N,⟨sd_S88 N,⟨sd_S75 N,trivial⟩⟩⟩⟩⟩⟩⟩ (fn:=Try.f66) (body:=body_S66) (by kernel_rfl) (by kernel_rfl) (by kernel_rfl) (by kernel_rfl) (by kernel_rfl) (Lf:=noL N) (noL0 N) ls_S66 trivial (N:=N) (by kernel_rfl) (fn_S66 N) (.inl (by kernel_rfl))
noncomputable def h_S21:Hint:={ tab,hn:=[],loops:=[],outs:=[],ords:=[] }
noncomputable def sg_S21:List AK:=[.v (.sl (.int .u8)) .k]
noncomputable def F_S21 (N:Nat) (x:AVals sg_S21) (kf:Ret→Option Ret):Option Ret:=S21 N x.1 (fun r0=>kf ⟨[⟨tQLQIIIIILIELQIILIELQIIELILQIIIELQIIIIEIE,(.p (.o 54 none (.p .k (.p .k (.p .k (.p .k (.p .k (.o 3 none .k))))))) (.p (.o 85 none (.p .k (.p .k (.o 3 none .k)))) (.p (.o 89 none .k) (.p (.o 3 none .k) (.p (.o 70 none .k) (.p (.o 79 none .k) .k)))))),r0⟩],[]⟩)
noncomputable def run_S21 (N:Nat):=runOf sg_S21 (F_S21 N)
noncomputable def es_S21 (N:Nat):List Entry:=[⟨66,[.val],(run_S66 N)⟩]
noncomputable def body_S21:Code:=match Try.f21.body with | some c=>c | none=>.skip
theorem ls_S21:loopsIn body_S21=[]:=by kernel_rfl
theorem fn_S21 (N:Nat) (x:AVals sg_S21) (kf:Ret→Option Ret):F_S21 N x kf=peFunc h_S21 (Orc.of (es_S21 N)) (noL N N) Try.f21 (ashape sg_S21 x) kf:=by kernel_rfl
theorem sd_S21 {Γ : Gl} (N:Nat):Sound Γ Try.prog 21 (run_S21 N):=fun_ok2 (hh:=h_S21) mixed tab_ok (es:=es_S21 N) ⟨sd_S66 N,trivial⟩ (fn:=Try.f21) (body:=body_S21) (by kernel_rfl) (by kernel_rfl) (by kernel_rfl) (by kernel_rfl) (by kernel_rfl) (Lf:=noL N) (noL0 N) ls_S21 trivial (N:=N) (by kernel_rfl) (fn_S21 N) (.inl (by kernel_rfl))
noncomputable def ks_I23_l5:List Kd:=[dK,dK,dK,dK,.v (.ptr tQIIIIILIE) (.o 54 none .k),dK,dK,dK,.v (.sl tQIIIIILIE) .k,.v (.int .i64) .k,.v (.int .i64) .k,dK,dK,dK,dK,.v (.sl (.int .i64)) .k,.v (.int .i64) .k,.v (.int .i64) .k,dK,dK,dK,dK,dK,dK,dK,dK,dK,dK]
noncomputable def ko_I23_l5_0:List Kd:=[dK,dK,dK,dK,dK,dK,dK,dK,.v (.sl tQIIIIILIE) .k,.v (.int .i64) .k,.v (.int .i64) .k,dK,dK,dK,dK,dK,dK,dK,dK,dK,dK,dK,dK,dK,dK,dK,dK,dK]
noncomputable def ko_I23_l5_1:List Kd:=[dK,dK,.v .bool .k,dK,dK,dK,dK,dK,dK,dK,dK,dK,dK,dK,dK,dK,dK,dK,dK,dK,dK,dK,dK,dK,dK,dK,dK,dK]
noncomputable def ks_I23_l2:List Kd:=[dK,dK,dK,dK,dK,dK,dK,dK,.v (.sl tQIIIIILIE) .k,.v (.int .i64) .k,.v (.int .i64) .k,dK,dK,dK,dK,dK,dK,dK,dK,dK,dK,dK,dK,dK,dK,dK,dK,dK]
noncomputable def ko_I23_l2_0:List Kd:=[dK,dK,dK,dK,dK,dK,dK,dK,dK,dK,dK,dK,dK,dK,dK,dK,dK,dK,dK,dK,dK,dK,dK,dK,dK,dK,dK,dK]
noncomputable def ko_I23_l2_1:List Kd:=[dK,dK,.v .bool .k,dK,dK,dK,dK,dK,dK,dK,dK,dK,dK,dK,dK,dK,dK,dK,dK,dK,dK,dK,dK,dK,dK,dK,dK,dK]
noncomputable def h_I23:Hint:={ tab,hn:=[],loops:=[(5,ks_I23_l5),(2,ks_I23_l2)],outs:=[(5,4,ko_I23_l5_0),(5,1,ko_I23_l5_1),(2,2,ko_I23_l2_0),(2,1,ko_I23_l2_1)],ords:=[] }
noncomputable def sg_I23:List AK:=[.v tQLQIIIIILIELQIILIELQIIELILQIIIELQIIIIEIE .k]
noncomputable def F_I23 (N:Nat) (x:AVals sg_I23) (kf:Ret→Option Ret):Option Ret:=I23 N x.1 (fun r0=>kf ⟨[⟨.bool,.k,r0⟩],[]⟩)
noncomputable def run_I23 (N:Nat):=runOf sg_I23 (F_I23 N)
noncomputable def es_I23 (N:Nat):List Entry:=[⟨67,[.val,.val],(run_I67 N)⟩]
noncomputable def body_I23:Code:=match Try.f23.body with | some c=>c | none=>.skip
noncomputable def L_I23 (N n:Nat) (key:Nat) (S:St) (K:Ks):Option Ret:=bif Nat.beq key 2 then withVals ks_I23_l2 S (fun x=>I23_l2 N x.1 x.2.1 n (K (.x 0) (shape ko_I23_l2_0 ())) (fun z0=>K .r (shape ko_I23_l2_1 (z0,()))) x.2.2.1) else bif Nat.beq key 5 then withVals ks_I23_l5 S (fun x=>I23_l5 N x.1 x.2.1 x.2.2.1 x.2.2.2.1 x.2.2.2.2.1 x.2.2.2.2.2.1 n (K (.x 2) (shape ko_I23_l5_0 (x.2.1,x.2.2.1,x.2.2.2.1,()))) (fun z0=>K .r (shape ko_I23_l5_1 (z0,()))) x.2.2.2.2.2.2.1) else none
theorem L0_I23 (N key:Nat) (S:St) (K:Ks):L_I23 N 0 key S K=none:=(bif0 (withVals0 fun _=>rfl) (bif0 (withVals0 fun _=>rfl) rfl))
noncomputable def c_I23_0:Code:=(loopsIn body_I23).getD 0 .skip
noncomputable def c_I23_1:Code:=(loopsIn body_I23).getD 1 .skip
theorem ls_I23:loopsIn body_I23=[c_I23_0,c_I23_1]:=by kernel_rfl
theorem rd_I23_5 (N n:Nat) (x:Vals ks_I23_l5) (K:Ks):L_I23 N (n + 1) 5 (shape ks_I23_l5 x) (h_I23.onOut 5 K)=peRound h_I23 (Orc.of (es_I23 N)) (mixL (L_I23 N) N n 5) c_I23_1 (shape ks_I23_l5 x) (h_I23.onOut 5 K):=by kernel_rfl
theorem rd_I23_2 (N n:Nat) (x:Vals ks_I23_l2) (K:Ks):L_I23 N (n + 1) 2 (shape ks_I23_l2 x) (h_I23.onOut 2 K)=peRound h_I23 (Orc.of (es_I23 N)) (mixL (L_I23 N) N n 2) c_I23_0 (shape ks_I23_l2 x) (h_I23.onOut 2 K):=by kernel_rfl
theorem fn_I23 (N:Nat) (x:AVals sg_I23) (kf:Ret→Option Ret):F_I23 N x kf=peFunc h_I23 (Orc.of (es_I23 N)) (L_I23 N N) Try.f23 (ashape sg_I23 x) kf:=by kernel_rfl
theorem sd_I23 {Γ : Gl} (N:Nat):Sound Γ Try.prog 23 (run_I23 N):=fun_ok2 (hh:=h_I23) mixed tab_ok (es:=es_I23 N) ⟨sd_I67 N,trivial⟩ (fn:=Try.f23) (body:=body_I23) (by kernel_rfl) (by kernel_rfl) (by kernel_rfl) (by kernel_rfl) (by kernel_rfl) (Lf:=L_I23 N) (L0_I23 N) ls_I23 (round_cons (key:=2) (ks:=ks_I23_l2) (by kernel_rfl) (by kernel_rfl) (rd_I23_2 N) (round_cons (key:=5) (ks:=ks_I23_l5) (by kernel_rfl) (by kernel_rfl) (rd_I23_5 N) trivial)) (N:=N) (by kernel_rfl) (fn_I23 N) (.inl (by kernel_rfl))
noncomputable def h_I101:Hint:={ tab,hn:=[],loops:=[],outs:=[],ords:=[] }
noncomputable def sg_I101:List AK:=[.v tQIILIE .k,.v (.ptr (.int .i64)) .k]
noncomputable def F_I101 (N:Nat) (x:AVals sg_I101) (kf:Ret→Option Ret):Option Ret:=I101 N x.1 x.2.1 (fun r0=>kf ⟨[⟨.bool,.k,r0⟩],[]⟩)
noncomputable def run_I101 (N:Nat):=runOf sg_I101 (F_I101 N)
noncomputable def es_I101 (N:Nat):List Entry:=[]
noncomputable def body_I101:Code:=match Try.f101.body with | some c=>c | none=>.skip
theorem ls_I101:loopsIn body_I101=[]:=by kernel_rfl
theorem fn_I101 (N:Nat) (x:AVals sg_I101) (kf:Ret→Option Ret):F_I101 N x kf=peFunc h_I101 (Orc.of (es_I101 N)) (noL N N) Try.f101 (ashape sg_I101 x) kf:=by kernel_rfl
theorem sd_I101 {Γ : Gl} (N:Nat):Sound Γ Try.prog 101 (run_I101 N):=fun_ok2 (hh:=h_I101) mixed tab_ok (es:=es_I101 N) trivial (fn:=Try.f101) (body:=body_I101) (by kernel_rfl) (by kernel_rfl) (by kernel_rfl) (by kernel_rfl) (by kernel_rfl) (Lf:=noL N) (noL0 N) ls_I101 trivial (N:=N) (by kernel_rfl) (fn_I101 N) (.inl (by kernel_rfl))
noncomputable def ks_S79b_l2:List Kd:=[.v (.sl tQIILIE) .k,.clo 101 [.kv (.ptr (.int .i64))],dK,dK,dK,dK,dK,.v (.int .i64) .k,.v (.int .i64) .k,dK,dK,dK,dK,dK,dK,dK,dK,dK,dK]
noncomputable def ko_S79b_l2_0:List Kd:=[dK,dK,dK,dK,dK,dK,dK,dK,dK,dK,dK,dK,dK,dK,dK,dK,dK,dK,dK]
noncomputable def ko_S79b_l2_1:List Kd:=[dK,dK,dK,dK,.v (.int .i64) .k,dK,dK,dK,dK,dK,dK,dK,dK,dK,dK,dK,dK,dK,dK]
noncomputable def h_S79b:Hint:={ tab,hn:=[],loops:=[(2,ks_S79b_l2)],outs:=[(2,2,ko_S79b_l2_0),(2,1,ko_S79b_l2_1)],ords:=[] }
noncomputable def sg_S79b:List AK:=[.v (.sl tQIILIE) .k,.fn 101 [(.ptr (.int .i64))]]
noncomputable def F_S79b (N:Nat) (x:AVals sg_S79b) (kf:Ret→Option Ret):Option Ret:=S79b N x.1 x.2.1.1 (fun r0=>kf ⟨[⟨(.int .i64),.k,r0⟩],[]⟩)
noncomputable def run_S79b (N:Nat):=runOf sg_S79b (F_S79b N)
noncomputable def es_S79b (N:Nat):List Entry:=[⟨101,[.val],(run_I101 N)⟩]
noncomputable def body_S79b:Code:=match Try.f79.body with | some c=>c | none=>.skip
noncomputable def L_S79b (N n:Nat) (key:Nat) (S:St) (K:Ks):Option Ret:=bif Nat.beq key 2 then withVals ks_S79b_l2 S (fun x=>S79b_l2 N x.1 x.2.1.1 x.2.2.1 n (K (.x 0) (shape ko_S79b_l2_0 ())) (fun z0=>K .r (shape ko_S79b_l2_1 (z0,()))) x.2.2.2.1) else none
theorem L0_S79b (N key:Nat) (S:St) (K:Ks):L_S79b N 0 key S K=none:=(bif0 (withVals0 fun _=>rfl) rfl)
noncomputable def c_S79b_0:Code:=(loopsIn body_S79b).getD 0 .skip
theorem ls_S79b:loopsIn body_S79b=[c_S79b_0]:=by kernel_rfl
theorem rd_S79b_2 (N n:Nat) (x:Vals ks_S79b_l2) (K:Ks):L_S79b N (n + 1) 2 (shape ks_S79b_l2 x) (h_S79b.onOut 2 K)=peRound h_S79b (Orc.of (es_S79b N)) (mixL (L_S79b N) N n 2) c_S79b_0 (shape ks_S79b_l2 x) (h_S79b.onOut 2 K):=by kernel_rfl
theorem fn_S79b (N:Nat) (x:AVals sg_S79b) (kf:Ret→Option Ret):F_S79b N x kf=peFunc h_S79b (Orc.of (es_S79b N)) (L_S79b N N) Try.f79 (ashape sg_S79b x) kf:=by kernel_rfl
theorem sd_S79b {Γ : Gl} (N:Nat):Sound Γ Try.prog 79 (run_S79b N):=fun_ok2 (hh:=h_S79b) mixed tab_ok (es:=es_S79b N) ⟨sd_I101 N,trivial⟩ (fn:=Try.f79) (body:=body_S79b) (by kernel_rfl) (by kernel_rfl) (by kernel_rfl) (by kernel_rfl) (by kernel_rfl) (Lf:=L_S79b N) (L0_S79b N) ls_S79b (round_cons (key:=2) (ks:=ks_S79b_l2) (by kernel_rfl) (by kernel_rfl) (rd_S79b_2 N) trivial) (N:=N) (by kernel_rfl) (fn_S79b N) (.inl (by kernel_rfl))
noncomputable def h_I68:Hint:={ tab,hn:=[],loops:=[],outs:=[],ords:=[] }
noncomputable def sg_I68:List AK:=[.v (.sl tQIILIE) .k,.v (.int .i64) .k]
noncomputable def F_I68 (N:Nat) (x:AVals sg_I68) (kf:Ret→Option Ret):Option Ret:=I68 N x.1 x.2.1 (fun r0=>kf ⟨[⟨(.int .i64),.k,r0⟩],[]⟩)
noncomputable def run_I68 (N:Nat):=runOf sg_I68 (F_I68 N)
noncomputable def es_I68 (N:Nat):List Entry:=[⟨79,[.val,.val],(run_S79b N)⟩]
noncomputable def body_I68:Code:=match Try.f68.body with | some c=>c | none=>.skip
theorem ls_I68:loopsIn body_I68=[]:=by kernel_rfl
theorem fn_I68 (N:Nat) (x:AVals sg_I68) (kf:Ret→Option Ret):F_I68 N x kf=peFunc h_I68 (Orc.of (es_I68 N)) (noL N N) Try.f68 (ashape sg_I68 x) kf:=by kernel_rfl
theorem sd_I68 {Γ : Gl} (N:Nat):Sound Γ Try.prog 68 (run_I68 N):=fun_ok2 (hh:=h_I68) mixed tab_ok (es:=es_I68 N) ⟨sd_S79b N,trivial⟩ (fn:=Try.f68) (body:=body_I68) (by kernel_rfl) (by kernel_rfl) (by kernel_rfl) (by kernel_rfl) (by kernel_rfl) (Lf:=noL N) (noL0 N) ls_I68 trivial (N:=N) (by kernel_rfl) (fn_I68 N) (.inl (by kernel_rfl))
noncomputable def ks_I24_l2:List Kd:=[dK,.v (.ptr tQLQIIIIILIELQIILIELQIIELILQIIIELQIIIIEIE) (.o 32 none .k),dK,dK,dK,dK,dK,.v (.sl tQIIE) .k,.v (.int .i64) .k,.v (.int .i64) .k,dK,dK,dK,dK,dK,dK,dK,dK,dK,dK,dK,dK,dK,dK,dK,dK,dK,dK,dK,dK,dK,dK,dK,dK,dK,dK,dK,dK,dK,dK,dK,dK]
noncomputable def ko_I24_l2_0:List Kd:=[dK,dK,dK,dK,dK,dK,dK,dK,dK,dK,dK,dK,dK,dK,dK,dK,dK,dK,dK,dK,dK,dK,dK,dK,dK,dK,dK,dK,dK,dK,dK,dK,dK,dK,dK,dK,dK,dK,dK,dK,dK,dK]
noncomputable def ko_I24_l2_1:List Kd:=[dK,dK,.v .bool .k,dK,dK,dK,dK,dK,dK,dK,dK,dK,dK,dK,dK,dK,dK,dK,dK,dK,dK,dK,dK,dK,dK,dK,dK,dK,dK,dK,dK,dK,dK,dK,dK,dK,dK,dK,dK,dK,dK,dK]
noncomputable def h_I24:Hint:={ tab,hn:=[],loops:=[(2,ks_I24_l2)],outs:=[(2,2,ko_I24_l2_0),(2,1,ko_I24_l2_1)],ords:=[(6,(OT.seq [0,1,2,3,4,5,6,7,8] .done)),(7,(OT.seq [0,1,2,3,4,5,6,7,8,9,10,11,12,13] .done))] }
noncomputable def sg_I24:List AK:=[.v tQLQIIIIILIELQIILIELQIIELILQIIIELQIIIIEIE .k]
noncomputable def F_I24 (N:Nat) (x:AVals sg_I24) (kf:Ret→Option Ret):Option Ret:=I24 N x.1 (fun r0=>kf ⟨[⟨.bool,.k,r0⟩],[]⟩)
noncomputable def run_I24 (N:Nat):=runOf sg_I24 (F_I24 N)
noncomputable def es_I24 (N:Nat):List Entry:=[⟨68,[.val,.val],(run_I68 N)⟩,⟨69,[.val,.val,.val],(run_I69 N)⟩]
noncomputable def body_I24:Code:=match Try.f24.body with | some c=>c | none=>.skip
noncomputable def L_I24 (N n:Nat) (key:Nat) (S:St) (K:Ks):Option Ret:=bif Nat.beq key 2 then withVals ks_I24_l2 S (fun x=>I24_l2 N x.1 x.2.1 x.2.2.1 n (K (.x 0) (shape ko_I24_l2_0 ())) (fun z0=>K .r (shape ko_I24_l2_1 (z0,()))) x.2.2.2.1) else none
theorem L0_I24 (N key:Nat) (S:St) (K:Ks):L_I24 N 0 key S K=none:=(bif0 (withVals0 fun _=>rfl) rfl)
noncomputable def c_I24_0:Code:=(loopsIn body_I24).getD 0 .skip
theorem ls_I24:loopsIn body_I24=[c_I24_0]:=by kernel_rfl
theorem rd_I24_2 (N n:Nat) (x:Vals ks_I24_l2) (K:Ks):L_I24 N (n + 1) 2 (shape ks_I24_l2 x) (h_I24.onOut 2 K)=peRound h_I24 (Orc.of (es_I24 N)) (mixL (L_I24 N) N n 2) c_I24_0 (shape ks_I24_l2 x) (h_I24.onOut 2 K):=by kernel_rfl
theorem fn_I24 (N:Nat) (x:AVals sg_I24) (kf:Ret→Option Ret):F_I24 N x kf=peFunc h_I24 (Orc.of (es_I24 N)) (L_I24 N N) Try.f24 (ashape sg_I24 x) kf:=by kernel_rfl
theorem sd_I24 {Γ : Gl} (N:Nat):Sound Γ Try.prog 24 (run_I24 N):=fun_ok2 (hh:=h_I24) mixed tab_ok (es:=es_I24 N) ⟨sd_I68 N,⟨sd_I69 N,trivial⟩⟩ (fn:=Try.f24) (body:=body_I24) (by kernel_rfl) (by kernel_rfl) (by kernel_rfl) (by kernel_rfl) (by kernel_rfl) (Lf:=L_I24 N) (L0_I24 N) ls_I24 (round_cons (key:=2) (ks:=ks_I24_l2) (by kernel_rfl) (by kernel_rfl) (rd_I24_2 N) trivial) (N:=N) (by kernel_rfl) (fn_I24 N) (.inl (by kernel_rfl))
noncomputable def ks_I12_l3:List Kd:=[dK,dK,dK,.v (.sl (.int .i64)) (.o 3 none .k),dK,dK,dK,dK,.v (.sl tQIIIE) .k,.v (.int .i64) .k,.v (.int .i64) .k,dK,dK,dK,dK,dK,dK,dK,dK,dK,dK,dK,dK,dK]
noncomputable def ko_I12_l3_0:List Kd:=[dK,dK,dK,.v (.sl (.int .i64)) (.o 3 none .k),dK,dK,dK,dK,dK,dK,dK,dK,dK,dK,dK,dK,dK,dK,dK,dK,dK,dK,dK,dK]
noncomputable def h_I12:Hint:={ tab,hn:=[],loops:=[(3,ks_I12_l3)],outs:=[(3,2,ko_I12_l3_0)],ords:=[] }
noncomputable def sg_I12:List AK:=[.v tQLQIIIIILIELQIILIELQIIELILQIIIELQIIIIEIE .k]
noncomputable def F_I12 (N:Nat) (x:AVals sg_I12) (kf:Ret→Option Ret):Option Ret:=I12 N x.1 (fun r0=>kf ⟨[⟨(.sl (.int .i64)),(.o 3 none .k),r0⟩],[]⟩)
noncomputable def run_I12 (N:Nat):=runOf sg_I12 (F_I12 N)
noncomputable def es_I12 (N:Nat):List Entry:=[]
noncomputable def body_I12:Code:=match Try.f12.body with | some c=>c | none=>.skip
noncomputable def L_I12 (N n:Nat) (key:Nat) (S:St) (K:Ks):Option Ret:=bif Nat.beq key 3 then withVals ks_I12_l3 S (fun x=>I12_l3 x.2.1 x.2.2.1 n (fun z0=>K (.x 0) (shape ko_I12_l3_0 (z0,()))) x.1 x.2.2.2.1) else none
theorem L0_I12 (N key:Nat) (S:St) (K:Ks):L_I12 N 0 key S K=none:=(bif0 (withVals0 fun _=>rfl) rfl)
noncomputable def c_I12_0:Code:=(loopsIn body_I12).getD 0 .skip
theorem ls_I12:loopsIn body_I12=[c_I12_0]:=by kernel_rfl
theorem rd_I12_3 (N n:Nat) (x:Vals ks_I12_l3) (K:Ks):L_I12 N (n + 1) 3 (shape ks_I12_l3 x) (h_I12.onOut 3 K)=peRound h_I12 (Orc.of (es_I12 N)) (mixL (L_I12 N) N n 3) c_I12_0 (shape ks_I12_l3 x) (h_I12.onOut 3 K):=by kernel_rfl
theorem fn_I12 (N:Nat) (x:AVals sg_I12) (kf:Ret→Option Ret):F_I12 N x kf=peFunc h_I12 (Orc.of (es_I12 N)) (L_I12 N N) Try.f12 (ashape sg_I12 x) kf:=by kernel_rfl
theorem sd_I12 {Γ : Gl} (N:Nat):Sound Γ Try.prog 12 (run_I12 N):=fun_ok2 (hh:=h_I12) mixed tab_ok (es:=es_I12 N) trivial (fn:=Try.f12) (body:=body_I12) (by kernel_rfl) (by kernel_rfl) (by kernel_rfl) (by kernel_rfl) (by kernel_rfl) (Lf:=L_I12 N) (L0_I12 N) ls_I12 (round_cons (key:=3) (ks:=ks_I12_l3) (by kernel_rfl) (by kernel_rfl) (rd_I12_3 N) trivial) (N:=N) (by kernel_rfl) (fn_I12 N) (.inl (by kernel_rfl))
noncomputable def ks_I25_l3:List Kd:=[dK,.v (.ptr tQLQIIIIILIELQIILIELQIIELILQIIIELQIIIIEIE) (.o 32 none .k),dK,.v (.int .i64) .k,dK,dK,dK,dK,dK,dK,dK,dK,dK,dK,dK,dK,dK,.v (.sl tQIIIIE) .k,.v (.int .i64) .k,.v (.int .i64) .k,dK,dK,dK,dK,dK,dK,dK,dK,dK,dK,dK,dK,dK,dK,dK,dK,dK,dK,dK,dK,dK]
noncomputable def ko_I25_l3_0:List Kd:=[dK,.v (.ptr tQLQIIIIILIELQIILIELQIIELILQIIIELQIIIIEIE) (.o 32 none .k),dK,.v (.int .i64) .k,dK,dK,dK,dK,dK,dK,dK,dK,dK,dK,dK,dK,dK,dK,dK,dK,dK,dK,dK,dK,dK,dK,dK,dK,dK,dK,dK,dK,dK,dK,dK,dK,dK,dK,dK,dK,dK]
noncomputable def h_I25:Hint:={ tab,hn:=[],loops:=[(3,ks_I25_l3)],outs:=[(3,2,ko_I25_l3_0)],ords:=[(1,(OT.seq [0,1,2,3,4,5,6,7,8,9,10] .done))] }
noncomputable def sg_I25:List AK:=[.v tQLQIIIIILIELQIILIELQIIELILQIIIELQIIIIEIE .k]
noncomputable def F_I25 (N:Nat) (x:AVals sg_I25) (kf:Ret→Option Ret):Option Ret:=I25 N x.1 (fun r0=>kf ⟨[⟨.bool,.k,r0⟩],[]⟩)
noncomputable def run_I25 (N:Nat):=runOf sg_I25 (F_I25 N)
noncomputable def es_I25 (N:Nat):List Entry:=[⟨12,[.val],(run_I12 N)⟩,⟨41,[.val],(run_I41 N)⟩,⟨45,[.val,.val,.val],(run_I45 N)⟩]
noncomputable def body_I25:Code:=match Try.f25.body with | some c=>c | none=>.skip
noncomputable def L_I25 (N n:Nat) (key:Nat) (S:St) (K:Ks):Option Ret:=bif Nat.beq key 3 then withVals ks_I25_l3 S (fun x=>I25_l3 x.1 x.2.2.1 x.2.2.2.1 n (fun z0=>K (.x 0) (shape ko_I25_l3_0 (x.1,z0,()))) x.2.1 x.2.2.2.2.1) else none
theorem L0_I25 (N key:Nat) (S:St) (K:Ks):L_I25 N 0 key S K=none:=(bif0 (withVals0 fun _=>rfl) rfl)
noncomputable def c_I25_0:Code:=(loopsIn body_I25).getD 0 .skip
theorem ls_I25:loopsIn body_I25=[c_I25_0]:=by kernel_rfl
theorem rd_I25_3 (N n:Nat) (x:Vals ks_I25_l3) (K:Ks):L_I25 N (n + 1) 3 (shape ks_I25_l3 x) (h_I25.onOut 3 K)=peRound h_I25 (Orc.of (es_I25 N)) (mixL (L_I25 N) N n 3) c_I25_0 (shape ks_I25_l3 x) (h_I25.onOut 3 K):=by kernel_rfl
theorem fn_I25 (N:Nat) (x:AVals sg_I25) (kf:Ret→Option Ret):F_I25 N x kf=peFunc h_I25 (Orc.of (es_I25 N)) (L_I25 N N) Try.f25 (ashape sg_I25 x) kf:=by kernel_rfl
theorem sd_I25 {Γ : Gl} (N:Nat):Sound Γ Try.prog 25 (run_I25 N):=fun_ok2 (hh:=h_I25) mixed tab_ok (es:=es_I25 N) ⟨sd_I12 N,⟨sd_I41 N,⟨sd_I45 N,trivial⟩⟩⟩ (fn:=Try.f25) (body:=body_I25) (by kernel_rfl) (by kernel_rfl) (by kernel_rfl) (by kernel_rfl) (by kernel_rfl) (Lf:=L_I25 N) (L0_I25 N) ls_I25 (round_cons (key:=3) (ks:=ks_I25_l3) (by kernel_rfl) (by kernel_rfl) (rd_I25_3 N) trivial) (N:=N) (by kernel_rfl) (fn_I25 N) (.inl (by kernel_rfl))
noncomputable def ks_I26_l3:List Kd:=[dK,.v (.ptr tQLQIIIIILIELQIILIELQIIELILQIIIELQIIIIEIE) (.o 32 none .k),dK,.v (.int .i64) .k,.v (.int .i64) .k,.v (.int .i64) .k,dK,dK,dK,.v (.sl tQIIIIILIE) .k,.v (.int .i64) .k,.v (.int .i64) .k,dK,dK,dK,dK,dK,dK,dK,dK,dK,dK,dK,dK,dK,dK,dK,dK,dK,dK,dK,dK,dK,dK,dK,dK,dK,dK,dK,dK,dK,dK,dK,dK]
noncomputable def ko_I26_l3_0:List Kd:=[dK,.v (.ptr tQLQIIIIILIELQIILIELQIIELILQIIIELQIIIIEIE) (.o 32 none .k),dK,.v (.int .i64) .k,.v (.int .i64) .k,.v (.int .i64) .k,dK,dK,dK,dK,dK,dK,dK,dK,dK,dK,dK,dK,dK,dK,dK,dK,dK,dK,dK,dK,dK,dK,dK,dK,dK,dK,dK,dK,dK,dK,dK,dK,dK,dK,dK,dK,dK,dK]
noncomputable def h_I26:Hint:={ tab,hn:=[],loops:=[(3,ks_I26_l3)],outs:=[(3,2,ko_I26_l3_0)],ords:=[] }
noncomputable def sg_I26:List AK:=[.v tQLQIIIIILIELQIILIELQIIELILQIIIELQIIIIEIE .k]
noncomputable def F_I26 (N:Nat) (x:AVals sg_I26) (kf:Ret→Option Ret):Option Ret:=I26 N x.1 (fun r0=>kf ⟨[⟨.bool,.k,r0⟩],[]⟩)
noncomputable def run_I26 (N:Nat):=runOf sg_I26 (F_I26 N)
noncomputable def es_I26 (N:Nat):List Entry:=[⟨39,[.val],(run_I39 N)⟩]
noncomputable def body_I26:Code:=match Try.f26.body with | some c=>c | none=>.skip
noncomputable def L_I26 (N n:Nat) (key:Nat) (S:St) (K:Ks):Option Ret:=bif Nat.beq key 3 then withVals ks_I26_l3 S (fun x=>I26_l3 x.1 x.2.2.2.2.1 x.2.2.2.2.2.1 n (fun z0 z1 z2=>K (.x 0) (shape ko_I26_l3_0 (x.1,z0,z1,z2,()))) x.2.1 x.2.2.1 x.2.2.2.1 x.2.2.2.2.2.2.1) else none
theorem L0_I26 (N key:Nat) (S:St) (K:Ks):L_I26 N 0 key S K=none:=(bif0 (withVals0 fun _=>rfl) rfl)
noncomputable def c_I26_0:Code:=(loopsIn body_I26).getD 0 .skip
theorem ls_I26:loopsIn body_I26=[c_I26_0]:=by kernel_rfl
theorem rd_I26_3 (N n:Nat) (x:Vals ks_I26_l3) (K:Ks):L_I26 N (n + 1) 3 (shape ks_I26_l3 x) (h_I26.onOut 3 K)=peRound h_I26 (Orc.of (es_I26 N)) (mixL (L_I26 N) N n 3) c_I26_0 (shape ks_I26_l3 x) (h_I26.onOut 3 K):=by kernel_rfl
theorem fn_I26 (N:Nat) (x:AVals sg_I26) (kf:Ret→Option Ret):F_I26 N x kf=peFunc h_I26 (Orc.of (es_I26 N)) (L_I26 N N) Try.f26 (ashape sg_I26 x) kf:=by kernel_rfl
theorem sd_I26 {Γ : Gl} (N:Nat):Sound Γ Try.prog 26 (run_I26 N):=fun_ok2 (hh:=h_I26) mixed tab_ok (es:=es_I26 N) ⟨sd_I39 N,trivial⟩ (fn:=Try.f26) (body:=body_I26) (by kernel_rfl) (by kernel_rfl) (by kernel_rfl) (by kernel_rfl) (by kernel_rfl) (Lf:=L_I26 N) (L0_I26 N) ls_I26 (round_cons (key:=3) (ks:=ks_I26_l3) (by kernel_rfl) (by kernel_rfl) (rd_I26_3 N) trivial) (N:=N) (by kernel_rfl) (fn_I26 N) (.inl (by kernel_rfl))
noncomputable def h_I22:Hint:={ tab,hn:=[],loops:=[],outs:=[],ords:=[] }
noncomputable def sg_I22:List AK:=[.v tQLQIIIIILIELQIILIELQIIELILQIIIELQIIIIEIE .k]
noncomputable def F_I22 (N:Nat) (x:AVals sg_I22) (kf:Ret→Option Ret):Option Ret:=I22 N x.1 (fun r0=>kf ⟨[⟨.str,.k,r0⟩],[]⟩)
noncomputable def run_I22 (N:Nat):=runOf sg_I22 (F_I22 N)
noncomputable def es_I22 (N:Nat):List Entry:=[⟨23,[.val],(run_I23 N)⟩,⟨24,[.val],(run_I24 N)⟩,⟨25,[.val],(run_I25 N)⟩,⟨26,[.val],(run_I26 N)⟩,⟨8,[.val],(run_I8 N)⟩]
noncomputable def body_I22:Code:=match Try.f22.body with | some c=>c | none=>.skip
theorem ls_I22:loopsIn body_I22=[]:=by kernel_rfl
theorem fn_I22 (N:Nat) (x:AVals sg_I22) (kf:Ret→Option Ret):F_I22 N x kf=peFunc h_I22 (Orc.of (es_I22 N)) (noL N N) Try.f22 (ashape sg_I22 x) kf:=by kernel_rfl
theorem sd_I22 {Γ : Gl} (N:Nat):Sound Γ Try.prog 22 (run_I22 N):=fun_ok2 (hh:=h_I22) mixed tab_ok (es:=es_I22 N) ⟨sd_I23 N,⟨sd_I24 N,⟨sd_I25 N,⟨sd_I26 N,⟨sd_I8 N,trivial⟩⟩⟩⟩⟩ (fn:=Try.f22) (body:=body_I22) (by kernel_rfl) (by kernel_rfl) (by kernel_rfl) (by kernel_rfl) (by kernel_rfl) (Lf:=noL N) (noL0 N) ls_I22 trivial (N:=N) (by kernel_rfl) (fn_I22 N) (.inl (by kernel_rfl))
noncomputable def h_L5:Hint:={ tab,hn:=[],loops:=[],outs:=[],ords:=[] }
noncomputable def sg_L5:List AK:=[.v (.sl (.int .u8)) .k]
noncomputable def F_L5 (N:Nat) (x:AVals sg_L5) (kf:Ret→Option Ret):Option Ret:=L5 N x.1 (fun r0=>kf ⟨[⟨.bool,.k,r0⟩],[]⟩)
noncomputable def run_L5 (N:Nat):=runOf sg_L5 (F_L5 N)
noncomputable def es_L5 (N:Nat):List Entry:=[⟨7,[.val],(run_L7 N)⟩,⟨21,[.val],(run_S21 N)⟩,⟨22,[.val],(run_I22 N)⟩,⟨23,[.val],(run_I23 N)⟩,⟨24,[.val],(run_I24 N)⟩,⟨25,[.val],(run_I25 N)⟩,⟨26,[.val],(run_I26 N)⟩,⟨8,[.val],(run_I8 N)⟩]
noncomputable def body_L5:Code:=match Try.f5.body with | some c=>c | none=>.skip
theorem ls_L5:loopsIn body_L5=[]:=by kernel_rfl
theorem fng_L5 (g0:Nat→(List Int)→(Bool→Option Ret)→Option Ret) (g1:Nat→(List Int)→(QLQIIIIILIELQIILIELQIIELILQIIIELQIIIIEIE→Option Ret)→Option Ret) (g2:Nat→QLQIIIIILIELQIILIELQIIELILQIIIELQIIIIEIE→(ByteArray→Option Ret)→Option Ret) (g3:Nat→QLQIIIIILIELQIILIELQIIELILQIIIELQIIIIEIE→(Bool→Option Ret)→Option Ret) (g4:Nat→QLQIIIIILIELQIILIELQIIELILQIIIELQIIIIEIE→(Bool→Option Ret)→Option Ret) (g5:Nat→QLQIIIIILIELQIILIELQIIELILQIIIELQIIIIEIE→(Bool→Option Ret)→Option Ret) (g6:Nat→QLQIIIIILIELQIILIELQIIELILQIIIELQIIIIEIE→(Bool→Option Ret)→Option Ret) (g7:Nat→QLQIIIIILIELQIILIELQIIELILQIIIELQIIIIEIE→(Bool→Option Ret)→Option Ret) (N:Nat) (x:AVals sg_L5) (kf:Ret→Option Ret):L5_g g0 g1 g2 g3 g4 g5 g6 g7 N x.1 (fun r0=>kf ⟨[⟨.bool,.k,r0⟩],[]⟩)=peFunc h_L5 (Orc.of [⟨7,[.val],(runOf sg_L7 (fun x kf=>g0 N x.1 (fun r0=>kf ⟨[⟨.bool,.k,r0⟩],[]⟩)))⟩,⟨21,[.val],(runOf sg_S21 (fun x kf=>g1 N x.1 (fun r0=>kf ⟨[⟨tQLQIIIIILIELQIILIELQIIELILQIIIELQIIIIEIE,(.p (.o 54 none (.p .k (.p .k (.p .k (.p .k (.p .k (.o 3 none .k))))))) (.p (.o 85 none (.p .k (.p .k (.o 3 none .k)))) (.p (.o 89 none .k) (.p (.o 3 none .k) (.p (.o 70 none .k) (.p (.o 79 none .k) .k)))))),r0⟩],[]⟩)))⟩,⟨22,[.val],(runOf sg_I22 (fun x kf=>g2 N x.1 (fun r0=>kf ⟨[⟨.str,.k,r0⟩],[]⟩)))⟩,⟨23,[.val],(runOf sg_I23 (fun x kf=>g3 N x.1 (fun r0=>kf ⟨[⟨.bool,.k,r0⟩],[]⟩)))⟩,⟨24,[.val],(runOf sg_I24 (fun x kf=>g4 N x.1 (fun r0=>kf ⟨[⟨.bool,.k,r0⟩],[]⟩)))⟩,⟨25,[.val],(runOf sg_I25 (fun x kf=>g5 N x.1 (fun r0=>kf ⟨[⟨.bool,.k,r0⟩],[]⟩)))⟩,⟨26,[.val],(runOf sg_I26 (fun x kf=>g6 N x.1 (fun r0=>kf ⟨[⟨.bool,.k,r0⟩],[]⟩)))⟩,⟨8,[.val],(runOf sg_I8 (fun x kf=>g7 N x.1 (fun r0=>kf ⟨[⟨.bool,.k,r0⟩],[]⟩)))⟩]) (fun key S K=>none) Try.f5 (ashape sg_L5 x) kf:=by kernel_rfl
theorem fn_L5 (N:Nat) (x:AVals sg_L5) (kf:Ret→Option Ret):F_L5 N x kf=peFunc h_L5 (Orc.of (es_L5 N)) (noL N N) Try.f5 (ashape sg_L5 x) kf:=fng_L5 L7 S21 I22 I23 I24 I25 I26 I8 N x kf
theorem sd_L5 {Γ : Gl} (N:Nat):Sound Γ Try.prog 5 (run_L5 N):=fun_ok2 (hh:=h_L5) mixed tab_ok (es:=es_L5 N) ⟨sd_L7 N,⟨sd_S21 N,⟨sd_I22 N,⟨sd_I23 N,⟨sd_I24 N,⟨sd_I25 N,⟨sd_I26 N,⟨sd_I8 N,trivial⟩⟩⟩⟩⟩⟩⟩⟩ (fn:=Try.f5) (body:=body_L5) (by kernel_rfl) (by kernel_rfl) (by kernel_rfl) (by kernel_rfl) (by kernel_rfl) (Lf:=noL N) (noL0 N) ls_L5 trivial (N:=N) (by kernel_rfl) (fn_L5 N) (.inl (by kernel_rfl))
end Go.Pv.R
