/- Each function of the program that the law reaches computes its plain function, part 2. -/
import Derived.Test.YtcpakhaogbempaaGreatSnd1
import Derived.Test.YtcpakhaogbempaaGreatProg
namespace Go.Pv.R
open Go.Proofs
set_option linter.unusedVariables false
set_option maxRecDepth 100000
noncomputable def ks_I39_l6:List Kd:=[dK,.v (.ptr tQLQIIIIILIELQIILIELQIIELILQIIIELQIIIIEIE) (.o 31 none .k),dK,dK,dK,dK,dK,dK,dK,dK,dK,dK,dK,dK,dK,dK,dK,dK,dK,dK,dK,dK,dK,dK,dK,dK,dK,dK,dK,dK,dK,dK,dK,dK,dK,dK,dK,dK,dK,dK,dK,dK,dK,dK,dK,dK,dK,dK,dK,dK,dK,dK,dK,dK,dK,dK,dK,dK,dK,dK,dK,dK,.v (.sl tQIIIE) .k,.v (.int .i64) .k,.v (.int .i64) .k,dK,dK,dK,dK,dK,dK,dK,dK,dK,dK,dK,dK,dK,dK,dK,dK,dK,dK,dK,dK,dK,dK,dK,dK,dK,dK,dK,dK,dK,dK,dK,dK,dK,dK]
noncomputable def ko_I39_l6_0:List Kd:=[dK,.v (.ptr tQLQIIIIILIELQIILIELQIIELILQIIIELQIIIIEIE) (.o 31 none .k),dK,dK,dK,dK,dK,dK,dK,dK,dK,dK,dK,dK,dK,dK,dK,dK,dK,dK,dK,dK,dK,dK,dK,dK,dK,dK,dK,dK,dK,dK,dK,dK,dK,dK,dK,dK,dK,dK,dK,dK,dK,dK,dK,dK,dK,dK,dK,dK,dK,dK,dK,dK,dK,dK,dK,dK,dK,dK,dK,dK,dK,dK,dK,dK,dK,dK,dK,dK,dK,dK,dK,dK,dK,dK,dK,dK,dK,dK,dK,dK,dK,dK,dK,dK,dK,dK,dK,dK,dK,dK,dK,dK,dK,dK,dK,dK,dK]
noncomputable def ko_I39_l6_1:List Kd:=[dK,dK,.v .bool .k,dK,dK,dK,dK,dK,dK,dK,dK,dK,dK,dK,dK,dK,dK,dK,dK,dK,dK,dK,dK,dK,dK,dK,dK,dK,dK,dK,dK,dK,dK,dK,dK,dK,dK,dK,dK,dK,dK,dK,dK,dK,dK,dK,dK,dK,dK,dK,dK,dK,dK,dK,dK,dK,dK,dK,dK,dK,dK,dK,dK,dK,dK,dK,dK,dK,dK,dK,dK,dK,dK,dK,dK,dK,dK,dK,dK,dK,dK,dK,dK,dK,dK,dK,dK,dK,dK,dK,dK,dK,dK,dK,dK,dK,dK,dK,dK]
noncomputable def h_I39:Hint:={ tab,hn:=[],loops:=[(6,ks_I39_l6)],outs:=[(6,2,ko_I39_l6_0),(6,1,ko_I39_l6_1)],ords:=[(8,(OT.seq [0,1,2,3,4,5,6,7,8,9,10,11,12,13,14,15,16,17] .done)),(11,(OT.seq [0,1,2,3,4,5,7,8,6,9,10,11] .done))] }
noncomputable def sg_I39:List AK:=[.v tQLQIIIIILIELQIILIELQIIELILQIIIELQIIIIEIE .k]
noncomputable def F_I39 (N:Nat) (x:AVals sg_I39) (kf:Ret→Option Ret):Option Ret:=I39 N x.1 (fun r0=>kf ⟨[⟨.bool,.k,r0⟩],[]⟩)
noncomputable def run_I39 (N:Nat):=runOf sg_I39 (F_I39 N)
noncomputable def es_I39 (N:Nat):List Entry:=[⟨143,[.val],(run_I143 N)⟩,⟨79,[.val],(run_I79 N)⟩,⟨75,[.val],(run_I75 N)⟩,⟨16,[.val],(run_I16 N)⟩,⟨17,[.val,.val],(run_I17 N)⟩,⟨18,[.val,.val,.val,.val],(run_I18 N)⟩,⟨138,[.val],(run_I138 N)⟩,⟨144,[.val,.val,.val],(run_I144 N)⟩,⟨145,[.val],(run_I145 N)⟩]
noncomputable def body_I39:Code:=match Tryz.f39.body with | some c=>c | none=>.skip
noncomputable def L_I39 (N n:Nat) (key:Nat) (S:St) (K:Ks):Option Ret:=bif Nat.beq key 6 then withVals ks_I39_l6 S (fun x=>I39_l6 N x.1 x.2.1 x.2.2.1 n (K (.x 0) (shape ko_I39_l6_0 (x.1,()))) (fun z0=>K .r (shape ko_I39_l6_1 (z0,()))) x.2.2.2.1) else none
theorem L0_I39 (N key:Nat) (S:St) (K:Ks):L_I39 N 0 key S K=none:=(bif0 (withVals0 fun _=>rfl) rfl)
noncomputable def c_I39_0:Code:=(loopsIn body_I39).getD 0 .skip
theorem ls_I39:loopsIn body_I39=[c_I39_0]:=by kernel_rfl
theorem rd_I39_6 (N n:Nat) (x:Vals ks_I39_l6) (K:Ks):L_I39 N (n + 1) 6 (shape ks_I39_l6 x) (h_I39.onOut 6 K)=peRound h_I39 (Orc.of (es_I39 N)) (mixL (L_I39 N) N n 6) c_I39_0 (shape ks_I39_l6 x) (h_I39.onOut 6 K):=by kernel_rfl
theorem fn_I39 (N:Nat) (x:AVals sg_I39) (kf:Ret→Option Ret):F_I39 N x kf=peFunc h_I39 (Orc.of (es_I39 N)) (L_I39 N N) Tryz.f39 (ashape sg_I39 x) kf:=by kernel_rfl
theorem sd_I39 {Γ : Gl} (N:Nat):Sound Γ Tryz.prog 39 (run_I39 N):=fun_ok2 (hh:=h_I39) mixed tab_ok (es:=es_I39 N) ⟨sd_I143 N,⟨sd_I79 N,⟨sd_I75 N,⟨sd_I16 N,⟨sd_I17 N,⟨sd_I18 N,⟨sd_I138 N,⟨sd_I144 N,⟨sd_I145 N,trivial⟩⟩⟩⟩⟩⟩⟩⟩⟩ (fn:=Tryz.f39) (body:=body_I39) (by kernel_rfl) (by kernel_rfl) (by kernel_rfl) (by kernel_rfl) (by kernel_rfl) (Lf:=L_I39 N) (L0_I39 N) ls_I39 (round_cons (key:=6) (ks:=ks_I39_l6) (by kernel_rfl) (by kernel_rfl) (rd_I39_6 N) trivial) (N:=N) (by kernel_rfl) (fn_I39 N) (.inl (by kernel_rfl))
noncomputable def h_S229:Hint:={ tab,hn:=[],loops:=[],outs:=[],ords:=[] }
noncomputable def sg_S229:List AK:=[.v (.sl tQIIIIILIE) .k]
noncomputable def F_S229 (N:Nat) (x:AVals sg_S229) (kf:Ret→Option Ret):Option Ret:=S229 N x.1 (fun r0=>kf ⟨[⟨(.sl tQIIIIILIE),(.o 46 none .k),r0⟩],[]⟩)
noncomputable def run_S229 (N:Nat):=runOf sg_S229 (F_S229 N)
noncomputable def es_S229 (N:Nat):List Entry:=[]
noncomputable def body_S229:Code:=match Tryz.f229.body with | some c=>c | none=>.skip
theorem ls_S229:loopsIn body_S229=[]:=by kernel_rfl
theorem fn_S229 (N:Nat) (x:AVals sg_S229) (kf:Ret→Option Ret):F_S229 N x kf=peFunc h_S229 (Orc.of (es_S229 N)) (noL N N) Tryz.f229 (ashape sg_S229 x) kf:=by kernel_rfl
theorem det_S229 (N:Nat) (x:AVals sg_S229):Det (F_S229 N x):=by
 obtain ⟨l,u⟩:=x
 unfold F_S229 S229
 cases l with
 | nil=>exact ⟨some _,fun K=>both_self _⟩
 | cons a l =>
  simp only [List.isEmpty_cons,cond_false]
  exact Det.bif _ (Det.pure _) Det.none
theorem sd_S229 {Γ : Gl} (N:Nat):Sound Γ Tryz.prog 229 (run_S229 N):=fun_ok2 (hh:=h_S229) mixed tab_ok (es:=es_S229 N) trivial (fn:=Tryz.f229) (body:=body_S229) (by kernel_rfl) (by kernel_rfl) (by kernel_rfl) (by kernel_rfl) (by kernel_rfl) (Lf:=noL N) (noL0 N) ls_S229 trivial (N:=N) (by kernel_rfl) (fn_S229 N) (.inr (det_S229 N))
noncomputable def h_M245:Hint:={ tab,hn:=[],loops:=[],outs:=[],ords:=[] }
noncomputable def sg_M245:List AK:=[.v (.int .u64) .k]
noncomputable def F_M245 (N:Nat) (x:AVals sg_M245) (kf:Ret→Option Ret):Option Ret:=M245 N x.1 (fun r0=>kf ⟨[⟨(.int .i64),.k,r0⟩],[]⟩)
noncomputable def run_M245 (N:Nat):=runOf sg_M245 (F_M245 N)
noncomputable def es_M245 (N:Nat):List Entry:=[]
noncomputable def body_M245:Code:=match Tryz.f245.body with | some c=>c | none=>.skip
theorem ls_M245:loopsIn body_M245=[]:=by kernel_rfl
theorem fn_M245 (N:Nat) (x:AVals sg_M245) (kf:Ret→Option Ret):F_M245 N x kf=peFunc h_M245 (Orc.of (es_M245 N)) (noL N N) Tryz.f245 (ashape sg_M245 x) kf:=by kernel_rfl
theorem sd_M245 {Γ : Gl} (N:Nat):Sound Γ Tryz.prog 245 (run_M245 N):=fun_ok2 (hh:=h_M245) mixed tab_ok (es:=es_M245 N) trivial (fn:=Tryz.f245) (body:=body_M245) (by kernel_rfl) (by kernel_rfl) (by kernel_rfl) (by kernel_rfl) (by kernel_rfl) (Lf:=noL N) (noL0 N) ls_M245 trivial (N:=N) (by kernel_rfl) (fn_M245 N) (.inl (by kernel_rfl))
noncomputable def h_M211:Hint:={ tab,hn:=[],loops:=[],outs:=[],ords:=[] }
noncomputable def sg_M211:List AK:=[.v (.int .u64) .k]
noncomputable def F_M211 (N:Nat) (x:AVals sg_M211) (kf:Ret→Option Ret):Option Ret:=M211 N x.1 (fun r0=>kf ⟨[⟨(.int .i64),.k,r0⟩],[]⟩)
noncomputable def run_M211 (N:Nat):=runOf sg_M211 (F_M211 N)
noncomputable def es_M211 (N:Nat):List Entry:=[⟨245,[.val],(run_M245 N)⟩]
noncomputable def body_M211:Code:=match Tryz.f211.body with | some c=>c | none=>.skip
theorem ls_M211:loopsIn body_M211=[]:=by kernel_rfl
theorem fn_M211 (N:Nat) (x:AVals sg_M211) (kf:Ret→Option Ret):F_M211 N x kf=peFunc h_M211 (Orc.of (es_M211 N)) (noL N N) Tryz.f211 (ashape sg_M211 x) kf:=by kernel_rfl
theorem sd_M211 {Γ : Gl} (N:Nat):Sound Γ Tryz.prog 211 (run_M211 N):=fun_ok2 (hh:=h_M211) mixed tab_ok (es:=es_M211 N) ⟨sd_M245 N,trivial⟩ (fn:=Tryz.f211) (body:=body_M211) (by kernel_rfl) (by kernel_rfl) (by kernel_rfl) (by kernel_rfl) (by kernel_rfl) (Lf:=noL N) (noL0 N) ls_M211 trivial (N:=N) (by kernel_rfl) (fn_M211 N) (.inl (by kernel_rfl))
noncomputable def h_C253:Hint:={ tab,hn:=[],loops:=[],outs:=[],ords:=[] }
noncomputable def sg_C253:List AK:=[.v (.int .i64) .k]
noncomputable def F_C253 (N:Nat) (x:AVals sg_C253) (kf:Ret→Option Ret):Option Ret:=C253 N x.1 (fun r0=>kf ⟨[⟨.bool,.k,r0⟩],[]⟩)
noncomputable def run_C253 (N:Nat):=runOf sg_C253 (F_C253 N)
noncomputable def es_C253 (N:Nat):List Entry:=[]
noncomputable def body_C253:Code:=match Tryz.f253.body with | some c=>c | none=>.skip
theorem ls_C253:loopsIn body_C253=[]:=by kernel_rfl
theorem fn_C253 (N:Nat) (x:AVals sg_C253) (kf:Ret→Option Ret):F_C253 N x kf=peFunc h_C253 (Orc.of (es_C253 N)) (noL N N) Tryz.f253 (ashape sg_C253 x) kf:=by kernel_rfl
theorem sd_C253 {Γ : Gl} (N:Nat):Sound Γ Tryz.prog 253 (run_C253 N):=fun_ok2 (hh:=h_C253) mixed tab_ok (es:=es_C253 N) trivial (fn:=Tryz.f253) (body:=body_C253) (by kernel_rfl) (by kernel_rfl) (by kernel_rfl) (by kernel_rfl) (by kernel_rfl) (Lf:=noL N) (noL0 N) ls_C253 trivial (N:=N) (by kernel_rfl) (fn_C253 N) (.inl (by kernel_rfl))
noncomputable def h_C233:Hint:={ tab,hn:=[],loops:=[],outs:=[],ords:=[] }
noncomputable def sg_C233:List AK:=[.v (.int .i64) .k,.v (.int .i64) .k]
noncomputable def F_C233 (N:Nat) (x:AVals sg_C233) (kf:Ret→Option Ret):Option Ret:=C233 N x.1 x.2.1 (fun r0=>kf ⟨[⟨(.int .i64),.k,r0⟩],[]⟩)
noncomputable def run_C233 (N:Nat):=runOf sg_C233 (F_C233 N)
noncomputable def es_C233 (N:Nat):List Entry:=[⟨253,[.val],(run_C253 N)⟩]
noncomputable def body_C233:Code:=match Tryz.f233.body with | some c=>c | none=>.skip
theorem ls_C233:loopsIn body_C233=[]:=by kernel_rfl
theorem fn_C233 (N:Nat) (x:AVals sg_C233) (kf:Ret→Option Ret):F_C233 N x kf=peFunc h_C233 (Orc.of (es_C233 N)) (noL N N) Tryz.f233 (ashape sg_C233 x) kf:=by kernel_rfl
theorem sd_C233 {Γ : Gl} (N:Nat):Sound Γ Tryz.prog 233 (run_C233 N):=fun_ok2 (hh:=h_C233) mixed tab_ok (es:=es_C233 N) ⟨sd_C253 N,trivial⟩ (fn:=Tryz.f233) (body:=body_C233) (by kernel_rfl) (by kernel_rfl) (by kernel_rfl) (by kernel_rfl) (by kernel_rfl) (Lf:=noL N) (noL0 N) ls_C233 trivial (N:=N) (by kernel_rfl) (fn_C233 N) (.inl (by kernel_rfl))
noncomputable def ks_C232_l3:List Kd:=[dK,dK,dK,.v (.int .i64) .k,dK,dK,.v (.sl (.int .i64)) .k,.v (.int .i64) .k,.v (.int .i64) .k,dK,dK,dK,dK,dK,dK,dK,dK,dK]
noncomputable def ko_C232_l3_0:List Kd:=[dK,dK,dK,.v (.int .i64) .k,dK,dK,dK,dK,dK,dK,dK,dK,dK,dK,dK,dK,dK,dK]
noncomputable def ko_C232_l3_1:List Kd:=[dK,dK,.v (.int .i64) .k,dK,dK,dK,dK,dK,dK,dK,dK,dK,dK,dK,dK,dK,dK,dK]
noncomputable def h_C232:Hint:={ tab,hn:=[],loops:=[(3,ks_C232_l3)],outs:=[(3,2,ko_C232_l3_0),(3,1,ko_C232_l3_1)],ords:=[] }
noncomputable def sg_C232:List AK:=[.v (.sl (.int .i64)) .k]
noncomputable def F_C232 (N:Nat) (x:AVals sg_C232) (kf:Ret→Option Ret):Option Ret:=C232 N x.1 (fun r0=>kf ⟨[⟨(.int .i64),.k,r0⟩],[]⟩)
noncomputable def run_C232 (N:Nat):=runOf sg_C232 (F_C232 N)
noncomputable def es_C232 (N:Nat):List Entry:=[]
noncomputable def body_C232:Code:=match Tryz.f232.body with | some c=>c | none=>.skip
noncomputable def L_C232 (N n:Nat) (key:Nat) (S:St) (K:Ks):Option Ret:=bif Nat.beq key 3 then withVals ks_C232_l3 S (fun x=>C232_l3 x.1 x.2.1 x.2.2.1 n (K (.x 0) (shape ko_C232_l3_0 (x.1,()))) (fun z0=>K .r (shape ko_C232_l3_1 (z0,()))) x.2.2.2.1) else none
theorem L0_C232 (N key:Nat) (S:St) (K:Ks):L_C232 N 0 key S K=none:=(bif0 (withVals0 fun _=>rfl) rfl)
noncomputable def c_C232_0:Code:=(loopsIn body_C232).getD 0 .skip
theorem ls_C232:loopsIn body_C232=[c_C232_0]:=by kernel_rfl
theorem rd_C232_3 (N n:Nat) (x:Vals ks_C232_l3) (K:Ks):L_C232 N (n + 1) 3 (shape ks_C232_l3 x) (h_C232.onOut 3 K)=peRound h_C232 (Orc.of (es_C232 N)) (mixL (L_C232 N) N n 3) c_C232_0 (shape ks_C232_l3 x) (h_C232.onOut 3 K):=by kernel_rfl
theorem fn_C232 (N:Nat) (x:AVals sg_C232) (kf:Ret→Option Ret):F_C232 N x kf=peFunc h_C232 (Orc.of (es_C232 N)) (L_C232 N N) Tryz.f232 (ashape sg_C232 x) kf:=by kernel_rfl
theorem sd_C232 {Γ : Gl} (N:Nat):Sound Γ Tryz.prog 232 (run_C232 N):=fun_ok2 (hh:=h_C232) mixed tab_ok (es:=es_C232 N) trivial (fn:=Tryz.f232) (body:=body_C232) (by kernel_rfl) (by kernel_rfl) (by kernel_rfl) (by kernel_rfl) (by kernel_rfl) (Lf:=L_C232 N) (L0_C232 N) ls_C232 (round_cons (key:=3) (ks:=ks_C232_l3) (by kernel_rfl) (by kernel_rfl) (rd_C232_3 N) trivial) (N:=N) (by kernel_rfl) (fn_C232 N) (.inl (by kernel_rfl))
noncomputable def h_I231:Hint:={ tab,hn:=[],loops:=[],outs:=[],ords:=[(1,(OT.seq [0,1,2,3,5,6,7,8,10,11,12,13,4,9,14,15,16,17] .done))] }
noncomputable def sg_I231:List AK:=[.v tQIIIIILIE .k,.v tQIIIIILIE .k]
noncomputable def F_I231 (N:Nat) (x:AVals sg_I231) (kf:Ret→Option Ret):Option Ret:=I231 N x.1 x.2.1 (fun r0=>kf ⟨[⟨(.int .i64),.k,r0⟩],[]⟩)
noncomputable def run_I231 (N:Nat):=runOf sg_I231 (F_I231 N)
noncomputable def es_I231 (N:Nat):List Entry:=[⟨233,[.val,.val],(run_C233 N)⟩,⟨232,[.val],(run_C232 N)⟩]
noncomputable def body_I231:Code:=match Tryz.f231.body with | some c=>c | none=>.skip
theorem ls_I231:loopsIn body_I231=[]:=by kernel_rfl
theorem fn_I231 (N:Nat) (x:AVals sg_I231) (kf:Ret→Option Ret):F_I231 N x kf=peFunc h_I231 (Orc.of (es_I231 N)) (noL N N) Tryz.f231 (ashape sg_I231 x) kf:=by kernel_rfl
theorem sd_I231 {Γ : Gl} (N:Nat):Sound Γ Tryz.prog 231 (run_I231 N):=fun_ok2 (hh:=h_I231) mixed tab_ok (es:=es_I231 N) ⟨sd_C233 N,⟨sd_C232 N,trivial⟩⟩ (fn:=Tryz.f231) (body:=body_I231) (by kernel_rfl) (by kernel_rfl) (by kernel_rfl) (by kernel_rfl) (by kernel_rfl) (Lf:=noL N) (noL0 N) ls_I231 trivial (N:=N) (by kernel_rfl) (fn_I231 N) (.inl (by kernel_rfl))
noncomputable def ks_S263_l4:List Kd:=[.v (.sl tQIIIIILIE) (.o 46 (some 0) .k),.v (.int .i64) .k,.v (.int .i64) .k,.clo 231 [],dK,dK,dK,dK,.v (.int .i64) .k,.v (.int .i64) .k,dK,dK,dK,dK,dK,dK,dK,dK,dK,dK,dK,dK,dK,dK,dK,dK,dK,dK,dK,dK,dK,dK,dK,dK,dK,dK,dK,dK,dK,dK,dK,dK,dK,dK,dK,dK,dK,dK,dK,dK,dK,dK,dK]
noncomputable def ko_S263_l4_0:List Kd:=[.v (.sl tQIIIIILIE) (.o 46 (some 0) .k),.v (.int .i64) .k,.v (.int .i64) .k,.clo 231 [],dK,dK,dK,dK,.v (.int .i64) .k,dK,dK,dK,dK,dK,dK,dK,dK,dK,dK,dK,dK,dK,dK,dK,dK,dK,dK,dK,dK,dK,dK,dK,dK,dK,dK,dK,dK,dK,dK,dK,dK,dK,dK,dK,dK,dK,dK,dK,dK,dK,dK,dK,dK]
noncomputable def ks_S263_l1:List Kd:=[.v (.sl tQIIIIILIE) (.o 46 (some 0) .k),.v (.int .i64) .k,.v (.int .i64) .k,.clo 231 [],dK,dK,dK,dK,.v (.int .i64) .k,dK,dK,dK,dK,dK,dK,dK,dK,dK,dK,dK,dK,dK,dK,dK,dK,dK,dK,dK,dK,dK,dK,dK,dK,dK,dK,dK,dK,dK,dK,dK,dK,dK,dK,dK,dK,dK,dK,dK,dK,dK,dK,dK,dK]
noncomputable def ko_S263_l1_0:List Kd:=[.v (.sl tQIIIIILIE) (.o 46 (some 0) .k),dK,dK,dK,dK,dK,dK,dK,dK,dK,dK,dK,dK,dK,dK,dK,dK,dK,dK,dK,dK,dK,dK,dK,dK,dK,dK,dK,dK,dK,dK,dK,dK,dK,dK,dK,dK,dK,dK,dK,dK,dK,dK,dK,dK,dK,dK,dK,dK,dK,dK,dK,dK]
noncomputable def h_S263:Hint:={ tab,hn:=[],loops:=[(4,ks_S263_l4),(1,ks_S263_l1)],outs:=[(4,4,ko_S263_l4_0),(1,2,ko_S263_l1_0)],ords:=[(4,(OT.seq [0,1,2,3,4,5,6,7,8,9,10,11,12,13,14,15,16] .done)),(6,(OT.seq [0,1,5,6,7,8,9,10,11,12,13,14,2,3,4,15,16,17] .done))],lent:=some (0,false) }
noncomputable def sg_S263:List AK:=[.v (.sl tQIIIIILIE) (.o 46 (some 0) .k),.v (.int .i64) .k,.v (.int .i64) .k,.fn 231 []]
noncomputable def F_S263 (N:Nat) (x:AVals sg_S263) (kf:Ret→Option Ret):Option Ret:=S263 N x.1 x.2.1 x.2.2.1 (fun z=>kf ⟨[],[⟨(.sl tQIIIIILIE),(.o 46 (some 0) .k),z⟩]⟩)
noncomputable def run_S263 (N:Nat):=runOf sg_S263 (F_S263 N)
noncomputable def es_S263 (N:Nat):List Entry:=[⟨231,[.val,.val],(run_I231 N)⟩]
noncomputable def body_S263:Code:=match Tryz.f263.body with | some c=>c | none=>.skip
noncomputable def L_S263 (N n:Nat) (key:Nat) (S:St) (K:Ks):Option Ret:=bif Nat.beq key 1 then withVals ks_S263_l1 S (fun x=>S263_l1 N x.2.1 x.2.2.1 n (fun z0=>K (.x 0) (shape ko_S263_l1_0 (z0,()))) x.1 x.2.2.2.2.1) else bif Nat.beq key 4 then withVals ks_S263_l4 S (fun x=>S263_l4 N x.2.1 x.2.2.1 x.2.2.2.2.1 n (fun z0=>K (.x 2) (shape ko_S263_l4_0 (z0,x.2.1,x.2.2.1,(),x.2.2.2.2.1,()))) x.1 x.2.2.2.2.2.1) else none
theorem L0_S263 (N key:Nat) (S:St) (K:Ks):L_S263 N 0 key S K=none:=(bif0 (withVals0 fun _=>rfl) (bif0 (withVals0 fun _=>rfl) rfl))
noncomputable def c_S263_0:Code:=(loopsIn body_S263).getD 0 .skip
noncomputable def c_S263_1:Code:=(loopsIn body_S263).getD 1 .skip
theorem ls_S263:loopsIn body_S263=[c_S263_0,c_S263_1]:=by kernel_rfl
theorem rd_S263_4 (N n:Nat) (x:Vals ks_S263_l4) (K:Ks):L_S263 N (n + 1) 4 (shape ks_S263_l4 x) (h_S263.onOut 4 K)=peRound h_S263 (Orc.of (es_S263 N)) (mixL (L_S263 N) N n 4) c_S263_1 (shape ks_S263_l4 x) (h_S263.onOut 4 K):=by kernel_rfl
theorem rd_S263_1 (N n:Nat) (x:Vals ks_S263_l1) (K:Ks):L_S263 N (n + 1) 1 (shape ks_S263_l1 x) (h_S263.onOut 1 K)=peRound h_S263 (Orc.of (es_S263 N)) (mixL (L_S263 N) N n 1) c_S263_0 (shape ks_S263_l1 x) (h_S263.onOut 1 K):=by kernel_rfl
theorem fn_S263 (N:Nat) (x:AVals sg_S263) (kf:Ret→Option Ret):F_S263 N x kf=peFunc h_S263 (Orc.of (es_S263 N)) (L_S263 N N) Tryz.f263 (ashape sg_S263 x) kf:=by kernel_rfl
theorem sd_S263 {Γ : Gl} (N:Nat):Sound Γ Tryz.prog 263 (run_S263 N):=fun_ok2 (hh:=h_S263) mixed tab_ok (es:=es_S263 N) ⟨sd_I231 N,trivial⟩ (fn:=Tryz.f263) (body:=body_S263) (by kernel_rfl) (by kernel_rfl) (by kernel_rfl) (by kernel_rfl) (by kernel_rfl) (Lf:=L_S263 N) (L0_S263 N) ls_S263 (round_cons (key:=1) (ks:=ks_S263_l1) (by kernel_rfl) (by kernel_rfl) (rd_S263_1 N) (round_cons (key:=4) (ks:=ks_S263_l4) (by kernel_rfl) (by kernel_rfl) (rd_S263_4 N) trivial)) (N:=N) (by kernel_rfl) (fn_S263 N) (.inl (by kernel_rfl))
noncomputable def ks_S252_l2:List Kd:=[.v (.sl tQIIIIILIE) (.o 46 (some 0) .k),.v (.int .i64) .k,.v (.int .i64) .k,.v (.int .i64) .k,.clo 231 [],dK,dK,dK,dK,dK,.v .bool .k,.v .bool .k,dK,dK,dK,dK,dK,dK,dK,dK,dK,dK,dK,dK,dK,dK,dK,dK,dK,dK,dK,dK,dK,dK,dK,dK,dK,dK,dK,dK,dK,dK,dK,dK,dK,dK,dK,dK,dK,dK,dK,dK,dK,dK,dK,dK,dK,dK,dK,dK,dK,dK,dK,dK,dK,dK,dK,dK,dK,dK,dK,dK,dK,dK,dK,dK,dK,dK,dK,dK,dK,dK,dK,dK,dK,dK,dK,dK,dK,dK,dK,dK,dK,dK,dK,dK,dK,dK,dK,dK,dK,dK,dK,dK,dK,dK,dK,dK,dK,dK,dK,dK,dK,dK,dK,dK,dK,dK,dK,dK,dK,dK,dK,dK,dK,dK,dK,dK,dK,dK,dK,dK,dK,dK,dK,dK,dK,dK,dK,dK,dK,dK,dK,dK,dK,dK,dK,dK]
noncomputable def ko_S252_l2_0:List Kd:=[.v (.sl tQIIIIILIE) (.o 46 (some 0) .k),dK,dK,dK,dK,dK,dK,dK,dK,dK,dK,dK,dK,dK,dK,dK,dK,dK,dK,dK,dK,dK,dK,dK,dK,dK,dK,dK,dK,dK,dK,dK,dK,dK,dK,dK,dK,dK,dK,dK,dK,dK,dK,dK,dK,dK,dK,dK,dK,dK,dK,dK,dK,dK,dK,dK,dK,dK,dK,dK,dK,dK,dK,dK,dK,dK,dK,dK,dK,dK,dK,dK,dK,dK,dK,dK,dK,dK,dK,dK,dK,dK,dK,dK,dK,dK,dK,dK,dK,dK,dK,dK,dK,dK,dK,dK,dK,dK,dK,dK,dK,dK,dK,dK,dK,dK,dK,dK,dK,dK,dK,dK,dK,dK,dK,dK,dK,dK,dK,dK,dK,dK,dK,dK,dK,dK,dK,dK,dK,dK,dK,dK,dK,dK,dK,dK,dK,dK,dK,dK,dK,dK,dK,dK,dK,dK,dK,dK]
noncomputable def h_S252:Hint:={ tab,hn:=[],loops:=[(2,ks_S252_l2)],outs:=[(2,1,ko_S252_l2_0)],ords:=[],lent:=some (0,false) }
noncomputable def sg_S252:List AK:=[.v (.sl tQIIIIILIE) (.o 46 (some 0) .k),.v (.int .i64) .k,.v (.int .i64) .k,.v (.int .i64) .k,.fn 231 []]
noncomputable def F_S252 (N:Nat) (x:AVals sg_S252) (kf:Ret→Option Ret):Option Ret:=S252 N x.1 x.2.1 x.2.2.1 x.2.2.2.1 (fun z=>kf ⟨[],[⟨(.sl tQIIIIILIE),(.o 46 (some 0) .k),z⟩]⟩)
noncomputable def run_S252 (N:Nat):=runOf sg_S252 (F_S252 N)
noncomputable def es_S252 (N:Nat):List Entry:=[⟨263,[.lend,.val,.val,.val],(run_S263 N)⟩]
noncomputable def body_S252:Code:=match Tryz.f252.body with | some c=>c | none=>.skip
noncomputable def L_S252 (N n:Nat) (key:Nat) (S:St) (K:Ks):Option Ret:=bif Nat.beq key 2 then withVals ks_S252_l2 S (fun x=>S252_l2 N x.1 x.2.1 x.2.2.1 x.2.2.2.1 x.2.2.2.2.2.1 x.2.2.2.2.2.2.1 n (fun z0=>K .r (shape ko_S252_l2_0 (z0,())))) else none
theorem L0_S252 (N key:Nat) (S:St) (K:Ks):L_S252 N 0 key S K=none:=(bif0 (withVals0 fun _=>rfl) rfl)
noncomputable def c_S252_0:Code:=(loopsIn body_S252).getD 0 .skip
theorem ls_S252:loopsIn body_S252=[c_S252_0]:=by kernel_rfl
theorem rd_S252_2 (N n:Nat) (x:Vals ks_S252_l2) (K:Ks):L_S252 N (n + 1) 2 (shape ks_S252_l2 x) (h_S252.onOut 2 K)=peRound h_S252 (Orc.of (es_S252 N)) (mixL (L_S252 N) N n 2) c_S252_0 (shape ks_S252_l2 x) (h_S252.onOut 2 K):=by kernel_rfl
theorem fn_S252 (N:Nat) (x:AVals sg_S252) (kf:Ret→Option Ret):F_S252 N x kf=peFunc h_S252 (Orc.of (es_S252 N)) (L_S252 N N) Tryz.f252 (ashape sg_S252 x) kf:=by kernel_rfl
theorem sd_S252 {Γ : Gl} (N:Nat):Sound Γ Tryz.prog 252 (run_S252 N):=fun_ok2 (hh:=h_S252) mixed tab_ok (es:=es_S252 N) ⟨sd_S263 N,trivial⟩ (fn:=Tryz.f252) (body:=body_S252) (by kernel_rfl) (by kernel_rfl) (by kernel_rfl) (by kernel_rfl) (by kernel_rfl) (Lf:=L_S252 N) (L0_S252 N) ls_S252 (round_cons (key:=2) (ks:=ks_S252_l2) (by kernel_rfl) (by kernel_rfl) (rd_S252_2 N) trivial) (N:=N) (by kernel_rfl) (fn_S252 N) (.inl (by kernel_rfl))
noncomputable def h_S230:Hint:={ tab,hn:=[],loops:=[],outs:=[],ords:=[],lent:=some (0,false) }
noncomputable def sg_S230:List AK:=[.v (.sl tQIIIIILIE) (.o 46 (some 0) .k),.fn 231 []]
noncomputable def F_S230 (N:Nat) (x:AVals sg_S230) (kf:Ret→Option Ret):Option Ret:=S230 N x.1 (fun z=>kf ⟨[],[⟨(.sl tQIIIIILIE),(.o 46 (some 0) .k),z⟩]⟩)
noncomputable def run_S230 (N:Nat):=runOf sg_S230 (F_S230 N)
noncomputable def es_S230 (N:Nat):List Entry:=[⟨211,[.val],(run_M211 N)⟩,⟨252,[.lend,.val,.val,.val,.val],(run_S252 N)⟩]
noncomputable def body_S230:Code:=match Tryz.f230.body with | some c=>c | none=>.skip
theorem ls_S230:loopsIn body_S230=[]:=by kernel_rfl
theorem fn_S230 (N:Nat) (x:AVals sg_S230) (kf:Ret→Option Ret):F_S230 N x kf=peFunc h_S230 (Orc.of (es_S230 N)) (noL N N) Tryz.f230 (ashape sg_S230 x) kf:=by kernel_rfl
theorem sd_S230 {Γ : Gl} (N:Nat):Sound Γ Tryz.prog 230 (run_S230 N):=fun_ok2 (hh:=h_S230) mixed tab_ok (es:=es_S230 N) ⟨sd_M211 N,⟨sd_S252 N,trivial⟩⟩ (fn:=Tryz.f230) (body:=body_S230) (by kernel_rfl) (by kernel_rfl) (by kernel_rfl) (by kernel_rfl) (by kernel_rfl) (Lf:=noL N) (noL0 N) ls_S230 trivial (N:=N) (by kernel_rfl) (fn_S230 N) (.inl (by kernel_rfl))
noncomputable def ks_I187_l7:List Kd:=[dK,dK,dK,.v (.sl (.int .i64)) (.o 3 none .k),dK,dK,dK,dK,dK,dK,dK,dK,dK,dK,dK,dK,.v (.sl tQIIIIILIE) (.o 46 none .k),.v (.int .i64) .k,.v (.int .i64) .k,dK,dK,dK,dK,dK,dK,dK,dK,dK,dK]
noncomputable def ko_I187_l7_0:List Kd:=[dK,dK,dK,.v (.sl (.int .i64)) (.o 3 none .k),dK,dK,dK,dK,dK,dK,dK,dK,dK,dK,dK,dK,dK,dK,dK,dK,dK,dK,dK,dK,dK,dK,dK,dK,dK]
noncomputable def h_I187:Hint:={ tab,hn:=[],loops:=[(7,ks_I187_l7)],outs:=[(7,2,ko_I187_l7_0)],ords:=[] }
noncomputable def sg_I187:List AK:=[.v (.sl tQIIIIILIE) .k]
noncomputable def F_I187 (N:Nat) (x:AVals sg_I187) (kf:Ret→Option Ret):Option Ret:=I187 N x.1 (fun r0=>kf ⟨[⟨(.sl (.int .i64)),(.o 3 none .k),r0⟩],[]⟩)
noncomputable def run_I187 (N:Nat):=runOf sg_I187 (F_I187 N)
noncomputable def es_I187 (N:Nat):List Entry:=[⟨143,[.val],(run_I143 N)⟩,⟨229,[.val],(run_S229 N)⟩,⟨230,[.lend,.val],(run_S230 N)⟩]
noncomputable def body_I187:Code:=match Tryz.f187.body with | some c=>c | none=>.skip
noncomputable def L_I187 (N n:Nat) (key:Nat) (S:St) (K:Ks):Option Ret:=bif Nat.beq key 7 then withVals ks_I187_l7 S (fun x=>I187_l7 x.2.1 x.2.2.1 n (fun z0=>K (.x 0) (shape ko_I187_l7_0 (z0,()))) x.1 x.2.2.2.1) else none
theorem L0_I187 (N key:Nat) (S:St) (K:Ks):L_I187 N 0 key S K=none:=(bif0 (withVals0 fun _=>rfl) rfl)
noncomputable def c_I187_0:Code:=(loopsIn body_I187).getD 0 .skip
theorem ls_I187:loopsIn body_I187=[c_I187_0]:=by kernel_rfl
theorem rd_I187_7 (N n:Nat) (x:Vals ks_I187_l7) (K:Ks):L_I187 N (n + 1) 7 (shape ks_I187_l7 x) (h_I187.onOut 7 K)=peRound h_I187 (Orc.of (es_I187 N)) (mixL (L_I187 N) N n 7) c_I187_0 (shape ks_I187_l7 x) (h_I187.onOut 7 K):=by kernel_rfl
theorem fn_I187 (N:Nat) (x:AVals sg_I187) (kf:Ret→Option Ret):F_I187 N x kf=peFunc h_I187 (Orc.of (es_I187 N)) (L_I187 N N) Tryz.f187 (ashape sg_I187 x) kf:=by kernel_rfl
theorem sd_I187 {Γ : Gl} (N:Nat):Sound Γ Tryz.prog 187 (run_I187 N):=fun_ok2 (hh:=h_I187) mixed tab_ok (es:=es_I187 N) ⟨sd_I143 N,⟨sd_S229 N,⟨sd_S230 N,trivial⟩⟩⟩ (fn:=Tryz.f187) (body:=body_I187) (by kernel_rfl) (by kernel_rfl) (by kernel_rfl) (by kernel_rfl) (by kernel_rfl) (Lf:=L_I187 N) (L0_I187 N) ls_I187 (round_cons (key:=7) (ks:=ks_I187_l7) (by kernel_rfl) (by kernel_rfl) (rd_I187_7 N) trivial) (N:=N) (by kernel_rfl) (fn_I187 N) (.inl (by kernel_rfl))
def ren_S251:Go.Shelf.Ren:=⟨fun n=>bif Nat.beq n 4 then 251 else n,fun n=>bif Nat.beq n 0 then 0 else bif Nat.beq n 3 then 3 else bif Nat.beq n 4 then 4 else bif Nat.beq n 9 then 9 else bif Nat.beq n 20 then 20 else bif Nat.beq n 22 then 27 else bif Nat.beq n 25 then 3 else n,fun n=>n⟩
theorem lays_S251:Go.Proofs.Lays8.n4 Tryz.prog ren_S251:={ f4:=⟨Tryz.f251.name,by kernel_rfl,by kernel_rfl⟩,mixed:=by kernel_rfl,t0:=by kernel_rfl,a0:=fun w=>by kernel_rfl,z0:=fun w=>by kernel_rfl,v0:=fun w=>by kernel_rfl,t3:=by kernel_rfl,a3:=fun w=>by kernel_rfl,z3:=fun w=>by kernel_rfl,v3:=fun w=>by kernel_rfl,t4:=by kernel_rfl,a4:=fun w=>by kernel_rfl,z4:=fun w=>by kernel_rfl,v4:=fun w=>by kernel_rfl,t9:=by kernel_rfl,a9:=fun w=>by kernel_rfl,z9:=fun w=>by kernel_rfl,v9:=fun w=>by kernel_rfl,t20:=by kernel_rfl,a20:=fun w=>by kernel_rfl,z20:=fun w=>by kernel_rfl,v20:=fun w=>by kernel_rfl,t22:=by kernel_rfl,a22:=fun w=>by kernel_rfl,z22:=fun w=>by kernel_rfl,v22:=fun w=>by kernel_rfl }
noncomputable def ti_S251:TypeInfo:=(Tryz.prog.info? 3).get (by kernel_rfl)
noncomputable def sg_S251:List AK:=[.v (.sl (.int .i64)) (.o 3 none .k),.v (.int .i64) .k]
noncomputable def F_S251 (N:Nat) (x:AVals sg_S251) (kf:Ret→Option Ret):Option Ret:=S251 N x.1 x.2.1 (fun r0=>kf ⟨[⟨(.sl (.int .i64)),(.o 3 none .k),r0⟩],[]⟩)
noncomputable def run_S251 (N:Nat):=runOf sg_S251 (F_S251 N)
theorem sd_S251 {Γ : Gl} (N:Nat):Sound Γ Tryz.prog 251 (run_S251 N):=sound_grow (ρ:=ren_S251) (i0:=ti_S251) (z:=.int .i64 0) lays_S251 (by kernel_rfl) (by kernel_rfl) (by kernel_rfl) (by kernel_rfl) (by kernel_rfl)
noncomputable def ks_S227_l3:List Kd:=[.v (.sl (.sl (.int .i64))) .k,dK,dK,.v (.int .i64) .k,dK,dK,dK,dK,dK,.v (.sl (.sl (.int .i64))) .k,.v (.int .i64) .k,.v (.int .i64) .k,dK,dK,dK,dK,dK,dK,dK,dK,dK,dK,dK,dK,dK,dK,dK,dK,dK,dK,dK,dK,dK,dK,dK,dK]
noncomputable def ko_S227_l3_0:List Kd:=[.v (.sl (.sl (.int .i64))) .k,dK,dK,.v (.int .i64) .k,dK,dK,dK,dK,dK,dK,dK,dK,dK,dK,dK,dK,dK,dK,dK,dK,dK,dK,dK,dK,dK,dK,dK,dK,dK,dK,dK,dK,dK,dK,dK,dK]
noncomputable def ks_S227_l11:List Kd:=[dK,dK,dK,dK,dK,dK,.v (.sl (.int .i64)) (.o 3 none .k),dK,dK,dK,dK,dK,dK,dK,dK,dK,dK,dK,dK,dK,dK,dK,dK,dK,dK,.v (.sl (.sl (.int .i64))) .k,.v (.int .i64) .k,.v (.int .i64) .k,dK,dK,dK,dK,dK,dK,dK,dK]
noncomputable def ko_S227_l11_0:List Kd:=[dK,dK,dK,dK,dK,dK,.v (.sl (.int .i64)) (.o 3 none .k),dK,dK,dK,dK,dK,dK,dK,dK,dK,dK,dK,dK,dK,dK,dK,dK,dK,dK,dK,dK,dK,dK,dK,dK,dK,dK,dK,dK,dK]
noncomputable def h_S227:Hint:={ tab,hn:=[],loops:=[(3,ks_S227_l3),(11,ks_S227_l11)],outs:=[(3,2,ko_S227_l3_0),(11,4,ko_S227_l11_0)],ords:=[] }
noncomputable def sg_S227:List AK:=[.v (.sl (.sl (.int .i64))) .k]
noncomputable def F_S227 (N:Nat) (x:AVals sg_S227) (kf:Ret→Option Ret):Option Ret:=S227 N x.1 (fun r0=>kf ⟨[⟨(.sl (.int .i64)),(.o 3 none .k),r0⟩],[]⟩)
noncomputable def run_S227 (N:Nat):=runOf sg_S227 (F_S227 N)
noncomputable def es_S227 (N:Nat):List Entry:=[⟨251,[.take,.val],(run_S251 N)⟩]
noncomputable def body_S227:Code:=match Tryz.f227.body with | some c=>c | none=>.skip
noncomputable def L_S227 (N n:Nat) (key:Nat) (S:St) (K:Ks):Option Ret:=bif Nat.beq key 3 then withVals ks_S227_l3 S (fun x=>S227_l3 x.1 x.2.2.1 x.2.2.2.1 n (fun z0=>K (.x 0) (shape ko_S227_l3_0 (x.1,z0,()))) x.2.1 x.2.2.2.2.1) else bif Nat.beq key 11 then withVals ks_S227_l11 S (fun x=>S227_l11 x.2.1 x.2.2.1 n (fun z0=>K (.x 2) (shape ko_S227_l11_0 (z0,()))) x.1 x.2.2.2.1) else none
theorem L0_S227 (N key:Nat) (S:St) (K:Ks):L_S227 N 0 key S K=none:=(bif0 (withVals0 fun _=>rfl) (bif0 (withVals0 fun _=>rfl) rfl))
noncomputable def c_S227_0:Code:=(loopsIn body_S227).getD 0 .skip
noncomputable def c_S227_1:Code:=(loopsIn body_S227).getD 1 .skip
theorem ls_S227:loopsIn body_S227=[c_S227_0,c_S227_1]:=by kernel_rfl
theorem rd_S227_11 (N n:Nat) (x:Vals ks_S227_l11) (K:Ks):L_S227 N (n + 1) 11 (shape ks_S227_l11 x) (h_S227.onOut 11 K)=peRound h_S227 (Orc.of (es_S227 N)) (mixL (L_S227 N) N n 11) c_S227_1 (shape ks_S227_l11 x) (h_S227.onOut 11 K):=by kernel_rfl
theorem rd_S227_3 (N n:Nat) (x:Vals ks_S227_l3) (K:Ks):L_S227 N (n + 1) 3 (shape ks_S227_l3 x) (h_S227.onOut 3 K)=peRound h_S227 (Orc.of (es_S227 N)) (mixL (L_S227 N) N n 3) c_S227_0 (shape ks_S227_l3 x) (h_S227.onOut 3 K):=by kernel_rfl
theorem fn_S227 (N:Nat) (x:AVals sg_S227) (kf:Ret→Option Ret):F_S227 N x kf=peFunc h_S227 (Orc.of (es_S227 N)) (L_S227 N N) Tryz.f227 (ashape sg_S227 x) kf:=by kernel_rfl
theorem sd_S227 {Γ : Gl} (N:Nat):Sound Γ Tryz.prog 227 (run_S227 N):=fun_ok2 (hh:=h_S227) mixed tab_ok (es:=es_S227 N) ⟨sd_S251 N,trivial⟩ (fn:=Tryz.f227) (body:=body_S227) (by kernel_rfl) (by kernel_rfl) (by kernel_rfl) (by kernel_rfl) (by kernel_rfl) (Lf:=L_S227 N) (L0_S227 N) ls_S227 (round_cons (key:=3) (ks:=ks_S227_l3) (by kernel_rfl) (by kernel_rfl) (rd_S227_3 N) (round_cons (key:=11) (ks:=ks_S227_l11) (by kernel_rfl) (by kernel_rfl) (rd_S227_11 N) trivial)) (N:=N) (by kernel_rfl) (fn_S227 N) (.inl (by kernel_rfl))
noncomputable def h_I228:Hint:={ tab,hn:=[],loops:=[],outs:=[],ords:=[(4,(OT.seq [0,1,2,3,4,5,6,7,8,9,10,11] .done))] }
noncomputable def sg_I228:List AK:=[.v (.sl tQIIIIILIE) .k,.v (.int .i64) .k,.v (.int .i64) .k]
noncomputable def F_I228 (N:Nat) (x:AVals sg_I228) (kf:Ret→Option Ret):Option Ret:=I228 N x.1 x.2.1 x.2.2.1 (fun r0=>kf ⟨[⟨tQIIE,.k,r0⟩],[]⟩)
noncomputable def run_I228 (N:Nat):=runOf sg_I228 (F_I228 N)
noncomputable def es_I228 (N:Nat):List Entry:=[⟨40,[.val,.val],(run_I40 N)⟩,⟨143,[.val],(run_I143 N)⟩,⟨187,[.val],(run_I187 N)⟩,⟨170,[.val,.val],(run_S170 N)⟩]
noncomputable def body_I228:Code:=match Tryz.f228.body with | some c=>c | none=>.skip
theorem ls_I228:loopsIn body_I228=[]:=by kernel_rfl
theorem fn_I228 (N:Nat) (x:AVals sg_I228) (kf:Ret→Option Ret):F_I228 N x kf=peFunc h_I228 (Orc.of (es_I228 N)) (noL N N) Tryz.f228 (ashape sg_I228 x) kf:=by kernel_rfl
theorem sd_I228 {Γ : Gl} (N:Nat):Sound Γ Tryz.prog 228 (run_I228 N):=fun_ok2 (hh:=h_I228) mixed tab_ok (es:=es_I228 N) ⟨sd_I40 N,⟨sd_I143 N,⟨sd_I187 N,⟨sd_S170 N,trivial⟩⟩⟩⟩ (fn:=Tryz.f228) (body:=body_I228) (by kernel_rfl) (by kernel_rfl) (by kernel_rfl) (by kernel_rfl) (by kernel_rfl) (Lf:=noL N) (noL0 N) ls_I228 trivial (N:=N) (by kernel_rfl) (fn_I228 N) (.inl (by kernel_rfl))
noncomputable def ks_I186_l4:List Kd:=[.v (.sl tQIIIIILIE) .k,.v (.sl (.int .i64)) .k,dK,dK,dK,dK,.v (.int .i64) .k,dK,dK,dK,dK,dK,dK,dK,dK,dK,dK,dK,dK,dK,dK,dK,dK,dK,dK,dK,dK,dK,dK,dK,dK,dK,dK,dK,dK,dK,dK,dK,dK,dK,dK,dK,dK,dK,dK,dK,dK,dK,dK,dK,dK,dK,dK,dK,dK,dK,dK]
noncomputable def ko_I186_l4_0:List Kd:=[dK,dK,dK,dK,dK,dK,dK,dK,dK,dK,dK,dK,dK,dK,dK,dK,dK,dK,dK,dK,dK,dK,dK,dK,dK,dK,dK,dK,dK,dK,dK,dK,dK,dK,dK,dK,dK,dK,dK,dK,dK,dK,dK,dK,dK,dK,dK,dK,dK,dK,dK,dK,dK,dK,dK,dK,dK]
noncomputable def ko_I186_l4_1:List Kd:=[dK,dK,dK,dK,.v (.sl tQIIE) (.o 104 none .k),.v .bool .k,dK,dK,dK,dK,dK,dK,dK,dK,dK,dK,dK,dK,dK,dK,dK,dK,dK,dK,dK,dK,dK,dK,dK,dK,dK,dK,dK,dK,dK,dK,dK,dK,dK,dK,dK,dK,dK,dK,dK,dK,dK,dK,dK,dK,dK,dK,dK,dK,dK,dK,dK]
noncomputable def h_I186:Hint:={ tab,hn:=[],loops:=[(4,ks_I186_l4)],outs:=[(4,2,ko_I186_l4_0),(4,1,ko_I186_l4_1)],ords:=[(6,(OT.seq [0,1,2,3,4,5,6,7,8,9] .done)),(7,(OT.seq [0,1,2,3,4,5,6,7,8,9,10,11,12,13,14,15] .done)),(9,(OT.seq [0,1,2,3,4,5,6,7,10,8,9,11,12,13] .done))] }
noncomputable def sg_I186:List AK:=[.v (.sl tQIIIIILIE) .k,.v (.sl (.int .i64)) .k]
noncomputable def F_I186 (N:Nat) (x:AVals sg_I186) (kf:Ret→Option Ret):Option Ret:=I186 N x.1 x.2.1 (fun r0 r1=>kf ⟨[⟨(.sl tQIIE),(.o 104 none .k),r0⟩,⟨.bool,.k,r1⟩],[]⟩)
noncomputable def run_I186 (N:Nat):=runOf sg_I186 (F_I186 N)
noncomputable def es_I186 (N:Nat):List Entry:=[⟨77,[.val,.val,.val],(run_I77 N)⟩,⟨227,[.val],(run_S227 N)⟩,⟨228,[.val,.val,.val],(run_I228 N)⟩,⟨186,[.val,.val],(run_I186 N)⟩]
noncomputable def body_I186:Code:=match Tryz.f186.body with | some c=>c | none=>.skip
noncomputable def L_I186 (N n:Nat) (key:Nat) (S:St) (K:Ks):Option Ret:=bif Nat.beq key 4 then withVals ks_I186_l4 S (fun x=>I186_l4 N (I186 N) x.1 x.2.1 n (K (.x 0) (shape ko_I186_l4_0 ())) (fun z0 z1=>K .r (shape ko_I186_l4_1 (z0,z1,()))) x.2.2.1) else none
theorem L0_I186 (N key:Nat) (S:St) (K:Ks):L_I186 N 0 key S K=none:=(bif0 (withVals0 fun _=>rfl) rfl)
noncomputable def c_I186_0:Code:=(loopsIn body_I186).getD 0 .skip
theorem ls_I186:loopsIn body_I186=[c_I186_0]:=by kernel_rfl
theorem rd_I186_4 (N n:Nat) (x:Vals ks_I186_l4) (K:Ks):L_I186 N (n + 1) 4 (shape ks_I186_l4 x) (h_I186.onOut 4 K)=peRound h_I186 (Orc.of (es_I186 N)) (mixL (L_I186 N) N n 4) c_I186_0 (shape ks_I186_l4 x) (h_I186.onOut 4 K):=by kernel_rfl
theorem fn_I186 (N:Nat) (x:AVals sg_I186) (kf:Ret→Option Ret):F_I186 (N + 1) x kf=peFunc h_I186 (Orc.of (es_I186 N)) (L_I186 N N) Tryz.f186 (ashape sg_I186 x) kf:=by kernel_rfl
theorem sd_I186 {Γ : Gl} : ∀ N:Nat,Sound Γ Tryz.prog 186 (run_I186 N)
 | 0=>sound_zero fun al kf=>by
  unfold run_I186 runOf
  split <;> rfl
 | N + 1=>fun_ok2 (hh:=h_I186) mixed tab_ok (es:=es_I186 N) ⟨sd_I77 N,⟨sd_S227 N,⟨sd_I228 N,⟨sd_I186 N,trivial⟩⟩⟩⟩ (fn:=Tryz.f186) (body:=body_I186) (by kernel_rfl) (by kernel_rfl) (by kernel_rfl) (by kernel_rfl) (by kernel_rfl) (Lf:=L_I186 N) (L0_I186 N) ls_I186 (round_cons (key:=4) (ks:=ks_I186_l4) (by kernel_rfl) (by kernel_rfl) (rd_I186_4 N) trivial) (N:=N) (by kernel_rfl) (fn_I186 N) (.inl (by kernel_rfl))
noncomputable def h_I101:Hint:={ tab,hn:=[],loops:=[],outs:=[],ords:=[] }
noncomputable def sg_I101:List AK:=[.v (.sl tQIIIIILIE) .k]
noncomputable def F_I101 (N:Nat) (x:AVals sg_I101) (kf:Ret→Option Ret):Option Ret:=I101 N x.1 (fun r0 r1=>kf ⟨[⟨(.sl tQIIE),(.o 104 none .k),r0⟩,⟨.bool,.k,r1⟩],[]⟩)
noncomputable def run_I101 (N:Nat):=runOf sg_I101 (F_I101 N)
noncomputable def es_I101 (N:Nat):List Entry:=[⟨143,[.val],(run_I143 N)⟩,⟨187,[.val],(run_I187 N)⟩,⟨186,[.val,.val],(run_I186 N)⟩]
noncomputable def body_I101:Code:=match Tryz.f101.body with | some c=>c | none=>.skip
theorem ls_I101:loopsIn body_I101=[]:=by kernel_rfl
theorem fn_I101 (N:Nat) (x:AVals sg_I101) (kf:Ret→Option Ret):F_I101 N x kf=peFunc h_I101 (Orc.of (es_I101 N)) (noL N N) Tryz.f101 (ashape sg_I101 x) kf:=by kernel_rfl
theorem sd_I101 {Γ : Gl} (N:Nat):Sound Γ Tryz.prog 101 (run_I101 N):=fun_ok2 (hh:=h_I101) mixed tab_ok (es:=es_I101 N) ⟨sd_I143 N,⟨sd_I187 N,⟨sd_I186 N,trivial⟩⟩⟩ (fn:=Tryz.f101) (body:=body_I101) (by kernel_rfl) (by kernel_rfl) (by kernel_rfl) (by kernel_rfl) (by kernel_rfl) (Lf:=noL N) (noL0 N) ls_I101 trivial (N:=N) (by kernel_rfl) (fn_I101 N) (.inl (by kernel_rfl))
noncomputable def ks_I188_l4:List Kd:=[.v (.sl tQIIIIILIE) .k,.v (.sl tQIILIE) .k,.v (.sl tQIIE) .k,.v (.sl (.int .i64)) .k,dK,dK,dK,dK,dK,dK,dK,dK,dK,dK,dK,dK,dK,dK,.v (.sl tQIILIE) .k,.v (.int .i64) .k,.v (.int .i64) .k,dK,dK,dK,dK,dK,dK,dK,dK,dK,dK,dK,dK,dK,dK,dK,dK,dK,dK,dK,dK,dK,dK,dK,dK,dK,dK,dK,dK,dK,dK,dK,dK,dK,dK,dK,dK,dK,dK]
noncomputable def ko_I188_l4_0:List Kd:=[dK,dK,dK,dK,dK,dK,dK,dK,dK,dK,dK,dK,dK,dK,dK,dK,dK,dK,dK,dK,dK,dK,dK,dK,dK,dK,dK,dK,dK,dK,dK,dK,dK,dK,dK,dK,dK,dK,dK,dK,dK,dK,dK,dK,dK,dK,dK,dK,dK,dK,dK,dK,dK,dK,dK,dK,dK,dK,dK]
noncomputable def ko_I188_l4_1:List Kd:=[dK,dK,dK,dK,dK,dK,dK,dK,.v (.sl (.int .i64)) (.o 3 none .k),.v .bool .k,dK,dK,dK,dK,dK,dK,dK,dK,dK,dK,dK,dK,dK,dK,dK,dK,dK,dK,dK,dK,dK,dK,dK,dK,dK,dK,dK,dK,dK,dK,dK,dK,dK,dK,dK,dK,dK,dK,dK,dK,dK,dK,dK,dK,dK,dK,dK,dK,dK]
noncomputable def h_I188:Hint:={ tab,hn:=[],loops:=[(4,ks_I188_l4)],outs:=[(4,2,ko_I188_l4_0),(4,1,ko_I188_l4_1)],ords:=[(6,(OT.seq [0,1,2,3,4,5,6,7,8,9,10,11,12] .done)),(7,(OT.seq [4,6,7,0,1,2,3] (.any [5,8] (OT.seq [9,10,11,12,13,14,15] .done))))] }
noncomputable def sg_I188:List AK:=[.v (.sl tQIIIIILIE) .k,.v (.sl tQIILIE) .k,.v (.sl tQIIE) .k,.v (.sl (.int .i64)) .k]
noncomputable def F_I188 (N:Nat) (x:AVals sg_I188) (kf:Ret→Option Ret):Option Ret:=I188 N x.1 x.2.1 x.2.2.1 x.2.2.2.1 (fun r0 r1=>kf ⟨[⟨(.sl (.int .i64)),(.o 3 none .k),r0⟩,⟨.bool,.k,r1⟩],[]⟩)
noncomputable def run_I188 (N:Nat):=runOf sg_I188 (F_I188 N)
noncomputable def es_I188 (N:Nat):List Entry:=[⟨82,[.val,.val],(run_S82 N)⟩,⟨83,[.val,.val,.val],(run_I83 N)⟩,⟨166,[.val],(run_S166 N)⟩,⟨188,[.val,.val,.val,.val],(run_I188 N)⟩]
noncomputable def body_I188:Code:=match Tryz.f188.body with | some c=>c | none=>.skip
noncomputable def L_I188 (N n:Nat) (key:Nat) (S:St) (K:Ks):Option Ret:=bif Nat.beq key 4 then withVals ks_I188_l4 S (fun x=>I188_l4 N (I188 N) x.1 x.2.1 x.2.2.1 x.2.2.2.1 x.2.2.2.2.1 x.2.2.2.2.2.1 n (K (.x 0) (shape ko_I188_l4_0 ())) (fun z0 z1=>K .r (shape ko_I188_l4_1 (z0,z1,()))) x.2.2.2.2.2.2.1) else none
theorem L0_I188 (N key:Nat) (S:St) (K:Ks):L_I188 N 0 key S K=none:=(bif0 (withVals0 fun _=>rfl) rfl)
noncomputable def c_I188_0:Code:=(loopsIn body_I188).getD 0 .skip
theorem ls_I188:loopsIn body_I188=[c_I188_0]:=by kernel_rfl
theorem rd_I188_4 (N n:Nat) (x:Vals ks_I188_l4) (K:Ks):L_I188 N (n + 1) 4 (shape ks_I188_l4 x) (h_I188.onOut 4 K)=peRound h_I188 (Orc.of (es_I188 N)) (mixL (L_I188 N) N n 4) c_I188_0 (shape ks_I188_l4 x) (h_I188.onOut 4 K):=by kernel_rfl
theorem fn_I188 (N:Nat) (x:AVals sg_I188) (kf:Ret→Option Ret):F_I188 (N + 1) x kf=peFunc h_I188 (Orc.of (es_I188 N)) (L_I188 N N) Tryz.f188 (ashape sg_I188 x) kf:=by kernel_rfl
theorem sd_I188 {Γ : Gl} : ∀ N:Nat,Sound Γ Tryz.prog 188 (run_I188 N)
 | 0=>sound_zero fun al kf=>by
  unfold run_I188 runOf
  split <;> rfl
 | N + 1=>fun_ok2 (hh:=h_I188) mixed tab_ok (es:=es_I188 N) ⟨sd_S82 N,⟨sd_I83 N,⟨sd_S166 N,⟨sd_I188 N,trivial⟩⟩⟩⟩ (fn:=Tryz.f188) (body:=body_I188) (by kernel_rfl) (by kernel_rfl) (by kernel_rfl) (by kernel_rfl) (by kernel_rfl) (Lf:=L_I188 N) (L0_I188 N) ls_I188 (round_cons (key:=4) (ks:=ks_I188_l4) (by kernel_rfl) (by kernel_rfl) (rd_I188_4 N) trivial) (N:=N) (by kernel_rfl) (fn_I188 N) (.inl (by kernel_rfl))
noncomputable def h_I102:Hint:={ tab,hn:=[],loops:=[],outs:=[],ords:=[] }
noncomputable def sg_I102:List AK:=[.v (.sl tQIIIIILIE) .k,.v (.sl tQIILIE) .k,.v (.sl tQIIE) .k]
noncomputable def F_I102 (N:Nat) (x:AVals sg_I102) (kf:Ret→Option Ret):Option Ret:=I102 N x.1 x.2.1 x.2.2.1 (fun r0 r1=>kf ⟨[⟨(.sl (.int .i64)),(.o 3 none .k),r0⟩,⟨.bool,.k,r1⟩],[]⟩)
noncomputable def run_I102 (N:Nat):=runOf sg_I102 (F_I102 N)
noncomputable def es_I102 (N:Nat):List Entry:=[⟨79,[.val],(run_I79 N)⟩,⟨143,[.val],(run_I143 N)⟩,⟨188,[.val,.val,.val,.val],(run_I188 N)⟩]
noncomputable def body_I102:Code:=match Tryz.f102.body with | some c=>c | none=>.skip
theorem ls_I102:loopsIn body_I102=[]:=by kernel_rfl
theorem fn_I102 (N:Nat) (x:AVals sg_I102) (kf:Ret→Option Ret):F_I102 N x kf=peFunc h_I102 (Orc.of (es_I102 N)) (noL N N) Tryz.f102 (ashape sg_I102 x) kf:=by kernel_rfl
theorem sd_I102 {Γ : Gl} (N:Nat):Sound Γ Tryz.prog 102 (run_I102 N):=fun_ok2 (hh:=h_I102) mixed tab_ok (es:=es_I102 N) ⟨sd_I79 N,⟨sd_I143 N,⟨sd_I188 N,trivial⟩⟩⟩ (fn:=Tryz.f102) (body:=body_I102) (by kernel_rfl) (by kernel_rfl) (by kernel_rfl) (by kernel_rfl) (by kernel_rfl) (Lf:=noL N) (noL0 N) ls_I102 trivial (N:=N) (by kernel_rfl) (fn_I102 N) (.inl (by kernel_rfl))
noncomputable def h_I234:Hint:={ tab,hn:=[],loops:=[],outs:=[],ords:=[] }
noncomputable def sg_I234:List AK:=[.v (.sl tQIIIIE) .k]
noncomputable def F_I234 (N:Nat) (x:AVals sg_I234) (kf:Ret→Option Ret):Option Ret:=I234 N x.1 (fun r0=>kf ⟨[⟨(.int .i64),.k,r0⟩],[]⟩)
noncomputable def run_I234 (N:Nat):=runOf sg_I234 (F_I234 N)
noncomputable def es_I234 (N:Nat):List Entry:=[]
noncomputable def body_I234:Code:=match Tryz.f234.body with | some c=>c | none=>.skip
theorem ls_I234:loopsIn body_I234=[]:=by kernel_rfl
theorem fn_I234 (N:Nat) (x:AVals sg_I234) (kf:Ret→Option Ret):F_I234 N x kf=peFunc h_I234 (Orc.of (es_I234 N)) (noL N N) Tryz.f234 (ashape sg_I234 x) kf:=by kernel_rfl
theorem sd_I234 {Γ : Gl} (N:Nat):Sound Γ Tryz.prog 234 (run_I234 N):=fun_ok2 (hh:=h_I234) mixed tab_ok (es:=es_I234 N) trivial (fn:=Tryz.f234) (body:=body_I234) (by kernel_rfl) (by kernel_rfl) (by kernel_rfl) (by kernel_rfl) (by kernel_rfl) (Lf:=noL N) (noL0 N) ls_I234 trivial (N:=N) (by kernel_rfl) (fn_I234 N) (.inl (by kernel_rfl))
noncomputable def h_I189:Hint:={ tab,hn:=[],loops:=[],outs:=[],ords:=[(2,(OT.seq [0,2,1,3,4,5] .done)),(3,(OT.seq [0,2] (.any [1,3] (OT.seq [4,5] .done))))] }
noncomputable def sg_I189:List AK:=[.v (.sl tQIIIIE) .k,.v (.int .i64) .k,.v (.int .i64) .k]
noncomputable def F_I189 (N:Nat) (x:AVals sg_I189) (kf:Ret→Option Ret):Option Ret:=I189 N x.1 x.2.1 x.2.2.1 (fun r0 r1=>kf ⟨[⟨(.sl tQIIIIE),(.o 102 none .k),r0⟩,⟨.bool,.k,r1⟩],[]⟩)
noncomputable def run_I189 (N:Nat):=runOf sg_I189 (F_I189 N)
noncomputable def es_I189 (N:Nat):List Entry:=[⟨234,[.val],(run_I234 N)⟩,⟨169,[.val,.val],(run_I169 N)⟩,⟨168,[.val],(run_S168 N)⟩,⟨75,[.val],(run_I75 N)⟩]
noncomputable def body_I189:Code:=match Tryz.f189.body with | some c=>c | none=>.skip
theorem ls_I189:loopsIn body_I189=[]:=by kernel_rfl
theorem fn_I189 (N:Nat) (x:AVals sg_I189) (kf:Ret→Option Ret):F_I189 N x kf=peFunc h_I189 (Orc.of (es_I189 N)) (noL N N) Tryz.f189 (ashape sg_I189 x) kf:=by kernel_rfl
theorem sd_I189 {Γ : Gl} (N:Nat):Sound Γ Tryz.prog 189 (run_I189 N):=fun_ok2 (hh:=h_I189) mixed tab_ok (es:=es_I189 N) ⟨sd_I234 N,⟨sd_I169 N,⟨sd_S168 N,⟨sd_I75 N,trivial⟩⟩⟩⟩ (fn:=Tryz.f189) (body:=body_I189) (by kernel_rfl) (by kernel_rfl) (by kernel_rfl) (by kernel_rfl) (by kernel_rfl) (Lf:=noL N) (noL0 N) ls_I189 trivial (N:=N) (by kernel_rfl) (fn_I189 N) (.inl (by kernel_rfl))
noncomputable def h_I103:Hint:={ tab,hn:=[],loops:=[],outs:=[],ords:=[] }
noncomputable def sg_I103:List AK:=[.v tQLQIIIIILIELQIILIELQIIELILQIIIELQIIIIEIE .k,.v tQLQIIIIILIELQIILIELQIIELILQIIIELQIIIIEIE (.p (.o 46 none (.p .k (.p .k (.p .k (.p .k (.p .k (.o 3 none .k))))))) (.p (.o 80 none (.p .k (.p .k (.o 3 none .k)))) (.p (.o 104 none .k) (.p (.o 3 none .k) (.p (.o 136 none .k) (.p (.o 102 none .k) .k)))))),.v (.int .i64) .k,.v (.int .i64) .k]
noncomputable def F_I103 (N:Nat) (x:AVals sg_I103) (kf:Ret→Option Ret):Option Ret:=I103 N x.1 x.2.1 x.2.2.1 x.2.2.2.1 (fun r0 r1=>kf ⟨[⟨tQLQIIIIILIELQIILIELQIIELILQIIIELQIIIIEIE,(.p (.o 46 none (.p .k (.p .k (.p .k (.p .k (.p .k (.o 3 none .k))))))) (.p (.o 80 none (.p .k (.p .k (.o 3 none .k)))) (.p (.o 104 none .k) (.p (.o 3 none .k) (.p (.o 136 none .k) (.p (.o 102 none .k) .k)))))),r0⟩,⟨.bool,.k,r1⟩],[]⟩)
noncomputable def run_I103 (N:Nat):=runOf sg_I103 (F_I103 N)
noncomputable def es_I103 (N:Nat):List Entry:=[⟨189,[.val,.val,.val],(run_I189 N)⟩,⟨39,[.val],(run_I39 N)⟩,⟨70,[.val],(run_I70 N)⟩]
noncomputable def body_I103:Code:=match Tryz.f103.body with | some c=>c | none=>.skip
theorem ls_I103:loopsIn body_I103=[]:=by kernel_rfl
theorem fn_I103 (N:Nat) (x:AVals sg_I103) (kf:Ret→Option Ret):F_I103 N x kf=peFunc h_I103 (Orc.of (es_I103 N)) (noL N N) Tryz.f103 (ashape sg_I103 x) kf:=by kernel_rfl
theorem sd_I103 {Γ : Gl} (N:Nat):Sound Γ Tryz.prog 103 (run_I103 N):=fun_ok2 (hh:=h_I103) mixed tab_ok (es:=es_I103 N) ⟨sd_I189 N,⟨sd_I39 N,⟨sd_I70 N,trivial⟩⟩⟩ (fn:=Tryz.f103) (body:=body_I103) (by kernel_rfl) (by kernel_rfl) (by kernel_rfl) (by kernel_rfl) (by kernel_rfl) (Lf:=noL N) (noL0 N) ls_I103 trivial (N:=N) (by kernel_rfl) (fn_I103 N) (.inl (by kernel_rfl))
noncomputable def h_I23:Hint:={ tab,hn:=[],loops:=[],outs:=[],ords:=[(8,(OT.seq [0,5,1,2,3] (.par [4,6,7,8] [[50,51]] (OT.seq [9,10] .done))))] }
noncomputable def sg_I23:List AK:=[.v tQLQIIIIILIELQIILIELQIIELILQIIIELQIIIIEIE .k]
noncomputable def F_I23 (N:Nat) (x:AVals sg_I23) (kf:Ret→Option Ret):Option Ret:=I23 N x.1 (fun r0 r1=>kf ⟨[⟨tQLQIIIIILIELQIILIELQIIELILQIIIELQIIIIEIE,(.p (.o 46 none (.p .k (.p .k (.p .k (.p .k (.p .k (.o 3 none .k))))))) (.p (.o 80 none (.p .k (.p .k (.o 3 none .k)))) (.p (.o 104 none .k) (.p (.o 3 none .k) (.p (.o 136 none .k) (.p (.o 102 none .k) .k)))))),r0⟩,⟨.bool,.k,r1⟩],[]⟩)
noncomputable def run_I23 (N:Nat):=runOf sg_I23 (F_I23 N)
noncomputable def es_I23 (N:Nat):List Entry:=[⟨70,[.val],(run_I70 N)⟩,⟨39,[.val],(run_I39 N)⟩,⟨16,[.val],(run_I16 N)⟩,⟨101,[.val],(run_I101 N)⟩,⟨102,[.val,.val,.val],(run_I102 N)⟩,⟨103,[.val,.take,.val,.val],(run_I103 N)⟩]
noncomputable def body_I23:Code:=match Tryz.f23.body with | some c=>c | none=>.skip
theorem ls_I23:loopsIn body_I23=[]:=by kernel_rfl
theorem fn_I23 (N:Nat) (x:AVals sg_I23) (kf:Ret→Option Ret):F_I23 N x kf=peFunc h_I23 (Orc.of (es_I23 N)) (noL N N) Tryz.f23 (ashape sg_I23 x) kf:=by kernel_rfl
theorem sd_I23 {Γ : Gl} (N:Nat):Sound Γ Tryz.prog 23 (run_I23 N):=fun_ok2 (hh:=h_I23) mixed tab_ok (es:=es_I23 N) ⟨sd_I70 N,⟨sd_I39 N,⟨sd_I16 N,⟨sd_I101 N,⟨sd_I102 N,⟨sd_I103 N,trivial⟩⟩⟩⟩⟩⟩ (fn:=Tryz.f23) (body:=body_I23) (by kernel_rfl) (by kernel_rfl) (by kernel_rfl) (by kernel_rfl) (by kernel_rfl) (Lf:=noL N) (noL0 N) ls_I23 trivial (N:=N) (by kernel_rfl) (fn_I23 N) (.inl (by kernel_rfl))
noncomputable def ks_L107_l4:List Kd:=[.v (.sl (.int .i64)) .k,.v (.sl (.int .i64)) .k,dK,dK,dK,.v (.int .i64) .k,dK,dK,dK,dK,dK,dK,dK,dK,dK,dK,dK,dK,dK,dK,dK,dK,dK,dK,dK,dK]
noncomputable def ko_L107_l4_0:List Kd:=[dK,dK,dK,dK,dK,dK,dK,dK,dK,dK,dK,dK,dK,dK,dK,dK,dK,dK,dK,dK,dK,dK,dK,dK,dK,dK]
noncomputable def ko_L107_l4_1:List Kd:=[dK,dK,dK,dK,.v .bool .k,dK,dK,dK,dK,dK,dK,dK,dK,dK,dK,dK,dK,dK,dK,dK,dK,dK,dK,dK,dK,dK]
noncomputable def h_L107:Hint:={ tab,hn:=[],loops:=[(4,ks_L107_l4)],outs:=[(4,2,ko_L107_l4_0),(4,1,ko_L107_l4_1)],ords:=[(6,(OT.seq [0,1,2,3,4,5,6,7,8] .done))] }
noncomputable def sg_L107:List AK:=[.v (.sl (.int .i64)) .k,.v (.sl (.int .i64)) .k]
noncomputable def F_L107 (N:Nat) (x:AVals sg_L107) (kf:Ret→Option Ret):Option Ret:=L107 N x.1 x.2.1 (fun r0=>kf ⟨[⟨.bool,.k,r0⟩],[]⟩)
noncomputable def run_L107 (N:Nat):=runOf sg_L107 (F_L107 N)
noncomputable def es_L107 (N:Nat):List Entry:=[]
noncomputable def body_L107:Code:=match Tryz.f107.body with | some c=>c | none=>.skip
noncomputable def L_L107 (N n:Nat) (key:Nat) (S:St) (K:Ks):Option Ret:=bif Nat.beq key 4 then withVals ks_L107_l4 S (fun x=>L107_l4 x.1 x.2.1 n (K (.x 0) (shape ko_L107_l4_0 ())) (fun z0=>K .r (shape ko_L107_l4_1 (z0,()))) x.2.2.1) else none
theorem L0_L107 (N key:Nat) (S:St) (K:Ks):L_L107 N 0 key S K=none:=(bif0 (withVals0 fun _=>rfl) rfl)
noncomputable def c_L107_0:Code:=(loopsIn body_L107).getD 0 .skip
theorem ls_L107:loopsIn body_L107=[c_L107_0]:=by kernel_rfl
theorem rd_L107_4 (N n:Nat) (x:Vals ks_L107_l4) (K:Ks):L_L107 N (n + 1) 4 (shape ks_L107_l4 x) (h_L107.onOut 4 K)=peRound h_L107 (Orc.of (es_L107 N)) (mixL (L_L107 N) N n 4) c_L107_0 (shape ks_L107_l4 x) (h_L107.onOut 4 K):=by kernel_rfl
theorem fn_L107 (N:Nat) (x:AVals sg_L107) (kf:Ret→Option Ret):F_L107 N x kf=peFunc h_L107 (Orc.of (es_L107 N)) (L_L107 N N) Tryz.f107 (ashape sg_L107 x) kf:=by kernel_rfl
theorem sd_L107 {Γ : Gl} (N:Nat):Sound Γ Tryz.prog 107 (run_L107 N):=fun_ok2 (hh:=h_L107) mixed tab_ok (es:=es_L107 N) trivial (fn:=Tryz.f107) (body:=body_L107) (by kernel_rfl) (by kernel_rfl) (by kernel_rfl) (by kernel_rfl) (by kernel_rfl) (Lf:=L_L107 N) (L0_L107 N) ls_L107 (round_cons (key:=4) (ks:=ks_L107_l4) (by kernel_rfl) (by kernel_rfl) (rd_L107_4 N) trivial) (N:=N) (by kernel_rfl) (fn_L107 N) (.inl (by kernel_rfl))
noncomputable def h_L190:Hint:={ tab,hn:=[],loops:=[],outs:=[],ords:=[] }
noncomputable def sg_L190:List AK:=[.v tQIIIIILIE .k,.v tQIIIIILIE .k]
noncomputable def F_L190 (N:Nat) (x:AVals sg_L190) (kf:Ret→Option Ret):Option Ret:=L190 N x.1 x.2.1 (fun r0=>kf ⟨[⟨.bool,.k,r0⟩],[]⟩)
noncomputable def run_L190 (N:Nat):=runOf sg_L190 (F_L190 N)
noncomputable def es_L190 (N:Nat):List Entry:=[⟨107,[.val,.val],(run_L107 N)⟩]
noncomputable def body_L190:Code:=match Tryz.f190.body with | some c=>c | none=>.skip
theorem ls_L190:loopsIn body_L190=[]:=by kernel_rfl
theorem fn_L190 (N:Nat) (x:AVals sg_L190) (kf:Ret→Option Ret):F_L190 N x kf=peFunc h_L190 (Orc.of (es_L190 N)) (noL N N) Tryz.f190 (ashape sg_L190 x) kf:=by kernel_rfl
theorem sd_L190 {Γ : Gl} (N:Nat):Sound Γ Tryz.prog 190 (run_L190 N):=fun_ok2 (hh:=h_L190) mixed tab_ok (es:=es_L190 N) ⟨sd_L107 N,trivial⟩ (fn:=Tryz.f190) (body:=body_L190) (by kernel_rfl) (by kernel_rfl) (by kernel_rfl) (by kernel_rfl) (by kernel_rfl) (Lf:=noL N) (noL0 N) ls_L190 trivial (N:=N) (by kernel_rfl) (fn_L190 N) (.inl (by kernel_rfl))
noncomputable def ks_L104_l4:List Kd:=[.v (.sl tQIIIIILIE) .k,.v (.sl tQIIIIILIE) .k,dK,dK,dK,.v (.int .i64) .k,dK,dK,dK,dK,dK,dK,dK,dK,dK,dK,dK,dK,dK,dK,dK,dK,dK,dK,dK,dK,dK]
noncomputable def ko_L104_l4_0:List Kd:=[dK,dK,dK,dK,dK,dK,dK,dK,dK,dK,dK,dK,dK,dK,dK,dK,dK,dK,dK,dK,dK,dK,dK,dK,dK,dK,dK]
noncomputable def ko_L104_l4_1:List Kd:=[dK,dK,dK,dK,.v .bool .k,dK,dK,dK,dK,dK,dK,dK,dK,dK,dK,dK,dK,dK,dK,dK,dK,dK,dK,dK,dK,dK,dK]
noncomputable def h_L104:Hint:={ tab,hn:=[],loops:=[(4,ks_L104_l4)],outs:=[(4,2,ko_L104_l4_0),(4,1,ko_L104_l4_1)],ords:=[(6,(OT.seq [0,1,2,3,4,5,6,7,8,9] .done))] }
noncomputable def sg_L104:List AK:=[.v (.sl tQIIIIILIE) .k,.v (.sl tQIIIIILIE) .k]
noncomputable def F_L104 (N:Nat) (x:AVals sg_L104) (kf:Ret→Option Ret):Option Ret:=L104 N x.1 x.2.1 (fun r0=>kf ⟨[⟨.bool,.k,r0⟩],[]⟩)
noncomputable def run_L104 (N:Nat):=runOf sg_L104 (F_L104 N)
noncomputable def es_L104 (N:Nat):List Entry:=[⟨190,[.val,.val],(run_L190 N)⟩]
noncomputable def body_L104:Code:=match Tryz.f104.body with | some c=>c | none=>.skip
noncomputable def L_L104 (N n:Nat) (key:Nat) (S:St) (K:Ks):Option Ret:=bif Nat.beq key 4 then withVals ks_L104_l4 S (fun x=>L104_l4 N x.1 x.2.1 n (K (.x 0) (shape ko_L104_l4_0 ())) (fun z0=>K .r (shape ko_L104_l4_1 (z0,()))) x.2.2.1) else none
theorem L0_L104 (N key:Nat) (S:St) (K:Ks):L_L104 N 0 key S K=none:=(bif0 (withVals0 fun _=>rfl) rfl)
noncomputable def c_L104_0:Code:=(loopsIn body_L104).getD 0 .skip
theorem ls_L104:loopsIn body_L104=[c_L104_0]:=by kernel_rfl
theorem rd_L104_4 (N n:Nat) (x:Vals ks_L104_l4) (K:Ks):L_L104 N (n + 1) 4 (shape ks_L104_l4 x) (h_L104.onOut 4 K)=peRound h_L104 (Orc.of (es_L104 N)) (mixL (L_L104 N) N n 4) c_L104_0 (shape ks_L104_l4 x) (h_L104.onOut 4 K):=by kernel_rfl
theorem fn_L104 (N:Nat) (x:AVals sg_L104) (kf:Ret→Option Ret):F_L104 N x kf=peFunc h_L104 (Orc.of (es_L104 N)) (L_L104 N N) Tryz.f104 (ashape sg_L104 x) kf:=by kernel_rfl
theorem sd_L104 {Γ : Gl} (N:Nat):Sound Γ Tryz.prog 104 (run_L104 N):=fun_ok2 (hh:=h_L104) mixed tab_ok (es:=es_L104 N) ⟨sd_L190 N,trivial⟩ (fn:=Tryz.f104) (body:=body_L104) (by kernel_rfl) (by kernel_rfl) (by kernel_rfl) (by kernel_rfl) (by kernel_rfl) (Lf:=L_L104 N) (L0_L104 N) ls_L104 (round_cons (key:=4) (ks:=ks_L104_l4) (by kernel_rfl) (by kernel_rfl) (rd_L104_4 N) trivial) (N:=N) (by kernel_rfl) (fn_L104 N) (.inl (by kernel_rfl))
noncomputable def h_L191:Hint:={ tab,hn:=[],loops:=[],outs:=[],ords:=[] }
noncomputable def sg_L191:List AK:=[.v tQIILIE .k,.v tQIILIE .k]
noncomputable def F_L191 (N:Nat) (x:AVals sg_L191) (kf:Ret→Option Ret):Option Ret:=L191 N x.1 x.2.1 (fun r0=>kf ⟨[⟨.bool,.k,r0⟩],[]⟩)
noncomputable def run_L191 (N:Nat):=runOf sg_L191 (F_L191 N)
noncomputable def es_L191 (N:Nat):List Entry:=[⟨107,[.val,.val],(run_L107 N)⟩]
noncomputable def body_L191:Code:=match Tryz.f191.body with | some c=>c | none=>.skip
theorem ls_L191:loopsIn body_L191=[]:=by kernel_rfl
theorem fn_L191 (N:Nat) (x:AVals sg_L191) (kf:Ret→Option Ret):F_L191 N x kf=peFunc h_L191 (Orc.of (es_L191 N)) (noL N N) Tryz.f191 (ashape sg_L191 x) kf:=by kernel_rfl
theorem sd_L191 {Γ : Gl} (N:Nat):Sound Γ Tryz.prog 191 (run_L191 N):=fun_ok2 (hh:=h_L191) mixed tab_ok (es:=es_L191 N) ⟨sd_L107 N,trivial⟩ (fn:=Tryz.f191) (body:=body_L191) (by kernel_rfl) (by kernel_rfl) (by kernel_rfl) (by kernel_rfl) (by kernel_rfl) (Lf:=noL N) (noL0 N) ls_L191 trivial (N:=N) (by kernel_rfl) (fn_L191 N) (.inl (by kernel_rfl))
noncomputable def ks_L105_l4:List Kd:=[.v (.sl tQIILIE) .k,.v (.sl tQIILIE) .k,dK,dK,dK,.v (.int .i64) .k,dK,dK,dK,dK,dK,dK,dK,dK,dK,dK,dK,dK,dK,dK,dK,dK,dK,dK,dK,dK,dK]
noncomputable def ko_L105_l4_0:List Kd:=[dK,dK,dK,dK,dK,dK,dK,dK,dK,dK,dK,dK,dK,dK,dK,dK,dK,dK,dK,dK,dK,dK,dK,dK,dK,dK,dK]
noncomputable def ko_L105_l4_1:List Kd:=[dK,dK,dK,dK,.v .bool .k,dK,dK,dK,dK,dK,dK,dK,dK,dK,dK,dK,dK,dK,dK,dK,dK,dK,dK,dK,dK,dK,dK]
noncomputable def h_L105:Hint:={ tab,hn:=[],loops:=[(4,ks_L105_l4)],outs:=[(4,2,ko_L105_l4_0),(4,1,ko_L105_l4_1)],ords:=[(6,(OT.seq [0,1,2,3,4,5,6,7,8,9] .done))] }
noncomputable def sg_L105:List AK:=[.v (.sl tQIILIE) .k,.v (.sl tQIILIE) .k]
noncomputable def F_L105 (N:Nat) (x:AVals sg_L105) (kf:Ret→Option Ret):Option Ret:=L105 N x.1 x.2.1 (fun r0=>kf ⟨[⟨.bool,.k,r0⟩],[]⟩)
noncomputable def run_L105 (N:Nat):=runOf sg_L105 (F_L105 N)
noncomputable def es_L105 (N:Nat):List Entry:=[⟨191,[.val,.val],(run_L191 N)⟩]
noncomputable def body_L105:Code:=match Tryz.f105.body with | some c=>c | none=>.skip
noncomputable def L_L105 (N n:Nat) (key:Nat) (S:St) (K:Ks):Option Ret:=bif Nat.beq key 4 then withVals ks_L105_l4 S (fun x=>L105_l4 N x.1 x.2.1 n (K (.x 0) (shape ko_L105_l4_0 ())) (fun z0=>K .r (shape ko_L105_l4_1 (z0,()))) x.2.2.1) else none
theorem L0_L105 (N key:Nat) (S:St) (K:Ks):L_L105 N 0 key S K=none:=(bif0 (withVals0 fun _=>rfl) rfl)
noncomputable def c_L105_0:Code:=(loopsIn body_L105).getD 0 .skip
theorem ls_L105:loopsIn body_L105=[c_L105_0]:=by kernel_rfl
theorem rd_L105_4 (N n:Nat) (x:Vals ks_L105_l4) (K:Ks):L_L105 N (n + 1) 4 (shape ks_L105_l4 x) (h_L105.onOut 4 K)=peRound h_L105 (Orc.of (es_L105 N)) (mixL (L_L105 N) N n 4) c_L105_0 (shape ks_L105_l4 x) (h_L105.onOut 4 K):=by kernel_rfl
theorem fn_L105 (N:Nat) (x:AVals sg_L105) (kf:Ret→Option Ret):F_L105 N x kf=peFunc h_L105 (Orc.of (es_L105 N)) (L_L105 N N) Tryz.f105 (ashape sg_L105 x) kf:=by kernel_rfl
theorem sd_L105 {Γ : Gl} (N:Nat):Sound Γ Tryz.prog 105 (run_L105 N):=fun_ok2 (hh:=h_L105) mixed tab_ok (es:=es_L105 N) ⟨sd_L191 N,trivial⟩ (fn:=Tryz.f105) (body:=body_L105) (by kernel_rfl) (by kernel_rfl) (by kernel_rfl) (by kernel_rfl) (by kernel_rfl) (Lf:=L_L105 N) (L0_L105 N) ls_L105 (round_cons (key:=4) (ks:=ks_L105_l4) (by kernel_rfl) (by kernel_rfl) (rd_L105_4 N) trivial) (N:=N) (by kernel_rfl) (fn_L105 N) (.inl (by kernel_rfl))
noncomputable def h_L192:Hint:={ tab,hn:=[],loops:=[],outs:=[],ords:=[] }
noncomputable def sg_L192:List AK:=[.v tQIIE .k,.v tQIIE .k]
noncomputable def F_L192 (N:Nat) (x:AVals sg_L192) (kf:Ret→Option Ret):Option Ret:=L192 N x.1 x.2.1 (fun r0=>kf ⟨[⟨.bool,.k,r0⟩],[]⟩)
noncomputable def run_L192 (N:Nat):=runOf sg_L192 (F_L192 N)
noncomputable def es_L192 (N:Nat):List Entry:=[]
noncomputable def body_L192:Code:=match Tryz.f192.body with | some c=>c | none=>.skip
theorem ls_L192:loopsIn body_L192=[]:=by kernel_rfl
theorem fn_L192 (N:Nat) (x:AVals sg_L192) (kf:Ret→Option Ret):F_L192 N x kf=peFunc h_L192 (Orc.of (es_L192 N)) (noL N N) Tryz.f192 (ashape sg_L192 x) kf:=by kernel_rfl
theorem sd_L192 {Γ : Gl} (N:Nat):Sound Γ Tryz.prog 192 (run_L192 N):=fun_ok2 (hh:=h_L192) mixed tab_ok (es:=es_L192 N) trivial (fn:=Tryz.f192) (body:=body_L192) (by kernel_rfl) (by kernel_rfl) (by kernel_rfl) (by kernel_rfl) (by kernel_rfl) (Lf:=noL N) (noL0 N) ls_L192 trivial (N:=N) (by kernel_rfl) (fn_L192 N) (.inl (by kernel_rfl))
noncomputable def ks_L106_l4:List Kd:=[.v (.sl tQIIE) .k,.v (.sl tQIIE) .k,dK,dK,dK,.v (.int .i64) .k,dK,dK,dK,dK,dK,dK,dK,dK,dK,dK,dK,dK,dK,dK,dK,dK,dK,dK,dK,dK,dK]
noncomputable def ko_L106_l4_0:List Kd:=[dK,dK,dK,dK,dK,dK,dK,dK,dK,dK,dK,dK,dK,dK,dK,dK,dK,dK,dK,dK,dK,dK,dK,dK,dK,dK,dK]
noncomputable def ko_L106_l4_1:List Kd:=[dK,dK,dK,dK,.v .bool .k,dK,dK,dK,dK,dK,dK,dK,dK,dK,dK,dK,dK,dK,dK,dK,dK,dK,dK,dK,dK,dK,dK]
noncomputable def h_L106:Hint:={ tab,hn:=[],loops:=[(4,ks_L106_l4)],outs:=[(4,2,ko_L106_l4_0),(4,1,ko_L106_l4_1)],ords:=[(6,(OT.seq [0,1,2,3,4,5,6,7,8,9] .done))] }
noncomputable def sg_L106:List AK:=[.v (.sl tQIIE) .k,.v (.sl tQIIE) .k]
noncomputable def F_L106 (N:Nat) (x:AVals sg_L106) (kf:Ret→Option Ret):Option Ret:=L106 N x.1 x.2.1 (fun r0=>kf ⟨[⟨.bool,.k,r0⟩],[]⟩)
noncomputable def run_L106 (N:Nat):=runOf sg_L106 (F_L106 N)
noncomputable def es_L106 (N:Nat):List Entry:=[⟨192,[.val,.val],(run_L192 N)⟩]
noncomputable def body_L106:Code:=match Tryz.f106.body with | some c=>c | none=>.skip
noncomputable def L_L106 (N n:Nat) (key:Nat) (S:St) (K:Ks):Option Ret:=bif Nat.beq key 4 then withVals ks_L106_l4 S (fun x=>L106_l4 N x.1 x.2.1 n (K (.x 0) (shape ko_L106_l4_0 ())) (fun z0=>K .r (shape ko_L106_l4_1 (z0,()))) x.2.2.1) else none
theorem L0_L106 (N key:Nat) (S:St) (K:Ks):L_L106 N 0 key S K=none:=(bif0 (withVals0 fun _=>rfl) rfl)
noncomputable def c_L106_0:Code:=(loopsIn body_L106).getD 0 .skip
theorem ls_L106:loopsIn body_L106=[c_L106_0]:=by kernel_rfl
theorem rd_L106_4 (N n:Nat) (x:Vals ks_L106_l4) (K:Ks):L_L106 N (n + 1) 4 (shape ks_L106_l4 x) (h_L106.onOut 4 K)=peRound h_L106 (Orc.of (es_L106 N)) (mixL (L_L106 N) N n 4) c_L106_0 (shape ks_L106_l4 x) (h_L106.onOut 4 K):=by kernel_rfl
theorem fn_L106 (N:Nat) (x:AVals sg_L106) (kf:Ret→Option Ret):F_L106 N x kf=peFunc h_L106 (Orc.of (es_L106 N)) (L_L106 N N) Tryz.f106 (ashape sg_L106 x) kf:=by kernel_rfl
theorem sd_L106 {Γ : Gl} (N:Nat):Sound Γ Tryz.prog 106 (run_L106 N):=fun_ok2 (hh:=h_L106) mixed tab_ok (es:=es_L106 N) ⟨sd_L192 N,trivial⟩ (fn:=Tryz.f106) (body:=body_L106) (by kernel_rfl) (by kernel_rfl) (by kernel_rfl) (by kernel_rfl) (by kernel_rfl) (Lf:=L_L106 N) (L0_L106 N) ls_L106 (round_cons (key:=4) (ks:=ks_L106_l4) (by kernel_rfl) (by kernel_rfl) (rd_L106_4 N) trivial) (N:=N) (by kernel_rfl) (fn_L106 N) (.inl (by kernel_rfl))
noncomputable def h_L193:Hint:={ tab,hn:=[],loops:=[],outs:=[],ords:=[] }
noncomputable def sg_L193:List AK:=[.v tQIIIE .k,.v tQIIIE .k]
noncomputable def F_L193 (N:Nat) (x:AVals sg_L193) (kf:Ret→Option Ret):Option Ret:=L193 N x.1 x.2.1 (fun r0=>kf ⟨[⟨.bool,.k,r0⟩],[]⟩)
noncomputable def run_L193 (N:Nat):=runOf sg_L193 (F_L193 N)
noncomputable def es_L193 (N:Nat):List Entry:=[]
noncomputable def body_L193:Code:=match Tryz.f193.body with | some c=>c | none=>.skip
theorem ls_L193:loopsIn body_L193=[]:=by kernel_rfl
theorem fn_L193 (N:Nat) (x:AVals sg_L193) (kf:Ret→Option Ret):F_L193 N x kf=peFunc h_L193 (Orc.of (es_L193 N)) (noL N N) Tryz.f193 (ashape sg_L193 x) kf:=by kernel_rfl
theorem sd_L193 {Γ : Gl} (N:Nat):Sound Γ Tryz.prog 193 (run_L193 N):=fun_ok2 (hh:=h_L193) mixed tab_ok (es:=es_L193 N) trivial (fn:=Tryz.f193) (body:=body_L193) (by kernel_rfl) (by kernel_rfl) (by kernel_rfl) (by kernel_rfl) (by kernel_rfl) (Lf:=noL N) (noL0 N) ls_L193 trivial (N:=N) (by kernel_rfl) (fn_L193 N) (.inl (by kernel_rfl))
noncomputable def ks_L108_l4:List Kd:=[.v (.sl tQIIIE) .k,.v (.sl tQIIIE) .k,dK,dK,dK,.v (.int .i64) .k,dK,dK,dK,dK,dK,dK,dK,dK,dK,dK,dK,dK,dK,dK,dK,dK,dK,dK,dK,dK,dK]
noncomputable def ko_L108_l4_0:List Kd:=[dK,dK,dK,dK,dK,dK,dK,dK,dK,dK,dK,dK,dK,dK,dK,dK,dK,dK,dK,dK,dK,dK,dK,dK,dK,dK,dK]
noncomputable def ko_L108_l4_1:List Kd:=[dK,dK,dK,dK,.v .bool .k,dK,dK,dK,dK,dK,dK,dK,dK,dK,dK,dK,dK,dK,dK,dK,dK,dK,dK,dK,dK,dK,dK]
noncomputable def h_L108:Hint:={ tab,hn:=[],loops:=[(4,ks_L108_l4)],outs:=[(4,2,ko_L108_l4_0),(4,1,ko_L108_l4_1)],ords:=[(6,(OT.seq [0,1,2,3,4,5,6,7,8,9] .done))] }
noncomputable def sg_L108:List AK:=[.v (.sl tQIIIE) .k,.v (.sl tQIIIE) .k]
noncomputable def F_L108 (N:Nat) (x:AVals sg_L108) (kf:Ret→Option Ret):Option Ret:=L108 N x.1 x.2.1 (fun r0=>kf ⟨[⟨.bool,.k,r0⟩],[]⟩)
noncomputable def run_L108 (N:Nat):=runOf sg_L108 (F_L108 N)
noncomputable def es_L108 (N:Nat):List Entry:=[⟨193,[.val,.val],(run_L193 N)⟩]
noncomputable def body_L108:Code:=match Tryz.f108.body with | some c=>c | none=>.skip
noncomputable def L_L108 (N n:Nat) (key:Nat) (S:St) (K:Ks):Option Ret:=bif Nat.beq key 4 then withVals ks_L108_l4 S (fun x=>L108_l4 N x.1 x.2.1 n (K (.x 0) (shape ko_L108_l4_0 ())) (fun z0=>K .r (shape ko_L108_l4_1 (z0,()))) x.2.2.1) else none
theorem L0_L108 (N key:Nat) (S:St) (K:Ks):L_L108 N 0 key S K=none:=(bif0 (withVals0 fun _=>rfl) rfl)
noncomputable def c_L108_0:Code:=(loopsIn body_L108).getD 0 .skip
theorem ls_L108:loopsIn body_L108=[c_L108_0]:=by kernel_rfl
theorem rd_L108_4 (N n:Nat) (x:Vals ks_L108_l4) (K:Ks):L_L108 N (n + 1) 4 (shape ks_L108_l4 x) (h_L108.onOut 4 K)=peRound h_L108 (Orc.of (es_L108 N)) (mixL (L_L108 N) N n 4) c_L108_0 (shape ks_L108_l4 x) (h_L108.onOut 4 K):=by kernel_rfl
theorem fn_L108 (N:Nat) (x:AVals sg_L108) (kf:Ret→Option Ret):F_L108 N x kf=peFunc h_L108 (Orc.of (es_L108 N)) (L_L108 N N) Tryz.f108 (ashape sg_L108 x) kf:=by kernel_rfl
theorem sd_L108 {Γ : Gl} (N:Nat):Sound Γ Tryz.prog 108 (run_L108 N):=fun_ok2 (hh:=h_L108) mixed tab_ok (es:=es_L108 N) ⟨sd_L193 N,trivial⟩ (fn:=Tryz.f108) (body:=body_L108) (by kernel_rfl) (by kernel_rfl) (by kernel_rfl) (by kernel_rfl) (by kernel_rfl) (Lf:=L_L108 N) (L0_L108 N) ls_L108 (round_cons (key:=4) (ks:=ks_L108_l4) (by kernel_rfl) (by kernel_rfl) (rd_L108_4 N) trivial) (N:=N) (by kernel_rfl) (fn_L108 N) (.inl (by kernel_rfl))
noncomputable def h_L194:Hint:={ tab,hn:=[],loops:=[],outs:=[],ords:=[] }
noncomputable def sg_L194:List AK:=[.v tQIIIIE .k,.v tQIIIIE .k]
noncomputable def F_L194 (N:Nat) (x:AVals sg_L194) (kf:Ret→Option Ret):Option Ret:=L194 N x.1 x.2.1 (fun r0=>kf ⟨[⟨.bool,.k,r0⟩],[]⟩)
noncomputable def run_L194 (N:Nat):=runOf sg_L194 (F_L194 N)
noncomputable def es_L194 (N:Nat):List Entry:=[]
noncomputable def body_L194:Code:=match Tryz.f194.body with | some c=>c | none=>.skip
theorem ls_L194:loopsIn body_L194=[]:=by kernel_rfl
theorem fn_L194 (N:Nat) (x:AVals sg_L194) (kf:Ret→Option Ret):F_L194 N x kf=peFunc h_L194 (Orc.of (es_L194 N)) (noL N N) Tryz.f194 (ashape sg_L194 x) kf:=by kernel_rfl
theorem sd_L194 {Γ : Gl} (N:Nat):Sound Γ Tryz.prog 194 (run_L194 N):=fun_ok2 (hh:=h_L194) mixed tab_ok (es:=es_L194 N) trivial (fn:=Tryz.f194) (body:=body_L194) (by kernel_rfl) (by kernel_rfl) (by kernel_rfl) (by kernel_rfl) (by kernel_rfl) (Lf:=noL N) (noL0 N) ls_L194 trivial (N:=N) (by kernel_rfl) (fn_L194 N) (.inl (by kernel_rfl))
noncomputable def ks_L109_l4:List Kd:=[.v (.sl tQIIIIE) .k,.v (.sl tQIIIIE) .k,dK,dK,dK,.v (.int .i64) .k,dK,dK,dK,dK,dK,dK,dK,dK,dK,dK,dK,dK,dK,dK,dK,dK,dK,dK,dK,dK,dK]
noncomputable def ko_L109_l4_0:List Kd:=[dK,dK,dK,dK,dK,dK,dK,dK,dK,dK,dK,dK,dK,dK,dK,dK,dK,dK,dK,dK,dK,dK,dK,dK,dK,dK,dK]
noncomputable def ko_L109_l4_1:List Kd:=[dK,dK,dK,dK,.v .bool .k,dK,dK,dK,dK,dK,dK,dK,dK,dK,dK,dK,dK,dK,dK,dK,dK,dK,dK,dK,dK,dK,dK]
noncomputable def h_L109:Hint:={ tab,hn:=[],loops:=[(4,ks_L109_l4)],outs:=[(4,2,ko_L109_l4_0),(4,1,ko_L109_l4_1)],ords:=[(6,(OT.seq [0,1,2,3,4,5,6,7,8,9] .done))] }
noncomputable def sg_L109:List AK:=[.v (.sl tQIIIIE) .k,.v (.sl tQIIIIE) .k]
noncomputable def F_L109 (N:Nat) (x:AVals sg_L109) (kf:Ret→Option Ret):Option Ret:=L109 N x.1 x.2.1 (fun r0=>kf ⟨[⟨.bool,.k,r0⟩],[]⟩)
noncomputable def run_L109 (N:Nat):=runOf sg_L109 (F_L109 N)
noncomputable def es_L109 (N:Nat):List Entry:=[⟨194,[.val,.val],(run_L194 N)⟩]
noncomputable def body_L109:Code:=match Tryz.f109.body with | some c=>c | none=>.skip
noncomputable def L_L109 (N n:Nat) (key:Nat) (S:St) (K:Ks):Option Ret:=bif Nat.beq key 4 then withVals ks_L109_l4 S (fun x=>L109_l4 N x.1 x.2.1 n (K (.x 0) (shape ko_L109_l4_0 ())) (fun z0=>K .r (shape ko_L109_l4_1 (z0,()))) x.2.2.1) else none
theorem L0_L109 (N key:Nat) (S:St) (K:Ks):L_L109 N 0 key S K=none:=(bif0 (withVals0 fun _=>rfl) rfl)
noncomputable def c_L109_0:Code:=(loopsIn body_L109).getD 0 .skip
theorem ls_L109:loopsIn body_L109=[c_L109_0]:=by kernel_rfl
theorem rd_L109_4 (N n:Nat) (x:Vals ks_L109_l4) (K:Ks):L_L109 N (n + 1) 4 (shape ks_L109_l4 x) (h_L109.onOut 4 K)=peRound h_L109 (Orc.of (es_L109 N)) (mixL (L_L109 N) N n 4) c_L109_0 (shape ks_L109_l4 x) (h_L109.onOut 4 K):=by kernel_rfl
theorem fn_L109 (N:Nat) (x:AVals sg_L109) (kf:Ret→Option Ret):F_L109 N x kf=peFunc h_L109 (Orc.of (es_L109 N)) (L_L109 N N) Tryz.f109 (ashape sg_L109 x) kf:=by kernel_rfl
theorem sd_L109 {Γ : Gl} (N:Nat):Sound Γ Tryz.prog 109 (run_L109 N):=fun_ok2 (hh:=h_L109) mixed tab_ok (es:=es_L109 N) ⟨sd_L194 N,trivial⟩ (fn:=Tryz.f109) (body:=body_L109) (by kernel_rfl) (by kernel_rfl) (by kernel_rfl) (by kernel_rfl) (by kernel_rfl) (Lf:=L_L109 N) (L0_L109 N) ls_L109 (round_cons (key:=4) (ks:=ks_L109_l4) (by kernel_rfl) (by kernel_rfl) (rd_L109_4 N) trivial) (N:=N) (by kernel_rfl) (fn_L109 N) (.inl (by kernel_rfl))
noncomputable def h_L24:Hint:={ tab,hn:=[],loops:=[],outs:=[],ords:=[] }
noncomputable def sg_L24:List AK:=[.v tQLQIIIIILIELQIILIELQIIELILQIIIELQIIIIEIE .k,.v tQLQIIIIILIELQIILIELQIIELILQIIIELQIIIIEIE .k]
noncomputable def F_L24 (N:Nat) (x:AVals sg_L24) (kf:Ret→Option Ret):Option Ret:=L24 N x.1 x.2.1 (fun r0=>kf ⟨[⟨.bool,.k,r0⟩],[]⟩)
noncomputable def run_L24 (N:Nat):=runOf sg_L24 (F_L24 N)
noncomputable def es_L24 (N:Nat):List Entry:=[⟨104,[.val,.val],(run_L104 N)⟩,⟨105,[.val,.val],(run_L105 N)⟩,⟨106,[.val,.val],(run_L106 N)⟩,⟨107,[.val,.val],(run_L107 N)⟩,⟨108,[.val,.val],(run_L108 N)⟩,⟨109,[.val,.val],(run_L109 N)⟩]
noncomputable def body_L24:Code:=match Tryz.f24.body with | some c=>c | none=>.skip
theorem ls_L24:loopsIn body_L24=[]:=by kernel_rfl
theorem fn_L24 (N:Nat) (x:AVals sg_L24) (kf:Ret→Option Ret):F_L24 N x kf=peFunc h_L24 (Orc.of (es_L24 N)) (noL N N) Tryz.f24 (ashape sg_L24 x) kf:=by kernel_rfl
theorem sd_L24 {Γ : Gl} (N:Nat):Sound Γ Tryz.prog 24 (run_L24 N):=fun_ok2 (hh:=h_L24) mixed tab_ok (es:=es_L24 N) ⟨sd_L104 N,⟨sd_L105 N,⟨sd_L106 N,⟨sd_L107 N,⟨sd_L108 N,⟨sd_L109 N,trivial⟩⟩⟩⟩⟩⟩ (fn:=Tryz.f24) (body:=body_L24) (by kernel_rfl) (by kernel_rfl) (by kernel_rfl) (by kernel_rfl) (by kernel_rfl) (Lf:=noL N) (noL0 N) ls_L24 trivial (N:=N) (by kernel_rfl) (fn_L24 N) (.inl (by kernel_rfl))
noncomputable def ks_L113_l2:List Kd:=[.v (.sl (.int .i64)) (.o 3 (some 0) .k),.v (.int .i64) .k,dK,dK,dK,.v (.int .i64) .k,dK,dK,dK,dK,dK,dK,dK,dK,dK,dK,dK,dK,dK]
noncomputable def ko_L113_l2_0:List Kd:=[.v (.sl (.int .i64)) (.o 3 (some 0) .k),.v (.int .i64) .k,dK,dK,dK,dK,dK,dK,dK,dK,dK,dK,dK,dK,dK,dK,dK,dK,dK]
noncomputable def h_L113:Hint:={ tab,hn:=[],loops:=[(2,ks_L113_l2)],outs:=[(2,2,ko_L113_l2_0)],ords:=[],lent:=some (0,false) }
noncomputable def sg_L113:List AK:=[.v (.sl (.int .i64)) (.o 3 (some 0) .k),.v (.int .i64) .k]
noncomputable def F_L113 (N:Nat) (x:AVals sg_L113) (kf:Ret→Option Ret):Option Ret:=L113 N x.1 x.2.1 (fun r0 z=>kf ⟨[⟨(.int .i64),.k,r0⟩],[⟨(.sl (.int .i64)),(.o 3 (some 0) .k),z⟩]⟩)
noncomputable def run_L113 (N:Nat):=runOf sg_L113 (F_L113 N)
noncomputable def es_L113 (N:Nat):List Entry:=[]
noncomputable def body_L113:Code:=match Tryz.f113.body with | some c=>c | none=>.skip
noncomputable def L_L113 (N n:Nat) (key:Nat) (S:St) (K:Ks):Option Ret:=bif Nat.beq key 2 then withVals ks_L113_l2 S (fun x=>L113_l2 n (fun z0 z1=>K (.x 0) (shape ko_L113_l2_0 (z0,z1,()))) x.1 x.2.1 x.2.2.1) else none
theorem L0_L113 (N key:Nat) (S:St) (K:Ks):L_L113 N 0 key S K=none:=(bif0 (withVals0 fun _=>rfl) rfl)
noncomputable def c_L113_0:Code:=(loopsIn body_L113).getD 0 .skip
theorem ls_L113:loopsIn body_L113=[c_L113_0]:=by kernel_rfl
theorem rd_L113_2 (N n:Nat) (x:Vals ks_L113_l2) (K:Ks):L_L113 N (n + 1) 2 (shape ks_L113_l2 x) (h_L113.onOut 2 K)=peRound h_L113 (Orc.of (es_L113 N)) (mixL (L_L113 N) N n 2) c_L113_0 (shape ks_L113_l2 x) (h_L113.onOut 2 K):=by kernel_rfl
theorem fn_L113 (N:Nat) (x:AVals sg_L113) (kf:Ret→Option Ret):F_L113 N x kf=peFunc h_L113 (Orc.of (es_L113 N)) (L_L113 N N) Tryz.f113 (ashape sg_L113 x) kf:=by kernel_rfl
theorem sd_L113 {Γ : Gl} (N:Nat):Sound Γ Tryz.prog 113 (run_L113 N):=fun_ok2 (hh:=h_L113) mixed tab_ok (es:=es_L113 N) trivial (fn:=Tryz.f113) (body:=body_L113) (by kernel_rfl) (by kernel_rfl) (by kernel_rfl) (by kernel_rfl) (by kernel_rfl) (Lf:=L_L113 N) (L0_L113 N) ls_L113 (round_cons (key:=2) (ks:=ks_L113_l2) (by kernel_rfl) (by kernel_rfl) (rd_L113_2 N) trivial) (N:=N) (by kernel_rfl) (fn_L113 N) (.inl (by kernel_rfl))
noncomputable def ks_L110_l2:List Kd:=[.v (.sl tQIIIIILIE) (.o 46 (some 0) (.p .k (.p .k (.p .k (.p .k (.p .k (.o 3 none .k))))))),.v (.int .i64) .k,dK,dK,dK,.v (.int .i64) .k,dK,dK,dK,dK,dK,dK,dK,dK,dK,dK,dK,dK,dK,dK,dK,dK,dK,dK,dK,dK,dK,dK,dK,dK,dK,dK,dK,dK,dK,dK,dK,dK,dK,dK,dK,dK,dK,dK,dK,dK,dK,dK,dK,dK,dK,dK,dK,dK,dK]
noncomputable def ko_L110_l2_0:List Kd:=[.v (.sl tQIIIIILIE) (.o 46 (some 0) (.p .k (.p .k (.p .k (.p .k (.p .k (.o 3 none .k))))))),.v (.int .i64) .k,dK,dK,dK,dK,dK,dK,dK,dK,dK,dK,dK,dK,dK,dK,dK,dK,dK,dK,dK,dK,dK,dK,dK,dK,dK,dK,dK,dK,dK,dK,dK,dK,dK,dK,dK,dK,dK,dK,dK,dK,dK,dK,dK,dK,dK,dK,dK,dK,dK,dK,dK,dK,dK]
noncomputable def h_L110:Hint:={ tab,hn:=[],loops:=[(2,ks_L110_l2)],outs:=[(2,2,ko_L110_l2_0)],ords:=[],lent:=some (0,false) }
noncomputable def sg_L110:List AK:=[.v (.sl tQIIIIILIE) (.o 46 (some 0) (.p .k (.p .k (.p .k (.p .k (.p .k (.o 3 none .k))))))),.v (.int .i64) .k]
noncomputable def F_L110 (N:Nat) (x:AVals sg_L110) (kf:Ret→Option Ret):Option Ret:=L110 N x.1 x.2.1 (fun r0 z=>kf ⟨[⟨(.int .i64),.k,r0⟩],[⟨(.sl tQIIIIILIE),(.o 46 (some 0) (.p .k (.p .k (.p .k (.p .k (.p .k (.o 3 none .k))))))),z⟩]⟩)
noncomputable def run_L110 (N:Nat):=runOf sg_L110 (F_L110 N)
noncomputable def es_L110 (N:Nat):List Entry:=[⟨113,[.lend,.val],(run_L113 N)⟩]
noncomputable def body_L110:Code:=match Tryz.f110.body with | some c=>c | none=>.skip
noncomputable def L_L110 (N n:Nat) (key:Nat) (S:St) (K:Ks):Option Ret:=bif Nat.beq key 2 then withVals ks_L110_l2 S (fun x=>L110_l2 N n (fun z0 z1=>K (.x 0) (shape ko_L110_l2_0 (z0,z1,()))) x.1 x.2.1 x.2.2.1) else none
theorem L0_L110 (N key:Nat) (S:St) (K:Ks):L_L110 N 0 key S K=none:=(bif0 (withVals0 fun _=>rfl) rfl)
noncomputable def c_L110_0:Code:=(loopsIn body_L110).getD 0 .skip
theorem ls_L110:loopsIn body_L110=[c_L110_0]:=by kernel_rfl
theorem rd_L110_2 (N n:Nat) (x:Vals ks_L110_l2) (K:Ks):L_L110 N (n + 1) 2 (shape ks_L110_l2 x) (h_L110.onOut 2 K)=peRound h_L110 (Orc.of (es_L110 N)) (mixL (L_L110 N) N n 2) c_L110_0 (shape ks_L110_l2 x) (h_L110.onOut 2 K):=by kernel_rfl
theorem fn_L110 (N:Nat) (x:AVals sg_L110) (kf:Ret→Option Ret):F_L110 N x kf=peFunc h_L110 (Orc.of (es_L110 N)) (L_L110 N N) Tryz.f110 (ashape sg_L110 x) kf:=by kernel_rfl
theorem sd_L110 {Γ : Gl} (N:Nat):Sound Γ Tryz.prog 110 (run_L110 N):=fun_ok2 (hh:=h_L110) mixed tab_ok (es:=es_L110 N) ⟨sd_L113 N,trivial⟩ (fn:=Tryz.f110) (body:=body_L110) (by kernel_rfl) (by kernel_rfl) (by kernel_rfl) (by kernel_rfl) (by kernel_rfl) (Lf:=L_L110 N) (L0_L110 N) ls_L110 (round_cons (key:=2) (ks:=ks_L110_l2) (by kernel_rfl) (by kernel_rfl) (rd_L110_2 N) trivial) (N:=N) (by kernel_rfl) (fn_L110 N) (.inl (by kernel_rfl))
noncomputable def ks_L111_l2:List Kd:=[.v (.sl tQIILIE) (.o 80 (some 0) (.p .k (.p .k (.o 3 none .k)))),.v (.int .i64) .k,dK,dK,dK,.v (.int .i64) .k,dK,dK,dK,dK,dK,dK,dK,dK,dK,dK,dK,dK,dK,dK,dK,dK,dK,dK,dK,dK,dK,dK,dK,dK,dK,dK,dK,dK]
noncomputable def ko_L111_l2_0:List Kd:=[.v (.sl tQIILIE) (.o 80 (some 0) (.p .k (.p .k (.o 3 none .k)))),.v (.int .i64) .k,dK,dK,dK,dK,dK,dK,dK,dK,dK,dK,dK,dK,dK,dK,dK,dK,dK,dK,dK,dK,dK,dK,dK,dK,dK,dK,dK,dK,dK,dK,dK,dK]
noncomputable def h_L111:Hint:={ tab,hn:=[],loops:=[(2,ks_L111_l2)],outs:=[(2,2,ko_L111_l2_0)],ords:=[],lent:=some (0,false) }
noncomputable def sg_L111:List AK:=[.v (.sl tQIILIE) (.o 80 (some 0) (.p .k (.p .k (.o 3 none .k)))),.v (.int .i64) .k]
noncomputable def F_L111 (N:Nat) (x:AVals sg_L111) (kf:Ret→Option Ret):Option Ret:=L111 N x.1 x.2.1 (fun r0 z=>kf ⟨[⟨(.int .i64),.k,r0⟩],[⟨(.sl tQIILIE),(.o 80 (some 0) (.p .k (.p .k (.o 3 none .k)))),z⟩]⟩)
noncomputable def run_L111 (N:Nat):=runOf sg_L111 (F_L111 N)
noncomputable def es_L111 (N:Nat):List Entry:=[⟨113,[.lend,.val],(run_L113 N)⟩]
noncomputable def body_L111:Code:=match Tryz.f111.body with | some c=>c | none=>.skip
noncomputable def L_L111 (N n:Nat) (key:Nat) (S:St) (K:Ks):Option Ret:=bif Nat.beq key 2 then withVals ks_L111_l2 S (fun x=>L111_l2 N n (fun z0 z1=>K (.x 0) (shape ko_L111_l2_0 (z0,z1,()))) x.1 x.2.1 x.2.2.1) else none
theorem L0_L111 (N key:Nat) (S:St) (K:Ks):L_L111 N 0 key S K=none:=(bif0 (withVals0 fun _=>rfl) rfl)
noncomputable def c_L111_0:Code:=(loopsIn body_L111).getD 0 .skip
theorem ls_L111:loopsIn body_L111=[c_L111_0]:=by kernel_rfl
theorem rd_L111_2 (N n:Nat) (x:Vals ks_L111_l2) (K:Ks):L_L111 N (n + 1) 2 (shape ks_L111_l2 x) (h_L111.onOut 2 K)=peRound h_L111 (Orc.of (es_L111 N)) (mixL (L_L111 N) N n 2) c_L111_0 (shape ks_L111_l2 x) (h_L111.onOut 2 K):=by kernel_rfl
theorem fn_L111 (N:Nat) (x:AVals sg_L111) (kf:Ret→Option Ret):F_L111 N x kf=peFunc h_L111 (Orc.of (es_L111 N)) (L_L111 N N) Tryz.f111 (ashape sg_L111 x) kf:=by kernel_rfl
theorem sd_L111 {Γ : Gl} (N:Nat):Sound Γ Tryz.prog 111 (run_L111 N):=fun_ok2 (hh:=h_L111) mixed tab_ok (es:=es_L111 N) ⟨sd_L113 N,trivial⟩ (fn:=Tryz.f111) (body:=body_L111) (by kernel_rfl) (by kernel_rfl) (by kernel_rfl) (by kernel_rfl) (by kernel_rfl) (Lf:=L_L111 N) (L0_L111 N) ls_L111 (round_cons (key:=2) (ks:=ks_L111_l2) (by kernel_rfl) (by kernel_rfl) (rd_L111_2 N) trivial) (N:=N) (by kernel_rfl) (fn_L111 N) (.inl (by kernel_rfl))
noncomputable def ks_L112_l2:List Kd:=[.v (.sl tQIIE) (.o 104 (some 0) .k),.v (.int .i64) .k,dK,dK,dK,.v (.int .i64) .k,dK,dK,dK,dK,dK,dK,dK,dK,dK,dK,dK,dK,dK,dK,dK,dK,dK,dK,dK,dK,dK]
noncomputable def ko_L112_l2_0:List Kd:=[.v (.sl tQIIE) (.o 104 (some 0) .k),.v (.int .i64) .k,dK,dK,dK,dK,dK,dK,dK,dK,dK,dK,dK,dK,dK,dK,dK,dK,dK,dK,dK,dK,dK,dK,dK,dK,dK]
noncomputable def h_L112:Hint:={ tab,hn:=[],loops:=[(2,ks_L112_l2)],outs:=[(2,2,ko_L112_l2_0)],ords:=[],lent:=some (0,false) }
noncomputable def sg_L112:List AK:=[.v (.sl tQIIE) (.o 104 (some 0) .k),.v (.int .i64) .k]
noncomputable def F_L112 (N:Nat) (x:AVals sg_L112) (kf:Ret→Option Ret):Option Ret:=L112 N x.1 x.2.1 (fun r0 z=>kf ⟨[⟨(.int .i64),.k,r0⟩],[⟨(.sl tQIIE),(.o 104 (some 0) .k),z⟩]⟩)
noncomputable def run_L112 (N:Nat):=runOf sg_L112 (F_L112 N)
noncomputable def es_L112 (N:Nat):List Entry:=[]
noncomputable def body_L112:Code:=match Tryz.f112.body with | some c=>c | none=>.skip
noncomputable def L_L112 (N n:Nat) (key:Nat) (S:St) (K:Ks):Option Ret:=bif Nat.beq key 2 then withVals ks_L112_l2 S (fun x=>L112_l2 n (fun z0 z1=>K (.x 0) (shape ko_L112_l2_0 (z0,z1,()))) x.1 x.2.1 x.2.2.1) else none
theorem L0_L112 (N key:Nat) (S:St) (K:Ks):L_L112 N 0 key S K=none:=(bif0 (withVals0 fun _=>rfl) rfl)
noncomputable def c_L112_0:Code:=(loopsIn body_L112).getD 0 .skip
theorem ls_L112:loopsIn body_L112=[c_L112_0]:=by kernel_rfl
theorem rd_L112_2 (N n:Nat) (x:Vals ks_L112_l2) (K:Ks):L_L112 N (n + 1) 2 (shape ks_L112_l2 x) (h_L112.onOut 2 K)=peRound h_L112 (Orc.of (es_L112 N)) (mixL (L_L112 N) N n 2) c_L112_0 (shape ks_L112_l2 x) (h_L112.onOut 2 K):=by kernel_rfl
theorem fn_L112 (N:Nat) (x:AVals sg_L112) (kf:Ret→Option Ret):F_L112 N x kf=peFunc h_L112 (Orc.of (es_L112 N)) (L_L112 N N) Tryz.f112 (ashape sg_L112 x) kf:=by kernel_rfl
theorem sd_L112 {Γ : Gl} (N:Nat):Sound Γ Tryz.prog 112 (run_L112 N):=fun_ok2 (hh:=h_L112) mixed tab_ok (es:=es_L112 N) trivial (fn:=Tryz.f112) (body:=body_L112) (by kernel_rfl) (by kernel_rfl) (by kernel_rfl) (by kernel_rfl) (by kernel_rfl) (Lf:=L_L112 N) (L0_L112 N) ls_L112 (round_cons (key:=2) (ks:=ks_L112_l2) (by kernel_rfl) (by kernel_rfl) (rd_L112_2 N) trivial) (N:=N) (by kernel_rfl) (fn_L112 N) (.inl (by kernel_rfl))
noncomputable def ks_L114_l2:List Kd:=[.v (.sl tQIIIE) (.o 136 (some 0) .k),.v (.int .i64) .k,dK,dK,dK,.v (.int .i64) .k,dK,dK,dK,dK,dK,dK,dK,dK,dK,dK,dK,dK,dK,dK,dK,dK,dK,dK,dK,dK,dK,dK,dK,dK,dK,dK,dK,dK]
noncomputable def ko_L114_l2_0:List Kd:=[.v (.sl tQIIIE) (.o 136 (some 0) .k),.v (.int .i64) .k,dK,dK,dK,dK,dK,dK,dK,dK,dK,dK,dK,dK,dK,dK,dK,dK,dK,dK,dK,dK,dK,dK,dK,dK,dK,dK,dK,dK,dK,dK,dK,dK]
noncomputable def h_L114:Hint:={ tab,hn:=[],loops:=[(2,ks_L114_l2)],outs:=[(2,2,ko_L114_l2_0)],ords:=[],lent:=some (0,false) }
noncomputable def sg_L114:List AK:=[.v (.sl tQIIIE) (.o 136 (some 0) .k),.v (.int .i64) .k]
noncomputable def F_L114 (N:Nat) (x:AVals sg_L114) (kf:Ret→Option Ret):Option Ret:=L114 N x.1 x.2.1 (fun r0 z=>kf ⟨[⟨(.int .i64),.k,r0⟩],[⟨(.sl tQIIIE),(.o 136 (some 0) .k),z⟩]⟩)
noncomputable def run_L114 (N:Nat):=runOf sg_L114 (F_L114 N)
noncomputable def es_L114 (N:Nat):List Entry:=[]
noncomputable def body_L114:Code:=match Tryz.f114.body with | some c=>c | none=>.skip
noncomputable def L_L114 (N n:Nat) (key:Nat) (S:St) (K:Ks):Option Ret:=bif Nat.beq key 2 then withVals ks_L114_l2 S (fun x=>L114_l2 n (fun z0 z1=>K (.x 0) (shape ko_L114_l2_0 (z0,z1,()))) x.1 x.2.1 x.2.2.1) else none
theorem L0_L114 (N key:Nat) (S:St) (K:Ks):L_L114 N 0 key S K=none:=(bif0 (withVals0 fun _=>rfl) rfl)
noncomputable def c_L114_0:Code:=(loopsIn body_L114).getD 0 .skip
theorem ls_L114:loopsIn body_L114=[c_L114_0]:=by kernel_rfl
theorem rd_L114_2 (N n:Nat) (x:Vals ks_L114_l2) (K:Ks):L_L114 N (n + 1) 2 (shape ks_L114_l2 x) (h_L114.onOut 2 K)=peRound h_L114 (Orc.of (es_L114 N)) (mixL (L_L114 N) N n 2) c_L114_0 (shape ks_L114_l2 x) (h_L114.onOut 2 K):=by kernel_rfl
theorem fn_L114 (N:Nat) (x:AVals sg_L114) (kf:Ret→Option Ret):F_L114 N x kf=peFunc h_L114 (Orc.of (es_L114 N)) (L_L114 N N) Tryz.f114 (ashape sg_L114 x) kf:=by kernel_rfl
theorem sd_L114 {Γ : Gl} (N:Nat):Sound Γ Tryz.prog 114 (run_L114 N):=fun_ok2 (hh:=h_L114) mixed tab_ok (es:=es_L114 N) trivial (fn:=Tryz.f114) (body:=body_L114) (by kernel_rfl) (by kernel_rfl) (by kernel_rfl) (by kernel_rfl) (by kernel_rfl) (Lf:=L_L114 N) (L0_L114 N) ls_L114 (round_cons (key:=2) (ks:=ks_L114_l2) (by kernel_rfl) (by kernel_rfl) (rd_L114_2 N) trivial) (N:=N) (by kernel_rfl) (fn_L114 N) (.inl (by kernel_rfl))
noncomputable def ks_L115_l2:List Kd:=[.v (.sl tQIIIIE) (.o 102 (some 0) .k),.v (.int .i64) .k,dK,dK,dK,.v (.int .i64) .k,dK,dK,dK,dK,dK,dK,dK,dK,dK,dK,dK,dK,dK,dK,dK,dK,dK,dK,dK,dK,dK,dK,dK,dK,dK,dK,dK,dK,dK,dK,dK,dK,dK,dK,dK]
noncomputable def ko_L115_l2_0:List Kd:=[.v (.sl tQIIIIE) (.o 102 (some 0) .k),.v (.int .i64) .k,dK,dK,dK,dK,dK,dK,dK,dK,dK,dK,dK,dK,dK,dK,dK,dK,dK,dK,dK,dK,dK,dK,dK,dK,dK,dK,dK,dK,dK,dK,dK,dK,dK,dK,dK,dK,dK,dK,dK]
noncomputable def h_L115:Hint:={ tab,hn:=[],loops:=[(2,ks_L115_l2)],outs:=[(2,2,ko_L115_l2_0)],ords:=[],lent:=some (0,false) }
noncomputable def sg_L115:List AK:=[.v (.sl tQIIIIE) (.o 102 (some 0) .k),.v (.int .i64) .k]
noncomputable def F_L115 (N:Nat) (x:AVals sg_L115) (kf:Ret→Option Ret):Option Ret:=L115 N x.1 x.2.1 (fun r0 z=>kf ⟨[⟨(.int .i64),.k,r0⟩],[⟨(.sl tQIIIIE),(.o 102 (some 0) .k),z⟩]⟩)
noncomputable def run_L115 (N:Nat):=runOf sg_L115 (F_L115 N)
noncomputable def es_L115 (N:Nat):List Entry:=[]
noncomputable def body_L115:Code:=match Tryz.f115.body with | some c=>c | none=>.skip
noncomputable def L_L115 (N n:Nat) (key:Nat) (S:St) (K:Ks):Option Ret:=bif Nat.beq key 2 then withVals ks_L115_l2 S (fun x=>L115_l2 n (fun z0 z1=>K (.x 0) (shape ko_L115_l2_0 (z0,z1,()))) x.1 x.2.1 x.2.2.1) else none
theorem L0_L115 (N key:Nat) (S:St) (K:Ks):L_L115 N 0 key S K=none:=(bif0 (withVals0 fun _=>rfl) rfl)
noncomputable def c_L115_0:Code:=(loopsIn body_L115).getD 0 .skip
theorem ls_L115:loopsIn body_L115=[c_L115_0]:=by kernel_rfl
theorem rd_L115_2 (N n:Nat) (x:Vals ks_L115_l2) (K:Ks):L_L115 N (n + 1) 2 (shape ks_L115_l2 x) (h_L115.onOut 2 K)=peRound h_L115 (Orc.of (es_L115 N)) (mixL (L_L115 N) N n 2) c_L115_0 (shape ks_L115_l2 x) (h_L115.onOut 2 K):=by kernel_rfl
theorem fn_L115 (N:Nat) (x:AVals sg_L115) (kf:Ret→Option Ret):F_L115 N x kf=peFunc h_L115 (Orc.of (es_L115 N)) (L_L115 N N) Tryz.f115 (ashape sg_L115 x) kf:=by kernel_rfl
theorem sd_L115 {Γ : Gl} (N:Nat):Sound Γ Tryz.prog 115 (run_L115 N):=fun_ok2 (hh:=h_L115) mixed tab_ok (es:=es_L115 N) trivial (fn:=Tryz.f115) (body:=body_L115) (by kernel_rfl) (by kernel_rfl) (by kernel_rfl) (by kernel_rfl) (by kernel_rfl) (Lf:=L_L115 N) (L0_L115 N) ls_L115 (round_cons (key:=2) (ks:=ks_L115_l2) (by kernel_rfl) (by kernel_rfl) (rd_L115_2 N) trivial) (N:=N) (by kernel_rfl) (fn_L115 N) (.inl (by kernel_rfl))
noncomputable def h_L25:Hint:={ tab,hn:=[],loops:=[],outs:=[],ords:=[],lent:=some (2,true) }
noncomputable def sg_L25:List AK:=[.v tQLQIIIIILIELQIILIELQIIELILQIIIELQIIIIEIE (.p (.o 46 (some 0) (.p .k (.p .k (.p .k (.p .k (.p .k (.o 3 none .k))))))) (.p (.o 80 (some 1) (.p .k (.p .k (.o 3 none .k)))) (.p (.o 104 (some 2) .k) (.p (.o 3 (some 3) .k) (.p (.o 136 (some 4) .k) (.p (.o 102 (some 5) .k) .k)))))),.v (.int .i64) .k]
noncomputable def F_L25 (N:Nat) (x:AVals sg_L25) (kf:Ret→Option Ret):Option Ret:=L25 N x.1 x.2.1 (fun r0 z=>kf ⟨[⟨(.int .i64),.k,r0⟩],[⟨tQLQIIIIILIELQIILIELQIIELILQIIIELQIIIIEIE,(.p (.o 46 (some 0) (.p .k (.p .k (.p .k (.p .k (.p .k (.o 3 none .k))))))) (.p (.o 80 (some 1) (.p .k (.p .k (.o 3 none .k)))) (.p (.o 104 (some 2) .k) (.p (.o 3 (some 3) .k) (.p (.o 136 (some 4) .k) (.p (.o 102 (some 5) .k) .k)))))),z⟩]⟩)
noncomputable def run_L25 (N:Nat):=runOf sg_L25 (F_L25 N)
noncomputable def es_L25 (N:Nat):List Entry:=[⟨110,[.lend,.val],(run_L110 N)⟩,⟨111,[.lend,.val],(run_L111 N)⟩,⟨112,[.lend,.val],(run_L112 N)⟩,⟨113,[.lend,.val],(run_L113 N)⟩,⟨114,[.lend,.val],(run_L114 N)⟩,⟨115,[.lend,.val],(run_L115 N)⟩]
noncomputable def body_L25:Code:=match Tryz.f25.body with | some c=>c | none=>.skip
theorem ls_L25:loopsIn body_L25=[]:=by kernel_rfl
theorem fn_L25 (N:Nat) (x:AVals sg_L25) (kf:Ret→Option Ret):F_L25 N x kf=peFunc h_L25 (Orc.of (es_L25 N)) (noL N N) Tryz.f25 (ashape sg_L25 x) kf:=by kernel_rfl
theorem sd_L25 {Γ : Gl} (N:Nat):Sound Γ Tryz.prog 25 (run_L25 N):=fun_ok2 (hh:=h_L25) mixed tab_ok (es:=es_L25 N) ⟨sd_L110 N,⟨sd_L111 N,⟨sd_L112 N,⟨sd_L113 N,⟨sd_L114 N,⟨sd_L115 N,trivial⟩⟩⟩⟩⟩⟩ (fn:=Tryz.f25) (body:=body_L25) (by kernel_rfl) (by kernel_rfl) (by kernel_rfl) (by kernel_rfl) (by kernel_rfl) (Lf:=noL N) (noL0 N) ls_L25 trivial (N:=N) (by kernel_rfl) (fn_L25 N) (.inl (by kernel_rfl))
end Go.Pv.R
