/- Each function of the program that the law reaches computes its plain function, part 2. -/
import Derived.Test.YtcpakhaogbempaaGreatSnd1
import Derived.Test.YtcpakhaogbempaaGreatProg
namespace Go.Pv.R
open Go.Proofs
set_option linter.unusedVariables false
set_option maxRecDepth 100000
noncomputable def h_L193:Hint:={ tab,hn:=[],loops:=[],outs:=[],ords:=[] }
noncomputable def sg_L193:List AK:=[.v tQIIIE .k,.v tQIIIE .k]
noncomputable def F_L193 (N:Nat) (x:AVals sg_L193) (kf:Ret→Option Ret):Option Ret:=L193 N x.1 x.2.1 (fun r0=>kf ⟨[⟨.bool,.k,r0⟩],[]⟩)
noncomputable def run_L193 (N:Nat):=runOf sg_L193 (F_L193 N)
noncomputable def es_L193 (N:Nat):List Entry:=[]
noncomputable def body_L193:Code:=match Tryz.f193.body with | some c=>c | none=>.skip
theorem ls_L193:loopsIn body_L193=[]:=by kernel_rfl
theorem fn_L193 (N:Nat) (x:AVals sg_L193) (kf:Ret→Option Ret):F_L193 N x kf=peFunc h_L193 (Orc.of (es_L193 N)) (noL N N) Tryz.f193 (ashape sg_L193 x) kf:=by kernel_rfl
theorem sd_L193 {Γ : Gl} (N:Nat):Sound Γ Tryz.prog 193 (run_L193 N):=fun_ok2 (hh:=h_L193) mixed tab_ok (es:=es_L193 N) trivial (fn:=Tryz.f193) (body:=body_L193) (by kernel_rfl) (by kernel_rfl) (by kernel_rfl) (by kernel_rfl) (by kernel_rfl) (Lf:=noL N) (noL0 N) ls_L193 trivial (N:=N) (by kernel_rfl) (fn_L193 N) (.inl (by kernel_rfl))
noncomputable def ks_L108_l4:List Kd:=[.v (.sl tQIIIE) .k,.v (.sl tQIIIE) .k,dK,dK,dK,.v (.int .i64) .k,dK,dK,dK,dK,dK,dK,dK,dK,dK,dK,dK,dK,dK,dK,dK,dK,dK,dK,dK,dK,dK]
noncomputable def ko_L108_l4_0:List Kd:=[dK,dK,dK,dK,dK,dK,dK,dK,dK,dK,dK,dK,dK,dK,dK,dK,dK,dK,dK,dK,dK,dK,dK,dK,dK,dK,dK]
noncomputable def ko_L108_l4_1:List Kd:=[dK,dK,dK,dK,.v .bool .k,dK,dK,dK,dK,dK,dK,dK,dK,dK,dK,dK,dK,dK,dK,dK,dK,dK,dK,dK,dK,dK,dK]
noncomputable def h_L108:Hint:={ tab,hn:=[],loops:=[(4,ks_L108_l4)],outs:=[(4,2,ko_L108_l4_0),(4,1,ko_L108_l4_1)],ords:=[(6,(OT.seq [0,1,2,3,4,5,6,7,8,9] .done))] }
noncomputable def sg_L108:List AK:=[.v (.sl tQIIIE) .k,.v (.sl tQIIIE) .k]
noncomputable def F_L108 (N:Nat) (x:AVals sg_L108) (kf:Ret→Option Ret):Option Ret:=L108 N x.1 x.2.1 (fun r0=>kf ⟨[⟨.bool,.k,r0⟩],[]⟩)
noncomputable def run_L108 (N:Nat):=runOf sg_L108 (F_L108 N)
noncomputable def es_L108 (N:Nat):List Entry:=[⟨193,[.val,.val],(run_L193 N)⟩]
noncomputable def body_L108:Code:=match Tryz.f108.body with | some c=>c | none=>.skip
noncomputable def L_L108 (N n:Nat) (key:Nat) (S:St) (K:Ks):Option Ret:=bif Nat.beq key 4 then withVals ks_L108_l4 S (fun x=>L108_l4 N x.1 x.2.1 n (K (.x 0) (shape ko_L108_l4_0 ())) (fun z0=>K .r (shape ko_L108_l4_1 (z0,()))) x.2.2.1) else none
theorem L0_L108 (N key:Nat) (S:St) (K:Ks):L_L108 N 0 key S K=none:=(bif0 (withVals0 fun _=>rfl) rfl)
noncomputable def c_L108_0:Code:=(loopsIn body_L108).getD 0 .skip
theorem ls_L108:loopsIn body_L108=[c_L108_0]:=by kernel_rfl
theorem rd_L108_4 (N n:Nat) (x:Vals ks_L108_l4) (K:Ks):L_L108 N (n + 1) 4 (shape ks_L108_l4 x) (h_L108.onOut 4 K)=peRound h_L108 (Orc.of (es_L108 N)) (mixL (L_L108 N) N n 4) c_L108_0 (shape ks_L108_l4 x) (h_L108.onOut 4 K):=by kernel_rfl
theorem fn_L108 (N:Nat) (x:AVals sg_L108) (kf:Ret→Option Ret):F_L108 N x kf=peFunc h_L108 (Orc.of (es_L108 N)) (L_L108 N N) Tryz.f108 (ashape sg_L108 x) kf:=by kernel_rfl
theorem sd_L108 {Γ : Gl} (N:Nat):Sound Γ Tryz.prog 108 (run_L108 N):=fun_ok2 (hh:=h_L108) mixed tab_ok (es:=es_L108 N) ⟨sd_L193 N,trivial⟩ (fn:=Tryz.f108) (body:=body_L108) (by kernel_rfl) (by kernel_rfl) (by kernel_rfl) (by kernel_rfl) (by kernel_rfl) (Lf:=L_L108 N) (L0_L108 N) ls_L108 (round_cons (key:=4) (ks:=ks_L108_l4) (by kernel_rfl) (by kernel_rfl) (rd_L108_4 N) trivial) (N:=N) (by kernel_rfl) (fn_L108 N) (.inl (by kernel_rfl))
noncomputable def h_L194:Hint:={ tab,hn:=[],loops:=[],outs:=[],ords:=[] }
noncomputable def sg_L194:List AK:=[.v tQIIIIE .k,.v tQIIIIE .k]
noncomputable def F_L194 (N:Nat) (x:AVals sg_L194) (kf:Ret→Option Ret):Option Ret:=L194 N x.1 x.2.1 (fun r0=>kf ⟨[⟨.bool,.k,r0⟩],[]⟩)
noncomputable def run_L194 (N:Nat):=runOf sg_L194 (F_L194 N)
noncomputable def es_L194 (N:Nat):List Entry:=[]
noncomputable def body_L194:Code:=match Tryz.f194.body with | some c=>c | none=>.skip
theorem ls_L194:loopsIn body_L194=[]:=by kernel_rfl
theorem fn_L194 (N:Nat) (x:AVals sg_L194) (kf:Ret→Option Ret):F_L194 N x kf=peFunc h_L194 (Orc.of (es_L194 N)) (noL N N) Tryz.f194 (ashape sg_L194 x) kf:=by kernel_rfl
theorem sd_L194 {Γ : Gl} (N:Nat):Sound Γ Tryz.prog 194 (run_L194 N):=fun_ok2 (hh:=h_L194) mixed tab_ok (es:=es_L194 N) trivial (fn:=Tryz.f194) (body:=body_L194) (by kernel_rfl) (by kernel_rfl) (by kernel_rfl) (by kernel_rfl) (by kernel_rfl) (Lf:=noL N) (noL0 N) ls_L194 trivial (N:=N) (by kernel_rfl) (fn_L194 N) (.inl (by kernel_rfl))
noncomputable def ks_L109_l4:List Kd:=[.v (.sl tQIIIIE) .k,.v (.sl tQIIIIE) .k,dK,dK,dK,.v (.int .i64) .k,dK,dK,dK,dK,dK,dK,dK,dK,dK,dK,dK,dK,dK,dK,dK,dK,dK,dK,dK,dK,dK]
noncomputable def ko_L109_l4_0:List Kd:=[dK,dK,dK,dK,dK,dK,dK,dK,dK,dK,dK,dK,dK,dK,dK,dK,dK,dK,dK,dK,dK,dK,dK,dK,dK,dK,dK]
noncomputable def ko_L109_l4_1:List Kd:=[dK,dK,dK,dK,.v .bool .k,dK,dK,dK,dK,dK,dK,dK,dK,dK,dK,dK,dK,dK,dK,dK,dK,dK,dK,dK,dK,dK,dK]
noncomputable def h_L109:Hint:={ tab,hn:=[],loops:=[(4,ks_L109_l4)],outs:=[(4,2,ko_L109_l4_0),(4,1,ko_L109_l4_1)],ords:=[(6,(OT.seq [0,1,2,3,4,5,6,7,8,9] .done))] }
noncomputable def sg_L109:List AK:=[.v (.sl tQIIIIE) .k,.v (.sl tQIIIIE) .k]
noncomputable def F_L109 (N:Nat) (x:AVals sg_L109) (kf:Ret→Option Ret):Option Ret:=L109 N x.1 x.2.1 (fun r0=>kf ⟨[⟨.bool,.k,r0⟩],[]⟩)
noncomputable def run_L109 (N:Nat):=runOf sg_L109 (F_L109 N)
noncomputable def es_L109 (N:Nat):List Entry:=[⟨194,[.val,.val],(run_L194 N)⟩]
noncomputable def body_L109:Code:=match Tryz.f109.body with | some c=>c | none=>.skip
noncomputable def L_L109 (N n:Nat) (key:Nat) (S:St) (K:Ks):Option Ret:=bif Nat.beq key 4 then withVals ks_L109_l4 S (fun x=>L109_l4 N x.1 x.2.1 n (K (.x 0) (shape ko_L109_l4_0 ())) (fun z0=>K .r (shape ko_L109_l4_1 (z0,()))) x.2.2.1) else none
theorem L0_L109 (N key:Nat) (S:St) (K:Ks):L_L109 N 0 key S K=none:=(bif0 (withVals0 fun _=>rfl) rfl)
noncomputable def c_L109_0:Code:=(loopsIn body_L109).getD 0 .skip
theorem ls_L109:loopsIn body_L109=[c_L109_0]:=by kernel_rfl
theorem rd_L109_4 (N n:Nat) (x:Vals ks_L109_l4) (K:Ks):L_L109 N (n + 1) 4 (shape ks_L109_l4 x) (h_L109.onOut 4 K)=peRound h_L109 (Orc.of (es_L109 N)) (mixL (L_L109 N) N n 4) c_L109_0 (shape ks_L109_l4 x) (h_L109.onOut 4 K):=by kernel_rfl
theorem fn_L109 (N:Nat) (x:AVals sg_L109) (kf:Ret→Option Ret):F_L109 N x kf=peFunc h_L109 (Orc.of (es_L109 N)) (L_L109 N N) Tryz.f109 (ashape sg_L109 x) kf:=by kernel_rfl
theorem sd_L109 {Γ : Gl} (N:Nat):Sound Γ Tryz.prog 109 (run_L109 N):=fun_ok2 (hh:=h_L109) mixed tab_ok (es:=es_L109 N) ⟨sd_L194 N,trivial⟩ (fn:=Tryz.f109) (body:=body_L109) (by kernel_rfl) (by kernel_rfl) (by kernel_rfl) (by kernel_rfl) (by kernel_rfl) (Lf:=L_L109 N) (L0_L109 N) ls_L109 (round_cons (key:=4) (ks:=ks_L109_l4) (by kernel_rfl) (by kernel_rfl) (rd_L109_4 N) trivial) (N:=N) (by kernel_rfl) (fn_L109 N) (.inl (by kernel_rfl))
noncomputable def h_L24:Hint:={ tab,hn:=[],loops:=[],outs:=[],ords:=[] }
noncomputable def sg_L24:List AK:=[.v tQLQIIIIILIELQIILIELQIIELILQIIIELQIIIIEIE .k,.v tQLQIIIIILIELQIILIELQIIELILQIIIELQIIIIEIE .k]
noncomputable def F_L24 (N:Nat) (x:AVals sg_L24) (kf:Ret→Option Ret):Option Ret:=L24 N x.1 x.2.1 (fun r0=>kf ⟨[⟨.bool,.k,r0⟩],[]⟩)
noncomputable def run_L24 (N:Nat):=runOf sg_L24 (F_L24 N)
noncomputable def es_L24 (N:Nat):List Entry:=[⟨104,[.val,.val],(run_L104 N)⟩,⟨105,[.val,.val],(run_L105 N)⟩,⟨106,[.val,.val],(run_L106 N)⟩,⟨107,[.val,.val],(run_L107 N)⟩,⟨108,[.val,.val],(run_L108 N)⟩,⟨109,[.val,.val],(run_L109 N)⟩]
noncomputable def body_L24:Code:=match Tryz.f24.body with | some c=>c | none=>.skip
theorem ls_L24:loopsIn body_L24=[]:=by kernel_rfl
theorem fn_L24 (N:Nat) (x:AVals sg_L24) (kf:Ret→Option Ret):F_L24 N x kf=peFunc h_L24 (Orc.of (es_L24 N)) (noL N N) Tryz.f24 (ashape sg_L24 x) kf:=by kernel_rfl
theorem sd_L24 {Γ : Gl} (N:Nat):Sound Γ Tryz.prog 24 (run_L24 N):=fun_ok2 (hh:=h_L24) mixed tab_ok (es:=es_L24 N) ⟨sd_L104 N,⟨sd_L105 N,⟨sd_L106 N,⟨sd_L107 N,⟨sd_L108 N,⟨sd_L109 N,trivial⟩⟩⟩⟩⟩⟩ (fn:=Tryz.f24) (body:=body_L24) (by kernel_rfl) (by kernel_rfl) (by kernel_rfl) (by kernel_rfl) (by kernel_rfl) (Lf:=noL N) (noL0 N) ls_L24 trivial (N:=N) (by kernel_rfl) (fn_L24 N) (.inl (by kernel_rfl))
noncomputable def ks_L113_l2:List Kd:=[.v (.sl (.int .i64)) (.o 3 (some 0) .k),.v (.int .i64) .k,dK,dK,dK,.v (.int .i64) .k,dK,dK,dK,dK,dK,dK,dK,dK,dK,dK,dK,dK,dK]
noncomputable def ko_L113_l2_0:List Kd:=[.v (.sl (.int .i64)) (.o 3 (some 0) .k),.v (.int .i64) .k,dK,dK,dK,dK,dK,dK,dK,dK,dK,dK,dK,dK,dK,dK,dK,dK,dK]
noncomputable def h_L113:Hint:={ tab,hn:=[],loops:=[(2,ks_L113_l2)],outs:=[(2,2,ko_L113_l2_0)],ords:=[],lent:=some (0,false) }
noncomputable def sg_L113:List AK:=[.v (.sl (.int .i64)) (.o 3 (some 0) .k),.v (.int .i64) .k]
noncomputable def F_L113 (N:Nat) (x:AVals sg_L113) (kf:Ret→Option Ret):Option Ret:=L113 N x.1 x.2.1 (fun r0 z=>kf ⟨[⟨(.int .i64),.k,r0⟩],[⟨(.sl (.int .i64)),(.o 3 (some 0) .k),z⟩]⟩)
noncomputable def run_L113 (N:Nat):=runOf sg_L113 (F_L113 N)
noncomputable def es_L113 (N:Nat):List Entry:=[]
noncomputable def body_L113:Code:=match Tryz.f113.body with | some c=>c | none=>.skip
noncomputable def L_L113 (N n:Nat) (key:Nat) (S:St) (K:Ks):Option Ret:=bif Nat.beq key 2 then withVals ks_L113_l2 S (fun x=>L113_l2 n (fun z0 z1=>K (.x 0) (shape ko_L113_l2_0 (z0,z1,()))) x.1 x.2.1 x.2.2.1) else none
theorem L0_L113 (N key:Nat) (S:St) (K:Ks):L_L113 N 0 key S K=none:=(bif0 (withVals0 fun _=>rfl) rfl)
noncomputable def c_L113_0:Code:=(loopsIn body_L113).getD 0 .skip
theorem ls_L113:loopsIn body_L113=[c_L113_0]:=by kernel_rfl
theorem rd_L113_2 (N n:Nat) (x:Vals ks_L113_l2) (K:Ks):L_L113 N (n + 1) 2 (shape ks_L113_l2 x) (h_L113.onOut 2 K)=peRound h_L113 (Orc.of (es_L113 N)) (mixL (L_L113 N) N n 2) c_L113_0 (shape ks_L113_l2 x) (h_L113.onOut 2 K):=by kernel_rfl
theorem fn_L113 (N:Nat) (x:AVals sg_L113) (kf:Ret→Option Ret):F_L113 N x kf=peFunc h_L113 (Orc.of (es_L113 N)) (L_L113 N N) Tryz.f113 (ashape sg_L113 x) kf:=by kernel_rfl
theorem sd_L113 {Γ : Gl} (N:Nat):Sound Γ Tryz.prog 113 (run_L113 N):=fun_ok2 (hh:=h_L113) mixed tab_ok (es:=es_L113 N) trivial (fn:=Tryz.f113) (body:=body_L113) (by kernel_rfl) (by kernel_rfl) (by kernel_rfl) (by kernel_rfl) (by kernel_rfl) (Lf:=L_L113 N) (L0_L113 N) ls_L113 (round_cons (key:=2) (ks:=ks_L113_l2) (by kernel_rfl) (by kernel_rfl) (rd_L113_2 N) trivial) (N:=N) (by kernel_rfl) (fn_L113 N) (.inl (by kernel_rfl))
noncomputable def ks_L110_l2:List Kd:=[.v (.sl tQIIIIILIE) (.o 46 (some 0) (.p .k (.p .k (.p .k (.p .k (.p .k (.o 3 none .k))))))),.v (.int .i64) .k,dK,dK,dK,.v (.int .i64) .k,dK,dK,dK,dK,dK,dK,dK,dK,dK,dK,dK,dK,dK,dK,dK,dK,dK,dK,dK,dK,dK,dK,dK,dK,dK,dK,dK,dK,dK,dK,dK,dK,dK,dK,dK,dK,dK,dK,dK,dK,dK,dK,dK,dK,dK,dK,dK,dK,dK]
noncomputable def ko_L110_l2_0:List Kd:=[.v (.sl tQIIIIILIE) (.o 46 (some 0) (.p .k (.p .k (.p .k (.p .k (.p .k (.o 3 none .k))))))),.v (.int .i64) .k,dK,dK,dK,dK,dK,dK,dK,dK,dK,dK,dK,dK,dK,dK,dK,dK,dK,dK,dK,dK,dK,dK,dK,dK,dK,dK,dK,dK,dK,dK,dK,dK,dK,dK,dK,dK,dK,dK,dK,dK,dK,dK,dK,dK,dK,dK,dK,dK,dK,dK,dK,dK,dK]
noncomputable def h_L110:Hint:={ tab,hn:=[],loops:=[(2,ks_L110_l2)],outs:=[(2,2,ko_L110_l2_0)],ords:=[],lent:=some (0,false) }
noncomputable def sg_L110:List AK:=[.v (.sl tQIIIIILIE) (.o 46 (some 0) (.p .k (.p .k (.p .k (.p .k (.p .k (.o 3 none .k))))))),.v (.int .i64) .k]
noncomputable def F_L110 (N:Nat) (x:AVals sg_L110) (kf:Ret→Option Ret):Option Ret:=L110 N x.1 x.2.1 (fun r0 z=>kf ⟨[⟨(.int .i64),.k,r0⟩],[⟨(.sl tQIIIIILIE),(.o 46 (some 0) (.p .k (.p .k (.p .k (.p .k (.p .k (.o 3 none .k))))))),z⟩]⟩)
noncomputable def run_L110 (N:Nat):=runOf sg_L110 (F_L110 N)
noncomputable def es_L110 (N:Nat):List Entry:=[⟨113,[.lend,.val],(run_L113 N)⟩]
noncomputable def body_L110:Code:=match Tryz.f110.body with | some c=>c | none=>.skip
noncomputable def L_L110 (N n:Nat) (key:Nat) (S:St) (K:Ks):Option Ret:=bif Nat.beq key 2 then withVals ks_L110_l2 S (fun x=>L110_l2 N n (fun z0 z1=>K (.x 0) (shape ko_L110_l2_0 (z0,z1,()))) x.1 x.2.1 x.2.2.1) else none
theorem L0_L110 (N key:Nat) (S:St) (K:Ks):L_L110 N 0 key S K=none:=(bif0 (withVals0 fun _=>rfl) rfl)
noncomputable def c_L110_0:Code:=(loopsIn body_L110).getD 0 .skip
theorem ls_L110:loopsIn body_L110=[c_L110_0]:=by kernel_rfl
theorem rd_L110_2 (N n:Nat) (x:Vals ks_L110_l2) (K:Ks):L_L110 N (n + 1) 2 (shape ks_L110_l2 x) (h_L110.onOut 2 K)=peRound h_L110 (Orc.of (es_L110 N)) (mixL (L_L110 N) N n 2) c_L110_0 (shape ks_L110_l2 x) (h_L110.onOut 2 K):=by kernel_rfl
theorem fn_L110 (N:Nat) (x:AVals sg_L110) (kf:Ret→Option Ret):F_L110 N x kf=peFunc h_L110 (Orc.of (es_L110 N)) (L_L110 N N) Tryz.f110 (ashape sg_L110 x) kf:=by kernel_rfl
theorem sd_L110 {Γ : Gl} (N:Nat):Sound Γ Tryz.prog 110 (run_L110 N):=fun_ok2 (hh:=h_L110) mixed tab_ok (es:=es_L110 N) ⟨sd_L113 N,trivial⟩ (fn:=Tryz.f110) (body:=body_L110) (by kernel_rfl) (by kernel_rfl) (by kernel_rfl) (by kernel_rfl) (by kernel_rfl) (Lf:=L_L110 N) (L0_L110 N) ls_L110 (round_cons (key:=2) (ks:=ks_L110_l2) (by kernel_rfl) (by kernel_rfl) (rd_L110_2 N) trivial) (N:=N) (by kernel_rfl) (fn_L110 N) (.inl (by kernel_rfl))
noncomputable def ks_L111_l2:List Kd:=[.v (.sl tQIILIE) (.o 80 (some 0) (.p .k (.p .k (.o 3 none .k)))),.v (.int .i64) .k,dK,dK,dK,.v (.int .i64) .k,dK,dK,dK,dK,dK,dK,dK,dK,dK,dK,dK,dK,dK,dK,dK,dK,dK,dK,dK,dK,dK,dK,dK,dK,dK,dK,dK,dK]
noncomputable def ko_L111_l2_0:List Kd:=[.v (.sl tQIILIE) (.o 80 (some 0) (.p .k (.p .k (.o 3 none .k)))),.v (.int .i64) .k,dK,dK,dK,dK,dK,dK,dK,dK,dK,dK,dK,dK,dK,dK,dK,dK,dK,dK,dK,dK,dK,dK,dK,dK,dK,dK,dK,dK,dK,dK,dK,dK]
noncomputable def h_L111:Hint:={ tab,hn:=[],loops:=[(2,ks_L111_l2)],outs:=[(2,2,ko_L111_l2_0)],ords:=[],lent:=some (0,false) }
noncomputable def sg_L111:List AK:=[.v (.sl tQIILIE) (.o 80 (some 0) (.p .k (.p .k (.o 3 none .k)))),.v (.int .i64) .k]
noncomputable def F_L111 (N:Nat) (x:AVals sg_L111) (kf:Ret→Option Ret):Option Ret:=L111 N x.1 x.2.1 (fun r0 z=>kf ⟨[⟨(.int .i64),.k,r0⟩],[⟨(.sl tQIILIE),(.o 80 (some 0) (.p .k (.p .k (.o 3 none .k)))),z⟩]⟩)
noncomputable def run_L111 (N:Nat):=runOf sg_L111 (F_L111 N)
noncomputable def es_L111 (N:Nat):List Entry:=[⟨113,[.lend,.val],(run_L113 N)⟩]
noncomputable def body_L111:Code:=match Tryz.f111.body with | some c=>c | none=>.skip
noncomputable def L_L111 (N n:Nat) (key:Nat) (S:St) (K:Ks):Option Ret:=bif Nat.beq key 2 then withVals ks_L111_l2 S (fun x=>L111_l2 N n (fun z0 z1=>K (.x 0) (shape ko_L111_l2_0 (z0,z1,()))) x.1 x.2.1 x.2.2.1) else none
theorem L0_L111 (N key:Nat) (S:St) (K:Ks):L_L111 N 0 key S K=none:=(bif0 (withVals0 fun _=>rfl) rfl)
noncomputable def c_L111_0:Code:=(loopsIn body_L111).getD 0 .skip
theorem ls_L111:loopsIn body_L111=[c_L111_0]:=by kernel_rfl
theorem rd_L111_2 (N n:Nat) (x:Vals ks_L111_l2) (K:Ks):L_L111 N (n + 1) 2 (shape ks_L111_l2 x) (h_L111.onOut 2 K)=peRound h_L111 (Orc.of (es_L111 N)) (mixL (L_L111 N) N n 2) c_L111_0 (shape ks_L111_l2 x) (h_L111.onOut 2 K):=by kernel_rfl
theorem fn_L111 (N:Nat) (x:AVals sg_L111) (kf:Ret→Option Ret):F_L111 N x kf=peFunc h_L111 (Orc.of (es_L111 N)) (L_L111 N N) Tryz.f111 (ashape sg_L111 x) kf:=by kernel_rfl
theorem sd_L111 {Γ : Gl} (N:Nat):Sound Γ Tryz.prog 111 (run_L111 N):=fun_ok2 (hh:=h_L111) mixed tab_ok (es:=es_L111 N) ⟨sd_L113 N,trivial⟩ (fn:=Tryz.f111) (body:=body_L111) (by kernel_rfl) (by kernel_rfl) (by kernel_rfl) (by kernel_rfl) (by kernel_rfl) (Lf:=L_L111 N) (L0_L111 N) ls_L111 (round_cons (key:=2) (ks:=ks_L111_l2) (by kernel_rfl) (by kernel_rfl) (rd_L111_2 N) trivial) (N:=N) (by kernel_rfl) (fn_L111 N) (.inl (by kernel_rfl))
noncomputable def ks_L112_l2:List Kd:=[.v (.sl tQIIE) (.o 104 (some 0) .k),.v (.int .i64) .k,dK,dK,dK,.v (.int .i64) .k,dK,dK,dK,dK,dK,dK,dK,dK,dK,dK,dK,dK,dK,dK,dK,dK,dK,dK,dK,dK,dK]
noncomputable def ko_L112_l2_0:List Kd:=[.v (.sl tQIIE) (.o 104 (some 0) .k),.v (.int .i64) .k,dK,dK,dK,dK,dK,dK,dK,dK,dK,dK,dK,dK,dK,dK,dK,dK,dK,dK,dK,dK,dK,dK,dK,dK,dK]
noncomputable def h_L112:Hint:={ tab,hn:=[],loops:=[(2,ks_L112_l2)],outs:=[(2,2,ko_L112_l2_0)],ords:=[],lent:=some (0,false) }
noncomputable def sg_L112:List AK:=[.v (.sl tQIIE) (.o 104 (some 0) .k),.v (.int .i64) .k]
noncomputable def F_L112 (N:Nat) (x:AVals sg_L112) (kf:Ret→Option Ret):Option Ret:=L112 N x.1 x.2.1 (fun r0 z=>kf ⟨[⟨(.int .i64),.k,r0⟩],[⟨(.sl tQIIE),(.o 104 (some 0) .k),z⟩]⟩)
noncomputable def run_L112 (N:Nat):=runOf sg_L112 (F_L112 N)
noncomputable def es_L112 (N:Nat):List Entry:=[]
noncomputable def body_L112:Code:=match Tryz.f112.body with | some c=>c | none=>.skip
noncomputable def L_L112 (N n:Nat) (key:Nat) (S:St) (K:Ks):Option Ret:=bif Nat.beq key 2 then withVals ks_L112_l2 S (fun x=>L112_l2 n (fun z0 z1=>K (.x 0) (shape ko_L112_l2_0 (z0,z1,()))) x.1 x.2.1 x.2.2.1) else none
theorem L0_L112 (N key:Nat) (S:St) (K:Ks):L_L112 N 0 key S K=none:=(bif0 (withVals0 fun _=>rfl) rfl)
noncomputable def c_L112_0:Code:=(loopsIn body_L112).getD 0 .skip
theorem ls_L112:loopsIn body_L112=[c_L112_0]:=by kernel_rfl
theorem rd_L112_2 (N n:Nat) (x:Vals ks_L112_l2) (K:Ks):L_L112 N (n + 1) 2 (shape ks_L112_l2 x) (h_L112.onOut 2 K)=peRound h_L112 (Orc.of (es_L112 N)) (mixL (L_L112 N) N n 2) c_L112_0 (shape ks_L112_l2 x) (h_L112.onOut 2 K):=by kernel_rfl
theorem fn_L112 (N:Nat) (x:AVals sg_L112) (kf:Ret→Option Ret):F_L112 N x kf=peFunc h_L112 (Orc.of (es_L112 N)) (L_L112 N N) Tryz.f112 (ashape sg_L112 x) kf:=by kernel_rfl
theorem sd_L112 {Γ : Gl} (N:Nat):Sound Γ Tryz.prog 112 (run_L112 N):=fun_ok2 (hh:=h_L112) mixed tab_ok (es:=es_L112 N) trivial (fn:=Tryz.f112) (body:=body_L112) (by kernel_rfl) (by kernel_rfl) (by kernel_rfl) (by kernel_rfl) (by kernel_rfl) (Lf:=L_L112 N) (L0_L112 N) ls_L112 (round_cons (key:=2) (ks:=ks_L112_l2) (by kernel_rfl) (by kernel_rfl) (rd_L112_2 N) trivial) (N:=N) (by kernel_rfl) (fn_L112 N) (.inl (by kernel_rfl))
noncomputable def ks_L114_l2:List Kd:=[.v (.sl tQIIIE) (.o 136 (some 0) .k),.v (.int .i64) .k,dK,dK,dK,.v (.int .i64) .k,dK,dK,dK,dK,dK,dK,dK,dK,dK,dK,dK,dK,dK,dK,dK,dK,dK,dK,dK,dK,dK,dK,dK,dK,dK,dK,dK,dK]
noncomputable def ko_L114_l2_0:List Kd:=[.v (.sl tQIIIE) (.o 136 (some 0) .k),.v (.int .i64) .k,dK,dK,dK,dK,dK,dK,dK,dK,dK,dK,dK,dK,dK,dK,dK,dK,dK,dK,dK,dK,dK,dK,dK,dK,dK,dK,dK,dK,dK,dK,dK,dK]
noncomputable def h_L114:Hint:={ tab,hn:=[],loops:=[(2,ks_L114_l2)],outs:=[(2,2,ko_L114_l2_0)],ords:=[],lent:=some (0,false) }
noncomputable def sg_L114:List AK:=[.v (.sl tQIIIE) (.o 136 (some 0) .k),.v (.int .i64) .k]
noncomputable def F_L114 (N:Nat) (x:AVals sg_L114) (kf:Ret→Option Ret):Option Ret:=L114 N x.1 x.2.1 (fun r0 z=>kf ⟨[⟨(.int .i64),.k,r0⟩],[⟨(.sl tQIIIE),(.o 136 (some 0) .k),z⟩]⟩)
noncomputable def run_L114 (N:Nat):=runOf sg_L114 (F_L114 N)
noncomputable def es_L114 (N:Nat):List Entry:=[]
noncomputable def body_L114:Code:=match Tryz.f114.body with | some c=>c | none=>.skip
noncomputable def L_L114 (N n:Nat) (key:Nat) (S:St) (K:Ks):Option Ret:=bif Nat.beq key 2 then withVals ks_L114_l2 S (fun x=>L114_l2 n (fun z0 z1=>K (.x 0) (shape ko_L114_l2_0 (z0,z1,()))) x.1 x.2.1 x.2.2.1) else none
theorem L0_L114 (N key:Nat) (S:St) (K:Ks):L_L114 N 0 key S K=none:=(bif0 (withVals0 fun _=>rfl) rfl)
noncomputable def c_L114_0:Code:=(loopsIn body_L114).getD 0 .skip
theorem ls_L114:loopsIn body_L114=[c_L114_0]:=by kernel_rfl
theorem rd_L114_2 (N n:Nat) (x:Vals ks_L114_l2) (K:Ks):L_L114 N (n + 1) 2 (shape ks_L114_l2 x) (h_L114.onOut 2 K)=peRound h_L114 (Orc.of (es_L114 N)) (mixL (L_L114 N) N n 2) c_L114_0 (shape ks_L114_l2 x) (h_L114.onOut 2 K):=by kernel_rfl
theorem fn_L114 (N:Nat) (x:AVals sg_L114) (kf:Ret→Option Ret):F_L114 N x kf=peFunc h_L114 (Orc.of (es_L114 N)) (L_L114 N N) Tryz.f114 (ashape sg_L114 x) kf:=by kernel_rfl
theorem sd_L114 {Γ : Gl} (N:Nat):Sound Γ Tryz.prog 114 (run_L114 N):=fun_ok2 (hh:=h_L114) mixed tab_ok (es:=es_L114 N) trivial (fn:=Tryz.f114) (body:=body_L114) (by kernel_rfl) (by kernel_rfl) (by kernel_rfl) (by kernel_rfl) (by kernel_rfl) (Lf:=L_L114 N) (L0_L114 N) ls_L114 (round_cons (key:=2) (ks:=ks_L114_l2) (by kernel_rfl) (by kernel_rfl) (rd_L114_2 N) trivial) (N:=N) (by kernel_rfl) (fn_L114 N) (.inl (by kernel_rfl))
noncomputable def ks_L115_l2:List Kd:=[.v (.sl tQIIIIE) (.o 102 (some 0) .k),.v (.int .i64) .k,dK,dK,dK,.v (.int .i64) .k,dK,dK,dK,dK,dK,dK,dK,dK,dK,dK,dK,dK,dK,dK,dK,dK,dK,dK,dK,dK,dK,dK,dK,dK,dK,dK,dK,dK,dK,dK,dK,dK,dK,dK,dK]
noncomputable def ko_L115_l2_0:List Kd:=[.v (.sl tQIIIIE) (.o 102 (some 0) .k),.v (.int .i64) .k,dK,dK,dK,dK,dK,dK,dK,dK,dK,dK,dK,dK,dK,dK,dK,dK,dK,dK,dK,dK,dK,dK,dK,dK,dK,dK,dK,dK,dK,dK,dK,dK,dK,dK,dK,dK,dK,dK,dK]
noncomputable def h_L115:Hint:={ tab,hn:=[],loops:=[(2,ks_L115_l2)],outs:=[(2,2,ko_L115_l2_0)],ords:=[],lent:=some (0,false) }
noncomputable def sg_L115:List AK:=[.v (.sl tQIIIIE) (.o 102 (some 0) .k),.v (.int .i64) .k]
noncomputable def F_L115 (N:Nat) (x:AVals sg_L115) (kf:Ret→Option Ret):Option Ret:=L115 N x.1 x.2.1 (fun r0 z=>kf ⟨[⟨(.int .i64),.k,r0⟩],[⟨(.sl tQIIIIE),(.o 102 (some 0) .k),z⟩]⟩)
noncomputable def run_L115 (N:Nat):=runOf sg_L115 (F_L115 N)
noncomputable def es_L115 (N:Nat):List Entry:=[]
noncomputable def body_L115:Code:=match Tryz.f115.body with | some c=>c | none=>.skip
noncomputable def L_L115 (N n:Nat) (key:Nat) (S:St) (K:Ks):Option Ret:=bif Nat.beq key 2 then withVals ks_L115_l2 S (fun x=>L115_l2 n (fun z0 z1=>K (.x 0) (shape ko_L115_l2_0 (z0,z1,()))) x.1 x.2.1 x.2.2.1) else none
theorem L0_L115 (N key:Nat) (S:St) (K:Ks):L_L115 N 0 key S K=none:=(bif0 (withVals0 fun _=>rfl) rfl)
noncomputable def c_L115_0:Code:=(loopsIn body_L115).getD 0 .skip
theorem ls_L115:loopsIn body_L115=[c_L115_0]:=by kernel_rfl
theorem rd_L115_2 (N n:Nat) (x:Vals ks_L115_l2) (K:Ks):L_L115 N (n + 1) 2 (shape ks_L115_l2 x) (h_L115.onOut 2 K)=peRound h_L115 (Orc.of (es_L115 N)) (mixL (L_L115 N) N n 2) c_L115_0 (shape ks_L115_l2 x) (h_L115.onOut 2 K):=by kernel_rfl
theorem fn_L115 (N:Nat) (x:AVals sg_L115) (kf:Ret→Option Ret):F_L115 N x kf=peFunc h_L115 (Orc.of (es_L115 N)) (L_L115 N N) Tryz.f115 (ashape sg_L115 x) kf:=by kernel_rfl
theorem sd_L115 {Γ : Gl} (N:Nat):Sound Γ Tryz.prog 115 (run_L115 N):=fun_ok2 (hh:=h_L115) mixed tab_ok (es:=es_L115 N) trivial (fn:=Tryz.f115) (body:=body_L115) (by kernel_rfl) (by kernel_rfl) (by kernel_rfl) (by kernel_rfl) (by kernel_rfl) (Lf:=L_L115 N) (L0_L115 N) ls_L115 (round_cons (key:=2) (ks:=ks_L115_l2) (by kernel_rfl) (by kernel_rfl) (rd_L115_2 N) trivial) (N:=N) (by kernel_rfl) (fn_L115 N) (.inl (by kernel_rfl))
noncomputable def h_L25:Hint:={ tab,hn:=[],loops:=[],outs:=[],ords:=[],lent:=some (2,true) }
noncomputable def sg_L25:List AK:=[.v tQLQIIIIILIELQIILIELQIIELILQIIIELQIIIIEIE (.p (.o 46 (some 0) (.p .k (.p .k (.p .k (.p .k (.p .k (.o 3 none .k))))))) (.p (.o 80 (some 1) (.p .k (.p .k (.o 3 none .k)))) (.p (.o 104 (some 2) .k) (.p (.o 3 (some 3) .k) (.p (.o 136 (some 4) .k) (.p (.o 102 (some 5) .k) .k)))))),.v (.int .i64) .k]
noncomputable def F_L25 (N:Nat) (x:AVals sg_L25) (kf:Ret→Option Ret):Option Ret:=L25 N x.1 x.2.1 (fun r0 z=>kf ⟨[⟨(.int .i64),.k,r0⟩],[⟨tQLQIIIIILIELQIILIELQIIELILQIIIELQIIIIEIE,(.p (.o 46 (some 0) (.p .k (.p .k (.p .k (.p .k (.p .k (.o 3 none .k))))))) (.p (.o 80 (some 1) (.p .k (.p .k (.o 3 none .k)))) (.p (.o 104 (some 2) .k) (.p (.o 3 (some 3) .k) (.p (.o 136 (some 4) .k) (.p (.o 102 (some 5) .k) .k)))))),z⟩]⟩)
noncomputable def run_L25 (N:Nat):=runOf sg_L25 (F_L25 N)
noncomputable def es_L25 (N:Nat):List Entry:=[⟨110,[.lend,.val],(run_L110 N)⟩,⟨111,[.lend,.val],(run_L111 N)⟩,⟨112,[.lend,.val],(run_L112 N)⟩,⟨113,[.lend,.val],(run_L113 N)⟩,⟨114,[.lend,.val],(run_L114 N)⟩,⟨115,[.lend,.val],(run_L115 N)⟩]
noncomputable def body_L25:Code:=match Tryz.f25.body with | some c=>c | none=>.skip
theorem ls_L25:loopsIn body_L25=[]:=by kernel_rfl
theorem fn_L25 (N:Nat) (x:AVals sg_L25) (kf:Ret→Option Ret):F_L25 N x kf=peFunc h_L25 (Orc.of (es_L25 N)) (noL N N) Tryz.f25 (ashape sg_L25 x) kf:=by kernel_rfl
theorem sd_L25 {Γ : Gl} (N:Nat):Sound Γ Tryz.prog 25 (run_L25 N):=fun_ok2 (hh:=h_L25) mixed tab_ok (es:=es_L25 N) ⟨sd_L110 N,⟨sd_L111 N,⟨sd_L112 N,⟨sd_L113 N,⟨sd_L114 N,⟨sd_L115 N,trivial⟩⟩⟩⟩⟩⟩ (fn:=Tryz.f25) (body:=body_L25) (by kernel_rfl) (by kernel_rfl) (by kernel_rfl) (by kernel_rfl) (by kernel_rfl) (Lf:=noL N) (noL0 N) ls_L25 trivial (N:=N) (by kernel_rfl) (fn_L25 N) (.inl (by kernel_rfl))
noncomputable def ks_L119_l2:List Kd:=[.v (.sl (.int .i64)) .k,.v (.int .i64) .k,dK,dK,dK,.v (.int .i64) .k,dK,dK,dK,dK,dK,dK,dK,dK,dK,dK,dK,dK,dK,dK,dK]
noncomputable def ko_L119_l2_0:List Kd:=[dK,.v (.int .i64) .k,dK,dK,dK,dK,dK,dK,dK,dK,dK,dK,dK,dK,dK,dK,dK,dK,dK,dK,dK]
noncomputable def ko_L119_l2_1:List Kd:=[dK,dK,dK,dK,.v (.int .i64) .k,dK,dK,dK,dK,dK,dK,dK,dK,dK,dK,dK,dK,dK,dK,dK,dK]
noncomputable def h_L119:Hint:={ tab,hn:=[],loops:=[(2,ks_L119_l2)],outs:=[(2,2,ko_L119_l2_0),(2,1,ko_L119_l2_1)],ords:=[] }
noncomputable def sg_L119:List AK:=[.v (.sl (.int .i64)) .k,.v (.int .i64) .k]
noncomputable def F_L119 (N:Nat) (x:AVals sg_L119) (kf:Ret→Option Ret):Option Ret:=L119 N x.1 x.2.1 (fun r0=>kf ⟨[⟨(.int .i64),.k,r0⟩],[]⟩)
noncomputable def run_L119 (N:Nat):=runOf sg_L119 (F_L119 N)
noncomputable def es_L119 (N:Nat):List Entry:=[]
noncomputable def body_L119:Code:=match Tryz.f119.body with | some c=>c | none=>.skip
noncomputable def L_L119 (N n:Nat) (key:Nat) (S:St) (K:Ks):Option Ret:=bif Nat.beq key 2 then withVals ks_L119_l2 S (fun x=>L119_l2 x.1 n (fun z0=>K (.x 0) (shape ko_L119_l2_0 (z0,()))) (fun z0=>K .r (shape ko_L119_l2_1 (z0,()))) x.2.1 x.2.2.1) else none
theorem L0_L119 (N key:Nat) (S:St) (K:Ks):L_L119 N 0 key S K=none:=(bif0 (withVals0 fun _=>rfl) rfl)
noncomputable def c_L119_0:Code:=(loopsIn body_L119).getD 0 .skip
theorem ls_L119:loopsIn body_L119=[c_L119_0]:=by kernel_rfl
theorem rd_L119_2 (N n:Nat) (x:Vals ks_L119_l2) (K:Ks):L_L119 N (n + 1) 2 (shape ks_L119_l2 x) (h_L119.onOut 2 K)=peRound h_L119 (Orc.of (es_L119 N)) (mixL (L_L119 N) N n 2) c_L119_0 (shape ks_L119_l2 x) (h_L119.onOut 2 K):=by kernel_rfl
theorem fn_L119 (N:Nat) (x:AVals sg_L119) (kf:Ret→Option Ret):F_L119 N x kf=peFunc h_L119 (Orc.of (es_L119 N)) (L_L119 N N) Tryz.f119 (ashape sg_L119 x) kf:=by kernel_rfl
theorem sd_L119 {Γ : Gl} (N:Nat):Sound Γ Tryz.prog 119 (run_L119 N):=fun_ok2 (hh:=h_L119) mixed tab_ok (es:=es_L119 N) trivial (fn:=Tryz.f119) (body:=body_L119) (by kernel_rfl) (by kernel_rfl) (by kernel_rfl) (by kernel_rfl) (by kernel_rfl) (Lf:=L_L119 N) (L0_L119 N) ls_L119 (round_cons (key:=2) (ks:=ks_L119_l2) (by kernel_rfl) (by kernel_rfl) (rd_L119_2 N) trivial) (N:=N) (by kernel_rfl) (fn_L119 N) (.inl (by kernel_rfl))
noncomputable def ks_L116_l2:List Kd:=[.v (.sl tQIIIIILIE) .k,.v (.int .i64) .k,dK,dK,dK,.v (.int .i64) .k,dK,dK,dK,dK,dK,dK,dK,dK,dK,dK,dK,dK,dK,dK,dK,dK,dK,dK,dK,dK,dK,dK,dK,dK,dK,dK,dK,dK,dK,dK,dK,dK,dK,dK,dK,dK,dK,dK,dK,dK,dK,dK,dK,dK,dK,dK,dK,dK,dK,dK,dK,dK,dK,dK,dK,dK,dK,dK,dK,dK,dK]
noncomputable def ko_L116_l2_0:List Kd:=[dK,.v (.int .i64) .k,dK,dK,dK,dK,dK,dK,dK,dK,dK,dK,dK,dK,dK,dK,dK,dK,dK,dK,dK,dK,dK,dK,dK,dK,dK,dK,dK,dK,dK,dK,dK,dK,dK,dK,dK,dK,dK,dK,dK,dK,dK,dK,dK,dK,dK,dK,dK,dK,dK,dK,dK,dK,dK,dK,dK,dK,dK,dK,dK,dK,dK,dK,dK,dK,dK]
noncomputable def ko_L116_l2_1:List Kd:=[dK,dK,dK,dK,.v (.int .i64) .k,dK,dK,dK,dK,dK,dK,dK,dK,dK,dK,dK,dK,dK,dK,dK,dK,dK,dK,dK,dK,dK,dK,dK,dK,dK,dK,dK,dK,dK,dK,dK,dK,dK,dK,dK,dK,dK,dK,dK,dK,dK,dK,dK,dK,dK,dK,dK,dK,dK,dK,dK,dK,dK,dK,dK,dK,dK,dK,dK,dK,dK,dK]
noncomputable def h_L116:Hint:={ tab,hn:=[],loops:=[(2,ks_L116_l2)],outs:=[(2,2,ko_L116_l2_0),(2,1,ko_L116_l2_1)],ords:=[] }
noncomputable def sg_L116:List AK:=[.v (.sl tQIIIIILIE) .k,.v (.int .i64) .k]
noncomputable def F_L116 (N:Nat) (x:AVals sg_L116) (kf:Ret→Option Ret):Option Ret:=L116 N x.1 x.2.1 (fun r0=>kf ⟨[⟨(.int .i64),.k,r0⟩],[]⟩)
noncomputable def run_L116 (N:Nat):=runOf sg_L116 (F_L116 N)
noncomputable def es_L116 (N:Nat):List Entry:=[⟨119,[.val,.val],(run_L119 N)⟩]
noncomputable def body_L116:Code:=match Tryz.f116.body with | some c=>c | none=>.skip
noncomputable def L_L116 (N n:Nat) (key:Nat) (S:St) (K:Ks):Option Ret:=bif Nat.beq key 2 then withVals ks_L116_l2 S (fun x=>L116_l2 N x.1 n (fun z0=>K (.x 0) (shape ko_L116_l2_0 (z0,()))) (fun z0=>K .r (shape ko_L116_l2_1 (z0,()))) x.2.1 x.2.2.1) else none
theorem L0_L116 (N key:Nat) (S:St) (K:Ks):L_L116 N 0 key S K=none:=(bif0 (withVals0 fun _=>rfl) rfl)
noncomputable def c_L116_0:Code:=(loopsIn body_L116).getD 0 .skip
theorem ls_L116:loopsIn body_L116=[c_L116_0]:=by kernel_rfl
theorem rd_L116_2 (N n:Nat) (x:Vals ks_L116_l2) (K:Ks):L_L116 N (n + 1) 2 (shape ks_L116_l2 x) (h_L116.onOut 2 K)=peRound h_L116 (Orc.of (es_L116 N)) (mixL (L_L116 N) N n 2) c_L116_0 (shape ks_L116_l2 x) (h_L116.onOut 2 K):=by kernel_rfl
theorem fn_L116 (N:Nat) (x:AVals sg_L116) (kf:Ret→Option Ret):F_L116 N x kf=peFunc h_L116 (Orc.of (es_L116 N)) (L_L116 N N) Tryz.f116 (ashape sg_L116 x) kf:=by kernel_rfl
theorem sd_L116 {Γ : Gl} (N:Nat):Sound Γ Tryz.prog 116 (run_L116 N):=fun_ok2 (hh:=h_L116) mixed tab_ok (es:=es_L116 N) ⟨sd_L119 N,trivial⟩ (fn:=Tryz.f116) (body:=body_L116) (by kernel_rfl) (by kernel_rfl) (by kernel_rfl) (by kernel_rfl) (by kernel_rfl) (Lf:=L_L116 N) (L0_L116 N) ls_L116 (round_cons (key:=2) (ks:=ks_L116_l2) (by kernel_rfl) (by kernel_rfl) (rd_L116_2 N) trivial) (N:=N) (by kernel_rfl) (fn_L116 N) (.inl (by kernel_rfl))
noncomputable def ks_L117_l2:List Kd:=[.v (.sl tQIILIE) .k,.v (.int .i64) .k,dK,dK,dK,.v (.int .i64) .k,dK,dK,dK,dK,dK,dK,dK,dK,dK,dK,dK,dK,dK,dK,dK,dK,dK,dK,dK,dK,dK,dK,dK,dK,dK,dK,dK,dK,dK,dK,dK,dK,dK,dK]
noncomputable def ko_L117_l2_0:List Kd:=[dK,.v (.int .i64) .k,dK,dK,dK,dK,dK,dK,dK,dK,dK,dK,dK,dK,dK,dK,dK,dK,dK,dK,dK,dK,dK,dK,dK,dK,dK,dK,dK,dK,dK,dK,dK,dK,dK,dK,dK,dK,dK,dK]
noncomputable def ko_L117_l2_1:List Kd:=[dK,dK,dK,dK,.v (.int .i64) .k,dK,dK,dK,dK,dK,dK,dK,dK,dK,dK,dK,dK,dK,dK,dK,dK,dK,dK,dK,dK,dK,dK,dK,dK,dK,dK,dK,dK,dK,dK,dK,dK,dK,dK,dK]
noncomputable def h_L117:Hint:={ tab,hn:=[],loops:=[(2,ks_L117_l2)],outs:=[(2,2,ko_L117_l2_0),(2,1,ko_L117_l2_1)],ords:=[] }
noncomputable def sg_L117:List AK:=[.v (.sl tQIILIE) .k,.v (.int .i64) .k]
noncomputable def F_L117 (N:Nat) (x:AVals sg_L117) (kf:Ret→Option Ret):Option Ret:=L117 N x.1 x.2.1 (fun r0=>kf ⟨[⟨(.int .i64),.k,r0⟩],[]⟩)
noncomputable def run_L117 (N:Nat):=runOf sg_L117 (F_L117 N)
noncomputable def es_L117 (N:Nat):List Entry:=[⟨119,[.val,.val],(run_L119 N)⟩]
noncomputable def body_L117:Code:=match Tryz.f117.body with | some c=>c | none=>.skip
noncomputable def L_L117 (N n:Nat) (key:Nat) (S:St) (K:Ks):Option Ret:=bif Nat.beq key 2 then withVals ks_L117_l2 S (fun x=>L117_l2 N x.1 n (fun z0=>K (.x 0) (shape ko_L117_l2_0 (z0,()))) (fun z0=>K .r (shape ko_L117_l2_1 (z0,()))) x.2.1 x.2.2.1) else none
theorem L0_L117 (N key:Nat) (S:St) (K:Ks):L_L117 N 0 key S K=none:=(bif0 (withVals0 fun _=>rfl) rfl)
noncomputable def c_L117_0:Code:=(loopsIn body_L117).getD 0 .skip
theorem ls_L117:loopsIn body_L117=[c_L117_0]:=by kernel_rfl
theorem rd_L117_2 (N n:Nat) (x:Vals ks_L117_l2) (K:Ks):L_L117 N (n + 1) 2 (shape ks_L117_l2 x) (h_L117.onOut 2 K)=peRound h_L117 (Orc.of (es_L117 N)) (mixL (L_L117 N) N n 2) c_L117_0 (shape ks_L117_l2 x) (h_L117.onOut 2 K):=by kernel_rfl
theorem fn_L117 (N:Nat) (x:AVals sg_L117) (kf:Ret→Option Ret):F_L117 N x kf=peFunc h_L117 (Orc.of (es_L117 N)) (L_L117 N N) Tryz.f117 (ashape sg_L117 x) kf:=by kernel_rfl
theorem sd_L117 {Γ : Gl} (N:Nat):Sound Γ Tryz.prog 117 (run_L117 N):=fun_ok2 (hh:=h_L117) mixed tab_ok (es:=es_L117 N) ⟨sd_L119 N,trivial⟩ (fn:=Tryz.f117) (body:=body_L117) (by kernel_rfl) (by kernel_rfl) (by kernel_rfl) (by kernel_rfl) (by kernel_rfl) (Lf:=L_L117 N) (L0_L117 N) ls_L117 (round_cons (key:=2) (ks:=ks_L117_l2) (by kernel_rfl) (by kernel_rfl) (rd_L117_2 N) trivial) (N:=N) (by kernel_rfl) (fn_L117 N) (.inl (by kernel_rfl))
noncomputable def ks_L118_l2:List Kd:=[.v (.sl tQIIE) .k,.v (.int .i64) .k,dK,dK,dK,.v (.int .i64) .k,dK,dK,dK,dK,dK,dK,dK,dK,dK,dK,dK,dK,dK,dK,dK,dK,dK,dK,dK,dK,dK,dK,dK,dK,dK]
noncomputable def ko_L118_l2_0:List Kd:=[dK,.v (.int .i64) .k,dK,dK,dK,dK,dK,dK,dK,dK,dK,dK,dK,dK,dK,dK,dK,dK,dK,dK,dK,dK,dK,dK,dK,dK,dK,dK,dK,dK,dK]
noncomputable def ko_L118_l2_1:List Kd:=[dK,dK,dK,dK,.v (.int .i64) .k,dK,dK,dK,dK,dK,dK,dK,dK,dK,dK,dK,dK,dK,dK,dK,dK,dK,dK,dK,dK,dK,dK,dK,dK,dK,dK]
noncomputable def h_L118:Hint:={ tab,hn:=[],loops:=[(2,ks_L118_l2)],outs:=[(2,2,ko_L118_l2_0),(2,1,ko_L118_l2_1)],ords:=[] }
noncomputable def sg_L118:List AK:=[.v (.sl tQIIE) .k,.v (.int .i64) .k]
noncomputable def F_L118 (N:Nat) (x:AVals sg_L118) (kf:Ret→Option Ret):Option Ret:=L118 N x.1 x.2.1 (fun r0=>kf ⟨[⟨(.int .i64),.k,r0⟩],[]⟩)
noncomputable def run_L118 (N:Nat):=runOf sg_L118 (F_L118 N)
noncomputable def es_L118 (N:Nat):List Entry:=[]
noncomputable def body_L118:Code:=match Tryz.f118.body with | some c=>c | none=>.skip
noncomputable def L_L118 (N n:Nat) (key:Nat) (S:St) (K:Ks):Option Ret:=bif Nat.beq key 2 then withVals ks_L118_l2 S (fun x=>L118_l2 x.1 n (fun z0=>K (.x 0) (shape ko_L118_l2_0 (z0,()))) (fun z0=>K .r (shape ko_L118_l2_1 (z0,()))) x.2.1 x.2.2.1) else none
theorem L0_L118 (N key:Nat) (S:St) (K:Ks):L_L118 N 0 key S K=none:=(bif0 (withVals0 fun _=>rfl) rfl)
noncomputable def c_L118_0:Code:=(loopsIn body_L118).getD 0 .skip
theorem ls_L118:loopsIn body_L118=[c_L118_0]:=by kernel_rfl
theorem rd_L118_2 (N n:Nat) (x:Vals ks_L118_l2) (K:Ks):L_L118 N (n + 1) 2 (shape ks_L118_l2 x) (h_L118.onOut 2 K)=peRound h_L118 (Orc.of (es_L118 N)) (mixL (L_L118 N) N n 2) c_L118_0 (shape ks_L118_l2 x) (h_L118.onOut 2 K):=by kernel_rfl
theorem fn_L118 (N:Nat) (x:AVals sg_L118) (kf:Ret→Option Ret):F_L118 N x kf=peFunc h_L118 (Orc.of (es_L118 N)) (L_L118 N N) Tryz.f118 (ashape sg_L118 x) kf:=by kernel_rfl
theorem sd_L118 {Γ : Gl} (N:Nat):Sound Γ Tryz.prog 118 (run_L118 N):=fun_ok2 (hh:=h_L118) mixed tab_ok (es:=es_L118 N) trivial (fn:=Tryz.f118) (body:=body_L118) (by kernel_rfl) (by kernel_rfl) (by kernel_rfl) (by kernel_rfl) (by kernel_rfl) (Lf:=L_L118 N) (L0_L118 N) ls_L118 (round_cons (key:=2) (ks:=ks_L118_l2) (by kernel_rfl) (by kernel_rfl) (rd_L118_2 N) trivial) (N:=N) (by kernel_rfl) (fn_L118 N) (.inl (by kernel_rfl))
noncomputable def ks_L120_l2:List Kd:=[.v (.sl tQIIIE) .k,.v (.int .i64) .k,dK,dK,dK,.v (.int .i64) .k,dK,dK,dK,dK,dK,dK,dK,dK,dK,dK,dK,dK,dK,dK,dK,dK,dK,dK,dK,dK,dK,dK,dK,dK,dK,dK,dK,dK,dK,dK,dK,dK,dK,dK]
noncomputable def ko_L120_l2_0:List Kd:=[dK,.v (.int .i64) .k,dK,dK,dK,dK,dK,dK,dK,dK,dK,dK,dK,dK,dK,dK,dK,dK,dK,dK,dK,dK,dK,dK,dK,dK,dK,dK,dK,dK,dK,dK,dK,dK,dK,dK,dK,dK,dK,dK]
noncomputable def ko_L120_l2_1:List Kd:=[dK,dK,dK,dK,.v (.int .i64) .k,dK,dK,dK,dK,dK,dK,dK,dK,dK,dK,dK,dK,dK,dK,dK,dK,dK,dK,dK,dK,dK,dK,dK,dK,dK,dK,dK,dK,dK,dK,dK,dK,dK,dK,dK]
noncomputable def h_L120:Hint:={ tab,hn:=[],loops:=[(2,ks_L120_l2)],outs:=[(2,2,ko_L120_l2_0),(2,1,ko_L120_l2_1)],ords:=[] }
noncomputable def sg_L120:List AK:=[.v (.sl tQIIIE) .k,.v (.int .i64) .k]
noncomputable def F_L120 (N:Nat) (x:AVals sg_L120) (kf:Ret→Option Ret):Option Ret:=L120 N x.1 x.2.1 (fun r0=>kf ⟨[⟨(.int .i64),.k,r0⟩],[]⟩)
noncomputable def run_L120 (N:Nat):=runOf sg_L120 (F_L120 N)
noncomputable def es_L120 (N:Nat):List Entry:=[]
noncomputable def body_L120:Code:=match Tryz.f120.body with | some c=>c | none=>.skip
noncomputable def L_L120 (N n:Nat) (key:Nat) (S:St) (K:Ks):Option Ret:=bif Nat.beq key 2 then withVals ks_L120_l2 S (fun x=>L120_l2 x.1 n (fun z0=>K (.x 0) (shape ko_L120_l2_0 (z0,()))) (fun z0=>K .r (shape ko_L120_l2_1 (z0,()))) x.2.1 x.2.2.1) else none
theorem L0_L120 (N key:Nat) (S:St) (K:Ks):L_L120 N 0 key S K=none:=(bif0 (withVals0 fun _=>rfl) rfl)
noncomputable def c_L120_0:Code:=(loopsIn body_L120).getD 0 .skip
theorem ls_L120:loopsIn body_L120=[c_L120_0]:=by kernel_rfl
theorem rd_L120_2 (N n:Nat) (x:Vals ks_L120_l2) (K:Ks):L_L120 N (n + 1) 2 (shape ks_L120_l2 x) (h_L120.onOut 2 K)=peRound h_L120 (Orc.of (es_L120 N)) (mixL (L_L120 N) N n 2) c_L120_0 (shape ks_L120_l2 x) (h_L120.onOut 2 K):=by kernel_rfl
theorem fn_L120 (N:Nat) (x:AVals sg_L120) (kf:Ret→Option Ret):F_L120 N x kf=peFunc h_L120 (Orc.of (es_L120 N)) (L_L120 N N) Tryz.f120 (ashape sg_L120 x) kf:=by kernel_rfl
theorem sd_L120 {Γ : Gl} (N:Nat):Sound Γ Tryz.prog 120 (run_L120 N):=fun_ok2 (hh:=h_L120) mixed tab_ok (es:=es_L120 N) trivial (fn:=Tryz.f120) (body:=body_L120) (by kernel_rfl) (by kernel_rfl) (by kernel_rfl) (by kernel_rfl) (by kernel_rfl) (Lf:=L_L120 N) (L0_L120 N) ls_L120 (round_cons (key:=2) (ks:=ks_L120_l2) (by kernel_rfl) (by kernel_rfl) (rd_L120_2 N) trivial) (N:=N) (by kernel_rfl) (fn_L120 N) (.inl (by kernel_rfl))
noncomputable def ks_L121_l2:List Kd:=[.v (.sl tQIIIIE) .k,.v (.int .i64) .k,dK,dK,dK,.v (.int .i64) .k,dK,dK,dK,dK,dK,dK,dK,dK,dK,dK,dK,dK,dK,dK,dK,dK,dK,dK,dK,dK,dK,dK,dK,dK,dK,dK,dK,dK,dK,dK,dK,dK,dK,dK,dK,dK,dK,dK,dK,dK,dK,dK,dK]
noncomputable def ko_L121_l2_0:List Kd:=[dK,.v (.int .i64) .k,dK,dK,dK,dK,dK,dK,dK,dK,dK,dK,dK,dK,dK,dK,dK,dK,dK,dK,dK,dK,dK,dK,dK,dK,dK,dK,dK,dK,dK,dK,dK,dK,dK,dK,dK,dK,dK,dK,dK,dK,dK,dK,dK,dK,dK,dK,dK]
noncomputable def ko_L121_l2_1:List Kd:=[dK,dK,dK,dK,.v (.int .i64) .k,dK,dK,dK,dK,dK,dK,dK,dK,dK,dK,dK,dK,dK,dK,dK,dK,dK,dK,dK,dK,dK,dK,dK,dK,dK,dK,dK,dK,dK,dK,dK,dK,dK,dK,dK,dK,dK,dK,dK,dK,dK,dK,dK,dK]
noncomputable def h_L121:Hint:={ tab,hn:=[],loops:=[(2,ks_L121_l2)],outs:=[(2,2,ko_L121_l2_0),(2,1,ko_L121_l2_1)],ords:=[] }
noncomputable def sg_L121:List AK:=[.v (.sl tQIIIIE) .k,.v (.int .i64) .k]
noncomputable def F_L121 (N:Nat) (x:AVals sg_L121) (kf:Ret→Option Ret):Option Ret:=L121 N x.1 x.2.1 (fun r0=>kf ⟨[⟨(.int .i64),.k,r0⟩],[]⟩)
noncomputable def run_L121 (N:Nat):=runOf sg_L121 (F_L121 N)
noncomputable def es_L121 (N:Nat):List Entry:=[]
noncomputable def body_L121:Code:=match Tryz.f121.body with | some c=>c | none=>.skip
noncomputable def L_L121 (N n:Nat) (key:Nat) (S:St) (K:Ks):Option Ret:=bif Nat.beq key 2 then withVals ks_L121_l2 S (fun x=>L121_l2 x.1 n (fun z0=>K (.x 0) (shape ko_L121_l2_0 (z0,()))) (fun z0=>K .r (shape ko_L121_l2_1 (z0,()))) x.2.1 x.2.2.1) else none
theorem L0_L121 (N key:Nat) (S:St) (K:Ks):L_L121 N 0 key S K=none:=(bif0 (withVals0 fun _=>rfl) rfl)
noncomputable def c_L121_0:Code:=(loopsIn body_L121).getD 0 .skip
theorem ls_L121:loopsIn body_L121=[c_L121_0]:=by kernel_rfl
theorem rd_L121_2 (N n:Nat) (x:Vals ks_L121_l2) (K:Ks):L_L121 N (n + 1) 2 (shape ks_L121_l2 x) (h_L121.onOut 2 K)=peRound h_L121 (Orc.of (es_L121 N)) (mixL (L_L121 N) N n 2) c_L121_0 (shape ks_L121_l2 x) (h_L121.onOut 2 K):=by kernel_rfl
theorem fn_L121 (N:Nat) (x:AVals sg_L121) (kf:Ret→Option Ret):F_L121 N x kf=peFunc h_L121 (Orc.of (es_L121 N)) (L_L121 N N) Tryz.f121 (ashape sg_L121 x) kf:=by kernel_rfl
theorem sd_L121 {Γ : Gl} (N:Nat):Sound Γ Tryz.prog 121 (run_L121 N):=fun_ok2 (hh:=h_L121) mixed tab_ok (es:=es_L121 N) trivial (fn:=Tryz.f121) (body:=body_L121) (by kernel_rfl) (by kernel_rfl) (by kernel_rfl) (by kernel_rfl) (by kernel_rfl) (Lf:=L_L121 N) (L0_L121 N) ls_L121 (round_cons (key:=2) (ks:=ks_L121_l2) (by kernel_rfl) (by kernel_rfl) (rd_L121_2 N) trivial) (N:=N) (by kernel_rfl) (fn_L121 N) (.inl (by kernel_rfl))
noncomputable def h_L26:Hint:={ tab,hn:=[],loops:=[],outs:=[],ords:=[] }
noncomputable def sg_L26:List AK:=[.v tQLQIIIIILIELQIILIELQIIELILQIIIELQIIIIEIE .k,.v (.int .i64) .k]
noncomputable def F_L26 (N:Nat) (x:AVals sg_L26) (kf:Ret→Option Ret):Option Ret:=L26 N x.1 x.2.1 (fun r0=>kf ⟨[⟨(.int .i64),.k,r0⟩],[]⟩)
noncomputable def run_L26 (N:Nat):=runOf sg_L26 (F_L26 N)
noncomputable def es_L26 (N:Nat):List Entry:=[⟨116,[.val,.val],(run_L116 N)⟩,⟨117,[.val,.val],(run_L117 N)⟩,⟨118,[.val,.val],(run_L118 N)⟩,⟨119,[.val,.val],(run_L119 N)⟩,⟨120,[.val,.val],(run_L120 N)⟩,⟨121,[.val,.val],(run_L121 N)⟩]
noncomputable def body_L26:Code:=match Tryz.f26.body with | some c=>c | none=>.skip
theorem ls_L26:loopsIn body_L26=[]:=by kernel_rfl
theorem fn_L26 (N:Nat) (x:AVals sg_L26) (kf:Ret→Option Ret):F_L26 N x kf=peFunc h_L26 (Orc.of (es_L26 N)) (noL N N) Tryz.f26 (ashape sg_L26 x) kf:=by kernel_rfl
theorem sd_L26 {Γ : Gl} (N:Nat):Sound Γ Tryz.prog 26 (run_L26 N):=fun_ok2 (hh:=h_L26) mixed tab_ok (es:=es_L26 N) ⟨sd_L116 N,⟨sd_L117 N,⟨sd_L118 N,⟨sd_L119 N,⟨sd_L120 N,⟨sd_L121 N,trivial⟩⟩⟩⟩⟩⟩ (fn:=Tryz.f26) (body:=body_L26) (by kernel_rfl) (by kernel_rfl) (by kernel_rfl) (by kernel_rfl) (by kernel_rfl) (Lf:=noL N) (noL0 N) ls_L26 trivial (N:=N) (by kernel_rfl) (fn_L26 N) (.inl (by kernel_rfl))
noncomputable def ks_S123_l4:List Kd:=[dK,.v (.ptr tQLQIIIIILIELQIILIELQIIELILQIIIELQIIIIEIE) (.o 31 none .k),dK,.v (.sl (.int .i64)) (.o 3 none .k),.v (.ptr tQIIIE) (.o 136 none .k),.v (.int .i64) .k,dK,dK,dK,dK,dK,dK,dK,dK,dK,dK,dK,dK,dK,dK,dK,dK,dK,dK,dK,dK,dK]
noncomputable def ko_S123_l4_0:List Kd:=[dK,dK,dK,.v (.sl (.int .i64)) (.o 3 none .k),dK,dK,dK,dK,dK,dK,dK,dK,dK,dK,dK,dK,dK,dK,dK,dK,dK,dK,dK,dK,dK,dK,dK]
noncomputable def h_S123:Hint:={ tab,hn:=[],loops:=[(4,ks_S123_l4)],outs:=[(4,2,ko_S123_l4_0)],ords:=[(6,(OT.seq [0,1,2,3,4,5,6] .done))] }
noncomputable def sg_S123:List AK:=[.v tQLQIIIIILIELQIILIELQIIELILQIIIELQIIIIEIE .k]
noncomputable def F_S123 (N:Nat) (x:AVals sg_S123) (kf:Ret→Option Ret):Option Ret:=S123 N x.1 (fun r0=>kf ⟨[⟨(.sl (.int .i64)),(.o 3 none .k),r0⟩],[]⟩)
noncomputable def run_S123 (N:Nat):=runOf sg_S123 (F_S123 N)
noncomputable def es_S123 (N:Nat):List Entry:=[]
noncomputable def body_S123:Code:=match Tryz.f123.body with | some c=>c | none=>.skip
noncomputable def L_S123 (N n:Nat) (key:Nat) (S:St) (K:Ks):Option Ret:=bif Nat.beq key 4 then withVals ks_S123_l4 S (fun x=>S123_l4 x.1 x.2.2.1 n (fun z0=>K (.x 0) (shape ko_S123_l4_0 (z0,()))) x.2.1 x.2.2.2.1) else none
theorem L0_S123 (N key:Nat) (S:St) (K:Ks):L_S123 N 0 key S K=none:=(bif0 (withVals0 fun _=>rfl) rfl)
noncomputable def c_S123_0:Code:=(loopsIn body_S123).getD 0 .skip
theorem ls_S123:loopsIn body_S123=[c_S123_0]:=by kernel_rfl
theorem rd_S123_4 (N n:Nat) (x:Vals ks_S123_l4) (K:Ks):L_S123 N (n + 1) 4 (shape ks_S123_l4 x) (h_S123.onOut 4 K)=peRound h_S123 (Orc.of (es_S123 N)) (mixL (L_S123 N) N n 4) c_S123_0 (shape ks_S123_l4 x) (h_S123.onOut 4 K):=by kernel_rfl
theorem fn_S123 (N:Nat) (x:AVals sg_S123) (kf:Ret→Option Ret):F_S123 N x kf=peFunc h_S123 (Orc.of (es_S123 N)) (L_S123 N N) Tryz.f123 (ashape sg_S123 x) kf:=by kernel_rfl
theorem sd_S123 {Γ : Gl} (N:Nat):Sound Γ Tryz.prog 123 (run_S123 N):=fun_ok2 (hh:=h_S123) mixed tab_ok (es:=es_S123 N) trivial (fn:=Tryz.f123) (body:=body_S123) (by kernel_rfl) (by kernel_rfl) (by kernel_rfl) (by kernel_rfl) (by kernel_rfl) (Lf:=L_S123 N) (L0_S123 N) ls_S123 (round_cons (key:=4) (ks:=ks_S123_l4) (by kernel_rfl) (by kernel_rfl) (rd_S123_4 N) trivial) (N:=N) (by kernel_rfl) (fn_S123 N) (.inl (by kernel_rfl))
noncomputable def ks_S201_l2:List Kd:=[.v (.sl tQIIIE) .k,dK,dK,.v (.int .i64) .k,dK,dK,dK,dK,dK,dK,dK,dK,dK,dK,dK,dK,dK,dK,dK,dK,dK,dK,dK,dK,dK,dK,dK,dK,dK,dK,dK,dK,dK,dK,dK,dK,dK]
noncomputable def ko_S201_l2_0:List Kd:=[.v (.sl tQIIIE) .k,dK,dK,dK,dK,dK,dK,dK,dK,dK,dK,dK,dK,dK,dK,dK,dK,dK,dK,dK,dK,dK,dK,dK,dK,dK,dK,dK,dK,dK,dK,dK,dK,dK,dK,dK,dK]
noncomputable def ko_S201_l2_1:List Kd:=[dK,dK,.v .bool .k,dK,dK,dK,dK,dK,dK,dK,dK,dK,dK,dK,dK,dK,dK,dK,dK,dK,dK,dK,dK,dK,dK,dK,dK,dK,dK,dK,dK,dK,dK,dK,dK,dK,dK]
noncomputable def h_S201:Hint:={ tab,hn:=[],loops:=[(2,ks_S201_l2)],outs:=[(2,2,ko_S201_l2_0),(2,1,ko_S201_l2_1)],ords:=[(4,(OT.seq [0,1,2,3,4,5,6,7,8,9,10,11,12,13,14,15,16,17,18,19,20,21,22,23] .done))] }
noncomputable def sg_S201:List AK:=[.v (.sl tQIIIE) .k]
noncomputable def F_S201 (N:Nat) (x:AVals sg_S201) (kf:Ret→Option Ret):Option Ret:=S201 N x.1 (fun r0=>kf ⟨[⟨.bool,.k,r0⟩],[]⟩)
noncomputable def run_S201 (N:Nat):=runOf sg_S201 (F_S201 N)
noncomputable def es_S201 (N:Nat):List Entry:=[⟨199,[.val],(run_S199 N)⟩]
noncomputable def body_S201:Code:=match Tryz.f201.body with | some c=>c | none=>.skip
noncomputable def L_S201 (N n:Nat) (key:Nat) (S:St) (K:Ks):Option Ret:=bif Nat.beq key 2 then withVals ks_S201_l2 S (fun x=>S201_l2 N x.1 n (K (.x 0) (shape ko_S201_l2_0 (x.1,()))) (fun z0=>K .r (shape ko_S201_l2_1 (z0,()))) x.2.1) else none
theorem L0_S201 (N key:Nat) (S:St) (K:Ks):L_S201 N 0 key S K=none:=(bif0 (withVals0 fun _=>rfl) rfl)
noncomputable def c_S201_0:Code:=(loopsIn body_S201).getD 0 .skip
theorem ls_S201:loopsIn body_S201=[c_S201_0]:=by kernel_rfl
theorem rd_S201_2 (N n:Nat) (x:Vals ks_S201_l2) (K:Ks):L_S201 N (n + 1) 2 (shape ks_S201_l2 x) (h_S201.onOut 2 K)=peRound h_S201 (Orc.of (es_S201 N)) (mixL (L_S201 N) N n 2) c_S201_0 (shape ks_S201_l2 x) (h_S201.onOut 2 K):=by kernel_rfl
theorem fn_S201 (N:Nat) (x:AVals sg_S201) (kf:Ret→Option Ret):F_S201 N x kf=peFunc h_S201 (Orc.of (es_S201 N)) (L_S201 N N) Tryz.f201 (ashape sg_S201 x) kf:=by kernel_rfl
theorem sd_S201 {Γ : Gl} (N:Nat):Sound Γ Tryz.prog 201 (run_S201 N):=fun_ok2 (hh:=h_S201) mixed tab_ok (es:=es_S201 N) ⟨sd_S199 N,trivial⟩ (fn:=Tryz.f201) (body:=body_S201) (by kernel_rfl) (by kernel_rfl) (by kernel_rfl) (by kernel_rfl) (by kernel_rfl) (Lf:=L_S201 N) (L0_S201 N) ls_S201 (round_cons (key:=2) (ks:=ks_S201_l2) (by kernel_rfl) (by kernel_rfl) (rd_S201_2 N) trivial) (N:=N) (by kernel_rfl) (fn_S201 N) (.inl (by kernel_rfl))
noncomputable def h_S204:Hint:={ tab,hn:=[],loops:=[],outs:=[],ords:=[] }
noncomputable def sg_S204:List AK:=[.v tQIIIE .k]
noncomputable def F_S204 (N:Nat) (x:AVals sg_S204) (kf:Ret→Option Ret):Option Ret:=S204 N x.1 (fun r0=>kf ⟨[⟨(.int .i64),.k,r0⟩],[]⟩)
noncomputable def run_S204 (N:Nat):=runOf sg_S204 (F_S204 N)
noncomputable def es_S204 (N:Nat):List Entry:=[]
noncomputable def body_S204:Code:=match Tryz.f204.body with | some c=>c | none=>.skip
theorem ls_S204:loopsIn body_S204=[]:=by kernel_rfl
theorem fn_S204 (N:Nat) (x:AVals sg_S204) (kf:Ret→Option Ret):F_S204 N x kf=peFunc h_S204 (Orc.of (es_S204 N)) (noL N N) Tryz.f204 (ashape sg_S204 x) kf:=by kernel_rfl
theorem sd_S204 {Γ : Gl} (N:Nat):Sound Γ Tryz.prog 204 (run_S204 N):=fun_ok2 (hh:=h_S204) mixed tab_ok (es:=es_S204 N) trivial (fn:=Tryz.f204) (body:=body_S204) (by kernel_rfl) (by kernel_rfl) (by kernel_rfl) (by kernel_rfl) (by kernel_rfl) (Lf:=noL N) (noL0 N) ls_S204 trivial (N:=N) (by kernel_rfl) (fn_S204 N) (.inl (by kernel_rfl))
noncomputable def ks_S202_l3:List Kd:=[.v (.sl tQIIIE) .k,.v (.int .i64) .k,dK,dK,dK,.v (.int .i64) .k,.v (.int .i64) .k,dK,dK,dK,dK,dK,dK,dK,dK,dK,dK,dK,dK,dK,dK,dK,dK,dK,dK,dK,dK]
noncomputable def ko_S202_l3_0:List Kd:=[dK,dK,dK,dK,dK,.v (.int .i64) .k,dK,dK,dK,dK,dK,dK,dK,dK,dK,dK,dK,dK,dK,dK,dK,dK,dK,dK,dK,dK,dK]
noncomputable def h_S202:Hint:={ tab,hn:=[],loops:=[(3,ks_S202_l3)],outs:=[(3,2,ko_S202_l3_0)],ords:=[] }
noncomputable def sg_S202:List AK:=[.v (.sl tQIIIE) .k,.v (.int .i64) .k]
noncomputable def F_S202 (N:Nat) (x:AVals sg_S202) (kf:Ret→Option Ret):Option Ret:=S202 N x.1 x.2.1 (fun r0=>kf ⟨[⟨(.int .i64),.k,r0⟩],[]⟩)
noncomputable def run_S202 (N:Nat):=runOf sg_S202 (F_S202 N)
noncomputable def es_S202 (N:Nat):List Entry:=[⟨201,[.val],(run_S201 N)⟩,⟨204,[.val],(run_S204 N)⟩]
noncomputable def body_S202:Code:=match Tryz.f202.body with | some c=>c | none=>.skip
noncomputable def L_S202 (N n:Nat) (key:Nat) (S:St) (K:Ks):Option Ret:=bif Nat.beq key 3 then withVals ks_S202_l3 S (fun x=>S202_l3 N x.1 x.2.1 n (fun z0=>K (.x 0) (shape ko_S202_l3_0 (z0,()))) x.2.2.1 x.2.2.2.1) else none
theorem L0_S202 (N key:Nat) (S:St) (K:Ks):L_S202 N 0 key S K=none:=(bif0 (withVals0 fun _=>rfl) rfl)
noncomputable def c_S202_0:Code:=(loopsIn body_S202).getD 0 .skip
theorem ls_S202:loopsIn body_S202=[c_S202_0]:=by kernel_rfl
theorem rd_S202_3 (N n:Nat) (x:Vals ks_S202_l3) (K:Ks):L_S202 N (n + 1) 3 (shape ks_S202_l3 x) (h_S202.onOut 3 K)=peRound h_S202 (Orc.of (es_S202 N)) (mixL (L_S202 N) N n 3) c_S202_0 (shape ks_S202_l3 x) (h_S202.onOut 3 K):=by kernel_rfl
theorem fn_S202 (N:Nat) (x:AVals sg_S202) (kf:Ret→Option Ret):F_S202 N x kf=peFunc h_S202 (Orc.of (es_S202 N)) (L_S202 N N) Tryz.f202 (ashape sg_S202 x) kf:=by kernel_rfl
theorem sd_S202 {Γ : Gl} (N:Nat):Sound Γ Tryz.prog 202 (run_S202 N):=fun_ok2 (hh:=h_S202) mixed tab_ok (es:=es_S202 N) ⟨sd_S201 N,⟨sd_S204 N,trivial⟩⟩ (fn:=Tryz.f202) (body:=body_S202) (by kernel_rfl) (by kernel_rfl) (by kernel_rfl) (by kernel_rfl) (by kernel_rfl) (Lf:=L_S202 N) (L0_S202 N) ls_S202 (round_cons (key:=3) (ks:=ks_S202_l3) (by kernel_rfl) (by kernel_rfl) (rd_S202_3 N) trivial) (N:=N) (by kernel_rfl) (fn_S202 N) (.inl (by kernel_rfl))
noncomputable def ks_S203_l3:List Kd:=[.v (.sl tQIIIE) .k,.v (.int .i64) .k,dK,dK,dK,.v (.int .i64) .k,.v (.int .i64) .k,dK,dK,dK,dK,dK,dK,dK,dK,dK,dK,dK,dK,dK,dK,dK,dK,dK,dK,dK,dK,dK,dK,dK,dK,dK,dK,dK,dK,dK,dK]
noncomputable def ko_S203_l3_0:List Kd:=[dK,dK,dK,dK,dK,.v (.int .i64) .k,dK,dK,dK,dK,dK,dK,dK,dK,dK,dK,dK,dK,dK,dK,dK,dK,dK,dK,dK,dK,dK,dK,dK,dK,dK,dK,dK,dK,dK,dK,dK]
noncomputable def h_S203:Hint:={ tab,hn:=[],loops:=[(3,ks_S203_l3)],outs:=[(3,2,ko_S203_l3_0)],ords:=[] }
noncomputable def sg_S203:List AK:=[.v (.sl tQIIIE) .k,.v (.int .i64) .k]
noncomputable def F_S203 (N:Nat) (x:AVals sg_S203) (kf:Ret→Option Ret):Option Ret:=S203 N x.1 x.2.1 (fun r0=>kf ⟨[⟨(.int .i64),.k,r0⟩],[]⟩)
noncomputable def run_S203 (N:Nat):=runOf sg_S203 (F_S203 N)
noncomputable def es_S203 (N:Nat):List Entry:=[⟨201,[.val],(run_S201 N)⟩]
noncomputable def body_S203:Code:=match Tryz.f203.body with | some c=>c | none=>.skip
noncomputable def L_S203 (N n:Nat) (key:Nat) (S:St) (K:Ks):Option Ret:=bif Nat.beq key 3 then withVals ks_S203_l3 S (fun x=>S203_l3 N x.1 x.2.1 n (fun z0=>K (.x 0) (shape ko_S203_l3_0 (z0,()))) x.2.2.1 x.2.2.2.1) else none
theorem L0_S203 (N key:Nat) (S:St) (K:Ks):L_S203 N 0 key S K=none:=(bif0 (withVals0 fun _=>rfl) rfl)
noncomputable def c_S203_0:Code:=(loopsIn body_S203).getD 0 .skip
theorem ls_S203:loopsIn body_S203=[c_S203_0]:=by kernel_rfl
theorem rd_S203_3 (N n:Nat) (x:Vals ks_S203_l3) (K:Ks):L_S203 N (n + 1) 3 (shape ks_S203_l3 x) (h_S203.onOut 3 K)=peRound h_S203 (Orc.of (es_S203 N)) (mixL (L_S203 N) N n 3) c_S203_0 (shape ks_S203_l3 x) (h_S203.onOut 3 K):=by kernel_rfl
theorem fn_S203 (N:Nat) (x:AVals sg_S203) (kf:Ret→Option Ret):F_S203 N x kf=peFunc h_S203 (Orc.of (es_S203 N)) (L_S203 N N) Tryz.f203 (ashape sg_S203 x) kf:=by kernel_rfl
theorem sd_S203 {Γ : Gl} (N:Nat):Sound Γ Tryz.prog 203 (run_S203 N):=fun_ok2 (hh:=h_S203) mixed tab_ok (es:=es_S203 N) ⟨sd_S201 N,trivial⟩ (fn:=Tryz.f203) (body:=body_S203) (by kernel_rfl) (by kernel_rfl) (by kernel_rfl) (by kernel_rfl) (by kernel_rfl) (Lf:=L_S203 N) (L0_S203 N) ls_S203 (round_cons (key:=3) (ks:=ks_S203_l3) (by kernel_rfl) (by kernel_rfl) (rd_S203_3 N) trivial) (N:=N) (by kernel_rfl) (fn_S203 N) (.inl (by kernel_rfl))
noncomputable def h_S125:Hint:={ tab,hn:=[],loops:=[],outs:=[],ords:=[] }
noncomputable def sg_S125:List AK:=[.v (.sl tQIIIE) .k]
noncomputable def F_S125 (N:Nat) (x:AVals sg_S125) (kf:Ret→Option Ret):Option Ret:=S125 N x.1 (fun r0=>kf ⟨[⟨(.int .i64),.k,r0⟩],[]⟩)
noncomputable def run_S125 (N:Nat):=runOf sg_S125 (F_S125 N)
noncomputable def es_S125 (N:Nat):List Entry:=[⟨201,[.val],(run_S201 N)⟩,⟨202,[.val,.val],(run_S202 N)⟩,⟨203,[.val,.val],(run_S203 N)⟩,⟨204,[.val],(run_S204 N)⟩]
noncomputable def body_S125:Code:=match Tryz.f125.body with | some c=>c | none=>.skip
theorem ls_S125:loopsIn body_S125=[]:=by kernel_rfl
theorem fn_S125 (N:Nat) (x:AVals sg_S125) (kf:Ret→Option Ret):F_S125 N x kf=peFunc h_S125 (Orc.of (es_S125 N)) (noL N N) Tryz.f125 (ashape sg_S125 x) kf:=by kernel_rfl
theorem sd_S125 {Γ : Gl} (N:Nat):Sound Γ Tryz.prog 125 (run_S125 N):=fun_ok2 (hh:=h_S125) mixed tab_ok (es:=es_S125 N) ⟨sd_S201 N,⟨sd_S202 N,⟨sd_S203 N,⟨sd_S204 N,trivial⟩⟩⟩⟩ (fn:=Tryz.f125) (body:=body_S125) (by kernel_rfl) (by kernel_rfl) (by kernel_rfl) (by kernel_rfl) (by kernel_rfl) (Lf:=noL N) (noL0 N) ls_S125 trivial (N:=N) (by kernel_rfl) (fn_S125 N) (.inl (by kernel_rfl))
noncomputable def h_S124:Hint:={ tab,hn:=[],loops:=[],outs:=[],ords:=[] }
noncomputable def sg_S124:List AK:=[.v (.sl tQIIIIILIE) .k,.v (.int .i64) .k,.v (.int .i64) .k,.v (.int .i64) .k,.v (.int .i64) .k,.v (.int .i64) .k]
noncomputable def F_S124 (N:Nat) (x:AVals sg_S124) (kf:Ret→Option Ret):Option Ret:=S124 N x.1 x.2.1 x.2.2.1 x.2.2.2.1 x.2.2.2.2.1 x.2.2.2.2.2.1 (fun r0 r1=>kf ⟨[⟨(.sl tQIIIIILIE),(.o 46 none (.p .k (.p .k (.p .k (.p .k (.p .k (.o 3 none .k))))))),r0⟩,⟨.bool,.k,r1⟩],[]⟩)
noncomputable def run_S124 (N:Nat):=runOf sg_S124 (F_S124 N)
noncomputable def es_S124 (N:Nat):List Entry:=[⟨173,[.val],(run_S173 N)⟩,⟨200,[.val,.val],(run_S200 N)⟩,⟨175,[.val],(run_S175 N)⟩,⟨195,[.val,.val,.val],(run_S195 N)⟩]
noncomputable def body_S124:Code:=match Tryz.f124.body with | some c=>c | none=>.skip
theorem ls_S124:loopsIn body_S124=[]:=by kernel_rfl
theorem fn_S124 (N:Nat) (x:AVals sg_S124) (kf:Ret→Option Ret):F_S124 N x kf=peFunc h_S124 (Orc.of (es_S124 N)) (noL N N) Tryz.f124 (ashape sg_S124 x) kf:=by kernel_rfl
theorem sd_S124 {Γ : Gl} (N:Nat):Sound Γ Tryz.prog 124 (run_S124 N):=fun_ok2 (hh:=h_S124) mixed tab_ok (es:=es_S124 N) ⟨sd_S173 N,⟨sd_S200 N,⟨sd_S175 N,⟨sd_S195 N,trivial⟩⟩⟩⟩ (fn:=Tryz.f124) (body:=body_S124) (by kernel_rfl) (by kernel_rfl) (by kernel_rfl) (by kernel_rfl) (by kernel_rfl) (Lf:=noL N) (noL0 N) ls_S124 trivial (N:=N) (by kernel_rfl) (fn_S124 N) (.inl (by kernel_rfl))
noncomputable def ks_S127_l2:List Kd:=[.v (.sl (.int .i64)) .k,.v (.int .i64) .k,dK,dK,dK,.v (.int .i64) .k,dK,dK,dK,dK,dK,dK,dK,dK,dK,dK,dK,dK,dK,dK,dK,dK,dK,dK,dK,dK,dK,dK,dK,dK,dK,dK,dK,dK,dK,dK,dK,dK,dK,dK,dK,dK,dK,dK,dK,dK,dK]
noncomputable def ko_S127_l2_0:List Kd:=[.v (.sl (.int .i64)) .k,.v (.int .i64) .k,dK,dK,dK,.v (.int .i64) .k,dK,dK,dK,dK,dK,dK,dK,dK,dK,dK,dK,dK,dK,dK,dK,dK,dK,dK,dK,dK,dK,dK,dK,dK,dK,dK,dK,dK,dK,dK,dK,dK,dK,dK,dK,dK,dK,dK,dK,dK,dK]
noncomputable def h_S127:Hint:={ tab,hn:=[],loops:=[(2,ks_S127_l2)],outs:=[(2,2,ko_S127_l2_0)],ords:=[(6,(OT.seq [1,2,3,5,8,9,10] (.any [0,4,6] (OT.seq [7,11,12] .done))))] }
noncomputable def sg_S127:List AK:=[.v (.sl (.int .i64)) .k,.v (.int .i64) .k]
noncomputable def F_S127 (N:Nat) (x:AVals sg_S127) (kf:Ret→Option Ret):Option Ret:=S127 N x.1 x.2.1 (fun r0=>kf ⟨[⟨(.sl (.int .i64)),(.o 3 none .k),r0⟩],[]⟩)
noncomputable def run_S127 (N:Nat):=runOf sg_S127 (F_S127 N)
noncomputable def es_S127 (N:Nat):List Entry:=[]
noncomputable def body_S127:Code:=match Tryz.f127.body with | some c=>c | none=>.skip
noncomputable def L_S127 (N n:Nat) (key:Nat) (S:St) (K:Ks):Option Ret:=bif Nat.beq key 2 then withVals ks_S127_l2 S (fun x=>S127_l2 x.1 x.2.1 n (fun z0=>K (.x 0) (shape ko_S127_l2_0 (x.1,x.2.1,z0,()))) x.2.2.1) else none
theorem L0_S127 (N key:Nat) (S:St) (K:Ks):L_S127 N 0 key S K=none:=(bif0 (withVals0 fun _=>rfl) rfl)
noncomputable def c_S127_0:Code:=(loopsIn body_S127).getD 0 .skip
theorem ls_S127:loopsIn body_S127=[c_S127_0]:=by kernel_rfl
theorem rd_S127_2 (N n:Nat) (x:Vals ks_S127_l2) (K:Ks):L_S127 N (n + 1) 2 (shape ks_S127_l2 x) (h_S127.onOut 2 K)=peRound h_S127 (Orc.of (es_S127 N)) (mixL (L_S127 N) N n 2) c_S127_0 (shape ks_S127_l2 x) (h_S127.onOut 2 K):=by kernel_rfl
theorem fn_S127 (N:Nat) (x:AVals sg_S127) (kf:Ret→Option Ret):F_S127 N x kf=peFunc h_S127 (Orc.of (es_S127 N)) (L_S127 N N) Tryz.f127 (ashape sg_S127 x) kf:=by kernel_rfl
theorem sd_S127 {Γ : Gl} (N:Nat):Sound Γ Tryz.prog 127 (run_S127 N):=fun_ok2 (hh:=h_S127) mixed tab_ok (es:=es_S127 N) trivial (fn:=Tryz.f127) (body:=body_S127) (by kernel_rfl) (by kernel_rfl) (by kernel_rfl) (by kernel_rfl) (by kernel_rfl) (Lf:=L_S127 N) (L0_S127 N) ls_S127 (round_cons (key:=2) (ks:=ks_S127_l2) (by kernel_rfl) (by kernel_rfl) (rd_S127_2 N) trivial) (N:=N) (by kernel_rfl) (fn_S127 N) (.inl (by kernel_rfl))
noncomputable def ks_S27_l6:List Kd:=[dK,.v (.ptr tQLQIIIIILIELQIILIELQIIELILQIIIELQIIIIEIE) (.o 31 none .k),.v (.ptr tQLQIIIIILIELQIILIELQIIELILQIIIELQIIIIEIE) (.o 31 none (.p (.o 46 none (.p .k (.p .k (.p .k (.p .k (.p .k (.o 3 none .k))))))) (.p (.o 80 none (.p .k (.p .k (.o 3 none .k)))) (.p (.o 104 none .k) (.p (.o 3 none .k) (.p (.o 136 none .k) (.p (.o 102 none .k) .k))))))),dK,.v (.ptr tQLQIIIIILIELQIILIELQIIELILQIIIELQIIIIEIE) (.o 31 none (.p (.o 46 none (.p .k (.p .k (.p .k (.p .k (.p .k (.o 3 none .k))))))) (.p (.o 80 none (.p .k (.p .k (.o 3 none .k)))) (.p (.o 104 none .k) (.p (.o 3 none .k) (.p (.o 136 none .k) (.p (.o 102 none .k) .k))))))),.v .bool .k,.v (.int .i64) .k,dK,dK,dK,dK,dK,dK,dK,dK,dK,dK,dK,dK,dK,dK,dK,dK,dK,dK,dK,dK,dK,dK,dK,dK,dK,dK,dK,dK,dK,dK,dK,dK,dK,dK,dK,dK,dK,dK,dK,dK,dK,dK,dK,dK,dK,dK,dK,dK,dK,dK,dK,dK,dK,dK,dK,dK,dK,dK,dK,dK,dK,dK,dK,dK,dK,dK,dK,dK,dK,dK,dK,dK,dK,dK,dK,dK,dK,dK,dK,dK,dK,dK,dK,dK,dK,dK,dK,dK,dK,dK,dK,dK,dK,dK,dK,dK,dK,dK,dK,dK,dK,dK,dK,dK,dK,dK,dK,dK,dK,dK,dK,dK,dK]
noncomputable def ko_S27_l6_0:List Kd:=[dK,.v (.ptr tQLQIIIIILIELQIILIELQIIELILQIIIELQIIIIEIE) (.o 31 none .k),.v (.ptr tQLQIIIIILIELQIILIELQIIELILQIIIELQIIIIEIE) (.o 31 none (.p (.o 46 none (.p .k (.p .k (.p .k (.p .k (.p .k (.o 3 none .k))))))) (.p (.o 80 none (.p .k (.p .k (.o 3 none .k)))) (.p (.o 104 none .k) (.p (.o 3 none .k) (.p (.o 136 none .k) (.p (.o 102 none .k) .k))))))),dK,.v (.ptr tQLQIIIIILIELQIILIELQIIELILQIIIELQIIIIEIE) (.o 31 none (.p (.o 46 none (.p .k (.p .k (.p .k (.p .k (.p .k (.o 3 none .k))))))) (.p (.o 80 none (.p .k (.p .k (.o 3 none .k)))) (.p (.o 104 none .k) (.p (.o 3 none .k) (.p (.o 136 none .k) (.p (.o 102 none .k) .k))))))),.v .bool .k,dK,dK,dK,dK,dK,dK,dK,dK,dK,dK,dK,dK,dK,dK,dK,dK,dK,dK,dK,dK,dK,dK,dK,dK,dK,dK,dK,dK,dK,dK,dK,dK,dK,dK,dK,dK,dK,dK,dK,dK,dK,dK,dK,dK,dK,dK,dK,dK,dK,dK,dK,dK,dK,dK,dK,dK,dK,dK,dK,dK,dK,dK,dK,dK,dK,dK,dK,dK,dK,dK,dK,dK,dK,dK,dK,dK,dK,dK,dK,dK,dK,dK,dK,dK,dK,dK,dK,dK,dK,dK,dK,dK,dK,dK,dK,dK,dK,dK,dK,dK,dK,dK,dK,dK,dK,dK,dK,dK,dK,dK,dK,dK,dK,dK]
noncomputable def h_S27:Hint:={ tab,hn:=[],loops:=[(6,ks_S27_l6)],outs:=[(6,2,ko_S27_l6_0)],ords:=[(9,(OT.seq [0,1,2,3,4,5,6,7,8,9,10,11,12,13,14,17,18,19,20,15,16,21,22,23,24,25,26] .done)),(12,(OT.seq [0,1,2,3,4,5,6,7,8] .done)),(13,(OT.seq [0,1,2,3,4,5,6,7,8,9,10,11,12,13,14,16,17,18,19,20,21,15,22,23,24,25] .done))] }
noncomputable def sg_S27:List AK:=[.v tQLQIIIIILIELQIILIELQIIELILQIIIELQIIIIEIE .k]
noncomputable def F_S27 (N:Nat) (x:AVals sg_S27) (kf:Ret→Option Ret):Option Ret:=S27 N x.1 (fun r0 r1=>kf ⟨[⟨tQLQIIIIILIELQIILIELQIIELILQIIIELQIIIIEIE,(.p (.o 46 none (.p .k (.p .k (.p .k (.p .k (.p .k (.o 3 none .k))))))) (.p (.o 80 none (.p .k (.p .k (.o 3 none .k)))) (.p (.o 104 none .k) (.p (.o 3 none .k) (.p (.o 136 none .k) (.p (.o 102 none .k) .k)))))),r0⟩,⟨.bool,.k,r1⟩],[]⟩)
noncomputable def run_S27 (N:Nat):=runOf sg_S27 (F_S27 N)
noncomputable def es_S27 (N:Nat):List Entry:=[⟨90,[.val],(run_S90 N)⟩,⟨122,[.val],(run_S122 N)⟩,⟨94,[.val],(run_S94 N)⟩,⟨123,[.val],(run_S123 N)⟩,⟨125,[.val],(run_S125 N)⟩,⟨124,[.val,.val,.val,.val,.val,.val],(run_S124 N)⟩,⟨126,[.val,.val],(run_S126 N)⟩,⟨127,[.val,.val],(run_S127 N)⟩,⟨93,[.val,.take,.val,.val,.val],(run_S93 N)⟩]
noncomputable def body_S27:Code:=match Tryz.f27.body with | some c=>c | none=>.skip
noncomputable def L_S27 (N n:Nat) (key:Nat) (S:St) (K:Ks):Option Ret:=bif Nat.beq key 6 then withVals ks_S27_l6 S (fun x=>S27_l6 N x.1 x.2.1 n (fun z0 z1=>K (.x 0) (shape ko_S27_l6_0 (x.1,x.2.1,z0,z1,()))) x.2.2.1 x.2.2.2.1 x.2.2.2.2.1) else none
theorem L0_S27 (N key:Nat) (S:St) (K:Ks):L_S27 N 0 key S K=none:=(bif0 (withVals0 fun _=>rfl) rfl)
noncomputable def c_S27_0:Code:=(loopsIn body_S27).getD 0 .skip
theorem ls_S27:loopsIn body_S27=[c_S27_0]:=by kernel_rfl
theorem rd_S27_6 (N n:Nat) (x:Vals ks_S27_l6) (K:Ks):L_S27 N (n + 1) 6 (shape ks_S27_l6 x) (h_S27.onOut 6 K)=peRound h_S27 (Orc.of (es_S27 N)) (mixL (L_S27 N) N n 6) c_S27_0 (shape ks_S27_l6 x) (h_S27.onOut 6 K):=by kernel_rfl
theorem fn_S27 (N:Nat) (x:AVals sg_S27) (kf:Ret→Option Ret):F_S27 N x kf=peFunc h_S27 (Orc.of (es_S27 N)) (L_S27 N N) Tryz.f27 (ashape sg_S27 x) kf:=by kernel_rfl
theorem sd_S27 {Γ : Gl} (N:Nat):Sound Γ Tryz.prog 27 (run_S27 N):=fun_ok2 (hh:=h_S27) mixed tab_ok (es:=es_S27 N) ⟨sd_S90 N,⟨sd_S122 N,⟨sd_S94 N,⟨sd_S123 N,⟨sd_S125 N,⟨sd_S124 N,⟨sd_S126 N,⟨sd_S127 N,⟨sd_S93 N,trivial⟩⟩⟩⟩⟩⟩⟩⟩⟩ (fn:=Tryz.f27) (body:=body_S27) (by kernel_rfl) (by kernel_rfl) (by kernel_rfl) (by kernel_rfl) (by kernel_rfl) (Lf:=L_S27 N) (L0_S27 N) ls_S27 (round_cons (key:=6) (ks:=ks_S27_l6) (by kernel_rfl) (by kernel_rfl) (rd_S27_6 N) trivial) (N:=N) (by kernel_rfl) (fn_S27 N) (.inl (by kernel_rfl))
noncomputable def ks_I41_l3:List Kd:=[dK,dK,dK,.v (.sl (.int .i64)) (.o 3 none .k),dK,dK,dK,dK,.v (.sl tQIIIE) .k,.v (.int .i64) .k,.v (.int .i64) .k,dK,dK,dK,dK,dK,dK,dK,dK,dK,dK,dK,dK,dK]
noncomputable def ko_I41_l3_0:List Kd:=[dK,dK,dK,.v (.sl (.int .i64)) (.o 3 none .k),dK,dK,dK,dK,dK,dK,dK,dK,dK,dK,dK,dK,dK,dK,dK,dK,dK,dK,dK,dK]
noncomputable def h_I41:Hint:={ tab,hn:=[],loops:=[(3,ks_I41_l3)],outs:=[(3,2,ko_I41_l3_0)],ords:=[] }
noncomputable def sg_I41:List AK:=[.v tQLQIIIIILIELQIILIELQIIELILQIIIELQIIIIEIE .k]
noncomputable def F_I41 (N:Nat) (x:AVals sg_I41) (kf:Ret→Option Ret):Option Ret:=I41 N x.1 (fun r0=>kf ⟨[⟨(.sl (.int .i64)),(.o 3 none .k),r0⟩],[]⟩)
noncomputable def run_I41 (N:Nat):=runOf sg_I41 (F_I41 N)
noncomputable def es_I41 (N:Nat):List Entry:=[]
noncomputable def body_I41:Code:=match Tryz.f41.body with | some c=>c | none=>.skip
noncomputable def L_I41 (N n:Nat) (key:Nat) (S:St) (K:Ks):Option Ret:=bif Nat.beq key 3 then withVals ks_I41_l3 S (fun x=>I41_l3 x.2.1 x.2.2.1 n (fun z0=>K (.x 0) (shape ko_I41_l3_0 (z0,()))) x.1 x.2.2.2.1) else none
theorem L0_I41 (N key:Nat) (S:St) (K:Ks):L_I41 N 0 key S K=none:=(bif0 (withVals0 fun _=>rfl) rfl)
noncomputable def c_I41_0:Code:=(loopsIn body_I41).getD 0 .skip
theorem ls_I41:loopsIn body_I41=[c_I41_0]:=by kernel_rfl
theorem rd_I41_3 (N n:Nat) (x:Vals ks_I41_l3) (K:Ks):L_I41 N (n + 1) 3 (shape ks_I41_l3 x) (h_I41.onOut 3 K)=peRound h_I41 (Orc.of (es_I41 N)) (mixL (L_I41 N) N n 3) c_I41_0 (shape ks_I41_l3 x) (h_I41.onOut 3 K):=by kernel_rfl
theorem fn_I41 (N:Nat) (x:AVals sg_I41) (kf:Ret→Option Ret):F_I41 N x kf=peFunc h_I41 (Orc.of (es_I41 N)) (L_I41 N N) Tryz.f41 (ashape sg_I41 x) kf:=by kernel_rfl
theorem sd_I41 {Γ : Gl} (N:Nat):Sound Γ Tryz.prog 41 (run_I41 N):=fun_ok2 (hh:=h_I41) mixed tab_ok (es:=es_I41 N) trivial (fn:=Tryz.f41) (body:=body_I41) (by kernel_rfl) (by kernel_rfl) (by kernel_rfl) (by kernel_rfl) (by kernel_rfl) (Lf:=L_I41 N) (L0_I41 N) ls_I41 (round_cons (key:=3) (ks:=ks_I41_l3) (by kernel_rfl) (by kernel_rfl) (rd_I41_3 N) trivial) (N:=N) (by kernel_rfl) (fn_I41 N) (.inl (by kernel_rfl))
noncomputable def ks_I205_l4:List Kd:=[.v (.sl tQIIIE) .k,dK,dK,dK,dK,dK,dK,dK,.v (.sl tQIIIE) .k,.v (.int .i64) .k,.v (.int .i64) .k,dK,dK,dK,dK,dK,dK,dK,dK,dK,dK,dK,dK,dK,dK,dK,dK,dK,dK,dK,dK,dK,dK,dK]
noncomputable def ko_I205_l4_0:List Kd:=[dK,dK,dK,dK,dK,dK,dK,dK,dK,dK,dK,dK,dK,dK,dK,dK,dK,dK,dK,dK,dK,dK,dK,dK,dK,dK,dK,dK,dK,dK,dK,dK,dK,dK]
noncomputable def ko_I205_l4_1:List Kd:=[dK,dK,.v .bool .k,dK,dK,dK,dK,dK,dK,dK,dK,dK,dK,dK,dK,dK,dK,dK,dK,dK,dK,dK,dK,dK,dK,dK,dK,dK,dK,dK,dK,dK,dK,dK]
noncomputable def h_I205:Hint:={ tab,hn:=[],loops:=[(4,ks_I205_l4)],outs:=[(4,2,ko_I205_l4_0),(4,1,ko_I205_l4_1)],ords:=[(6,(OT.seq [0,1,2,3,4,5,6,7,8,9,10,11,12,13,14,15,16,17] .done))] }
noncomputable def sg_I205:List AK:=[.v (.sl tQIIIE) .k]
noncomputable def F_I205 (N:Nat) (x:AVals sg_I205) (kf:Ret→Option Ret):Option Ret:=I205 N x.1 (fun r0=>kf ⟨[⟨.bool,.k,r0⟩],[]⟩)
noncomputable def run_I205 (N:Nat):=runOf sg_I205 (F_I205 N)
noncomputable def es_I205 (N:Nat):List Entry:=[⟨138,[.val],(run_I138 N)⟩]
noncomputable def body_I205:Code:=match Tryz.f205.body with | some c=>c | none=>.skip
noncomputable def L_I205 (N n:Nat) (key:Nat) (S:St) (K:Ks):Option Ret:=bif Nat.beq key 4 then withVals ks_I205_l4 S (fun x=>I205_l4 N x.1 x.2.1 x.2.2.1 n (K (.x 0) (shape ko_I205_l4_0 ())) (fun z0=>K .r (shape ko_I205_l4_1 (z0,()))) x.2.2.2.1) else none
theorem L0_I205 (N key:Nat) (S:St) (K:Ks):L_I205 N 0 key S K=none:=(bif0 (withVals0 fun _=>rfl) rfl)
noncomputable def c_I205_0:Code:=(loopsIn body_I205).getD 0 .skip
theorem ls_I205:loopsIn body_I205=[c_I205_0]:=by kernel_rfl
theorem rd_I205_4 (N n:Nat) (x:Vals ks_I205_l4) (K:Ks):L_I205 N (n + 1) 4 (shape ks_I205_l4 x) (h_I205.onOut 4 K)=peRound h_I205 (Orc.of (es_I205 N)) (mixL (L_I205 N) N n 4) c_I205_0 (shape ks_I205_l4 x) (h_I205.onOut 4 K):=by kernel_rfl
theorem fn_I205 (N:Nat) (x:AVals sg_I205) (kf:Ret→Option Ret):F_I205 N x kf=peFunc h_I205 (Orc.of (es_I205 N)) (L_I205 N N) Tryz.f205 (ashape sg_I205 x) kf:=by kernel_rfl
theorem sd_I205 {Γ : Gl} (N:Nat):Sound Γ Tryz.prog 205 (run_I205 N):=fun_ok2 (hh:=h_I205) mixed tab_ok (es:=es_I205 N) ⟨sd_I138 N,trivial⟩ (fn:=Tryz.f205) (body:=body_I205) (by kernel_rfl) (by kernel_rfl) (by kernel_rfl) (by kernel_rfl) (by kernel_rfl) (Lf:=L_I205 N) (L0_I205 N) ls_I205 (round_cons (key:=4) (ks:=ks_I205_l4) (by kernel_rfl) (by kernel_rfl) (rd_I205_4 N) trivial) (N:=N) (by kernel_rfl) (fn_I205 N) (.inl (by kernel_rfl))
noncomputable def h_I208:Hint:={ tab,hn:=[],loops:=[],outs:=[],ords:=[] }
noncomputable def sg_I208:List AK:=[.v tQIIIE .k]
noncomputable def F_I208 (N:Nat) (x:AVals sg_I208) (kf:Ret→Option Ret):Option Ret:=I208 N x.1 (fun r0=>kf ⟨[⟨(.int .i64),.k,r0⟩],[]⟩)
noncomputable def run_I208 (N:Nat):=runOf sg_I208 (F_I208 N)
noncomputable def es_I208 (N:Nat):List Entry:=[]
noncomputable def body_I208:Code:=match Tryz.f208.body with | some c=>c | none=>.skip
theorem ls_I208:loopsIn body_I208=[]:=by kernel_rfl
theorem fn_I208 (N:Nat) (x:AVals sg_I208) (kf:Ret→Option Ret):F_I208 N x kf=peFunc h_I208 (Orc.of (es_I208 N)) (noL N N) Tryz.f208 (ashape sg_I208 x) kf:=by kernel_rfl
theorem sd_I208 {Γ : Gl} (N:Nat):Sound Γ Tryz.prog 208 (run_I208 N):=fun_ok2 (hh:=h_I208) mixed tab_ok (es:=es_I208 N) trivial (fn:=Tryz.f208) (body:=body_I208) (by kernel_rfl) (by kernel_rfl) (by kernel_rfl) (by kernel_rfl) (by kernel_rfl) (Lf:=noL N) (noL0 N) ls_I208 trivial (N:=N) (by kernel_rfl) (fn_I208 N) (.inl (by kernel_rfl))
noncomputable def ks_I206_l5:List Kd:=[dK,.v (.int .i64) .k,dK,dK,dK,.v (.int .i64) .k,dK,dK,dK,dK,dK,dK,.v (.sl tQIIIE) .k,.v (.int .i64) .k,.v (.int .i64) .k,dK,dK,dK,dK,dK,dK,dK,dK,dK,dK,dK]
noncomputable def ko_I206_l5_0:List Kd:=[dK,dK,dK,dK,dK,.v (.int .i64) .k,dK,dK,dK,dK,dK,dK,dK,dK,dK,dK,dK,dK,dK,dK,dK,dK,dK,dK,dK,dK]
noncomputable def h_I206:Hint:={ tab,hn:=[],loops:=[(5,ks_I206_l5)],outs:=[(5,2,ko_I206_l5_0)],ords:=[] }
noncomputable def sg_I206:List AK:=[.v (.sl tQIIIE) .k,.v (.int .i64) .k]
noncomputable def F_I206 (N:Nat) (x:AVals sg_I206) (kf:Ret→Option Ret):Option Ret:=I206 N x.1 x.2.1 (fun r0=>kf ⟨[⟨(.int .i64),.k,r0⟩],[]⟩)
noncomputable def run_I206 (N:Nat):=runOf sg_I206 (F_I206 N)
noncomputable def es_I206 (N:Nat):List Entry:=[⟨205,[.val],(run_I205 N)⟩,⟨208,[.val],(run_I208 N)⟩]
noncomputable def body_I206:Code:=match Tryz.f206.body with | some c=>c | none=>.skip
noncomputable def L_I206 (N n:Nat) (key:Nat) (S:St) (K:Ks):Option Ret:=bif Nat.beq key 5 then withVals ks_I206_l5 S (fun x=>I206_l5 N x.1 x.2.2.1 x.2.2.2.1 n (fun z0=>K (.x 0) (shape ko_I206_l5_0 (z0,()))) x.2.1 x.2.2.2.2.1) else none
theorem L0_I206 (N key:Nat) (S:St) (K:Ks):L_I206 N 0 key S K=none:=(bif0 (withVals0 fun _=>rfl) rfl)
noncomputable def c_I206_0:Code:=(loopsIn body_I206).getD 0 .skip
theorem ls_I206:loopsIn body_I206=[c_I206_0]:=by kernel_rfl
theorem rd_I206_5 (N n:Nat) (x:Vals ks_I206_l5) (K:Ks):L_I206 N (n + 1) 5 (shape ks_I206_l5 x) (h_I206.onOut 5 K)=peRound h_I206 (Orc.of (es_I206 N)) (mixL (L_I206 N) N n 5) c_I206_0 (shape ks_I206_l5 x) (h_I206.onOut 5 K):=by kernel_rfl
theorem fn_I206 (N:Nat) (x:AVals sg_I206) (kf:Ret→Option Ret):F_I206 N x kf=peFunc h_I206 (Orc.of (es_I206 N)) (L_I206 N N) Tryz.f206 (ashape sg_I206 x) kf:=by kernel_rfl
theorem sd_I206 {Γ : Gl} (N:Nat):Sound Γ Tryz.prog 206 (run_I206 N):=fun_ok2 (hh:=h_I206) mixed tab_ok (es:=es_I206 N) ⟨sd_I205 N,⟨sd_I208 N,trivial⟩⟩ (fn:=Tryz.f206) (body:=body_I206) (by kernel_rfl) (by kernel_rfl) (by kernel_rfl) (by kernel_rfl) (by kernel_rfl) (Lf:=L_I206 N) (L0_I206 N) ls_I206 (round_cons (key:=5) (ks:=ks_I206_l5) (by kernel_rfl) (by kernel_rfl) (rd_I206_5 N) trivial) (N:=N) (by kernel_rfl) (fn_I206 N) (.inl (by kernel_rfl))
noncomputable def ks_I207_l5:List Kd:=[dK,.v (.int .i64) .k,dK,dK,dK,.v (.int .i64) .k,dK,dK,dK,dK,dK,dK,.v (.sl tQIIIE) .k,.v (.int .i64) .k,.v (.int .i64) .k,dK,dK,dK,dK,dK,dK,dK,dK,dK,dK,dK,dK,dK,dK,dK,dK,dK,dK]
noncomputable def ko_I207_l5_0:List Kd:=[dK,dK,dK,dK,dK,.v (.int .i64) .k,dK,dK,dK,dK,dK,dK,dK,dK,dK,dK,dK,dK,dK,dK,dK,dK,dK,dK,dK,dK,dK,dK,dK,dK,dK,dK,dK]
noncomputable def h_I207:Hint:={ tab,hn:=[],loops:=[(5,ks_I207_l5)],outs:=[(5,2,ko_I207_l5_0)],ords:=[] }
noncomputable def sg_I207:List AK:=[.v (.sl tQIIIE) .k,.v (.int .i64) .k]
noncomputable def F_I207 (N:Nat) (x:AVals sg_I207) (kf:Ret→Option Ret):Option Ret:=I207 N x.1 x.2.1 (fun r0=>kf ⟨[⟨(.int .i64),.k,r0⟩],[]⟩)
noncomputable def run_I207 (N:Nat):=runOf sg_I207 (F_I207 N)
noncomputable def es_I207 (N:Nat):List Entry:=[⟨205,[.val],(run_I205 N)⟩]
noncomputable def body_I207:Code:=match Tryz.f207.body with | some c=>c | none=>.skip
noncomputable def L_I207 (N n:Nat) (key:Nat) (S:St) (K:Ks):Option Ret:=bif Nat.beq key 5 then withVals ks_I207_l5 S (fun x=>I207_l5 x.1 x.2.2.1 x.2.2.2.1 n (fun z0=>K (.x 0) (shape ko_I207_l5_0 (z0,()))) x.2.1 x.2.2.2.2.1) else none
theorem L0_I207 (N key:Nat) (S:St) (K:Ks):L_I207 N 0 key S K=none:=(bif0 (withVals0 fun _=>rfl) rfl)
noncomputable def c_I207_0:Code:=(loopsIn body_I207).getD 0 .skip
theorem ls_I207:loopsIn body_I207=[c_I207_0]:=by kernel_rfl
theorem rd_I207_5 (N n:Nat) (x:Vals ks_I207_l5) (K:Ks):L_I207 N (n + 1) 5 (shape ks_I207_l5 x) (h_I207.onOut 5 K)=peRound h_I207 (Orc.of (es_I207 N)) (mixL (L_I207 N) N n 5) c_I207_0 (shape ks_I207_l5 x) (h_I207.onOut 5 K):=by kernel_rfl
theorem fn_I207 (N:Nat) (x:AVals sg_I207) (kf:Ret→Option Ret):F_I207 N x kf=peFunc h_I207 (Orc.of (es_I207 N)) (L_I207 N N) Tryz.f207 (ashape sg_I207 x) kf:=by kernel_rfl
theorem sd_I207 {Γ : Gl} (N:Nat):Sound Γ Tryz.prog 207 (run_I207 N):=fun_ok2 (hh:=h_I207) mixed tab_ok (es:=es_I207 N) ⟨sd_I205 N,trivial⟩ (fn:=Tryz.f207) (body:=body_I207) (by kernel_rfl) (by kernel_rfl) (by kernel_rfl) (by kernel_rfl) (by kernel_rfl) (Lf:=L_I207 N) (L0_I207 N) ls_I207 (round_cons (key:=5) (ks:=ks_I207_l5) (by kernel_rfl) (by kernel_rfl) (rd_I207_5 N) trivial) (N:=N) (by kernel_rfl) (fn_I207 N) (.inl (by kernel_rfl))
noncomputable def h_I129:Hint:={ tab,hn:=[],loops:=[],outs:=[],ords:=[] }
noncomputable def sg_I129:List AK:=[.v (.sl tQIIIE) .k]
noncomputable def F_I129 (N:Nat) (x:AVals sg_I129) (kf:Ret→Option Ret):Option Ret:=I129 N x.1 (fun r0=>kf ⟨[⟨(.int .i64),.k,r0⟩],[]⟩)
noncomputable def run_I129 (N:Nat):=runOf sg_I129 (F_I129 N)
noncomputable def es_I129 (N:Nat):List Entry:=[⟨205,[.val],(run_I205 N)⟩,⟨206,[.val,.val],(run_I206 N)⟩,⟨207,[.val,.val],(run_I207 N)⟩,⟨208,[.val],(run_I208 N)⟩]
noncomputable def body_I129:Code:=match Tryz.f129.body with | some c=>c | none=>.skip
theorem ls_I129:loopsIn body_I129=[]:=by kernel_rfl
theorem fn_I129 (N:Nat) (x:AVals sg_I129) (kf:Ret→Option Ret):F_I129 N x kf=peFunc h_I129 (Orc.of (es_I129 N)) (noL N N) Tryz.f129 (ashape sg_I129 x) kf:=by kernel_rfl
theorem sd_I129 {Γ : Gl} (N:Nat):Sound Γ Tryz.prog 129 (run_I129 N):=fun_ok2 (hh:=h_I129) mixed tab_ok (es:=es_I129 N) ⟨sd_I205 N,⟨sd_I206 N,⟨sd_I207 N,⟨sd_I208 N,trivial⟩⟩⟩⟩ (fn:=Tryz.f129) (body:=body_I129) (by kernel_rfl) (by kernel_rfl) (by kernel_rfl) (by kernel_rfl) (by kernel_rfl) (Lf:=noL N) (noL0 N) ls_I129 trivial (N:=N) (by kernel_rfl) (fn_I129 N) (.inl (by kernel_rfl))
noncomputable def h_I128:Hint:={ tab,hn:=[],loops:=[],outs:=[],ords:=[(5,(OT.seq [4,5,6,7,8] (.own 65 (OT.seq [9,0,1,2,3,12,13,14,15,17] (.par [10,11,16,18] [[74,75],[65,66,67,68]] (.own 73 (OT.seq [19,20,21,22,23,24,25] .done)))))))] }
noncomputable def sg_I128:List AK:=[.v (.sl tQIIIIILIE) .k,.v (.int .i64) .k,.v (.int .i64) .k,.v (.int .i64) .k,.v (.int .i64) .k,.v (.int .i64) .k]
noncomputable def F_I128 (N:Nat) (x:AVals sg_I128) (kf:Ret→Option Ret):Option Ret:=I128 N x.1 x.2.1 x.2.2.1 x.2.2.2.1 x.2.2.2.2.1 x.2.2.2.2.2.1 (fun r0 r1=>kf ⟨[⟨(.sl tQIIIIILIE),(.o 46 none (.p .k (.p .k (.p .k (.p .k (.p .k (.o 3 none .k))))))),r0⟩,⟨.bool,.k,r1⟩],[]⟩)
noncomputable def run_I128 (N:Nat):=runOf sg_I128 (F_I128 N)
noncomputable def es_I128 (N:Nat):List Entry:=[⟨163,[.val],(run_I163 N)⟩,⟨40,[.val,.val],(run_I40 N)⟩,⟨143,[.val],(run_I143 N)⟩,⟨144,[.val,.val,.val],(run_I144 N)⟩]
noncomputable def body_I128:Code:=match Tryz.f128.body with | some c=>c | none=>.skip
theorem ls_I128:loopsIn body_I128=[]:=by kernel_rfl
theorem fn_I128 (N:Nat) (x:AVals sg_I128) (kf:Ret→Option Ret):F_I128 N x kf=peFunc h_I128 (Orc.of (es_I128 N)) (noL N N) Tryz.f128 (ashape sg_I128 x) kf:=by kernel_rfl
theorem sd_I128 {Γ : Gl} (N:Nat):Sound Γ Tryz.prog 128 (run_I128 N):=fun_ok2 (hh:=h_I128) mixed tab_ok (es:=es_I128 N) ⟨sd_I163 N,⟨sd_I40 N,⟨sd_I143 N,⟨sd_I144 N,trivial⟩⟩⟩⟩ (fn:=Tryz.f128) (body:=body_I128) (by kernel_rfl) (by kernel_rfl) (by kernel_rfl) (by kernel_rfl) (by kernel_rfl) (Lf:=noL N) (noL0 N) ls_I128 trivial (N:=N) (by kernel_rfl) (fn_I128 N) (.inl (by kernel_rfl))
noncomputable def h_I209:Hint:={ tab,hn:=[],loops:=[],outs:=[],ords:=[] }
noncomputable def sg_I209:List AK:=[.v tQIILIE .k,.v (.ptr (.int .i64)) .k]
noncomputable def F_I209 (N:Nat) (x:AVals sg_I209) (kf:Ret→Option Ret):Option Ret:=I209 N x.1 x.2.1 (fun r0=>kf ⟨[⟨.bool,.k,r0⟩],[]⟩)
noncomputable def run_I209 (N:Nat):=runOf sg_I209 (F_I209 N)
noncomputable def es_I209 (N:Nat):List Entry:=[]
noncomputable def body_I209:Code:=match Tryz.f209.body with | some c=>c | none=>.skip
theorem ls_I209:loopsIn body_I209=[]:=by kernel_rfl
theorem fn_I209 (N:Nat) (x:AVals sg_I209) (kf:Ret→Option Ret):F_I209 N x kf=peFunc h_I209 (Orc.of (es_I209 N)) (noL N N) Tryz.f209 (ashape sg_I209 x) kf:=by kernel_rfl
theorem sd_I209 {Γ : Gl} (N:Nat):Sound Γ Tryz.prog 209 (run_I209 N):=fun_ok2 (hh:=h_I209) mixed tab_ok (es:=es_I209 N) trivial (fn:=Tryz.f209) (body:=body_I209) (by kernel_rfl) (by kernel_rfl) (by kernel_rfl) (by kernel_rfl) (by kernel_rfl) (Lf:=noL N) (noL0 N) ls_I209 trivial (N:=N) (by kernel_rfl) (fn_I209 N) (.inl (by kernel_rfl))
noncomputable def ks_S80b_l2:List Kd:=[.v (.sl tQIILIE) .k,.clo 209 [.kv (.ptr (.int .i64))],dK,dK,dK,dK,dK,.v (.int .i64) .k,.v (.int .i64) .k,dK,dK,dK,dK,dK,dK,dK,dK,dK,dK]
noncomputable def ko_S80b_l2_0:List Kd:=[dK,dK,dK,dK,dK,dK,dK,dK,dK,dK,dK,dK,dK,dK,dK,dK,dK,dK,dK]
noncomputable def ko_S80b_l2_1:List Kd:=[dK,dK,dK,dK,.v (.int .i64) .k,dK,dK,dK,dK,dK,dK,dK,dK,dK,dK,dK,dK,dK,dK]
noncomputable def h_S80b:Hint:={ tab,hn:=[],loops:=[(2,ks_S80b_l2)],outs:=[(2,2,ko_S80b_l2_0),(2,1,ko_S80b_l2_1)],ords:=[] }
noncomputable def sg_S80b:List AK:=[.v (.sl tQIILIE) .k,.fn 209 [(.ptr (.int .i64))]]
noncomputable def F_S80b (N:Nat) (x:AVals sg_S80b) (kf:Ret→Option Ret):Option Ret:=S80b N x.1 x.2.1.1 (fun r0=>kf ⟨[⟨(.int .i64),.k,r0⟩],[]⟩)
noncomputable def run_S80b (N:Nat):=runOf sg_S80b (F_S80b N)
noncomputable def es_S80b (N:Nat):List Entry:=[⟨209,[.val],(run_I209 N)⟩]
noncomputable def body_S80b:Code:=match Tryz.f80.body with | some c=>c | none=>.skip
noncomputable def L_S80b (N n:Nat) (key:Nat) (S:St) (K:Ks):Option Ret:=bif Nat.beq key 2 then withVals ks_S80b_l2 S (fun x=>S80b_l2 N x.1 x.2.1.1 x.2.2.1 n (K (.x 0) (shape ko_S80b_l2_0 ())) (fun z0=>K .r (shape ko_S80b_l2_1 (z0,()))) x.2.2.2.1) else none
theorem L0_S80b (N key:Nat) (S:St) (K:Ks):L_S80b N 0 key S K=none:=(bif0 (withVals0 fun _=>rfl) rfl)
noncomputable def c_S80b_0:Code:=(loopsIn body_S80b).getD 0 .skip
theorem ls_S80b:loopsIn body_S80b=[c_S80b_0]:=by kernel_rfl
theorem rd_S80b_2 (N n:Nat) (x:Vals ks_S80b_l2) (K:Ks):L_S80b N (n + 1) 2 (shape ks_S80b_l2 x) (h_S80b.onOut 2 K)=peRound h_S80b (Orc.of (es_S80b N)) (mixL (L_S80b N) N n 2) c_S80b_0 (shape ks_S80b_l2 x) (h_S80b.onOut 2 K):=by kernel_rfl
theorem fn_S80b (N:Nat) (x:AVals sg_S80b) (kf:Ret→Option Ret):F_S80b N x kf=peFunc h_S80b (Orc.of (es_S80b N)) (L_S80b N N) Tryz.f80 (ashape sg_S80b x) kf:=by kernel_rfl
theorem sd_S80b {Γ : Gl} (N:Nat):Sound Γ Tryz.prog 80 (run_S80b N):=fun_ok2 (hh:=h_S80b) mixed tab_ok (es:=es_S80b N) ⟨sd_I209 N,trivial⟩ (fn:=Tryz.f80) (body:=body_S80b) (by kernel_rfl) (by kernel_rfl) (by kernel_rfl) (by kernel_rfl) (by kernel_rfl) (Lf:=L_S80b N) (L0_S80b N) ls_S80b (round_cons (key:=2) (ks:=ks_S80b_l2) (by kernel_rfl) (by kernel_rfl) (rd_S80b_2 N) trivial) (N:=N) (by kernel_rfl) (fn_S80b N) (.inl (by kernel_rfl))
noncomputable def h_I130:Hint:={ tab,hn:=[],loops:=[],outs:=[],ords:=[] }
noncomputable def sg_I130:List AK:=[.v (.sl tQIILIE) .k,.v (.int .i64) .k]
noncomputable def F_I130 (N:Nat) (x:AVals sg_I130) (kf:Ret→Option Ret):Option Ret:=I130 N x.1 x.2.1 (fun r0=>kf ⟨[⟨(.int .i64),.k,r0⟩],[]⟩)
noncomputable def run_I130 (N:Nat):=runOf sg_I130 (F_I130 N)
noncomputable def es_I130 (N:Nat):List Entry:=[⟨80,[.val,.val],(run_S80b N)⟩]
noncomputable def body_I130:Code:=match Tryz.f130.body with | some c=>c | none=>.skip
theorem ls_I130:loopsIn body_I130=[]:=by kernel_rfl
theorem fn_I130 (N:Nat) (x:AVals sg_I130) (kf:Ret→Option Ret):F_I130 N x kf=peFunc h_I130 (Orc.of (es_I130 N)) (noL N N) Tryz.f130 (ashape sg_I130 x) kf:=by kernel_rfl
theorem sd_I130 {Γ : Gl} (N:Nat):Sound Γ Tryz.prog 130 (run_I130 N):=fun_ok2 (hh:=h_I130) mixed tab_ok (es:=es_I130 N) ⟨sd_S80b N,trivial⟩ (fn:=Tryz.f130) (body:=body_I130) (by kernel_rfl) (by kernel_rfl) (by kernel_rfl) (by kernel_rfl) (by kernel_rfl) (Lf:=noL N) (noL0 N) ls_I130 trivial (N:=N) (by kernel_rfl) (fn_I130 N) (.inl (by kernel_rfl))
def ren_S131:Go.Shelf.Ren:=⟨fun n=>bif Nat.beq n 125 then 211 else bif Nat.beq n 128 then 244 else bif Nat.beq n 129 then 245 else bif Nat.beq n 189 then 131 else bif Nat.beq n 215 then 253 else bif Nat.beq n 216 then 241 else bif Nat.beq n 257 then 210 else bif Nat.beq n 294 then 235 else bif Nat.beq n 295 then 236 else bif Nat.beq n 296 then 237 else bif Nat.beq n 297 then 238 else bif Nat.beq n 298 then 239 else bif Nat.beq n 299 then 240 else bif Nat.beq n 300 then 242 else bif Nat.beq n 301 then 243 else bif Nat.beq n 328 then 254 else bif Nat.beq n 329 then 255 else bif Nat.beq n 330 then 256 else bif Nat.beq n 331 then 257 else bif Nat.beq n 332 then 258 else bif Nat.beq n 343 then 271 else n,fun n=>bif Nat.beq n 0 then 0 else bif Nat.beq n 3 then 3 else bif Nat.beq n 4 then 4 else bif Nat.beq n 5 then 5 else bif Nat.beq n 9 then 9 else bif Nat.beq n 28 then 27 else bif Nat.beq n 46 then 194 else bif Nat.beq n 51 then 216 else bif Nat.beq n 53 then 218 else bif Nat.beq n 131 then 213 else bif Nat.beq n 182 then 207 else bif Nat.beq n 183 then 208 else bif Nat.beq n 218 then 222 else bif Nat.beq n 222 then 226 else bif Nat.beq n 228 then 235 else bif Nat.beq n 229 then 236 else n,fun n=>n⟩
theorem lays_S131:Lays.n189 Tryz.prog ren_S131:={ mixed:=by kernel_rfl,f125:=by kernel_rfl,f128:=by kernel_rfl,f129:=by kernel_rfl,f189:=by kernel_rfl,f215:=by kernel_rfl,f216:=by kernel_rfl,f257:=by kernel_rfl,f294:=by kernel_rfl,f295:=by kernel_rfl,f296:=by kernel_rfl,f297:=by kernel_rfl,f298:=by kernel_rfl,f299:=by kernel_rfl,f300:=by kernel_rfl,f301:=by kernel_rfl,f328:=by kernel_rfl,f329:=by kernel_rfl,f330:=by kernel_rfl,f331:=by kernel_rfl,f332:=by kernel_rfl,f343:=by kernel_rfl,t0:=by kernel_rfl,a0:=fun w=>by kernel_rfl,z0:=fun w=>by kernel_rfl,v0:=fun w=>by kernel_rfl,t3:=by kernel_rfl,a3:=fun w=>by kernel_rfl,z3:=fun w=>by kernel_rfl,v3:=fun w=>by kernel_rfl,t4:=by kernel_rfl,a4:=fun w=>by kernel_rfl,z4:=fun w=>by kernel_rfl,v4:=fun w=>by kernel_rfl,t5:=by kernel_rfl,a5:=fun w=>by kernel_rfl,z5:=fun w=>by kernel_rfl,v5:=fun w=>by kernel_rfl,t9:=by kernel_rfl,a9:=fun w=>by kernel_rfl,z9:=fun w=>by kernel_rfl,v9:=fun w=>by kernel_rfl,t28:=by kernel_rfl,a28:=fun w=>by kernel_rfl,z28:=fun w=>by kernel_rfl,v28:=fun w=>by kernel_rfl,t46:=by kernel_rfl,a46:=fun w=>by kernel_rfl,z46:=fun w=>by kernel_rfl,v46:=fun w=>by kernel_rfl,t51:=by kernel_rfl,a51:=fun w=>by kernel_rfl,z51:=fun w=>by kernel_rfl,v51:=fun w=>by kernel_rfl,t53:=by kernel_rfl,a53:=fun w=>by kernel_rfl,z53:=fun w=>by kernel_rfl,v53:=fun w=>by kernel_rfl,t131:=by kernel_rfl,a131:=fun w=>by kernel_rfl,z131:=fun w=>by kernel_rfl,v131:=fun w=>by kernel_rfl,t182:=by kernel_rfl,a182:=fun w=>by kernel_rfl,z182:=fun w=>by kernel_rfl,v182:=fun w=>by kernel_rfl,t183:=by kernel_rfl,a183:=fun w=>by kernel_rfl,z183:=fun w=>by kernel_rfl,v183:=fun w=>by kernel_rfl,t218:=by kernel_rfl,a218:=fun w=>by kernel_rfl,z218:=fun w=>by kernel_rfl,v218:=fun w=>by kernel_rfl,t222:=by kernel_rfl,a222:=fun w=>by kernel_rfl,z222:=fun w=>by kernel_rfl,v222:=fun w=>by kernel_rfl,t228:=by kernel_rfl,a228:=fun w=>by kernel_rfl,z228:=fun w=>by kernel_rfl,v228:=fun w=>by kernel_rfl,t229:=by kernel_rfl,a229:=fun w=>by kernel_rfl,z229:=fun w=>by kernel_rfl,v229:=fun w=>by kernel_rfl }
noncomputable def sg_S131:List AK:=[.v (.sl (.int .i64)) (.o 3 (some 0) .k)]
noncomputable def F_S131 (N:Nat) (x:AVals sg_S131) (kf:Ret→Option Ret):Option Ret:=S131 N x.1 (fun z=>kf ⟨[],[⟨(.sl (.int .i64)),(.o 3 (some 0) .k),z⟩]⟩)
noncomputable def run_S131 (N:Nat):=runOf sg_S131 (F_S131 N)
theorem sd_S131 {Γ : Gl} (N:Nat):Sound Γ Tryz.prog 131 (run_S131 N):=sound_sort lays_S131 3
def ren_S132:Go.Shelf.Ren:=⟨fun n=>bif Nat.beq n 20 then 132 else n,fun n=>bif Nat.beq n 0 then 0 else bif Nat.beq n 3 then 3 else bif Nat.beq n 4 then 4 else bif Nat.beq n 22 then 27 else n,fun n=>n⟩
theorem lays_S132:Lays2.n20 Tryz.prog ren_S132:={ mixed:=by kernel_rfl,f20:=by kernel_rfl,t0:=by kernel_rfl,a0:=fun w=>by kernel_rfl,z0:=fun w=>by kernel_rfl,v0:=fun w=>by kernel_rfl,t3:=by kernel_rfl,a3:=fun w=>by kernel_rfl,z3:=fun w=>by kernel_rfl,v3:=fun w=>by kernel_rfl,t4:=by kernel_rfl,a4:=fun w=>by kernel_rfl,z4:=fun w=>by kernel_rfl,v4:=fun w=>by kernel_rfl,t22:=by kernel_rfl,a22:=fun w=>by kernel_rfl,z22:=fun w=>by kernel_rfl,v22:=fun w=>by kernel_rfl,i3:=by kernel_rfl }
noncomputable def sg_S132:List AK:=[.v (.sl (.int .i64)) (.o 3 none .k)]
noncomputable def F_S132 (N:Nat) (x:AVals sg_S132) (kf:Ret→Option Ret):Option Ret:=S132 N x.1 (fun r0=>kf ⟨[⟨(.sl (.int .i64)),(.o 3 none .k),r0⟩],[]⟩)
noncomputable def run_S132 (N:Nat):=runOf sg_S132 (F_S132 N)
theorem sd_S132 {Γ : Gl} (N:Nat):Sound Γ Tryz.prog 132 (run_S132 N):=sound_compact lays_S132 3
end Go.Pv.R
