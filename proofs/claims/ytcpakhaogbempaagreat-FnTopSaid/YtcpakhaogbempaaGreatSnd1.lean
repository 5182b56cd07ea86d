/- Each function of the program that the law reaches computes its plain function, part 1. -/
import Derived.Test.YtcpakhaogbempaaGreatSnd0
import Derived.Test.YtcpakhaogbempaaGreatProg
namespace Go.Pv.R
open Go.Proofs
set_option linter.unusedVariables false
set_option maxRecDepth 100000
noncomputable def h_I103:Hint:={ tab,hn:=[],loops:=[],outs:=[],ords:=[] }
noncomputable def sg_I103:List AK:=[.v tQLQIIIIILIELQIILIELQIIELILQIIIELQIIIIEIE .k,.v tQLQIIIIILIELQIILIELQIIELILQIIIELQIIIIEIE (.p (.o 46 none (.p .k (.p .k (.p .k (.p .k (.p .k (.o 3 none .k))))))) (.p (.o 80 none (.p .k (.p .k (.o 3 none .k)))) (.p (.o 104 none .k) (.p (.o 3 none .k) (.p (.o 136 none .k) (.p (.o 102 none .k) .k)))))),.v (.int .i64) .k,.v (.int .i64) .k]
noncomputable def F_I103 (N:Nat) (x:AVals sg_I103) (kf:Ret→Option Ret):Option Ret:=I103 N x.1 x.2.1 x.2.2.1 x.2.2.2.1 (fun r0 r1=>kf ⟨[⟨tQLQIIIIILIELQIILIELQIIELILQIIIELQIIIIEIE,(.p (.o 46 none (.p .k (.p .k (.p .k (.p .k (.p .k (.o 3 none .k))))))) (.p (.o 80 none (.p .k (.p .k (.o 3 none .k)))) (.p (.o 104 none .k) (.p (.o 3 none .k) (.p (.o 136 none .k) (.p (.o 102 none .k) .k)))))),r0⟩,⟨.bool,.k,r1⟩],[]⟩)
noncomputable def run_I103 (N:Nat):=runOf sg_I103 (F_I103 N)
noncomputable def es_I103 (N:Nat):List Entry:=[⟨189,[.val,.val,.val],(run_I189 N)⟩,⟨39,[.val],(run_I39 N)⟩,⟨70,[.val],(run_I70 N)⟩]
noncomputable def body_I103:Code:=match Tryz.f103.body with | some c=>c | none=>.skip
theorem ls_I103:loopsIn body_I103=[]:=by kernel_rfl
theorem fn_I103 (N:Nat) (x:AVals sg_I103) (kf:Ret→Option Ret):F_I103 N x kf=peFunc h_I103 (Orc.of (es_I103 N)) (noL N N) Tryz.f103 (ashape sg_I103 x) kf:=by kernel_rfl
theorem sd_I103 {Γ : Gl} (N:Nat):Sound Γ Tryz.prog 103 (run_I103 N):=fun_ok2 (hh:=h_I103) mixed tab_ok (es:=es_I103 N) ⟨sd_I189 N,⟨sd_I39 N,⟨sd_I70 N,trivial⟩⟩⟩ (fn:=Tryz.f103) (body:=body_I103) (by kernel_rfl) (by kernel_rfl) (by kernel_rfl) (by kernel_rfl) (by kernel_rfl) (Lf:=noL N) (noL0 N) ls_I103 trivial (N:=N) (by kernel_rfl) (fn_I103 N) (.inl (by kernel_rfl))
noncomputable def ks_I30_l5:List Kd:=[dK,.v (.int .i64) .k,.v (.int .i64) .k,.v (.ptr tQLQIIIIILIELQIILIELQIIELILQIIIELQIIIIEIE) (.o 31 none .k),dK,dK,.v (.ptr tQLQIIIIILIELQIILIELQIIELILQIIIELQIIIIEIE) (.o 31 none (.p (.o 46 none (.p .k (.p .k (.p .k (.p .k (.p .k (.o 3 none .k))))))) (.p (.o 80 none (.p .k (.p .k (.o 3 none .k)))) (.p (.o 104 none .k) (.p (.o 3 none .k) (.p (.o 136 none .k) (.p (.o 102 none .k) .k))))))),dK,.v (.ptr tQLQIIIIILIELQIILIELQIIELILQIIIELQIIIIEIE) (.o 31 none (.p (.o 46 none (.p .k (.p .k (.p .k (.p .k (.p .k (.o 3 none .k))))))) (.p (.o 80 none (.p .k (.p .k (.o 3 none .k)))) (.p (.o 104 none .k) (.p (.o 3 none .k) (.p (.o 136 none .k) (.p (.o 102 none .k) .k))))))),.v (.int .i64) .k,dK,dK,dK,dK,dK,dK,dK,dK,dK,dK,dK,dK,dK,dK,dK,dK,dK,dK,dK,dK,dK,dK,dK,dK,dK,dK,dK,dK,dK,dK,dK,dK,dK,dK,dK,dK,dK,dK,dK,dK,dK,dK,dK,dK]
noncomputable def ko_I30_l5_0:List Kd:=[dK,.v (.int .i64) .k,.v (.int .i64) .k,.v (.ptr tQLQIIIIILIELQIILIELQIIELILQIIIELQIIIIEIE) (.o 31 none .k),dK,dK,.v (.ptr tQLQIIIIILIELQIILIELQIIELILQIIIELQIIIIEIE) (.o 31 none (.p (.o 46 none (.p .k (.p .k (.p .k (.p .k (.p .k (.o 3 none .k))))))) (.p (.o 80 none (.p .k (.p .k (.o 3 none .k)))) (.p (.o 104 none .k) (.p (.o 3 none .k) (.p (.o 136 none .k) (.p (.o 102 none .k) .k))))))),dK,.v (.ptr tQLQIIIIILIELQIILIELQIIELILQIIIELQIIIIEIE) (.o 31 none (.p (.o 46 none (.p .k (.p .k (.p .k (.p .k (.p .k (.o 3 none .k))))))) (.p (.o 80 none (.p .k (.p .k (.o 3 none .k)))) (.p (.o 104 none .k) (.p (.o 3 none .k) (.p (.o 136 none .k) (.p (.o 102 none .k) .k))))))),.v (.int .i64) .k,dK,dK,dK,dK,dK,dK,dK,dK,dK,dK,dK,dK,dK,dK,dK,dK,dK,dK,dK,dK,dK,dK,dK,dK,dK,dK,dK,dK,dK,dK,dK,dK,dK,dK,dK,dK,dK,dK,dK,dK,dK,dK,dK,dK]
noncomputable def h_I30:Hint:={ tab,hn:=[],loops:=[(5,ks_I30_l5)],outs:=[(5,2,ko_I30_l5_0)],ords:=[] }
noncomputable def sg_I30:List AK:=[.v tQLQIIIIILIELQIILIELQIIELILQIIIELQIIIIEIE .k,.v (.int .i64) .k,.v (.int .i64) .k]
noncomputable def F_I30 (N:Nat) (x:AVals sg_I30) (kf:Ret→Option Ret):Option Ret:=I30 N x.1 x.2.1 x.2.2.1 (fun r0 r1=>kf ⟨[⟨tQLQIIIIILIELQIILIELQIIELILQIIIELQIIIIEIE,(.p (.o 46 none (.p .k (.p .k (.p .k (.p .k (.p .k (.o 3 none .k))))))) (.p (.o 80 none (.p .k (.p .k (.o 3 none .k)))) (.p (.o 104 none .k) (.p (.o 3 none .k) (.p (.o 136 none .k) (.p (.o 102 none .k) .k)))))),r0⟩,⟨.bool,.k,r1⟩],[]⟩)
noncomputable def run_I30 (N:Nat):=runOf sg_I30 (F_I30 N)
noncomputable def es_I30 (N:Nat):List Entry:=[⟨70,[.val],(run_I70 N)⟩,⟨40,[.val,.val],(run_I40 N)⟩,⟨16,[.val],(run_I16 N)⟩,⟨135,[.take,.val,.take],(run_S135 N)⟩,⟨103,[.val,.take,.val,.val],(run_I103 N)⟩]
noncomputable def body_I30:Code:=match Tryz.f30.body with | some c=>c | none=>.skip
noncomputable def L_I30 (N n:Nat) (key:Nat) (S:St) (K:Ks):Option Ret:=bif Nat.beq key 5 then withVals ks_I30_l5 S (fun x=>I30_l5 x.1 x.2.1 x.2.2.1 x.2.2.2.1 x.2.2.2.2.1 n (fun z0=>K (.x 0) (shape ko_I30_l5_0 (x.1,x.2.1,x.2.2.1,x.2.2.2.1,x.2.2.2.2.1,z0,()))) x.2.2.2.2.2.1) else none
theorem L0_I30 (N key:Nat) (S:St) (K:Ks):L_I30 N 0 key S K=none:=(bif0 (withVals0 fun _=>rfl) rfl)
noncomputable def c_I30_0:Code:=(loopsIn body_I30).getD 0 .skip
theorem ls_I30:loopsIn body_I30=[c_I30_0]:=by kernel_rfl
theorem rd_I30_5 (N n:Nat) (x:Vals ks_I30_l5) (K:Ks):L_I30 N (n + 1) 5 (shape ks_I30_l5 x) (h_I30.onOut 5 K)=peRound h_I30 (Orc.of (es_I30 N)) (mixL (L_I30 N) N n 5) c_I30_0 (shape ks_I30_l5 x) (h_I30.onOut 5 K):=by kernel_rfl
theorem fn_I30 (N:Nat) (x:AVals sg_I30) (kf:Ret→Option Ret):F_I30 N x kf=peFunc h_I30 (Orc.of (es_I30 N)) (L_I30 N N) Tryz.f30 (ashape sg_I30 x) kf:=by kernel_rfl
theorem sd_I30 {Γ : Gl} (N:Nat):Sound Γ Tryz.prog 30 (run_I30 N):=fun_ok2 (hh:=h_I30) mixed tab_ok (es:=es_I30 N) ⟨sd_I70 N,⟨sd_I40 N,⟨sd_I16 N,⟨sd_S135 N,⟨sd_I103 N,trivial⟩⟩⟩⟩⟩ (fn:=Tryz.f30) (body:=body_I30) (by kernel_rfl) (by kernel_rfl) (by kernel_rfl) (by kernel_rfl) (by kernel_rfl) (Lf:=L_I30 N) (L0_I30 N) ls_I30 (round_cons (key:=5) (ks:=ks_I30_l5) (by kernel_rfl) (by kernel_rfl) (rd_I30_5 N) trivial) (N:=N) (by kernel_rfl) (fn_I30 N) (.inl (by kernel_rfl))
noncomputable def h_I209:Hint:={ tab,hn:=[],loops:=[],outs:=[],ords:=[] }
noncomputable def sg_I209:List AK:=[.v tQIILIE .k,.v (.ptr (.int .i64)) .k]
noncomputable def F_I209 (N:Nat) (x:AVals sg_I209) (kf:Ret→Option Ret):Option Ret:=I209 N x.1 x.2.1 (fun r0=>kf ⟨[⟨.bool,.k,r0⟩],[]⟩)
noncomputable def run_I209 (N:Nat):=runOf sg_I209 (F_I209 N)
noncomputable def es_I209 (N:Nat):List Entry:=[]
noncomputable def body_I209:Code:=match Tryz.f209.body with | some c=>c | none=>.skip
theorem ls_I209:loopsIn body_I209=[]:=by kernel_rfl
theorem fn_I209 (N:Nat) (x:AVals sg_I209) (kf:Ret→Option Ret):F_I209 N x kf=peFunc h_I209 (Orc.of (es_I209 N)) (noL N N) Tryz.f209 (ashape sg_I209 x) kf:=by kernel_rfl
theorem sd_I209 {Γ : Gl} (N:Nat):Sound Γ Tryz.prog 209 (run_I209 N):=fun_ok2 (hh:=h_I209) mixed tab_ok (es:=es_I209 N) trivial (fn:=Tryz.f209) (body:=body_I209) (by kernel_rfl) (by kernel_rfl) (by kernel_rfl) (by kernel_rfl) (by kernel_rfl) (Lf:=noL N) (noL0 N) ls_I209 trivial (N:=N) (by kernel_rfl) (fn_I209 N) (.inl (by kernel_rfl))
noncomputable def ks_S80b_l2:List Kd:=[.v (.sl tQIILIE) .k,.clo 209 [.kv (.ptr (.int .i64))],dK,dK,dK,dK,dK,.v (.int .i64) .k,.v (.int .i64) .k,dK,dK,dK,dK,dK,dK,dK,dK,dK,dK]
noncomputable def ko_S80b_l2_0:List Kd:=[dK,dK,dK,dK,dK,dK,dK,dK,dK,dK,dK,dK,dK,dK,dK,dK,dK,dK,dK]
noncomputable def ko_S80b_l2_1:List Kd:=[dK,dK,dK,dK,.v (.int .i64) .k,dK,dK,dK,dK,dK,dK,dK,dK,dK,dK,dK,dK,dK,dK]
noncomputable def h_S80b:Hint:={ tab,hn:=[],loops:=[(2,ks_S80b_l2)],outs:=[(2,2,ko_S80b_l2_0),(2,1,ko_S80b_l2_1)],ords:=[] }
noncomputable def sg_S80b:List AK:=[.v (.sl tQIILIE) .k,.fn 209 [(.ptr (.int .i64))]]
noncomputable def F_S80b (N:Nat) (x:AVals sg_S80b) (kf:Ret→Option Ret):Option Ret:=S80b N x.1 x.2.1.1 (fun r0=>kf ⟨[⟨(.int .i64),.k,r0⟩],[]⟩)
noncomputable def run_S80b (N:Nat):=runOf sg_S80b (F_S80b N)
noncomputable def es_S80b (N:Nat):List Entry:=[⟨209,[.val],(run_I209 N)⟩]
noncomputable def body_S80b:Code:=match Tryz.f80.body with | some c=>c | none=>.skip
noncomputable def L_S80b (N n:Nat) (key:Nat) (S:St) (K:Ks):Option Ret:=bif Nat.beq key 2 then withVals ks_S80b_l2 S (fun x=>S80b_l2 N x.1 x.2.1.1 x.2.2.1 n (K (.x 0) (shape ko_S80b_l2_0 ())) (fun z0=>K .r (shape ko_S80b_l2_1 (z0,()))) x.2.2.2.1) else none
theorem L0_S80b (N key:Nat) (S:St) (K:Ks):L_S80b N 0 key S K=none:=(bif0 (withVals0 fun _=>rfl) rfl)
noncomputable def c_S80b_0:Code:=(loopsIn body_S80b).getD 0 .skip
theorem ls_S80b:loopsIn body_S80b=[c_S80b_0]:=by kernel_rfl
theorem rd_S80b_2 (N n:Nat) (x:Vals ks_S80b_l2) (K:Ks):L_S80b N (n + 1) 2 (shape ks_S80b_l2 x) (h_S80b.onOut 2 K)=peRound h_S80b (Orc.of (es_S80b N)) (mixL (L_S80b N) N n 2) c_S80b_0 (shape ks_S80b_l2 x) (h_S80b.onOut 2 K):=by kernel_rfl
theorem fn_S80b (N:Nat) (x:AVals sg_S80b) (kf:Ret→Option Ret):F_S80b N x kf=peFunc h_S80b (Orc.of (es_S80b N)) (L_S80b N N) Tryz.f80 (ashape sg_S80b x) kf:=by kernel_rfl
theorem sd_S80b {Γ : Gl} (N:Nat):Sound Γ Tryz.prog 80 (run_S80b N):=fun_ok2 (hh:=h_S80b) mixed tab_ok (es:=es_S80b N) ⟨sd_I209 N,trivial⟩ (fn:=Tryz.f80) (body:=body_S80b) (by kernel_rfl) (by kernel_rfl) (by kernel_rfl) (by kernel_rfl) (by kernel_rfl) (Lf:=L_S80b N) (L0_S80b N) ls_S80b (round_cons (key:=2) (ks:=ks_S80b_l2) (by kernel_rfl) (by kernel_rfl) (rd_S80b_2 N) trivial) (N:=N) (by kernel_rfl) (fn_S80b N) (.inl (by kernel_rfl))
noncomputable def h_I130:Hint:={ tab,hn:=[],loops:=[],outs:=[],ords:=[] }
noncomputable def sg_I130:List AK:=[.v (.sl tQIILIE) .k,.v (.int .i64) .k]
noncomputable def F_I130 (N:Nat) (x:AVals sg_I130) (kf:Ret→Option Ret):Option Ret:=I130 N x.1 x.2.1 (fun r0=>kf ⟨[⟨(.int .i64),.k,r0⟩],[]⟩)
noncomputable def run_I130 (N:Nat):=runOf sg_I130 (F_I130 N)
noncomputable def es_I130 (N:Nat):List Entry:=[⟨80,[.val,.val],(run_S80b N)⟩]
noncomputable def body_I130:Code:=match Tryz.f130.body with | some c=>c | none=>.skip
theorem ls_I130:loopsIn body_I130=[]:=by kernel_rfl
theorem fn_I130 (N:Nat) (x:AVals sg_I130) (kf:Ret→Option Ret):F_I130 N x kf=peFunc h_I130 (Orc.of (es_I130 N)) (noL N N) Tryz.f130 (ashape sg_I130 x) kf:=by kernel_rfl
theorem sd_I130 {Γ : Gl} (N:Nat):Sound Γ Tryz.prog 130 (run_I130 N):=fun_ok2 (hh:=h_I130) mixed tab_ok (es:=es_I130 N) ⟨sd_S80b N,trivial⟩ (fn:=Tryz.f130) (body:=body_I130) (by kernel_rfl) (by kernel_rfl) (by kernel_rfl) (by kernel_rfl) (by kernel_rfl) (Lf:=noL N) (noL0 N) ls_I130 trivial (N:=N) (by kernel_rfl) (fn_I130 N) (.inl (by kernel_rfl))
def ren_S136:Go.Shelf.Ren:=⟨fun n=>bif Nat.beq n 22 then 136 else bif Nat.beq n 29 then 214 else bif Nat.beq n 30 then 215 else n,fun n=>bif Nat.beq n 0 then 0 else bif Nat.beq n 3 then 3 else bif Nat.beq n 4 then 4 else bif Nat.beq n 9 then 80 else bif Nat.beq n 24 then 25 else n,fun n=>n⟩
def zs_S136:Array Value:=#[.int .i64 0,.int .i64 0,.slice none 0 0]
noncomputable def ti_S136:TypeInfo:=(Tryz.prog.info? 80).get (by kernel_rfl)
theorem ins_S136:InsOK Tryz.prog ren_S136 (Ty.size tQIILIE) zs_S136 ti_S136:={ FB:=⟨Tryz.f136.name,by kernel_rfl,by kernel_rfl⟩,FO:=⟨Tryz.f214,by kernel_rfl,by kernel_rfl,by kernel_rfl,by kernel_rfl,by kernel_rfl⟩,mixed:=by kernel_rfl,t0:=by kernel_rfl,a0:=fun w=>by kernel_rfl,z0:=fun w=>by kernel_rfl,v0:=fun w=>by kernel_rfl,t3:=by kernel_rfl,a3:=fun w=>by kernel_rfl,z3:=fun w=>by kernel_rfl,v3:=fun w=>by kernel_rfl,t4:=by kernel_rfl,a4:=fun w=>by kernel_rfl,z4:=fun w=>by kernel_rfl,v4:=fun w=>by kernel_rfl,t24:=by kernel_rfl,a24:=fun w=>by kernel_rfl,z24:=fun w=>by kernel_rfl,v24:=fun w=>by kernel_rfl,z9:=fun w=>by kernel_rfl,hz:=by kernel_rfl,hzo:=by kernel_rfl,hi0:=by kernel_rfl,hz0:=by kernel_rfl,hz1:=by kernel_rfl,hby:=Nat.le_of_ble_eq_true (by kernel_rfl),hpos:=Nat.le_of_ble_eq_true (by kernel_rfl) }
noncomputable def sg_S136:List AK:=[.v (.sl tQIILIE) (.o 80 none (.p .k (.p .k (.o 3 none .k)))),.v (.int .i64) .k,.v (.sl tQIILIE) (.o 80 none (.p .k (.p .k (.o 3 none .k))))]
noncomputable def F_S136 (N:Nat) (x:AVals sg_S136) (kf:Ret→Option Ret):Option Ret:=S136 N x.1 x.2.1 x.2.2.1 (fun r0=>kf ⟨[⟨(.sl tQIILIE),(.o 80 none (.p .k (.p .k (.o 3 none .k)))),r0⟩],[]⟩)
noncomputable def run_S136 (N:Nat):=runOf sg_S136 (F_S136 N)
theorem sd_S136 {Γ : Gl} (N:Nat):Sound Γ Tryz.prog 136 (run_S136 N):=sound_insert ins_S136 (.p .k (.p .k (.o 3 none .k))) (by kernel_rfl)
noncomputable def ks_I32_l5:List Kd:=[dK,.v (.int .i64) .k,.v (.int .i64) .k,.v (.ptr tQLQIIIIILIELQIILIELQIIELILQIIIELQIIIIEIE) (.o 31 none .k),dK,dK,.v (.ptr tQLQIIIIILIELQIILIELQIIELILQIIIELQIIIIEIE) (.o 31 none (.p (.o 46 none (.p .k (.p .k (.p .k (.p .k (.p .k (.o 3 none .k))))))) (.p (.o 80 none (.p .k (.p .k (.o 3 none .k)))) (.p (.o 104 none .k) (.p (.o 3 none .k) (.p (.o 136 none .k) (.p (.o 102 none .k) .k))))))),dK,.v (.ptr tQLQIIIIILIELQIILIELQIIELILQIIIELQIIIIEIE) (.o 31 none (.p (.o 46 none (.p .k (.p .k (.p .k (.p .k (.p .k (.o 3 none .k))))))) (.p (.o 80 none (.p .k (.p .k (.o 3 none .k)))) (.p (.o 104 none .k) (.p (.o 3 none .k) (.p (.o 136 none .k) (.p (.o 102 none .k) .k))))))),.v (.int .i64) .k,dK,dK,dK,dK,dK,dK,dK,dK,dK,dK,dK,dK,dK,dK,dK,dK,dK,dK,dK,dK,dK,dK,dK,dK,dK,dK,dK,dK,dK,dK,dK,dK,dK,dK,dK,dK,dK,dK,dK,dK]
noncomputable def ko_I32_l5_0:List Kd:=[dK,.v (.int .i64) .k,.v (.int .i64) .k,.v (.ptr tQLQIIIIILIELQIILIELQIIELILQIIIELQIIIIEIE) (.o 31 none .k),dK,dK,.v (.ptr tQLQIIIIILIELQIILIELQIIELILQIIIELQIIIIEIE) (.o 31 none (.p (.o 46 none (.p .k (.p .k (.p .k (.p .k (.p .k (.o 3 none .k))))))) (.p (.o 80 none (.p .k (.p .k (.o 3 none .k)))) (.p (.o 104 none .k) (.p (.o 3 none .k) (.p (.o 136 none .k) (.p (.o 102 none .k) .k))))))),dK,.v (.ptr tQLQIIIIILIELQIILIELQIIELILQIIIELQIIIIEIE) (.o 31 none (.p (.o 46 none (.p .k (.p .k (.p .k (.p .k (.p .k (.o 3 none .k))))))) (.p (.o 80 none (.p .k (.p .k (.o 3 none .k)))) (.p (.o 104 none .k) (.p (.o 3 none .k) (.p (.o 136 none .k) (.p (.o 102 none .k) .k))))))),.v (.int .i64) .k,dK,dK,dK,dK,dK,dK,dK,dK,dK,dK,dK,dK,dK,dK,dK,dK,dK,dK,dK,dK,dK,dK,dK,dK,dK,dK,dK,dK,dK,dK,dK,dK,dK,dK,dK,dK,dK,dK,dK,dK]
noncomputable def h_I32:Hint:={ tab,hn:=[],loops:=[(5,ks_I32_l5)],outs:=[(5,2,ko_I32_l5_0)],ords:=[] }
noncomputable def sg_I32:List AK:=[.v tQLQIIIIILIELQIILIELQIIELILQIIIELQIIIIEIE .k,.v (.int .i64) .k,.v (.int .i64) .k]
noncomputable def F_I32 (N:Nat) (x:AVals sg_I32) (kf:Ret→Option Ret):Option Ret:=I32 N x.1 x.2.1 x.2.2.1 (fun r0 r1=>kf ⟨[⟨tQLQIIIIILIELQIILIELQIIELILQIIIELQIIIIEIE,(.p (.o 46 none (.p .k (.p .k (.p .k (.p .k (.p .k (.o 3 none .k))))))) (.p (.o 80 none (.p .k (.p .k (.o 3 none .k)))) (.p (.o 104 none .k) (.p (.o 3 none .k) (.p (.o 136 none .k) (.p (.o 102 none .k) .k)))))),r0⟩,⟨.bool,.k,r1⟩],[]⟩)
noncomputable def run_I32 (N:Nat):=runOf sg_I32 (F_I32 N)
noncomputable def es_I32 (N:Nat):List Entry:=[⟨70,[.val],(run_I70 N)⟩,⟨130,[.val,.val],(run_I130 N)⟩,⟨136,[.take,.val,.take],(run_S136 N)⟩,⟨103,[.val,.take,.val,.val],(run_I103 N)⟩]
noncomputable def body_I32:Code:=match Tryz.f32.body with | some c=>c | none=>.skip
noncomputable def L_I32 (N n:Nat) (key:Nat) (S:St) (K:Ks):Option Ret:=bif Nat.beq key 5 then withVals ks_I32_l5 S (fun x=>I32_l5 x.1 x.2.1 x.2.2.1 x.2.2.2.1 x.2.2.2.2.1 n (fun z0=>K (.x 0) (shape ko_I32_l5_0 (x.1,x.2.1,x.2.2.1,x.2.2.2.1,x.2.2.2.2.1,z0,()))) x.2.2.2.2.2.1) else none
theorem L0_I32 (N key:Nat) (S:St) (K:Ks):L_I32 N 0 key S K=none:=(bif0 (withVals0 fun _=>rfl) rfl)
noncomputable def c_I32_0:Code:=(loopsIn body_I32).getD 0 .skip
theorem ls_I32:loopsIn body_I32=[c_I32_0]:=by kernel_rfl
theorem rd_I32_5 (N n:Nat) (x:Vals ks_I32_l5) (K:Ks):L_I32 N (n + 1) 5 (shape ks_I32_l5 x) (h_I32.onOut 5 K)=peRound h_I32 (Orc.of (es_I32 N)) (mixL (L_I32 N) N n 5) c_I32_0 (shape ks_I32_l5 x) (h_I32.onOut 5 K):=by kernel_rfl
theorem fn_I32 (N:Nat) (x:AVals sg_I32) (kf:Ret→Option Ret):F_I32 N x kf=peFunc h_I32 (Orc.of (es_I32 N)) (L_I32 N N) Tryz.f32 (ashape sg_I32 x) kf:=by kernel_rfl
theorem sd_I32 {Γ : Gl} (N:Nat):Sound Γ Tryz.prog 32 (run_I32 N):=fun_ok2 (hh:=h_I32) mixed tab_ok (es:=es_I32 N) ⟨sd_I70 N,⟨sd_I130 N,⟨sd_S136 N,⟨sd_I103 N,trivial⟩⟩⟩⟩ (fn:=Tryz.f32) (body:=body_I32) (by kernel_rfl) (by kernel_rfl) (by kernel_rfl) (by kernel_rfl) (by kernel_rfl) (Lf:=L_I32 N) (L0_I32 N) ls_I32 (round_cons (key:=5) (ks:=ks_I32_l5) (by kernel_rfl) (by kernel_rfl) (rd_I32_5 N) trivial) (N:=N) (by kernel_rfl) (fn_I32 N) (.inl (by kernel_rfl))
noncomputable def h_S229:Hint:={ tab,hn:=[],loops:=[],outs:=[],ords:=[] }
noncomputable def sg_S229:List AK:=[.v (.sl tQIIIIILIE) .k]
noncomputable def F_S229 (N:Nat) (x:AVals sg_S229) (kf:Ret→Option Ret):Option Ret:=S229 N x.1 (fun r0=>kf ⟨[⟨(.sl tQIIIIILIE),(.o 46 none .k),r0⟩],[]⟩)
noncomputable def run_S229 (N:Nat):=runOf sg_S229 (F_S229 N)
noncomputable def es_S229 (N:Nat):List Entry:=[]
noncomputable def body_S229:Code:=match Tryz.f229.body with | some c=>c | none=>.skip
theorem ls_S229:loopsIn body_S229=[]:=by kernel_rfl
theorem fn_S229 (N:Nat) (x:AVals sg_S229) (kf:Ret→Option Ret):F_S229 N x kf=peFunc h_S229 (Orc.of (es_S229 N)) (noL N N) Tryz.f229 (ashape sg_S229 x) kf:=by kernel_rfl
theorem det_S229 (N:Nat) (x:AVals sg_S229):Det (F_S229 N x):=by
 obtain ⟨l,u⟩:=x
 unfold F_S229 S229
 cases l with
 | nil=>exact ⟨some _,fun K=>both_self _⟩
 | cons a l =>
  simp only [List.isEmpty_cons,cond_false]
  exact Det.bif _ (Det.pure _) Det.none
theorem sd_S229 {Γ : Gl} (N:Nat):Sound Γ Tryz.prog 229 (run_S229 N):=fun_ok2 (hh:=h_S229) mixed tab_ok (es:=es_S229 N) trivial (fn:=Tryz.f229) (body:=body_S229) (by kernel_rfl) (by kernel_rfl) (by kernel_rfl) (by kernel_rfl) (by kernel_rfl) (Lf:=noL N) (noL0 N) ls_S229 trivial (N:=N) (by kernel_rfl) (fn_S229 N) (.inr (det_S229 N))
noncomputable def h_M245:Hint:={ tab,hn:=[],loops:=[],outs:=[],ords:=[] }
noncomputable def sg_M245:List AK:=[.v (.int .u64) .k]
noncomputable def F_M245 (N:Nat) (x:AVals sg_M245) (kf:Ret→Option Ret):Option Ret:=M245 N x.1 (fun r0=>kf ⟨[⟨(.int .i64),.k,r0⟩],[]⟩)
noncomputable def run_M245 (N:Nat):=runOf sg_M245 (F_M245 N)
noncomputable def es_M245 (N:Nat):List Entry:=[]
noncomputable def body_M245:Code:=match Tryz.f245.body with | some c=>c | none=>.skip
theorem ls_M245:loopsIn body_M245=[]:=by kernel_rfl
theorem fn_M245 (N:Nat) (x:AVals sg_M245) (kf:Ret→Option Ret):F_M245 N x kf=peFunc h_M245 (Orc.of (es_M245 N)) (noL N N) Tryz.f245 (ashape sg_M245 x) kf:=by kernel_rfl
theorem sd_M245 {Γ : Gl} (N:Nat):Sound Γ Tryz.prog 245 (run_M245 N):=fun_ok2 (hh:=h_M245) mixed tab_ok (es:=es_M245 N) trivial (fn:=Tryz.f245) (body:=body_M245) (by kernel_rfl) (by kernel_rfl) (by kernel_rfl) (by kernel_rfl) (by kernel_rfl) (Lf:=noL N) (noL0 N) ls_M245 trivial (N:=N) (by kernel_rfl) (fn_M245 N) (.inl (by kernel_rfl))
noncomputable def h_M211:Hint:={ tab,hn:=[],loops:=[],outs:=[],ords:=[] }
noncomputable def sg_M211:List AK:=[.v (.int .u64) .k]
noncomputable def F_M211 (N:Nat) (x:AVals sg_M211) (kf:Ret→Option Ret):Option Ret:=M211 N x.1 (fun r0=>kf ⟨[⟨(.int .i64),.k,r0⟩],[]⟩)
noncomputable def run_M211 (N:Nat):=runOf sg_M211 (F_M211 N)
noncomputable def es_M211 (N:Nat):List Entry:=[⟨245,[.val],(run_M245 N)⟩]
noncomputable def body_M211:Code:=match Tryz.f211.body with | some c=>c | none=>.skip
theorem ls_M211:loopsIn body_M211=[]:=by kernel_rfl
theorem fn_M211 (N:Nat) (x:AVals sg_M211) (kf:Ret→Option Ret):F_M211 N x kf=peFunc h_M211 (Orc.of (es_M211 N)) (noL N N) Tryz.f211 (ashape sg_M211 x) kf:=by kernel_rfl
theorem sd_M211 {Γ : Gl} (N:Nat):Sound Γ Tryz.prog 211 (run_M211 N):=fun_ok2 (hh:=h_M211) mixed tab_ok (es:=es_M211 N) ⟨sd_M245 N,trivial⟩ (fn:=Tryz.f211) (body:=body_M211) (by kernel_rfl) (by kernel_rfl) (by kernel_rfl) (by kernel_rfl) (by kernel_rfl) (Lf:=noL N) (noL0 N) ls_M211 trivial (N:=N) (by kernel_rfl) (fn_M211 N) (.inl (by kernel_rfl))
noncomputable def h_C253:Hint:={ tab,hn:=[],loops:=[],outs:=[],ords:=[] }
noncomputable def sg_C253:List AK:=[.v (.int .i64) .k]
noncomputable def F_C253 (N:Nat) (x:AVals sg_C253) (kf:Ret→Option Ret):Option Ret:=C253 N x.1 (fun r0=>kf ⟨[⟨.bool,.k,r0⟩],[]⟩)
noncomputable def run_C253 (N:Nat):=runOf sg_C253 (F_C253 N)
noncomputable def es_C253 (N:Nat):List Entry:=[]
noncomputable def body_C253:Code:=match Tryz.f253.body with | some c=>c | none=>.skip
theorem ls_C253:loopsIn body_C253=[]:=by kernel_rfl
theorem fn_C253 (N:Nat) (x:AVals sg_C253) (kf:Ret→Option Ret):F_C253 N x kf=peFunc h_C253 (Orc.of (es_C253 N)) (noL N N) Tryz.f253 (ashape sg_C253 x) kf:=by kernel_rfl
theorem sd_C253 {Γ : Gl} (N:Nat):Sound Γ Tryz.prog 253 (run_C253 N):=fun_ok2 (hh:=h_C253) mixed tab_ok (es:=es_C253 N) trivial (fn:=Tryz.f253) (body:=body_C253) (by kernel_rfl) (by kernel_rfl) (by kernel_rfl) (by kernel_rfl) (by kernel_rfl) (Lf:=noL N) (noL0 N) ls_C253 trivial (N:=N) (by kernel_rfl) (fn_C253 N) (.inl (by kernel_rfl))
noncomputable def h_C233:Hint:={ tab,hn:=[],loops:=[],outs:=[],ords:=[] }
noncomputable def sg_C233:List AK:=[.v (.int .i64) .k,.v (.int .i64) .k]
noncomputable def F_C233 (N:Nat) (x:AVals sg_C233) (kf:Ret→Option Ret):Option Ret:=C233 N x.1 x.2.1 (fun r0=>kf ⟨[⟨(.int .i64),.k,r0⟩],[]⟩)
noncomputable def run_C233 (N:Nat):=runOf sg_C233 (F_C233 N)
noncomputable def es_C233 (N:Nat):List Entry:=[⟨253,[.val],(run_C253 N)⟩]
noncomputable def body_C233:Code:=match Tryz.f233.body with | some c=>c | none=>.skip
theorem ls_C233:loopsIn body_C233=[]:=by kernel_rfl
theorem fn_C233 (N:Nat) (x:AVals sg_C233) (kf:Ret→Option Ret):F_C233 N x kf=peFunc h_C233 (Orc.of (es_C233 N)) (noL N N) Tryz.f233 (ashape sg_C233 x) kf:=by kernel_rfl
theorem sd_C233 {Γ : Gl} (N:Nat):Sound Γ Tryz.prog 233 (run_C233 N):=fun_ok2 (hh:=h_C233) mixed tab_ok (es:=es_C233 N) ⟨sd_C253 N,trivial⟩ (fn:=Tryz.f233) (body:=body_C233) (by kernel_rfl) (by kernel_rfl) (by kernel_rfl) (by kernel_rfl) (by kernel_rfl) (Lf:=noL N) (noL0 N) ls_C233 trivial (N:=N) (by kernel_rfl) (fn_C233 N) (.inl (by kernel_rfl))
noncomputable def ks_C232_l3:List Kd:=[dK,dK,dK,.v (.int .i64) .k,dK,dK,.v (.sl (.int .i64)) .k,.v (.int .i64) .k,.v (.int .i64) .k,dK,dK,dK,dK,dK,dK,dK,dK,dK]
noncomputable def ko_C232_l3_0:List Kd:=[dK,dK,dK,.v (.int .i64) .k,dK,dK,dK,dK,dK,dK,dK,dK,dK,dK,dK,dK,dK,dK]
noncomputable def ko_C232_l3_1:List Kd:=[dK,dK,.v (.int .i64) .k,dK,dK,dK,dK,dK,dK,dK,dK,dK,dK,dK,dK,dK,dK,dK]
noncomputable def h_C232:Hint:={ tab,hn:=[],loops:=[(3,ks_C232_l3)],outs:=[(3,2,ko_C232_l3_0),(3,1,ko_C232_l3_1)],ords:=[] }
noncomputable def sg_C232:List AK:=[.v (.sl (.int .i64)) .k]
noncomputable def F_C232 (N:Nat) (x:AVals sg_C232) (kf:Ret→Option Ret):Option Ret:=C232 N x.1 (fun r0=>kf ⟨[⟨(.int .i64),.k,r0⟩],[]⟩)
noncomputable def run_C232 (N:Nat):=runOf sg_C232 (F_C232 N)
noncomputable def es_C232 (N:Nat):List Entry:=[]
noncomputable def body_C232:Code:=match Tryz.f232.body with | some c=>c | none=>.skip
noncomputable def L_C232 (N n:Nat) (key:Nat) (S:St) (K:Ks):Option Ret:=bif Nat.beq key 3 then withVals ks_C232_l3 S (fun x=>C232_l3 x.1 x.2.1 x.2.2.1 n (K (.x 0) (shape ko_C232_l3_0 (x.1,()))) (fun z0=>K .r (shape ko_C232_l3_1 (z0,()))) x.2.2.2.1) else none
theorem L0_C232 (N key:Nat) (S:St) (K:Ks):L_C232 N 0 key S K=none:=(bif0 (withVals0 fun _=>rfl) rfl)
noncomputable def c_C232_0:Code:=(loopsIn body_C232).getD 0 .skip
theorem ls_C232:loopsIn body_C232=[c_C232_0]:=by kernel_rfl
theorem rd_C232_3 (N n:Nat) (x:Vals ks_C232_l3) (K:Ks):L_C232 N (n + 1) 3 (shape ks_C232_l3 x) (h_C232.onOut 3 K)=peRound h_C232 (Orc.of (es_C232 N)) (mixL (L_C232 N) N n 3) c_C232_0 (shape ks_C232_l3 x) (h_C232.onOut 3 K):=by kernel_rfl
theorem fn_C232 (N:Nat) (x:AVals sg_C232) (kf:Ret→Option Ret):F_C232 N x kf=peFunc h_C232 (Orc.of (es_C232 N)) (L_C232 N N) Tryz.f232 (ashape sg_C232 x) kf:=by kernel_rfl
theorem sd_C232 {Γ : Gl} (N:Nat):Sound Γ Tryz.prog 232 (run_C232 N):=fun_ok2 (hh:=h_C232) mixed tab_ok (es:=es_C232 N) trivial (fn:=Tryz.f232) (body:=body_C232) (by kernel_rfl) (by kernel_rfl) (by kernel_rfl) (by kernel_rfl) (by kernel_rfl) (Lf:=L_C232 N) (L0_C232 N) ls_C232 (round_cons (key:=3) (ks:=ks_C232_l3) (by kernel_rfl) (by kernel_rfl) (rd_C232_3 N) trivial) (N:=N) (by kernel_rfl) (fn_C232 N) (.inl (by kernel_rfl))
noncomputable def h_I231:Hint:={ tab,hn:=[],loops:=[],outs:=[],ords:=[(1,(OT.seq [0,1,2,3,5,6,7,8,10,11,12,13,4,9,14,15,16,17] .done))] }
noncomputable def sg_I231:List AK:=[.v tQIIIIILIE .k,.v tQIIIIILIE .k]
noncomputable def F_I231 (N:Nat) (x:AVals sg_I231) (kf:Ret→Option Ret):Option Ret:=I231 N x.1 x.2.1 (fun r0=>kf ⟨[⟨(.int .i64),.k,r0⟩],[]⟩)
noncomputable def run_I231 (N:Nat):=runOf sg_I231 (F_I231 N)
noncomputable def es_I231 (N:Nat):List Entry:=[⟨233,[.val,.val],(run_C233 N)⟩,⟨232,[.val],(run_C232 N)⟩]
noncomputable def body_I231:Code:=match Tryz.f231.body with | some c=>c | none=>.skip
theorem ls_I231:loopsIn body_I231=[]:=by kernel_rfl
theorem fn_I231 (N:Nat) (x:AVals sg_I231) (kf:Ret→Option Ret):F_I231 N x kf=peFunc h_I231 (Orc.of (es_I231 N)) (noL N N) Tryz.f231 (ashape sg_I231 x) kf:=by kernel_rfl
theorem sd_I231 {Γ : Gl} (N:Nat):Sound Γ Tryz.prog 231 (run_I231 N):=fun_ok2 (hh:=h_I231) mixed tab_ok (es:=es_I231 N) ⟨sd_C233 N,⟨sd_C232 N,trivial⟩⟩ (fn:=Tryz.f231) (body:=body_I231) (by kernel_rfl) (by kernel_rfl) (by kernel_rfl) (by kernel_rfl) (by kernel_rfl) (Lf:=noL N) (noL0 N) ls_I231 trivial (N:=N) (by kernel_rfl) (fn_I231 N) (.inl (by kernel_rfl))
noncomputable def ks_S263_l4:List Kd:=[.v (.sl tQIIIIILIE) (.o 46 (some 0) .k),.v (.int .i64) .k,.v (.int .i64) .k,.clo 231 [],dK,dK,dK,dK,.v (.int .i64) .k,.v (.int .i64) .k,dK,dK,dK,dK,dK,dK,dK,dK,dK,dK,dK,dK,dK,dK,dK,dK,dK,dK,dK,dK,dK,dK,dK,dK,dK,dK,dK,dK,dK,dK,dK,dK,dK,dK,dK,dK,dK,dK,dK,dK,dK,dK,dK]
noncomputable def ko_S263_l4_0:List Kd:=[.v (.sl tQIIIIILIE) (.o 46 (some 0) .k),.v (.int .i64) .k,.v (.int .i64) .k,.clo 231 [],dK,dK,dK,dK,.v (.int .i64) .k,dK,dK,dK,dK,dK,dK,dK,dK,dK,dK,dK,dK,dK,dK,dK,dK,dK,dK,dK,dK,dK,dK,dK,dK,dK,dK,dK,dK,dK,dK,dK,dK,dK,dK,dK,dK,dK,dK,dK,dK,dK,dK,dK,dK]
noncomputable def ks_S263_l1:List Kd:=[.v (.sl tQIIIIILIE) (.o 46 (some 0) .k),.v (.int .i64) .k,.v (.int .i64) .k,.clo 231 [],dK,dK,dK,dK,.v (.int .i64) .k,dK,dK,dK,dK,dK,dK,dK,dK,dK,dK,dK,dK,dK,dK,dK,dK,dK,dK,dK,dK,dK,dK,dK,dK,dK,dK,dK,dK,dK,dK,dK,dK,dK,dK,dK,dK,dK,dK,dK,dK,dK,dK,dK,dK]
noncomputable def ko_S263_l1_0:List Kd:=[.v (.sl tQIIIIILIE) (.o 46 (some 0) .k),dK,dK,dK,dK,dK,dK,dK,dK,dK,dK,dK,dK,dK,dK,dK,dK,dK,dK,dK,dK,dK,dK,dK,dK,dK,dK,dK,dK,dK,dK,dK,dK,dK,dK,dK,dK,dK,dK,dK,dK,dK,dK,dK,dK,dK,dK,dK,dK,dK,dK,dK,dK]
noncomputable def h_S263:Hint:={ tab,hn:=[],loops:=[(4,ks_S263_l4),(1,ks_S263_l1)],outs:=[(4,4,ko_S263_l4_0),(1,2,ko_S263_l1_0)],ords:=[(4,(OT.seq [0,1,2,3,4,5,6,7,8,9,10,11,12,13,14,15,16] .done)),(6,(OT.seq [0,1,5,6,7,8,9,10,11,12,13,14,2,3,4,15,16,17] .done))],lent:=some (0,false) }
noncomputable def sg_S263:List AK:=[.v (.sl tQIIIIILIE) (.o 46 (some 0) .k),.v (.int .i64) .k,.v (.int .i64) .k,.fn 231 []]
noncomputable def F_S263 (N:Nat) (x:AVals sg_S263) (kf:Ret→Option Ret):Option Ret:=S263 N x.1 x.2.1 x.2.2.1 (fun z=>kf ⟨[],[⟨(.sl tQIIIIILIE),(.o 46 (some 0) .k),z⟩]⟩)
noncomputable def run_S263 (N:Nat):=runOf sg_S263 (F_S263 N)
noncomputable def es_S263 (N:Nat):List Entry:=[⟨231,[.val,.val],(run_I231 N)⟩]
noncomputable def body_S263:Code:=match Tryz.f263.body with | some c=>c | none=>.skip
noncomputable def L_S263 (N n:Nat) (key:Nat) (S:St) (K:Ks):Option Ret:=bif Nat.beq key 1 then withVals ks_S263_l1 S (fun x=>S263_l1 N x.2.1 x.2.2.1 n (fun z0=>K (.x 0) (shape ko_S263_l1_0 (z0,()))) x.1 x.2.2.2.2.1) else bif Nat.beq key 4 then withVals ks_S263_l4 S (fun x=>S263_l4 N x.2.1 x.2.2.1 x.2.2.2.2.1 n (fun z0=>K (.x 2) (shape ko_S263_l4_0 (z0,x.2.1,x.2.2.1,(),x.2.2.2.2.1,()))) x.1 x.2.2.2.2.2.1) else none
theorem L0_S263 (N key:Nat) (S:St) (K:Ks):L_S263 N 0 key S K=none:=(bif0 (withVals0 fun _=>rfl) (bif0 (withVals0 fun _=>rfl) rfl))
noncomputable def c_S263_0:Code:=(loopsIn body_S263).getD 0 .skip
noncomputable def c_S263_1:Code:=(loopsIn body_S263).getD 1 .skip
theorem ls_S263:loopsIn body_S263=[c_S263_0,c_S263_1]:=by kernel_rfl
theorem rd_S263_4 (N n:Nat) (x:Vals ks_S263_l4) (K:Ks):L_S263 N (n + 1) 4 (shape ks_S263_l4 x) (h_S263.onOut 4 K)=peRound h_S263 (Orc.of (es_S263 N)) (mixL (L_S263 N) N n 4) c_S263_1 (shape ks_S263_l4 x) (h_S263.onOut 4 K):=by kernel_rfl
theorem rd_S263_1 (N n:Nat) (x:Vals ks_S263_l1) (K:Ks):L_S263 N (n + 1) 1 (shape ks_S263_l1 x) (h_S263.onOut 1 K)=peRound h_S263 (Orc.of (es_S263 N)) (mixL (L_S263 N) N n 1) c_S263_0 (shape ks_S263_l1 x) (h_S263.onOut 1 K):=by kernel_rfl
theorem fn_S263 (N:Nat) (x:AVals sg_S263) (kf:Ret→Option Ret):F_S263 N x kf=peFunc h_S263 (Orc.of (es_S263 N)) (L_S263 N N) Tryz.f263 (ashape sg_S263 x) kf:=by kernel_rfl
theorem sd_S263 {Γ : Gl} (N:Nat):Sound Γ Tryz.prog 263 (run_S263 N):=fun_ok2 (hh:=h_S263) mixed tab_ok (es:=es_S263 N) ⟨sd_I231 N,trivial⟩ (fn:=Tryz.f263) (body:=body_S263) (by kernel_rfl) (by kernel_rfl) (by kernel_rfl) (by kernel_rfl) (by kernel_rfl) (Lf:=L_S263 N) (L0_S263 N) ls_S263 (round_cons (key:=1) (ks:=ks_S263_l1) (by kernel_rfl) (by kernel_rfl) (rd_S263_1 N) (round_cons (key:=4) (ks:=ks_S263_l4) (by kernel_rfl) (by kernel_rfl) (rd_S263_4 N) trivial)) (N:=N) (by kernel_rfl) (fn_S263 N) (.inl (by kernel_rfl))
noncomputable def ks_S252_l2:List Kd:=[.v (.sl tQIIIIILIE) (.o 46 (some 0) .k),.v (.int .i64) .k,.v (.int .i64) .k,.v (.int .i64) .k,.clo 231 [],dK,dK,dK,dK,dK,.v .bool .k,.v .bool .k,dK,dK,dK,dK,dK,dK,dK,dK,dK,dK,dK,dK,dK,dK,dK,dK,dK,dK,dK,dK,dK,dK,dK,dK,dK,dK,dK,dK,dK,dK,dK,dK,dK,dK,dK,dK,dK,dK,dK,dK,dK,dK,dK,dK,dK,dK,dK,dK,dK,dK,dK,dK,dK,dK,dK,dK,dK,dK,dK,dK,dK,dK,dK,dK,dK,dK,dK,dK,dK,dK,dK,dK,dK,dK,dK,dK,dK,dK,dK,dK,dK,dK,dK,dK,dK,dK,dK,dK,dK,dK,dK,dK,dK,dK,dK,dK,dK,dK,dK,dK,dK,dK,dK,dK,dK,dK,dK,dK,dK,dK,dK,dK,dK,dK,dK,dK,dK,dK,dK,dK,dK,dK,dK,dK,dK,dK,dK,dK,dK,dK,dK,dK,dK,dK,dK,dK]
noncomputable def ko_S252_l2_0:List Kd:=[.v (.sl tQIIIIILIE) (.o 46 (some 0) .k),dK,dK,dK,dK,dK,dK,dK,dK,dK,dK,dK,dK,dK,dK,dK,dK,dK,dK,dK,dK,dK,dK,dK,dK,dK,dK,dK,dK,dK,dK,dK,dK,dK,dK,dK,dK,dK,dK,dK,dK,dK,dK,dK,dK,dK,dK,dK,dK,dK,dK,dK,dK,dK,dK,dK,dK,dK,dK,dK,dK,dK,dK,dK,dK,dK,dK,dK,dK,dK,dK,dK,dK,dK,dK,dK,dK,dK,dK,dK,dK,dK,dK,dK,dK,dK,dK,dK,dK,dK,dK,dK,dK,dK,dK,dK,dK,dK,dK,dK,dK,dK,dK,dK,dK,dK,dK,dK,dK,dK,dK,dK,dK,dK,dK,dK,dK,dK,dK,dK,dK,dK,dK,dK,dK,dK,dK,dK,dK,dK,dK,dK,dK,dK,dK,dK,dK,dK,dK,dK,dK,dK,dK,dK,dK,dK,dK,dK]
noncomputable def h_S252:Hint:={ tab,hn:=[],loops:=[(2,ks_S252_l2)],outs:=[(2,1,ko_S252_l2_0)],ords:=[],lent:=some (0,false) }
noncomputable def sg_S252:List AK:=[.v (.sl tQIIIIILIE) (.o 46 (some 0) .k),.v (.int .i64) .k,.v (.int .i64) .k,.v (.int .i64) .k,.fn 231 []]
noncomputable def F_S252 (N:Nat) (x:AVals sg_S252) (kf:Ret→Option Ret):Option Ret:=S252 N x.1 x.2.1 x.2.2.1 x.2.2.2.1 (fun z=>kf ⟨[],[⟨(.sl tQIIIIILIE),(.o 46 (some 0) .k),z⟩]⟩)
noncomputable def run_S252 (N:Nat):=runOf sg_S252 (F_S252 N)
noncomputable def es_S252 (N:Nat):List Entry:=[⟨263,[.lend,.val,.val,.val],(run_S263 N)⟩]
noncomputable def body_S252:Code:=match Tryz.f252.body with | some c=>c | none=>.skip
noncomputable def L_S252 (N n:Nat) (key:Nat) (S:St) (K:Ks):Option Ret:=bif Nat.beq key 2 then withVals ks_S252_l2 S (fun x=>S252_l2 N x.1 x.2.1 x.2.2.1 x.2.2.2.1 x.2.2.2.2.2.1 x.2.2.2.2.2.2.1 n (fun z0=>K .r (shape ko_S252_l2_0 (z0,())))) else none
theorem L0_S252 (N key:Nat) (S:St) (K:Ks):L_S252 N 0 key S K=none:=(bif0 (withVals0 fun _=>rfl) rfl)
noncomputable def c_S252_0:Code:=(loopsIn body_S252).getD 0 .skip
theorem ls_S252:loopsIn body_S252=[c_S252_0]:=by kernel_rfl
theorem rd_S252_2 (N n:Nat) (x:Vals ks_S252_l2) (K:Ks):L_S252 N (n + 1) 2 (shape ks_S252_l2 x) (h_S252.onOut 2 K)=peRound h_S252 (Orc.of (es_S252 N)) (mixL (L_S252 N) N n 2) c_S252_0 (shape ks_S252_l2 x) (h_S252.onOut 2 K):=by kernel_rfl
theorem fn_S252 (N:Nat) (x:AVals sg_S252) (kf:Ret→Option Ret):F_S252 N x kf=peFunc h_S252 (Orc.of (es_S252 N)) (L_S252 N N) Tryz.f252 (ashape sg_S252 x) kf:=by kernel_rfl
theorem sd_S252 {Γ : Gl} (N:Nat):Sound Γ Tryz.prog 252 (run_S252 N):=fun_ok2 (hh:=h_S252) mixed tab_ok (es:=es_S252 N) ⟨sd_S263 N,trivial⟩ (fn:=Tryz.f252) (body:=body_S252) (by kernel_rfl) (by kernel_rfl) (by kernel_rfl) (by kernel_rfl) (by kernel_rfl) (Lf:=L_S252 N) (L0_S252 N) ls_S252 (round_cons (key:=2) (ks:=ks_S252_l2) (by kernel_rfl) (by kernel_rfl) (rd_S252_2 N) trivial) (N:=N) (by kernel_rfl) (fn_S252 N) (.inl (by kernel_rfl))
noncomputable def h_S230:Hint:={ tab,hn:=[],loops:=[],outs:=[],ords:=[],lent:=some (0,false) }
noncomputable def sg_S230:List AK:=[.v (.sl tQIIIIILIE) (.o 46 (some 0) .k),.fn 231 []]
noncomputable def F_S230 (N:Nat) (x:AVals sg_S230) (kf:Ret→Option Ret):Option Ret:=S230 N x.1 (fun z=>kf ⟨[],[⟨(.sl tQIIIIILIE),(.o 46 (some 0) .k),z⟩]⟩)
noncomputable def run_S230 (N:Nat):=runOf sg_S230 (F_S230 N)
noncomputable def es_S230 (N:Nat):List Entry:=[⟨211,[.val],(run_M211 N)⟩,⟨252,[.lend,.val,.val,.val,.val],(run_S252 N)⟩]
noncomputable def body_S230:Code:=match Tryz.f230.body with | some c=>c | none=>.skip
theorem ls_S230:loopsIn body_S230=[]:=by kernel_rfl
theorem fn_S230 (N:Nat) (x:AVals sg_S230) (kf:Ret→Option Ret):F_S230 N x kf=peFunc h_S230 (Orc.of (es_S230 N)) (noL N N) Tryz.f230 (ashape sg_S230 x) kf:=by kernel_rfl
theorem sd_S230 {Γ : Gl} (N:Nat):Sound Γ Tryz.prog 230 (run_S230 N):=fun_ok2 (hh:=h_S230) mixed tab_ok (es:=es_S230 N) ⟨sd_M211 N,⟨sd_S252 N,trivial⟩⟩ (fn:=Tryz.f230) (body:=body_S230) (by kernel_rfl) (by kernel_rfl) (by kernel_rfl) (by kernel_rfl) (by kernel_rfl) (Lf:=noL N) (noL0 N) ls_S230 trivial (N:=N) (by kernel_rfl) (fn_S230 N) (.inl (by kernel_rfl))
noncomputable def ks_I187_l7:List Kd:=[dK,dK,dK,.v (.sl (.int .i64)) (.o 3 none .k),dK,dK,dK,dK,dK,dK,dK,dK,dK,dK,dK,dK,.v (.sl tQIIIIILIE) (.o 46 none .k),.v (.int .i64) .k,.v (.int .i64) .k,dK,dK,dK,dK,dK,dK,dK,dK,dK,dK]
noncomputable def ko_I187_l7_0:List Kd:=[dK,dK,dK,.v (.sl (.int .i64)) (.o 3 none .k),dK,dK,dK,dK,dK,dK,dK,dK,dK,dK,dK,dK,dK,dK,dK,dK,dK,dK,dK,dK,dK,dK,dK,dK,dK]
noncomputable def h_I187:Hint:={ tab,hn:=[],loops:=[(7,ks_I187_l7)],outs:=[(7,2,ko_I187_l7_0)],ords:=[] }
noncomputable def sg_I187:List AK:=[.v (.sl tQIIIIILIE) .k]
noncomputable def F_I187 (N:Nat) (x:AVals sg_I187) (kf:Ret→Option Ret):Option Ret:=I187 N x.1 (fun r0=>kf ⟨[⟨(.sl (.int .i64)),(.o 3 none .k),r0⟩],[]⟩)
noncomputable def run_I187 (N:Nat):=runOf sg_I187 (F_I187 N)
noncomputable def es_I187 (N:Nat):List Entry:=[⟨143,[.val],(run_I143 N)⟩,⟨229,[.val],(run_S229 N)⟩,⟨230,[.lend,.val],(run_S230 N)⟩]
noncomputable def body_I187:Code:=match Tryz.f187.body with | some c=>c | none=>.skip
noncomputable def L_I187 (N n:Nat) (key:Nat) (S:St) (K:Ks):Option Ret:=bif Nat.beq key 7 then withVals ks_I187_l7 S (fun x=>I187_l7 x.2.1 x.2.2.1 n (fun z0=>K (.x 0) (shape ko_I187_l7_0 (z0,()))) x.1 x.2.2.2.1) else none
theorem L0_I187 (N key:Nat) (S:St) (K:Ks):L_I187 N 0 key S K=none:=(bif0 (withVals0 fun _=>rfl) rfl)
noncomputable def c_I187_0:Code:=(loopsIn body_I187).getD 0 .skip
theorem ls_I187:loopsIn body_I187=[c_I187_0]:=by kernel_rfl
theorem rd_I187_7 (N n:Nat) (x:Vals ks_I187_l7) (K:Ks):L_I187 N (n + 1) 7 (shape ks_I187_l7 x) (h_I187.onOut 7 K)=peRound h_I187 (Orc.of (es_I187 N)) (mixL (L_I187 N) N n 7) c_I187_0 (shape ks_I187_l7 x) (h_I187.onOut 7 K):=by kernel_rfl
theorem fn_I187 (N:Nat) (x:AVals sg_I187) (kf:Ret→Option Ret):F_I187 N x kf=peFunc h_I187 (Orc.of (es_I187 N)) (L_I187 N N) Tryz.f187 (ashape sg_I187 x) kf:=by kernel_rfl
theorem sd_I187 {Γ : Gl} (N:Nat):Sound Γ Tryz.prog 187 (run_I187 N):=fun_ok2 (hh:=h_I187) mixed tab_ok (es:=es_I187 N) ⟨sd_I143 N,⟨sd_S229 N,⟨sd_S230 N,trivial⟩⟩⟩ (fn:=Tryz.f187) (body:=body_I187) (by kernel_rfl) (by kernel_rfl) (by kernel_rfl) (by kernel_rfl) (by kernel_rfl) (Lf:=L_I187 N) (L0_I187 N) ls_I187 (round_cons (key:=7) (ks:=ks_I187_l7) (by kernel_rfl) (by kernel_rfl) (rd_I187_7 N) trivial) (N:=N) (by kernel_rfl) (fn_I187 N) (.inl (by kernel_rfl))
def ren_S251:Go.Shelf.Ren:=⟨fun n=>bif Nat.beq n 4 then 251 else n,fun n=>bif Nat.beq n 0 then 0 else bif Nat.beq n 3 then 3 else bif Nat.beq n 4 then 4 else bif Nat.beq n 9 then 9 else bif Nat.beq n 20 then 20 else bif Nat.beq n 22 then 27 else bif Nat.beq n 25 then 3 else n,fun n=>n⟩
theorem lays_S251:Go.Proofs.Lays8.n4 Tryz.prog ren_S251:={ f4:=⟨Tryz.f251.name,by kernel_rfl,by kernel_rfl⟩,mixed:=by kernel_rfl,t0:=by kernel_rfl,a0:=fun w=>by kernel_rfl,z0:=fun w=>by kernel_rfl,v0:=fun w=>by kernel_rfl,t3:=by kernel_rfl,a3:=fun w=>by kernel_rfl,z3:=fun w=>by kernel_rfl,v3:=fun w=>by kernel_rfl,t4:=by kernel_rfl,a4:=fun w=>by kernel_rfl,z4:=fun w=>by kernel_rfl,v4:=fun w=>by kernel_rfl,t9:=by kernel_rfl,a9:=fun w=>by kernel_rfl,z9:=fun w=>by kernel_rfl,v9:=fun w=>by kernel_rfl,t20:=by kernel_rfl,a20:=fun w=>by kernel_rfl,z20:=fun w=>by kernel_rfl,v20:=fun w=>by kernel_rfl,t22:=by kernel_rfl,a22:=fun w=>by kernel_rfl,z22:=fun w=>by kernel_rfl,v22:=fun w=>by kernel_rfl }
noncomputable def ti_S251:TypeInfo:=(Tryz.prog.info? 3).get (by kernel_rfl)
noncomputable def sg_S251:List AK:=[.v (.sl (.int .i64)) (.o 3 none .k),.v (.int .i64) .k]
noncomputable def F_S251 (N:Nat) (x:AVals sg_S251) (kf:Ret→Option Ret):Option Ret:=S251 N x.1 x.2.1 (fun r0=>kf ⟨[⟨(.sl (.int .i64)),(.o 3 none .k),r0⟩],[]⟩)
noncomputable def run_S251 (N:Nat):=runOf sg_S251 (F_S251 N)
theorem sd_S251 {Γ : Gl} (N:Nat):Sound Γ Tryz.prog 251 (run_S251 N):=sound_grow (ρ:=ren_S251) (i0:=ti_S251) (z:=.int .i64 0) lays_S251 (by kernel_rfl) (by kernel_rfl) (by kernel_rfl) (by kernel_rfl) (by kernel_rfl)
noncomputable def ks_S227_l3:List Kd:=[.v (.sl (.sl (.int .i64))) .k,dK,dK,.v (.int .i64) .k,dK,dK,dK,dK,dK,.v (.sl (.sl (.int .i64))) .k,.v (.int .i64) .k,.v (.int .i64) .k,dK,dK,dK,dK,dK,dK,dK,dK,dK,dK,dK,dK,dK,dK,dK,dK,dK,dK,dK,dK,dK,dK,dK,dK]
noncomputable def ko_S227_l3_0:List Kd:=[.v (.sl (.sl (.int .i64))) .k,dK,dK,.v (.int .i64) .k,dK,dK,dK,dK,dK,dK,dK,dK,dK,dK,dK,dK,dK,dK,dK,dK,dK,dK,dK,dK,dK,dK,dK,dK,dK,dK,dK,dK,dK,dK,dK,dK]
noncomputable def ks_S227_l11:List Kd:=[dK,dK,dK,dK,dK,dK,.v (.sl (.int .i64)) (.o 3 none .k),dK,dK,dK,dK,dK,dK,dK,dK,dK,dK,dK,dK,dK,dK,dK,dK,dK,dK,.v (.sl (.sl (.int .i64))) .k,.v (.int .i64) .k,.v (.int .i64) .k,dK,dK,dK,dK,dK,dK,dK,dK]
noncomputable def ko_S227_l11_0:List Kd:=[dK,dK,dK,dK,dK,dK,.v (.sl (.int .i64)) (.o 3 none .k),dK,dK,dK,dK,dK,dK,dK,dK,dK,dK,dK,dK,dK,dK,dK,dK,dK,dK,dK,dK,dK,dK,dK,dK,dK,dK,dK,dK,dK]
noncomputable def h_S227:Hint:={ tab,hn:=[],loops:=[(3,ks_S227_l3),(11,ks_S227_l11)],outs:=[(3,2,ko_S227_l3_0),(11,4,ko_S227_l11_0)],ords:=[] }
noncomputable def sg_S227:List AK:=[.v (.sl (.sl (.int .i64))) .k]
noncomputable def F_S227 (N:Nat) (x:AVals sg_S227) (kf:Ret→Option Ret):Option Ret:=S227 N x.1 (fun r0=>kf ⟨[⟨(.sl (.int .i64)),(.o 3 none .k),r0⟩],[]⟩)
noncomputable def run_S227 (N:Nat):=runOf sg_S227 (F_S227 N)
noncomputable def es_S227 (N:Nat):List Entry:=[⟨251,[.take,.val],(run_S251 N)⟩]
noncomputable def body_S227:Code:=match Tryz.f227.body with | some c=>c | none=>.skip
noncomputable def L_S227 (N n:Nat) (key:Nat) (S:St) (K:Ks):Option Ret:=bif Nat.beq key 3 then withVals ks_S227_l3 S (fun x=>S227_l3 x.1 x.2.2.1 x.2.2.2.1 n (fun z0=>K (.x 0) (shape ko_S227_l3_0 (x.1,z0,()))) x.2.1 x.2.2.2.2.1) else bif Nat.beq key 11 then withVals ks_S227_l11 S (fun x=>S227_l11 x.2.1 x.2.2.1 n (fun z0=>K (.x 2) (shape ko_S227_l11_0 (z0,()))) x.1 x.2.2.2.1) else none
theorem L0_S227 (N key:Nat) (S:St) (K:Ks):L_S227 N 0 key S K=none:=(bif0 (withVals0 fun _=>rfl) (bif0 (withVals0 fun _=>rfl) rfl))
noncomputable def c_S227_0:Code:=(loopsIn body_S227).getD 0 .skip
noncomputable def c_S227_1:Code:=(loopsIn body_S227).getD 1 .skip
theorem ls_S227:loopsIn body_S227=[c_S227_0,c_S227_1]:=by kernel_rfl
theorem rd_S227_11 (N n:Nat) (x:Vals ks_S227_l11) (K:Ks):L_S227 N (n + 1) 11 (shape ks_S227_l11 x) (h_S227.onOut 11 K)=peRound h_S227 (Orc.of (es_S227 N)) (mixL (L_S227 N) N n 11) c_S227_1 (shape ks_S227_l11 x) (h_S227.onOut 11 K):=by kernel_rfl
theorem rd_S227_3 (N n:Nat) (x:Vals ks_S227_l3) (K:Ks):L_S227 N (n + 1) 3 (shape ks_S227_l3 x) (h_S227.onOut 3 K)=peRound h_S227 (Orc.of (es_S227 N)) (mixL (L_S227 N) N n 3) c_S227_0 (shape ks_S227_l3 x) (h_S227.onOut 3 K):=by kernel_rfl
theorem fn_S227 (N:Nat) (x:AVals sg_S227) (kf:Ret→Option Ret):F_S227 N x kf=peFunc h_S227 (Orc.of (es_S227 N)) (L_S227 N N) Tryz.f227 (ashape sg_S227 x) kf:=by kernel_rfl
theorem sd_S227 {Γ : Gl} (N:Nat):Sound Γ Tryz.prog 227 (run_S227 N):=fun_ok2 (hh:=h_S227) mixed tab_ok (es:=es_S227 N) ⟨sd_S251 N,trivial⟩ (fn:=Tryz.f227) (body:=body_S227) (by kernel_rfl) (by kernel_rfl) (by kernel_rfl) (by kernel_rfl) (by kernel_rfl) (Lf:=L_S227 N) (L0_S227 N) ls_S227 (round_cons (key:=3) (ks:=ks_S227_l3) (by kernel_rfl) (by kernel_rfl) (rd_S227_3 N) (round_cons (key:=11) (ks:=ks_S227_l11) (by kernel_rfl) (by kernel_rfl) (rd_S227_11 N) trivial)) (N:=N) (by kernel_rfl) (fn_S227 N) (.inl (by kernel_rfl))
noncomputable def h_I228:Hint:={ tab,hn:=[],loops:=[],outs:=[],ords:=[(4,(OT.seq [0,1,2,3,4,5,6,7,8,9,10,11] .done))] }
noncomputable def sg_I228:List AK:=[.v (.sl tQIIIIILIE) .k,.v (.int .i64) .k,.v (.int .i64) .k]
noncomputable def F_I228 (N:Nat) (x:AVals sg_I228) (kf:Ret→Option Ret):Option Ret:=I228 N x.1 x.2.1 x.2.2.1 (fun r0=>kf ⟨[⟨tQIIE,.k,r0⟩],[]⟩)
noncomputable def run_I228 (N:Nat):=runOf sg_I228 (F_I228 N)
noncomputable def es_I228 (N:Nat):List Entry:=[⟨40,[.val,.val],(run_I40 N)⟩,⟨143,[.val],(run_I143 N)⟩,⟨187,[.val],(run_I187 N)⟩,⟨170,[.val,.val],(run_S170 N)⟩]
noncomputable def body_I228:Code:=match Tryz.f228.body with | some c=>c | none=>.skip
theorem ls_I228:loopsIn body_I228=[]:=by kernel_rfl
theorem fn_I228 (N:Nat) (x:AVals sg_I228) (kf:Ret→Option Ret):F_I228 N x kf=peFunc h_I228 (Orc.of (es_I228 N)) (noL N N) Tryz.f228 (ashape sg_I228 x) kf:=by kernel_rfl
theorem sd_I228 {Γ : Gl} (N:Nat):Sound Γ Tryz.prog 228 (run_I228 N):=fun_ok2 (hh:=h_I228) mixed tab_ok (es:=es_I228 N) ⟨sd_I40 N,⟨sd_I143 N,⟨sd_I187 N,⟨sd_S170 N,trivial⟩⟩⟩⟩ (fn:=Tryz.f228) (body:=body_I228) (by kernel_rfl) (by kernel_rfl) (by kernel_rfl) (by kernel_rfl) (by kernel_rfl) (Lf:=noL N) (noL0 N) ls_I228 trivial (N:=N) (by kernel_rfl) (fn_I228 N) (.inl (by kernel_rfl))
noncomputable def ks_I186_l4:List Kd:=[.v (.sl tQIIIIILIE) .k,.v (.sl (.int .i64)) .k,dK,dK,dK,dK,.v (.int .i64) .k,dK,dK,dK,dK,dK,dK,dK,dK,dK,dK,dK,dK,dK,dK,dK,dK,dK,dK,dK,dK,dK,dK,dK,dK,dK,dK,dK,dK,dK,dK,dK,dK,dK,dK,dK,dK,dK,dK,dK,dK,dK,dK,dK,dK,dK,dK,dK,dK,dK,dK]
noncomputable def ko_I186_l4_0:List Kd:=[dK,dK,dK,dK,dK,dK,dK,dK,dK,dK,dK,dK,dK,dK,dK,dK,dK,dK,dK,dK,dK,dK,dK,dK,dK,dK,dK,dK,dK,dK,dK,dK,dK,dK,dK,dK,dK,dK,dK,dK,dK,dK,dK,dK,dK,dK,dK,dK,dK,dK,dK,dK,dK,dK,dK,dK,dK]
noncomputable def ko_I186_l4_1:List Kd:=[dK,dK,dK,dK,.v (.sl tQIIE) (.o 104 none .k),.v .bool .k,dK,dK,dK,dK,dK,dK,dK,dK,dK,dK,dK,dK,dK,dK,dK,dK,dK,dK,dK,dK,dK,dK,dK,dK,dK,dK,dK,dK,dK,dK,dK,dK,dK,dK,dK,dK,dK,dK,dK,dK,dK,dK,dK,dK,dK,dK,dK,dK,dK,dK,dK]
noncomputable def h_I186:Hint:={ tab,hn:=[],loops:=[(4,ks_I186_l4)],outs:=[(4,2,ko_I186_l4_0),(4,1,ko_I186_l4_1)],ords:=[(6,(OT.seq [0,1,2,3,4,5,6,7,8,9] .done)),(7,(OT.seq [0,1,2,3,4,5,6,7,8,9,10,11,12,13,14,15] .done)),(9,(OT.seq [0,1,2,3,4,5,6,7,10,8,9,11,12,13] .done))] }
noncomputable def sg_I186:List AK:=[.v (.sl tQIIIIILIE) .k,.v (.sl (.int .i64)) .k]
noncomputable def F_I186 (N:Nat) (x:AVals sg_I186) (kf:Ret→Option Ret):Option Ret:=I186 N x.1 x.2.1 (fun r0 r1=>kf ⟨[⟨(.sl tQIIE),(.o 104 none .k),r0⟩,⟨.bool,.k,r1⟩],[]⟩)
noncomputable def run_I186 (N:Nat):=runOf sg_I186 (F_I186 N)
noncomputable def es_I186 (N:Nat):List Entry:=[⟨77,[.val,.val,.val],(run_I77 N)⟩,⟨227,[.val],(run_S227 N)⟩,⟨228,[.val,.val,.val],(run_I228 N)⟩,⟨186,[.val,.val],(run_I186 N)⟩]
noncomputable def body_I186:Code:=match Tryz.f186.body with | some c=>c | none=>.skip
noncomputable def L_I186 (N n:Nat) (key:Nat) (S:St) (K:Ks):Option Ret:=bif Nat.beq key 4 then withVals ks_I186_l4 S (fun x=>I186_l4 N (I186 N) x.1 x.2.1 n (K (.x 0) (shape ko_I186_l4_0 ())) (fun z0 z1=>K .r (shape ko_I186_l4_1 (z0,z1,()))) x.2.2.1) else none
theorem L0_I186 (N key:Nat) (S:St) (K:Ks):L_I186 N 0 key S K=none:=(bif0 (withVals0 fun _=>rfl) rfl)
noncomputable def c_I186_0:Code:=(loopsIn body_I186).getD 0 .skip
theorem ls_I186:loopsIn body_I186=[c_I186_0]:=by kernel_rfl
theorem rd_I186_4 (N n:Nat) (x:Vals ks_I186_l4) (K:Ks):L_I186 N (n + 1) 4 (shape ks_I186_l4 x) (h_I186.onOut 4 K)=peRound h_I186 (Orc.of (es_I186 N)) (mixL (L_I186 N) N n 4) c_I186_0 (shape ks_I186_l4 x) (h_I186.onOut 4 K):=by kernel_rfl
theorem fn_I186 (N:Nat) (x:AVals sg_I186) (kf:Ret→Option Ret):F_I186 (N + 1) x kf=peFunc h_I186 (Orc.of (es_I186 N)) (L_I186 N N) Tryz.f186 (ashape sg_I186 x) kf:=by kernel_rfl
theorem sd_I186 {Γ : Gl} : ∀ N:Nat,Sound Γ Tryz.prog 186 (run_I186 N)
 | 0=>sound_zero fun al kf=>by
  unfold run_I186 runOf
  split <;> rfl
 | N + 1=>fun_ok2 (hh:=h_I186) mixed tab_ok (es:=es_I186 N) ⟨sd_I77 N,⟨sd_S227 N,⟨sd_I228 N,⟨sd_I186 N,trivial⟩⟩⟩⟩ (fn:=Tryz.f186) (body:=body_I186) (by kernel_rfl) (by kernel_rfl) (by kernel_rfl) (by kernel_rfl) (by kernel_rfl) (Lf:=L_I186 N) (L0_I186 N) ls_I186 (round_cons (key:=4) (ks:=ks_I186_l4) (by kernel_rfl) (by kernel_rfl) (rd_I186_4 N) trivial) (N:=N) (by kernel_rfl) (fn_I186 N) (.inl (by kernel_rfl))
noncomputable def h_I101:Hint:={ tab,hn:=[],loops:=[],outs:=[],ords:=[] }
noncomputable def sg_I101:List AK:=[.v (.sl tQIIIIILIE) .k]
noncomputable def F_I101 (N:Nat) (x:AVals sg_I101) (kf:Ret→Option Ret):Option Ret:=I101 N x.1 (fun r0 r1=>kf ⟨[⟨(.sl tQIIE),(.o 104 none .k),r0⟩,⟨.bool,.k,r1⟩],[]⟩)
noncomputable def run_I101 (N:Nat):=runOf sg_I101 (F_I101 N)
noncomputable def es_I101 (N:Nat):List Entry:=[⟨143,[.val],(run_I143 N)⟩,⟨187,[.val],(run_I187 N)⟩,⟨186,[.val,.val],(run_I186 N)⟩]
noncomputable def body_I101:Code:=match Tryz.f101.body with | some c=>c | none=>.skip
theorem ls_I101:loopsIn body_I101=[]:=by kernel_rfl
theorem fn_I101 (N:Nat) (x:AVals sg_I101) (kf:Ret→Option Ret):F_I101 N x kf=peFunc h_I101 (Orc.of (es_I101 N)) (noL N N) Tryz.f101 (ashape sg_I101 x) kf:=by kernel_rfl
theorem sd_I101 {Γ : Gl} (N:Nat):Sound Γ Tryz.prog 101 (run_I101 N):=fun_ok2 (hh:=h_I101) mixed tab_ok (es:=es_I101 N) ⟨sd_I143 N,⟨sd_I187 N,⟨sd_I186 N,trivial⟩⟩⟩ (fn:=Tryz.f101) (body:=body_I101) (by kernel_rfl) (by kernel_rfl) (by kernel_rfl) (by kernel_rfl) (by kernel_rfl) (Lf:=noL N) (noL0 N) ls_I101 trivial (N:=N) (by kernel_rfl) (fn_I101 N) (.inl (by kernel_rfl))
noncomputable def ks_I188_l4:List Kd:=[.v (.sl tQIIIIILIE) .k,.v (.sl tQIILIE) .k,.v (.sl tQIIE) .k,.v (.sl (.int .i64)) .k,dK,dK,dK,dK,dK,dK,dK,dK,dK,dK,dK,dK,dK,dK,.v (.sl tQIILIE) .k,.v (.int .i64) .k,.v (.int .i64) .k,dK,dK,dK,dK,dK,dK,dK,dK,dK,dK,dK,dK,dK,dK,dK,dK,dK,dK,dK,dK,dK,dK,dK,dK,dK,dK,dK,dK,dK,dK,dK,dK,dK,dK,dK,dK,dK,dK]
noncomputable def ko_I188_l4_0:List Kd:=[dK,dK,dK,dK,dK,dK,dK,dK,dK,dK,dK,dK,dK,dK,dK,dK,dK,dK,dK,dK,dK,dK,dK,dK,dK,dK,dK,dK,dK,dK,dK,dK,dK,dK,dK,dK,dK,dK,dK,dK,dK,dK,dK,dK,dK,dK,dK,dK,dK,dK,dK,dK,dK,dK,dK,dK,dK,dK,dK]
noncomputable def ko_I188_l4_1:List Kd:=[dK,dK,dK,dK,dK,dK,dK,dK,.v (.sl (.int .i64)) (.o 3 none .k),.v .bool .k,dK,dK,dK,dK,dK,dK,dK,dK,dK,dK,dK,dK,dK,dK,dK,dK,dK,dK,dK,dK,dK,dK,dK,dK,dK,dK,dK,dK,dK,dK,dK,dK,dK,dK,dK,dK,dK,dK,dK,dK,dK,dK,dK,dK,dK,dK,dK,dK,dK]
noncomputable def h_I188:Hint:={ tab,hn:=[],loops:=[(4,ks_I188_l4)],outs:=[(4,2,ko_I188_l4_0),(4,1,ko_I188_l4_1)],ords:=[(6,(OT.seq [0,1,2,3,4,5,6,7,8,9,10,11,12] .done)),(7,(OT.seq [4,6,7,0,1,2,3] (.any [5,8] (OT.seq [9,10,11,12,13,14,15] .done))))] }
noncomputable def sg_I188:List AK:=[.v (.sl tQIIIIILIE) .k,.v (.sl tQIILIE) .k,.v (.sl tQIIE) .k,.v (.sl (.int .i64)) .k]
noncomputable def F_I188 (N:Nat) (x:AVals sg_I188) (kf:Ret→Option Ret):Option Ret:=I188 N x.1 x.2.1 x.2.2.1 x.2.2.2.1 (fun r0 r1=>kf ⟨[⟨(.sl (.int .i64)),(.o 3 none .k),r0⟩,⟨.bool,.k,r1⟩],[]⟩)
noncomputable def run_I188 (N:Nat):=runOf sg_I188 (F_I188 N)
noncomputable def es_I188 (N:Nat):List Entry:=[⟨82,[.val,.val],(run_S82 N)⟩,⟨83,[.val,.val,.val],(run_I83 N)⟩,⟨166,[.val],(run_S166 N)⟩,⟨188,[.val,.val,.val,.val],(run_I188 N)⟩]
noncomputable def body_I188:Code:=match Tryz.f188.body with | some c=>c | none=>.skip
noncomputable def L_I188 (N n:Nat) (key:Nat) (S:St) (K:Ks):Option Ret:=bif Nat.beq key 4 then withVals ks_I188_l4 S (fun x=>I188_l4 N (I188 N) x.1 x.2.1 x.2.2.1 x.2.2.2.1 x.2.2.2.2.1 x.2.2.2.2.2.1 n (K (.x 0) (shape ko_I188_l4_0 ())) (fun z0 z1=>K .r (shape ko_I188_l4_1 (z0,z1,()))) x.2.2.2.2.2.2.1) else none
theorem L0_I188 (N key:Nat) (S:St) (K:Ks):L_I188 N 0 key S K=none:=(bif0 (withVals0 fun _=>rfl) rfl)
noncomputable def c_I188_0:Code:=(loopsIn body_I188).getD 0 .skip
theorem ls_I188:loopsIn body_I188=[c_I188_0]:=by kernel_rfl
theorem rd_I188_4 (N n:Nat) (x:Vals ks_I188_l4) (K:Ks):L_I188 N (n + 1) 4 (shape ks_I188_l4 x) (h_I188.onOut 4 K)=peRound h_I188 (Orc.of (es_I188 N)) (mixL (L_I188 N) N n 4) c_I188_0 (shape ks_I188_l4 x) (h_I188.onOut 4 K):=by kernel_rfl
theorem fn_I188 (N:Nat) (x:AVals sg_I188) (kf:Ret→Option Ret):F_I188 (N + 1) x kf=peFunc h_I188 (Orc.of (es_I188 N)) (L_I188 N N) Tryz.f188 (ashape sg_I188 x) kf:=by kernel_rfl
theorem sd_I188 {Γ : Gl} : ∀ N:Nat,Sound Γ Tryz.prog 188 (run_I188 N)
 | 0=>sound_zero fun al kf=>by
  unfold run_I188 runOf
  split <;> rfl
 | N + 1=>fun_ok2 (hh:=h_I188) mixed tab_ok (es:=es_I188 N) ⟨sd_S82 N,⟨sd_I83 N,⟨sd_S166 N,⟨sd_I188 N,trivial⟩⟩⟩⟩ (fn:=Tryz.f188) (body:=body_I188) (by kernel_rfl) (by kernel_rfl) (by kernel_rfl) (by kernel_rfl) (by kernel_rfl) (Lf:=L_I188 N) (L0_I188 N) ls_I188 (round_cons (key:=4) (ks:=ks_I188_l4) (by kernel_rfl) (by kernel_rfl) (rd_I188_4 N) trivial) (N:=N) (by kernel_rfl) (fn_I188 N) (.inl (by kernel_rfl))
noncomputable def h_I102:Hint:={ tab,hn:=[],loops:=[],outs:=[],ords:=[] }
noncomputable def sg_I102:List AK:=[.v (.sl tQIIIIILIE) .k,.v (.sl tQIILIE) .k,.v (.sl tQIIE) .k]
noncomputable def F_I102 (N:Nat) (x:AVals sg_I102) (kf:Ret→Option Ret):Option Ret:=I102 N x.1 x.2.1 x.2.2.1 (fun r0 r1=>kf ⟨[⟨(.sl (.int .i64)),(.o 3 none .k),r0⟩,⟨.bool,.k,r1⟩],[]⟩)
noncomputable def run_I102 (N:Nat):=runOf sg_I102 (F_I102 N)
noncomputable def es_I102 (N:Nat):List Entry:=[⟨79,[.val],(run_I79 N)⟩,⟨143,[.val],(run_I143 N)⟩,⟨188,[.val,.val,.val,.val],(run_I188 N)⟩]
noncomputable def body_I102:Code:=match Tryz.f102.body with | some c=>c | none=>.skip
theorem ls_I102:loopsIn body_I102=[]:=by kernel_rfl
theorem fn_I102 (N:Nat) (x:AVals sg_I102) (kf:Ret→Option Ret):F_I102 N x kf=peFunc h_I102 (Orc.of (es_I102 N)) (noL N N) Tryz.f102 (ashape sg_I102 x) kf:=by kernel_rfl
theorem sd_I102 {Γ : Gl} (N:Nat):Sound Γ Tryz.prog 102 (run_I102 N):=fun_ok2 (hh:=h_I102) mixed tab_ok (es:=es_I102 N) ⟨sd_I79 N,⟨sd_I143 N,⟨sd_I188 N,trivial⟩⟩⟩ (fn:=Tryz.f102) (body:=body_I102) (by kernel_rfl) (by kernel_rfl) (by kernel_rfl) (by kernel_rfl) (by kernel_rfl) (Lf:=noL N) (noL0 N) ls_I102 trivial (N:=N) (by kernel_rfl) (fn_I102 N) (.inl (by kernel_rfl))
noncomputable def h_I23:Hint:={ tab,hn:=[],loops:=[],outs:=[],ords:=[(8,(OT.seq [0,5,1,2,3] (.par [4,6,7,8] [[50,51]] (OT.seq [9,10] .done))))] }
noncomputable def sg_I23:List AK:=[.v tQLQIIIIILIELQIILIELQIIELILQIIIELQIIIIEIE .k]
noncomputable def F_I23 (N:Nat) (x:AVals sg_I23) (kf:Ret→Option Ret):Option Ret:=I23 N x.1 (fun r0 r1=>kf ⟨[⟨tQLQIIIIILIELQIILIELQIIELILQIIIELQIIIIEIE,(.p (.o 46 none (.p .k (.p .k (.p .k (.p .k (.p .k (.o 3 none .k))))))) (.p (.o 80 none (.p .k (.p .k (.o 3 none .k)))) (.p (.o 104 none .k) (.p (.o 3 none .k) (.p (.o 136 none .k) (.p (.o 102 none .k) .k)))))),r0⟩,⟨.bool,.k,r1⟩],[]⟩)
noncomputable def run_I23 (N:Nat):=runOf sg_I23 (F_I23 N)
noncomputable def es_I23 (N:Nat):List Entry:=[⟨70,[.val],(run_I70 N)⟩,⟨39,[.val],(run_I39 N)⟩,⟨16,[.val],(run_I16 N)⟩,⟨101,[.val],(run_I101 N)⟩,⟨102,[.val,.val,.val],(run_I102 N)⟩,⟨103,[.val,.take,.val,.val],(run_I103 N)⟩]
noncomputable def body_I23:Code:=match Tryz.f23.body with | some c=>c | none=>.skip
theorem ls_I23:loopsIn body_I23=[]:=by kernel_rfl
theorem fn_I23 (N:Nat) (x:AVals sg_I23) (kf:Ret→Option Ret):F_I23 N x kf=peFunc h_I23 (Orc.of (es_I23 N)) (noL N N) Tryz.f23 (ashape sg_I23 x) kf:=by kernel_rfl
theorem sd_I23 {Γ : Gl} (N:Nat):Sound Γ Tryz.prog 23 (run_I23 N):=fun_ok2 (hh:=h_I23) mixed tab_ok (es:=es_I23 N) ⟨sd_I70 N,⟨sd_I39 N,⟨sd_I16 N,⟨sd_I101 N,⟨sd_I102 N,⟨sd_I103 N,trivial⟩⟩⟩⟩⟩⟩ (fn:=Tryz.f23) (body:=body_I23) (by kernel_rfl) (by kernel_rfl) (by kernel_rfl) (by kernel_rfl) (by kernel_rfl) (Lf:=noL N) (noL0 N) ls_I23 trivial (N:=N) (by kernel_rfl) (fn_I23 N) (.inl (by kernel_rfl))
noncomputable def h_I35:Hint:={ tab,hn:=[],loops:=[],outs:=[],ords:=[] }
noncomputable def sg_I35:List AK:=[.v tQLQIIIIILIELQIILIELQIIELILQIIIELQIIIIEIE .k,.v (.int .i64) .k,.v (.int .i64) .k,.v (.int .i64) .k]
noncomputable def F_I35 (N:Nat) (x:AVals sg_I35) (kf:Ret→Option Ret):Option Ret:=I35 N x.1 x.2.1 x.2.2.1 x.2.2.2.1 (fun r0 r1=>kf ⟨[⟨tQLQIIIIILIELQIILIELQIIELILQIIIELQIIIIEIE,(.p (.o 46 none (.p .k (.p .k (.p .k (.p .k (.p .k (.o 3 none .k))))))) (.p (.o 80 none (.p .k (.p .k (.o 3 none .k)))) (.p (.o 104 none .k) (.p (.o 3 none .k) (.p (.o 136 none .k) (.p (.o 102 none .k) .k)))))),r0⟩,⟨.bool,.k,r1⟩],[]⟩)
noncomputable def run_I35 (N:Nat):=runOf sg_I35 (F_I35 N)
noncomputable def es_I35 (N:Nat):List Entry:=[⟨70,[.val],(run_I70 N)⟩,⟨39,[.val],(run_I39 N)⟩,⟨138,[.val],(run_I138 N)⟩,⟨103,[.val,.take,.val,.val],(run_I103 N)⟩]
noncomputable def body_I35:Code:=match Tryz.f35.body with | some c=>c | none=>.skip
theorem ls_I35:loopsIn body_I35=[]:=by kernel_rfl
theorem fn_I35 (N:Nat) (x:AVals sg_I35) (kf:Ret→Option Ret):F_I35 N x kf=peFunc h_I35 (Orc.of (es_I35 N)) (noL N N) Tryz.f35 (ashape sg_I35 x) kf:=by kernel_rfl
theorem sd_I35 {Γ : Gl} (N:Nat):Sound Γ Tryz.prog 35 (run_I35 N):=fun_ok2 (hh:=h_I35) mixed tab_ok (es:=es_I35 N) ⟨sd_I70 N,⟨sd_I39 N,⟨sd_I138 N,⟨sd_I103 N,trivial⟩⟩⟩⟩ (fn:=Tryz.f35) (body:=body_I35) (by kernel_rfl) (by kernel_rfl) (by kernel_rfl) (by kernel_rfl) (by kernel_rfl) (Lf:=noL N) (noL0 N) ls_I35 trivial (N:=N) (by kernel_rfl) (fn_I35 N) (.inl (by kernel_rfl))
noncomputable def ks_I41_l3:List Kd:=[dK,dK,dK,.v (.sl (.int .i64)) (.o 3 none .k),dK,dK,dK,dK,.v (.sl tQIIIE) .k,.v (.int .i64) .k,.v (.int .i64) .k,dK,dK,dK,dK,dK,dK,dK,dK,dK,dK,dK,dK,dK]
noncomputable def ko_I41_l3_0:List Kd:=[dK,dK,dK,.v (.sl (.int .i64)) (.o 3 none .k),dK,dK,dK,dK,dK,dK,dK,dK,dK,dK,dK,dK,dK,dK,dK,dK,dK,dK,dK,dK]
noncomputable def h_I41:Hint:={ tab,hn:=[],loops:=[(3,ks_I41_l3)],outs:=[(3,2,ko_I41_l3_0)],ords:=[] }
noncomputable def sg_I41:List AK:=[.v tQLQIIIIILIELQIILIELQIIELILQIIIELQIIIIEIE .k]
noncomputable def F_I41 (N:Nat) (x:AVals sg_I41) (kf:Ret→Option Ret):Option Ret:=I41 N x.1 (fun r0=>kf ⟨[⟨(.sl (.int .i64)),(.o 3 none .k),r0⟩],[]⟩)
noncomputable def run_I41 (N:Nat):=runOf sg_I41 (F_I41 N)
noncomputable def es_I41 (N:Nat):List Entry:=[]
noncomputable def body_I41:Code:=match Tryz.f41.body with | some c=>c | none=>.skip
noncomputable def L_I41 (N n:Nat) (key:Nat) (S:St) (K:Ks):Option Ret:=bif Nat.beq key 3 then withVals ks_I41_l3 S (fun x=>I41_l3 x.2.1 x.2.2.1 n (fun z0=>K (.x 0) (shape ko_I41_l3_0 (z0,()))) x.1 x.2.2.2.1) else none
theorem L0_I41 (N key:Nat) (S:St) (K:Ks):L_I41 N 0 key S K=none:=(bif0 (withVals0 fun _=>rfl) rfl)
noncomputable def c_I41_0:Code:=(loopsIn body_I41).getD 0 .skip
theorem ls_I41:loopsIn body_I41=[c_I41_0]:=by kernel_rfl
theorem rd_I41_3 (N n:Nat) (x:Vals ks_I41_l3) (K:Ks):L_I41 N (n + 1) 3 (shape ks_I41_l3 x) (h_I41.onOut 3 K)=peRound h_I41 (Orc.of (es_I41 N)) (mixL (L_I41 N) N n 3) c_I41_0 (shape ks_I41_l3 x) (h_I41.onOut 3 K):=by kernel_rfl
theorem fn_I41 (N:Nat) (x:AVals sg_I41) (kf:Ret→Option Ret):F_I41 N x kf=peFunc h_I41 (Orc.of (es_I41 N)) (L_I41 N N) Tryz.f41 (ashape sg_I41 x) kf:=by kernel_rfl
theorem sd_I41 {Γ : Gl} (N:Nat):Sound Γ Tryz.prog 41 (run_I41 N):=fun_ok2 (hh:=h_I41) mixed tab_ok (es:=es_I41 N) trivial (fn:=Tryz.f41) (body:=body_I41) (by kernel_rfl) (by kernel_rfl) (by kernel_rfl) (by kernel_rfl) (by kernel_rfl) (Lf:=L_I41 N) (L0_I41 N) ls_I41 (round_cons (key:=3) (ks:=ks_I41_l3) (by kernel_rfl) (by kernel_rfl) (rd_I41_3 N) trivial) (N:=N) (by kernel_rfl) (fn_I41 N) (.inl (by kernel_rfl))
noncomputable def ks_I205_l4:List Kd:=[.v (.sl tQIIIE) .k,dK,dK,dK,dK,dK,dK,dK,.v (.sl tQIIIE) .k,.v (.int .i64) .k,.v (.int .i64) .k,dK,dK,dK,dK,dK,dK,dK,dK,dK,dK,dK,dK,dK,dK,dK,dK,dK,dK,dK,dK,dK,dK,dK]
noncomputable def ko_I205_l4_0:List Kd:=[dK,dK,dK,dK,dK,dK,dK,dK,dK,dK,dK,dK,dK,dK,dK,dK,dK,dK,dK,dK,dK,dK,dK,dK,dK,dK,dK,dK,dK,dK,dK,dK,dK,dK]
noncomputable def ko_I205_l4_1:List Kd:=[dK,dK,.v .bool .k,dK,dK,dK,dK,dK,dK,dK,dK,dK,dK,dK,dK,dK,dK,dK,dK,dK,dK,dK,dK,dK,dK,dK,dK,dK,dK,dK,dK,dK,dK,dK]
noncomputable def h_I205:Hint:={ tab,hn:=[],loops:=[(4,ks_I205_l4)],outs:=[(4,2,ko_I205_l4_0),(4,1,ko_I205_l4_1)],ords:=[(6,(OT.seq [0,1,2,3,4,5,6,7,8,9,10,11,12,13,14,15,16,17] .done))] }
noncomputable def sg_I205:List AK:=[.v (.sl tQIIIE) .k]
noncomputable def F_I205 (N:Nat) (x:AVals sg_I205) (kf:Ret→Option Ret):Option Ret:=I205 N x.1 (fun r0=>kf ⟨[⟨.bool,.k,r0⟩],[]⟩)
noncomputable def run_I205 (N:Nat):=runOf sg_I205 (F_I205 N)
noncomputable def es_I205 (N:Nat):List Entry:=[⟨138,[.val],(run_I138 N)⟩]
noncomputable def body_I205:Code:=match Tryz.f205.body with | some c=>c | none=>.skip
noncomputable def L_I205 (N n:Nat) (key:Nat) (S:St) (K:Ks):Option Ret:=bif Nat.beq key 4 then withVals ks_I205_l4 S (fun x=>I205_l4 N x.1 x.2.1 x.2.2.1 n (K (.x 0) (shape ko_I205_l4_0 ())) (fun z0=>K .r (shape ko_I205_l4_1 (z0,()))) x.2.2.2.1) else none
theorem L0_I205 (N key:Nat) (S:St) (K:Ks):L_I205 N 0 key S K=none:=(bif0 (withVals0 fun _=>rfl) rfl)
noncomputable def c_I205_0:Code:=(loopsIn body_I205).getD 0 .skip
theorem ls_I205:loopsIn body_I205=[c_I205_0]:=by kernel_rfl
theorem rd_I205_4 (N n:Nat) (x:Vals ks_I205_l4) (K:Ks):L_I205 N (n + 1) 4 (shape ks_I205_l4 x) (h_I205.onOut 4 K)=peRound h_I205 (Orc.of (es_I205 N)) (mixL (L_I205 N) N n 4) c_I205_0 (shape ks_I205_l4 x) (h_I205.onOut 4 K):=by kernel_rfl
theorem fn_I205 (N:Nat) (x:AVals sg_I205) (kf:Ret→Option Ret):F_I205 N x kf=peFunc h_I205 (Orc.of (es_I205 N)) (L_I205 N N) Tryz.f205 (ashape sg_I205 x) kf:=by kernel_rfl
theorem sd_I205 {Γ : Gl} (N:Nat):Sound Γ Tryz.prog 205 (run_I205 N):=fun_ok2 (hh:=h_I205) mixed tab_ok (es:=es_I205 N) ⟨sd_I138 N,trivial⟩ (fn:=Tryz.f205) (body:=body_I205) (by kernel_rfl) (by kernel_rfl) (by kernel_rfl) (by kernel_rfl) (by kernel_rfl) (Lf:=L_I205 N) (L0_I205 N) ls_I205 (round_cons (key:=4) (ks:=ks_I205_l4) (by kernel_rfl) (by kernel_rfl) (rd_I205_4 N) trivial) (N:=N) (by kernel_rfl) (fn_I205 N) (.inl (by kernel_rfl))
noncomputable def h_I208:Hint:={ tab,hn:=[],loops:=[],outs:=[],ords:=[] }
noncomputable def sg_I208:List AK:=[.v tQIIIE .k]
noncomputable def F_I208 (N:Nat) (x:AVals sg_I208) (kf:Ret→Option Ret):Option Ret:=I208 N x.1 (fun r0=>kf ⟨[⟨(.int .i64),.k,r0⟩],[]⟩)
noncomputable def run_I208 (N:Nat):=runOf sg_I208 (F_I208 N)
noncomputable def es_I208 (N:Nat):List Entry:=[]
noncomputable def body_I208:Code:=match Tryz.f208.body with | some c=>c | none=>.skip
theorem ls_I208:loopsIn body_I208=[]:=by kernel_rfl
theorem fn_I208 (N:Nat) (x:AVals sg_I208) (kf:Ret→Option Ret):F_I208 N x kf=peFunc h_I208 (Orc.of (es_I208 N)) (noL N N) Tryz.f208 (ashape sg_I208 x) kf:=by kernel_rfl
theorem sd_I208 {Γ : Gl} (N:Nat):Sound Γ Tryz.prog 208 (run_I208 N):=fun_ok2 (hh:=h_I208) mixed tab_ok (es:=es_I208 N) trivial (fn:=Tryz.f208) (body:=body_I208) (by kernel_rfl) (by kernel_rfl) (by kernel_rfl) (by kernel_rfl) (by kernel_rfl) (Lf:=noL N) (noL0 N) ls_I208 trivial (N:=N) (by kernel_rfl) (fn_I208 N) (.inl (by kernel_rfl))
noncomputable def ks_I206_l5:List Kd:=[dK,.v (.int .i64) .k,dK,dK,dK,.v (.int .i64) .k,dK,dK,dK,dK,dK,dK,.v (.sl tQIIIE) .k,.v (.int .i64) .k,.v (.int .i64) .k,dK,dK,dK,dK,dK,dK,dK,dK,dK,dK,dK]
noncomputable def ko_I206_l5_0:List Kd:=[dK,dK,dK,dK,dK,.v (.int .i64) .k,dK,dK,dK,dK,dK,dK,dK,dK,dK,dK,dK,dK,dK,dK,dK,dK,dK,dK,dK,dK]
noncomputable def h_I206:Hint:={ tab,hn:=[],loops:=[(5,ks_I206_l5)],outs:=[(5,2,ko_I206_l5_0)],ords:=[] }
noncomputable def sg_I206:List AK:=[.v (.sl tQIIIE) .k,.v (.int .i64) .k]
noncomputable def F_I206 (N:Nat) (x:AVals sg_I206) (kf:Ret→Option Ret):Option Ret:=I206 N x.1 x.2.1 (fun r0=>kf ⟨[⟨(.int .i64),.k,r0⟩],[]⟩)
noncomputable def run_I206 (N:Nat):=runOf sg_I206 (F_I206 N)
noncomputable def es_I206 (N:Nat):List Entry:=[⟨205,[.val],(run_I205 N)⟩,⟨208,[.val],(run_I208 N)⟩]
noncomputable def body_I206:Code:=match Tryz.f206.body with | some c=>c | none=>.skip
noncomputable def L_I206 (N n:Nat) (key:Nat) (S:St) (K:Ks):Option Ret:=bif Nat.beq key 5 then withVals ks_I206_l5 S (fun x=>I206_l5 N x.1 x.2.2.1 x.2.2.2.1 n (fun z0=>K (.x 0) (shape ko_I206_l5_0 (z0,()))) x.2.1 x.2.2.2.2.1) else none
theorem L0_I206 (N key:Nat) (S:St) (K:Ks):L_I206 N 0 key S K=none:=(bif0 (withVals0 fun _=>rfl) rfl)
noncomputable def c_I206_0:Code:=(loopsIn body_I206).getD 0 .skip
theorem ls_I206:loopsIn body_I206=[c_I206_0]:=by kernel_rfl
theorem rd_I206_5 (N n:Nat) (x:Vals ks_I206_l5) (K:Ks):L_I206 N (n + 1) 5 (shape ks_I206_l5 x) (h_I206.onOut 5 K)=peRound h_I206 (Orc.of (es_I206 N)) (mixL (L_I206 N) N n 5) c_I206_0 (shape ks_I206_l5 x) (h_I206.onOut 5 K):=by kernel_rfl
theorem fn_I206 (N:Nat) (x:AVals sg_I206) (kf:Ret→Option Ret):F_I206 N x kf=peFunc h_I206 (Orc.of (es_I206 N)) (L_I206 N N) Tryz.f206 (ashape sg_I206 x) kf:=by kernel_rfl
theorem sd_I206 {Γ : Gl} (N:Nat):Sound Γ Tryz.prog 206 (run_I206 N):=fun_ok2 (hh:=h_I206) mixed tab_ok (es:=es_I206 N) ⟨sd_I205 N,⟨sd_I208 N,trivial⟩⟩ (fn:=Tryz.f206) (body:=body_I206) (by kernel_rfl) (by kernel_rfl) (by kernel_rfl) (by kernel_rfl) (by kernel_rfl) (Lf:=L_I206 N) (L0_I206 N) ls_I206 (round_cons (key:=5) (ks:=ks_I206_l5) (by kernel_rfl) (by kernel_rfl) (rd_I206_5 N) trivial) (N:=N) (by kernel_rfl) (fn_I206 N) (.inl (by kernel_rfl))
noncomputable def ks_I207_l5:List Kd:=[dK,.v (.int .i64) .k,dK,dK,dK,.v (.int .i64) .k,dK,dK,dK,dK,dK,dK,.v (.sl tQIIIE) .k,.v (.int .i64) .k,.v (.int .i64) .k,dK,dK,dK,dK,dK,dK,dK,dK,dK,dK,dK,dK,dK,dK,dK,dK,dK,dK]
noncomputable def ko_I207_l5_0:List Kd:=[dK,dK,dK,dK,dK,.v (.int .i64) .k,dK,dK,dK,dK,dK,dK,dK,dK,dK,dK,dK,dK,dK,dK,dK,dK,dK,dK,dK,dK,dK,dK,dK,dK,dK,dK,dK]
noncomputable def h_I207:Hint:={ tab,hn:=[],loops:=[(5,ks_I207_l5)],outs:=[(5,2,ko_I207_l5_0)],ords:=[] }
noncomputable def sg_I207:List AK:=[.v (.sl tQIIIE) .k,.v (.int .i64) .k]
noncomputable def F_I207 (N:Nat) (x:AVals sg_I207) (kf:Ret→Option Ret):Option Ret:=I207 N x.1 x.2.1 (fun r0=>kf ⟨[⟨(.int .i64),.k,r0⟩],[]⟩)
noncomputable def run_I207 (N:Nat):=runOf sg_I207 (F_I207 N)
noncomputable def es_I207 (N:Nat):List Entry:=[⟨205,[.val],(run_I205 N)⟩]
noncomputable def body_I207:Code:=match Tryz.f207.body with | some c=>c | none=>.skip
noncomputable def L_I207 (N n:Nat) (key:Nat) (S:St) (K:Ks):Option Ret:=bif Nat.beq key 5 then withVals ks_I207_l5 S (fun x=>I207_l5 x.1 x.2.2.1 x.2.2.2.1 n (fun z0=>K (.x 0) (shape ko_I207_l5_0 (z0,()))) x.2.1 x.2.2.2.2.1) else none
theorem L0_I207 (N key:Nat) (S:St) (K:Ks):L_I207 N 0 key S K=none:=(bif0 (withVals0 fun _=>rfl) rfl)
noncomputable def c_I207_0:Code:=(loopsIn body_I207).getD 0 .skip
theorem ls_I207:loopsIn body_I207=[c_I207_0]:=by kernel_rfl
theorem rd_I207_5 (N n:Nat) (x:Vals ks_I207_l5) (K:Ks):L_I207 N (n + 1) 5 (shape ks_I207_l5 x) (h_I207.onOut 5 K)=peRound h_I207 (Orc.of (es_I207 N)) (mixL (L_I207 N) N n 5) c_I207_0 (shape ks_I207_l5 x) (h_I207.onOut 5 K):=by kernel_rfl
theorem fn_I207 (N:Nat) (x:AVals sg_I207) (kf:Ret→Option Ret):F_I207 N x kf=peFunc h_I207 (Orc.of (es_I207 N)) (L_I207 N N) Tryz.f207 (ashape sg_I207 x) kf:=by kernel_rfl
theorem sd_I207 {Γ : Gl} (N:Nat):Sound Γ Tryz.prog 207 (run_I207 N):=fun_ok2 (hh:=h_I207) mixed tab_ok (es:=es_I207 N) ⟨sd_I205 N,trivial⟩ (fn:=Tryz.f207) (body:=body_I207) (by kernel_rfl) (by kernel_rfl) (by kernel_rfl) (by kernel_rfl) (by kernel_rfl) (Lf:=L_I207 N) (L0_I207 N) ls_I207 (round_cons (key:=5) (ks:=ks_I207_l5) (by kernel_rfl) (by kernel_rfl) (rd_I207_5 N) trivial) (N:=N) (by kernel_rfl) (fn_I207 N) (.inl (by kernel_rfl))
noncomputable def h_I129:Hint:={ tab,hn:=[],loops:=[],outs:=[],ords:=[] }
noncomputable def sg_I129:List AK:=[.v (.sl tQIIIE) .k]
noncomputable def F_I129 (N:Nat) (x:AVals sg_I129) (kf:Ret→Option Ret):Option Ret:=I129 N x.1 (fun r0=>kf ⟨[⟨(.int .i64),.k,r0⟩],[]⟩)
noncomputable def run_I129 (N:Nat):=runOf sg_I129 (F_I129 N)
noncomputable def es_I129 (N:Nat):List Entry:=[⟨205,[.val],(run_I205 N)⟩,⟨206,[.val,.val],(run_I206 N)⟩,⟨207,[.val,.val],(run_I207 N)⟩,⟨208,[.val],(run_I208 N)⟩]
noncomputable def body_I129:Code:=match Tryz.f129.body with | some c=>c | none=>.skip
theorem ls_I129:loopsIn body_I129=[]:=by kernel_rfl
theorem fn_I129 (N:Nat) (x:AVals sg_I129) (kf:Ret→Option Ret):F_I129 N x kf=peFunc h_I129 (Orc.of (es_I129 N)) (noL N N) Tryz.f129 (ashape sg_I129 x) kf:=by kernel_rfl
theorem sd_I129 {Γ : Gl} (N:Nat):Sound Γ Tryz.prog 129 (run_I129 N):=fun_ok2 (hh:=h_I129) mixed tab_ok (es:=es_I129 N) ⟨sd_I205 N,⟨sd_I206 N,⟨sd_I207 N,⟨sd_I208 N,trivial⟩⟩⟩⟩ (fn:=Tryz.f129) (body:=body_I129) (by kernel_rfl) (by kernel_rfl) (by kernel_rfl) (by kernel_rfl) (by kernel_rfl) (Lf:=noL N) (noL0 N) ls_I129 trivial (N:=N) (by kernel_rfl) (fn_I129 N) (.inl (by kernel_rfl))
noncomputable def h_I128:Hint:={ tab,hn:=[],loops:=[],outs:=[],ords:=[(5,(OT.seq [4,5,6,7,8] (.own 65 (OT.seq [9,0,1,2,3,12,13,14,15,17] (.par [10,11,16,18] [[74,75],[65,66,67,68]] (.own 73 (OT.seq [19,20,21,22,23,24,25] .done)))))))] }
noncomputable def sg_I128:List AK:=[.v (.sl tQIIIIILIE) .k,.v (.int .i64) .k,.v (.int .i64) .k,.v (.int .i64) .k,.v (.int .i64) .k,.v (.int .i64) .k]
noncomputable def F_I128 (N:Nat) (x:AVals sg_I128) (kf:Ret→Option Ret):Option Ret:=I128 N x.1 x.2.1 x.2.2.1 x.2.2.2.1 x.2.2.2.2.1 x.2.2.2.2.2.1 (fun r0 r1=>kf ⟨[⟨(.sl tQIIIIILIE),(.o 46 none (.p .k (.p .k (.p .k (.p .k (.p .k (.o 3 none .k))))))),r0⟩,⟨.bool,.k,r1⟩],[]⟩)
noncomputable def run_I128 (N:Nat):=runOf sg_I128 (F_I128 N)
noncomputable def es_I128 (N:Nat):List Entry:=[⟨163,[.val],(run_I163 N)⟩,⟨40,[.val,.val],(run_I40 N)⟩,⟨143,[.val],(run_I143 N)⟩,⟨144,[.val,.val,.val],(run_I144 N)⟩]
noncomputable def body_I128:Code:=match Tryz.f128.body with | some c=>c | none=>.skip
theorem ls_I128:loopsIn body_I128=[]:=by kernel_rfl
theorem fn_I128 (N:Nat) (x:AVals sg_I128) (kf:Ret→Option Ret):F_I128 N x kf=peFunc h_I128 (Orc.of (es_I128 N)) (noL N N) Tryz.f128 (ashape sg_I128 x) kf:=by kernel_rfl
theorem sd_I128 {Γ : Gl} (N:Nat):Sound Γ Tryz.prog 128 (run_I128 N):=fun_ok2 (hh:=h_I128) mixed tab_ok (es:=es_I128 N) ⟨sd_I163 N,⟨sd_I40 N,⟨sd_I143 N,⟨sd_I144 N,trivial⟩⟩⟩⟩ (fn:=Tryz.f128) (body:=body_I128) (by kernel_rfl) (by kernel_rfl) (by kernel_rfl) (by kernel_rfl) (by kernel_rfl) (Lf:=noL N) (noL0 N) ls_I128 trivial (N:=N) (by kernel_rfl) (fn_I128 N) (.inl (by kernel_rfl))
def ren_S131:Go.Shelf.Ren:=⟨fun n=>bif Nat.beq n 125 then 211 else bif Nat.beq n 128 then 244 else bif Nat.beq n 129 then 245 else bif Nat.beq n 189 then 131 else bif Nat.beq n 215 then 253 else bif Nat.beq n 216 then 241 else bif Nat.beq n 257 then 210 else bif Nat.beq n 294 then 235 else bif Nat.beq n 295 then 236 else bif Nat.beq n 296 then 237 else bif Nat.beq n 297 then 238 else bif Nat.beq n 298 then 239 else bif Nat.beq n 299 then 240 else bif Nat.beq n 300 then 242 else bif Nat.beq n 301 then 243 else bif Nat.beq n 328 then 254 else bif Nat.beq n 329 then 255 else bif Nat.beq n 330 then 256 else bif Nat.beq n 331 then 257 else bif Nat.beq n 332 then 258 else bif Nat.beq n 343 then 271 else n,fun n=>bif Nat.beq n 0 then 0 else bif Nat.beq n 3 then 3 else bif Nat.beq n 4 then 4 else bif Nat.beq n 5 then 5 else bif Nat.beq n 9 then 9 else bif Nat.beq n 28 then 27 else bif Nat.beq n 46 then 194 else bif Nat.beq n 51 then 216 else bif Nat.beq n 53 then 218 else bif Nat.beq n 131 then 213 else bif Nat.beq n 182 then 207 else bif Nat.beq n 183 then 208 else bif Nat.beq n 218 then 222 else bif Nat.beq n 222 then 226 else bif Nat.beq n 228 then 235 else bif Nat.beq n 229 then 236 else n,fun n=>n⟩
theorem lays_S131:Lays.n189 Tryz.prog ren_S131:={ mixed:=by kernel_rfl,f125:=by kernel_rfl,f128:=by kernel_rfl,f129:=by kernel_rfl,f189:=by kernel_rfl,f215:=by kernel_rfl,f216:=by kernel_rfl,f257:=by kernel_rfl,f294:=by kernel_rfl,f295:=by kernel_rfl,f296:=by kernel_rfl,f297:=by kernel_rfl,f298:=by kernel_rfl,f299:=by kernel_rfl,f300:=by kernel_rfl,f301:=by kernel_rfl,f328:=by kernel_rfl,f329:=by kernel_rfl,f330:=by kernel_rfl,f331:=by kernel_rfl,f332:=by kernel_rfl,f343:=by kernel_rfl,t0:=by kernel_rfl,a0:=fun w=>by kernel_rfl,z0:=fun w=>by kernel_rfl,v0:=fun w=>by kernel_rfl,t3:=by kernel_rfl,a3:=fun w=>by kernel_rfl,z3:=fun w=>by kernel_rfl,v3:=fun w=>by kernel_rfl,t4:=by kernel_rfl,a4:=fun w=>by kernel_rfl,z4:=fun w=>by kernel_rfl,v4:=fun w=>by kernel_rfl,t5:=by kernel_rfl,a5:=fun w=>by kernel_rfl,z5:=fun w=>by kernel_rfl,v5:=fun w=>by kernel_rfl,t9:=by kernel_rfl,a9:=fun w=>by kernel_rfl,z9:=fun w=>by kernel_rfl,v9:=fun w=>by kernel_rfl,t28:=by kernel_rfl,a28:=fun w=>by kernel_rfl,z28:=fun w=>by kernel_rfl,v28:=fun w=>by kernel_rfl,t46:=by kernel_rfl,a46:=fun w=>by kernel_rfl,z46:=fun w=>by kernel_rfl,v46:=fun w=>by kernel_rfl,t51:=by kernel_rfl,a51:=fun w=>by kernel_rfl,z51:=fun w=>by kernel_rfl,v51:=fun w=>by kernel_rfl,t53:=by kernel_rfl,a53:=fun w=>by kernel_rfl,z53:=fun w=>by kernel_rfl,v53:=fun w=>by kernel_rfl,t131:=by kernel_rfl,a131:=fun w=>by kernel_rfl,z131:=fun w=>by kernel_rfl,v131:=fun w=>by kernel_rfl,t182:=by kernel_rfl,a182:=fun w=>by kernel_rfl,z182:=fun w=>by kernel_rfl,v182:=fun w=>by kernel_rfl,t183:=by kernel_rfl,a183:=fun w=>by kernel_rfl,z183:=fun w=>by kernel_rfl,v183:=fun w=>by kernel_rfl,t218:=by kernel_rfl,a218:=fun w=>by kernel_rfl,z218:=fun w=>by kernel_rfl,v218:=fun w=>by kernel_rfl,t222:=by kernel_rfl,a222:=fun w=>by kernel_rfl,z222:=fun w=>by kernel_rfl,v222:=fun w=>by kernel_rfl,t228:=by kernel_rfl,a228:=fun w=>by kernel_rfl,z228:=fun w=>by kernel_rfl,v228:=fun w=>by kernel_rfl,t229:=by kernel_rfl,a229:=fun w=>by kernel_rfl,z229:=fun w=>by kernel_rfl,v229:=fun w=>by kernel_rfl }
noncomputable def sg_S131:List AK:=[.v (.sl (.int .i64)) (.o 3 (some 0) .k)]
noncomputable def F_S131 (N:Nat) (x:AVals sg_S131) (kf:Ret→Option Ret):Option Ret:=S131 N x.1 (fun z=>kf ⟨[],[⟨(.sl (.int .i64)),(.o 3 (some 0) .k),z⟩]⟩)
noncomputable def run_S131 (N:Nat):=runOf sg_S131 (F_S131 N)
theorem sd_S131 {Γ : Gl} (N:Nat):Sound Γ Tryz.prog 131 (run_S131 N):=sound_sort lays_S131 3
def ren_S132:Go.Shelf.Ren:=⟨fun n=>bif Nat.beq n 20 then 132 else n,fun n=>bif Nat.beq n 0 then 0 else bif Nat.beq n 3 then 3 else bif Nat.beq n 4 then 4 else bif Nat.beq n 22 then 27 else n,fun n=>n⟩
theorem lays_S132:Lays2.n20 Tryz.prog ren_S132:={ mixed:=by kernel_rfl,f20:=by kernel_rfl,t0:=by kernel_rfl,a0:=fun w=>by kernel_rfl,z0:=fun w=>by kernel_rfl,v0:=fun w=>by kernel_rfl,t3:=by kernel_rfl,a3:=fun w=>by kernel_rfl,z3:=fun w=>by kernel_rfl,v3:=fun w=>by kernel_rfl,t4:=by kernel_rfl,a4:=fun w=>by kernel_rfl,z4:=fun w=>by kernel_rfl,v4:=fun w=>by kernel_rfl,t22:=by kernel_rfl,a22:=fun w=>by kernel_rfl,z22:=fun w=>by kernel_rfl,v22:=fun w=>by kernel_rfl,i3:=by kernel_rfl }
noncomputable def sg_S132:List AK:=[.v (.sl (.int .i64)) (.o 3 none .k)]
noncomputable def F_S132 (N:Nat) (x:AVals sg_S132) (kf:Ret→Option Ret):Option Ret:=S132 N x.1 (fun r0=>kf ⟨[⟨(.sl (.int .i64)),(.o 3 none .k),r0⟩],[]⟩)
noncomputable def run_S132 (N:Nat):=runOf sg_S132 (F_S132 N)
theorem sd_S132 {Γ : Gl} (N:Nat):Sound Γ Tryz.prog 132 (run_S132 N):=sound_compact lays_S132 3
noncomputable def ks_I28_l5:List Kd:=[dK,.v (.ptr tQLQIIIIILIELQIILIELQIIELILQIIIELQIIIIEIE) (.o 31 none .k),.v (.ptr tQLQIIIIILIELQIILIELQIIELILQIIIELQIIIIEIE) (.o 31 none (.p (.o 46 none (.p .k (.p .k (.p .k (.p .k (.p .k (.o 3 none .k))))))) (.p (.o 80 none (.p .k (.p .k (.o 3 none .k)))) (.p (.o 104 none .k) (.p (.o 3 none .k) (.p (.o 136 none .k) (.p (.o 102 none .k) .k))))))),dK,.v (.ptr tQLQIIIIILIELQIILIELQIIELILQIIIELQIIIIEIE) (.o 31 none (.p (.o 46 none (.p .k (.p .k (.p .k (.p .k (.p .k (.o 3 none .k))))))) (.p (.o 80 none (.p .k (.p .k (.o 3 none .k)))) (.p (.o 104 none .k) (.p (.o 3 none .k) (.p (.o 136 none .k) (.p (.o 102 none .k) .k))))))),dK,dK,dK,dK,dK,dK,dK,dK,dK,dK,dK,dK,dK,dK,dK,dK,dK,dK,dK,dK,dK,dK,dK,dK,dK,.v (.sl tQIIE) .k,.v (.int .i64) .k,.v (.int .i64) .k,dK,dK,dK,dK,dK,dK,dK,dK,dK,dK,dK,dK,dK,dK,dK,dK,dK,dK,dK,dK,dK,dK,dK,dK,dK,dK,dK,dK,dK,dK,dK,dK,dK,dK,dK,dK,dK,dK,dK,dK,dK,dK,dK,dK,dK,dK,dK,dK,dK,dK,dK,dK,dK,dK,dK,dK,dK,dK,dK,dK,dK,dK,dK,dK,dK,dK,dK,dK,dK,dK,dK,dK,dK,dK,dK,dK]
noncomputable def ko_I28_l5_0:List Kd:=[dK,.v (.ptr tQLQIIIIILIELQIILIELQIIELILQIIIELQIIIIEIE) (.o 31 none .k),.v (.ptr tQLQIIIIILIELQIILIELQIIELILQIIIELQIIIIEIE) (.o 31 none (.p (.o 46 none (.p .k (.p .k (.p .k (.p .k (.p .k (.o 3 none .k))))))) (.p (.o 80 none (.p .k (.p .k (.o 3 none .k)))) (.p (.o 104 none .k) (.p (.o 3 none .k) (.p (.o 136 none .k) (.p (.o 102 none .k) .k))))))),dK,.v (.ptr tQLQIIIIILIELQIILIELQIIELILQIIIELQIIIIEIE) (.o 31 none (.p (.o 46 none (.p .k (.p .k (.p .k (.p .k (.p .k (.o 3 none .k))))))) (.p (.o 80 none (.p .k (.p .k (.o 3 none .k)))) (.p (.o 104 none .k) (.p (.o 3 none .k) (.p (.o 136 none .k) (.p (.o 102 none .k) .k))))))),dK,dK,dK,dK,dK,dK,dK,dK,dK,dK,dK,dK,dK,dK,dK,dK,dK,dK,dK,dK,dK,dK,dK,dK,dK,dK,dK,dK,dK,dK,dK,dK,dK,dK,dK,dK,dK,dK,dK,dK,dK,dK,dK,dK,dK,dK,dK,dK,dK,dK,dK,dK,dK,dK,dK,dK,dK,dK,dK,dK,dK,dK,dK,dK,dK,dK,dK,dK,dK,dK,dK,dK,dK,dK,dK,dK,dK,dK,dK,dK,dK,dK,dK,dK,dK,dK,dK,dK,dK,dK,dK,dK,dK,dK,dK,dK,dK,dK,dK,dK,dK,dK,dK,dK]
noncomputable def ko_I28_l5_1:List Kd:=[dK,dK,.v (.ptr tQLQIIIIILIELQIILIELQIIELILQIIIELQIIIIEIE) (.o 31 none (.p (.o 46 none (.p .k (.p .k (.p .k (.p .k (.p .k (.o 3 none .k))))))) (.p (.o 80 none (.p .k (.p .k (.o 3 none .k)))) (.p (.o 104 none .k) (.p (.o 3 none .k) (.p (.o 136 none .k) (.p (.o 102 none .k) .k))))))),.v .bool .k,dK,dK,dK,dK,dK,dK,dK,dK,dK,dK,dK,dK,dK,dK,dK,dK,dK,dK,dK,dK,dK,dK,dK,dK,dK,dK,dK,dK,dK,dK,dK,dK,dK,dK,dK,dK,dK,dK,dK,dK,dK,dK,dK,dK,dK,dK,dK,dK,dK,dK,dK,dK,dK,dK,dK,dK,dK,dK,dK,dK,dK,dK,dK,dK,dK,dK,dK,dK,dK,dK,dK,dK,dK,dK,dK,dK,dK,dK,dK,dK,dK,dK,dK,dK,dK,dK,dK,dK,dK,dK,dK,dK,dK,dK,dK,dK,dK,dK,dK,dK,dK,dK,dK,dK,dK]
noncomputable def h_I28:Hint:={ tab,hn:=[],loops:=[(5,ks_I28_l5)],outs:=[(5,2,ko_I28_l5_0),(5,1,ko_I28_l5_1)],ords:=[(8,(OT.seq [0,1,2,3,4,5,6,9,10,11,12,7,8,13,14,15,17,16,18,19] .done)),(11,(OT.seq [0,1,2,3,4,5,6,7,8] .done)),(12,(OT.seq [0,1,2,3,4,5,6,7,8,9,10,11,12] .done)),(14,(OT.seq [3,0,2] (.par [1,4] [[4,86,87]] (OT.seq [5,6,7] .done))))] }
noncomputable def sg_I28:List AK:=[.v tQLQIIIIILIELQIILIELQIIELILQIIIELQIIIIEIE .k]
noncomputable def F_I28 (N:Nat) (x:AVals sg_I28) (kf:Ret→Option Ret):Option Ret:=I28 N x.1 (fun r0 r1=>kf ⟨[⟨tQLQIIIIILIELQIILIELQIIELILQIIIELQIIIIEIE,(.p (.o 46 none (.p .k (.p .k (.p .k (.p .k (.p .k (.o 3 none .k))))))) (.p (.o 80 none (.p .k (.p .k (.o 3 none .k)))) (.p (.o 104 none .k) (.p (.o 3 none .k) (.p (.o 136 none .k) (.p (.o 102 none .k) .k)))))),r0⟩,⟨.bool,.k,r1⟩],[]⟩)
noncomputable def run_I28 (N:Nat):=runOf sg_I28 (F_I28 N)
noncomputable def es_I28 (N:Nat):List Entry:=[⟨39,[.val],(run_I39 N)⟩,⟨16,[.val],(run_I16 N)⟩,⟨41,[.val],(run_I41 N)⟩,⟨70,[.val],(run_I70 N)⟩,⟨129,[.val],(run_I129 N)⟩,⟨128,[.val,.val,.val,.val,.val,.val],(run_I128 N)⟩,⟨130,[.val,.val],(run_I130 N)⟩,⟨131,[.lend],(run_S131 N)⟩,⟨132,[.take],(run_S132 N)⟩,⟨103,[.val,.take,.val,.val],(run_I103 N)⟩]
noncomputable def body_I28:Code:=match Tryz.f28.body with | some c=>c | none=>.skip
noncomputable def L_I28 (N n:Nat) (key:Nat) (S:St) (K:Ks):Option Ret:=bif Nat.beq key 5 then withVals ks_I28_l5 S (fun x=>I28_l5 N x.1 x.2.1 x.2.2.2.1 x.2.2.2.2.1 n (fun z0=>K (.x 0) (shape ko_I28_l5_0 (x.1,x.2.1,z0,()))) (fun z0 z1=>K .r (shape ko_I28_l5_1 (z0,z1,()))) x.2.2.1 x.2.2.2.2.2.1) else none
theorem L0_I28 (N key:Nat) (S:St) (K:Ks):L_I28 N 0 key S K=none:=(bif0 (withVals0 fun _=>rfl) rfl)
noncomputable def c_I28_0:Code:=(loopsIn body_I28).getD 0 .skip
theorem ls_I28:loopsIn body_I28=[c_I28_0]:=by kernel_rfl
theorem rd_I28_5 (N n:Nat) (x:Vals ks_I28_l5) (K:Ks):L_I28 N (n + 1) 5 (shape ks_I28_l5 x) (h_I28.onOut 5 K)=peRound h_I28 (Orc.of (es_I28 N)) (mixL (L_I28 N) N n 5) c_I28_0 (shape ks_I28_l5 x) (h_I28.onOut 5 K):=by kernel_rfl
theorem fn_I28 (N:Nat) (x:AVals sg_I28) (kf:Ret→Option Ret):F_I28 N x kf=peFunc h_I28 (Orc.of (es_I28 N)) (L_I28 N N) Tryz.f28 (ashape sg_I28 x) kf:=by kernel_rfl
theorem sd_I28 {Γ : Gl} (N:Nat):Sound Γ Tryz.prog 28 (run_I28 N):=fun_ok2 (hh:=h_I28) mixed tab_ok (es:=es_I28 N) ⟨sd_I39 N,⟨sd_I16 N,⟨sd_I41 N,⟨sd_I70 N,⟨sd_I129 N,⟨sd_I128 N,⟨sd_I130 N,⟨sd_S131 N,⟨sd_S132 N,⟨sd_I103 N,trivial⟩⟩⟩⟩⟩⟩⟩⟩⟩⟩ (fn:=Tryz.f28) (body:=body_I28) (by kernel_rfl) (by kernel_rfl) (by kernel_rfl) (by kernel_rfl) (by kernel_rfl) (Lf:=L_I28 N) (L0_I28 N) ls_I28 (round_cons (key:=5) (ks:=ks_I28_l5) (by kernel_rfl) (by kernel_rfl) (rd_I28_5 N) trivial) (N:=N) (by kernel_rfl) (fn_I28 N) (.inl (by kernel_rfl))
def ren_S142:Go.Shelf.Ren:=⟨fun n=>bif Nat.beq n 45 then 142 else n,fun n=>bif Nat.beq n 0 then 0 else bif Nat.beq n 3 then 3 else bif Nat.beq n 4 then 4 else bif Nat.beq n 22 then 24 else bif Nat.beq n 23 then 46 else n,fun n=>n⟩
def zs_S142:Array Value:=#[.int .i64 0,.int .i64 0,.int .i64 0,.int .i64 0,.int .i64 0,.slice none 0 0]
noncomputable def ti_S142:TypeInfo:=(Tryz.prog.info? 46).get (by kernel_rfl)
theorem del_S142:DelOK Tryz.prog ren_S142 (tQIIIIILIE).size zs_S142 ti_S142:={ FB:=⟨Tryz.f142.name,by kernel_rfl,by kernel_rfl⟩,mixed:=by kernel_rfl,t0:=by kernel_rfl,a0:=fun w=>by kernel_rfl,z0:=fun w=>by kernel_rfl,v0:=fun w=>by kernel_rfl,t3:=by kernel_rfl,a3:=fun w=>by kernel_rfl,z3:=fun w=>by kernel_rfl,v3:=fun w=>by kernel_rfl,t4:=by kernel_rfl,a4:=fun w=>by kernel_rfl,z4:=fun w=>by kernel_rfl,v4:=fun w=>by kernel_rfl,t22:=by kernel_rfl,a22:=fun w=>by kernel_rfl,z22:=fun w=>by kernel_rfl,v22:=fun w=>by kernel_rfl,z23:=fun w=>by kernel_rfl,v23:=fun w=>by kernel_rfl,hz:=by kernel_rfl,hzo:=by kernel_rfl,hi0:=by kernel_rfl,hz1:=by kernel_rfl }
noncomputable def sg_S142:List AK:=[.v (.sl tQIIIIILIE) (.o 46 none (.p .k (.p .k (.p .k (.p .k (.p .k (.o 3 none .k))))))),.v (.int .i64) .k,.v (.int .i64) .k]
noncomputable def F_S142 (N:Nat) (x:AVals sg_S142) (kf:Ret→Option Ret):Option Ret:=S142 N x.1 x.2.1 x.2.2.1 (fun r0=>kf ⟨[⟨(.sl tQIIIIILIE),(.o 46 none (.p .k (.p .k (.p .k (.p .k (.p .k (.o 3 none .k))))))),r0⟩],[]⟩)
noncomputable def run_S142 (N:Nat):=runOf sg_S142 (F_S142 N)
theorem sd_S142 {Γ : Gl} (N:Nat):Sound Γ Tryz.prog 142 (run_S142 N):=sound_delete del_S142 46 (.p .k (.p .k (.p .k (.p .k (.p .k (.o 3 none .k)))))) (by kernel_rfl)
noncomputable def h_I38:Hint:={ tab,hn:=[],loops:=[],outs:=[],ords:=[] }
noncomputable def sg_I38:List AK:=[.v tQLQIIIIILIELQIILIELQIIELILQIIIELQIIIIEIE .k,.v (.int .i64) .k]
noncomputable def F_I38 (N:Nat) (x:AVals sg_I38) (kf:Ret→Option Ret):Option Ret:=I38 N x.1 x.2.1 (fun r0 r1=>kf ⟨[⟨tQLQIIIIILIELQIILIELQIIELILQIIIELQIIIIEIE,(.p (.o 46 none (.p .k (.p .k (.p .k (.p .k (.p .k (.o 3 none .k))))))) (.p (.o 80 none (.p .k (.p .k (.o 3 none .k)))) (.p (.o 104 none .k) (.p (.o 3 none .k) (.p (.o 136 none .k) (.p (.o 102 none .k) .k)))))),r0⟩,⟨.bool,.k,r1⟩],[]⟩)
noncomputable def run_I38 (N:Nat):=runOf sg_I38 (F_I38 N)
noncomputable def es_I38 (N:Nat):List Entry:=[⟨70,[.val],(run_I70 N)⟩,⟨40,[.val,.val],(run_I40 N)⟩,⟨16,[.val],(run_I16 N)⟩,⟨142,[.take,.val,.val],(run_S142 N)⟩,⟨103,[.val,.take,.val,.val],(run_I103 N)⟩]
noncomputable def body_I38:Code:=match Tryz.f38.body with | some c=>c | none=>.skip
theorem ls_I38:loopsIn body_I38=[]:=by kernel_rfl
theorem fn_I38 (N:Nat) (x:AVals sg_I38) (kf:Ret→Option Ret):F_I38 N x kf=peFunc h_I38 (Orc.of (es_I38 N)) (noL N N) Tryz.f38 (ashape sg_I38 x) kf:=by kernel_rfl
theorem sd_I38 {Γ : Gl} (N:Nat):Sound Γ Tryz.prog 38 (run_I38 N):=fun_ok2 (hh:=h_I38) mixed tab_ok (es:=es_I38 N) ⟨sd_I70 N,⟨sd_I40 N,⟨sd_I16 N,⟨sd_S142 N,⟨sd_I103 N,trivial⟩⟩⟩⟩⟩ (fn:=Tryz.f38) (body:=body_I38) (by kernel_rfl) (by kernel_rfl) (by kernel_rfl) (by kernel_rfl) (by kernel_rfl) (Lf:=noL N) (noL0 N) ls_I38 trivial (N:=N) (by kernel_rfl) (fn_I38 N) (.inl (by kernel_rfl))
noncomputable def h_I13:Hint:={ tab,hn:=[],loops:=[],outs:=[],ords:=[] }
noncomputable def sg_I13:List AK:=[.v tQLQIIIIILIELQIILIELQIIELILQIIIELQIIIIEIE .k,.v tQIIIIE .k]
noncomputable def F_I13 (N:Nat) (x:AVals sg_I13) (kf:Ret→Option Ret):Option Ret:=I13 N x.1 x.2.1 (fun r0 r1=>kf ⟨[⟨tQLQIIIIILIELQIILIELQIIELILQIIIELQIIIIEIE,(.p (.o 46 none (.p .k (.p .k (.p .k (.p .k (.p .k (.o 3 none .k))))))) (.p (.o 80 none (.p .k (.p .k (.o 3 none .k)))) (.p (.o 104 none .k) (.p (.o 3 none .k) (.p (.o 136 none .k) (.p (.o 102 none .k) .k)))))),r0⟩,⟨.bool,.k,r1⟩],[]⟩)
noncomputable def run_I13 (N:Nat):=runOf sg_I13 (F_I13 N)
noncomputable def es_I13 (N:Nat):List Entry:=[⟨30,[.val,.val,.val],(run_I30 N)⟩,⟨32,[.val,.val,.val],(run_I32 N)⟩,⟨23,[.val],(run_I23 N)⟩,⟨35,[.val,.val,.val,.val],(run_I35 N)⟩,⟨28,[.val],(run_I28 N)⟩,⟨38,[.val,.val],(run_I38 N)⟩,⟨70,[.val],(run_I70 N)⟩]
noncomputable def body_I13:Code:=match Tryz.f13.body with | some c=>c | none=>.skip
theorem ls_I13:loopsIn body_I13=[]:=by kernel_rfl
theorem fn_I13 (N:Nat) (x:AVals sg_I13) (kf:Ret→Option Ret):F_I13 N x kf=peFunc h_I13 (Orc.of (es_I13 N)) (noL N N) Tryz.f13 (ashape sg_I13 x) kf:=by kernel_rfl
theorem sd_I13 {Γ : Gl} (N:Nat):Sound Γ Tryz.prog 13 (run_I13 N):=fun_ok2 (hh:=h_I13) mixed tab_ok (es:=es_I13 N) ⟨sd_I30 N,⟨sd_I32 N,⟨sd_I23 N,⟨sd_I35 N,⟨sd_I28 N,⟨sd_I38 N,⟨sd_I70 N,trivial⟩⟩⟩⟩⟩⟩⟩ (fn:=Tryz.f13) (body:=body_I13) (by kernel_rfl) (by kernel_rfl) (by kernel_rfl) (by kernel_rfl) (by kernel_rfl) (Lf:=noL N) (noL0 N) ls_I13 trivial (N:=N) (by kernel_rfl) (fn_I13 N) (.inl (by kernel_rfl))
end Go.Pv.R
