/- Each function of the program that the law reaches computes its plain function, part 0. -/
import Derived.Test.YtalebakjiclomaaPlRes
import Derived.Test.YtalebakjiclomaaProg
namespace Go.Pv.R
open Go.Proofs
set_option linter.unusedVariables false
set_option maxRecDepth 100000
noncomputable abbrev dK:Kd:=.dead
noncomputable abbrev dR (n:Nat):List Kd:=List.replicate n .dead
noncomputable def tab:Tab:=[⟨2,(.int .i64),0,[]⟩,⟨3,(.int .i64),0,[]⟩,⟨4,.bool,0,[]⟩,⟨5,(.int .u8),0,[]⟩,⟨9,.str,0,[]⟩,⟨12,(.int .u64),0,[]⟩,⟨21,(.int .i32),0,[]⟩,⟨22,(.sl (.int .u8)),5,[]⟩,⟨25,(.sl tQIIIIILIE),59,[]⟩,⟨26,(.sl tQIILIE),64,[]⟩,⟨27,(.sl tQIIE),68,[]⟩,⟨28,(.sl (.int .i64)),3,[]⟩,⟨29,(.sl tQIIIE),46,[]⟩,⟨30,(.sl tQIIIIE),56,[]⟩,⟨31,tQLQIIIIILIELQIILIELQIIELILQIIIELQIIIIEIE,0,[25,26,27,28,29,30,3]⟩,⟨32,tQLQIIIIILIELQIILIELQIIELILQIIIELQIIIIEIE,0,[25,26,27,28,29,30,3]⟩,⟨45,tQIIIE,0,[3,3,3]⟩,⟨46,tQIIIE,0,[3,3,3]⟩,⟨55,tQIIIIE,0,[3,3,3,3]⟩,⟨56,tQIIIIE,0,[3,3,3,3]⟩,⟨58,tQIIIIILIE,0,[3,3,3,3,3,28]⟩,⟨59,tQIIIIILIE,0,[3,3,3,3,3,28]⟩,⟨63,tQIILIE,0,[3,3,28]⟩,⟨64,tQIILIE,0,[3,3,28]⟩,⟨67,tQIIE,0,[3,3]⟩,⟨68,tQIIE,0,[3,3]⟩,⟨79,tQLIIIE,0,[22,3,3]⟩,⟨80,tQLIIIE,0,[22,3,3]⟩,⟨103,(.int .u64),0,[]⟩,⟨114,(.int .u32),0,[]⟩]
theorem mixed:Try.prog.follows .mixedOrders=true:=by kernel_rfl
theorem tab_ok:tabB Try.prog tab=true:=by kernel_rfl
noncomputable def noL (N n:Nat) (key:Nat) (S:St) (K:Ks):Option Ret:=none
theorem noL0 (N key:Nat) (S:St) (K:Ks):noL N 0 key S K=none:=rfl
noncomputable def h_L4:Hint:={ tab,hn:=[],loops:=[],outs:=[],ords:=[] }
noncomputable def sg_L4:List AK:=[.v (.sl (.int .u8)) .k]
noncomputable def F_L4 (N:Nat) (x:AVals sg_L4) (kf:Ret→Option Ret):Option Ret:=L4 N x.1 (fun r0=>kf ⟨[⟨.bool,.k,r0⟩],[]⟩)
noncomputable def run_L4 (N:Nat):=runOf sg_L4 (F_L4 N)
noncomputable def es_L4 (N:Nat):List Entry:=[]
noncomputable def body_L4:Code:=match Try.f4.body with | some c=>c | none=>.skip
theorem ls_L4:loopsIn body_L4=[]:=by kernel_rfl
theorem fn_L4 (N:Nat) (x:AVals sg_L4) (kf:Ret→Option Ret):F_L4 N x kf=peFunc h_L4 (Orc.of (es_L4 N)) (noL N N) Try.f4 (ashape sg_L4 x) kf:=by kernel_rfl
theorem sd_L4 {Γ : Gl} (N:Nat):Sound Γ Try.prog 4 (run_L4 N):=fun_ok2 (hh:=h_L4) mixed tab_ok (es:=es_L4 N) trivial (fn:=Try.f4) (body:=body_L4) (by kernel_rfl) (by kernel_rfl) (by kernel_rfl) (by kernel_rfl) (by kernel_rfl) (Lf:=noL N) (noL0 N) ls_L4 trivial (N:=N) (by kernel_rfl) (fn_L4 N) (.inl (by kernel_rfl))
noncomputable def h_I6:Hint:={ tab,hn:=[],loops:=[],outs:=[],ords:=[] }
noncomputable def sg_I6:List AK:=[]
noncomputable def F_I6 (N:Nat) (x:AVals sg_I6) (kf:Ret→Option Ret):Option Ret:=I6 N (fun r0=>kf ⟨[⟨tQLQIIIIILIELQIILIELQIIELILQIIIELQIIIIEIE,(.p (.o 59 none (.p .k (.p .k (.p .k (.p .k (.p .k (.o 3 none .k))))))) (.p (.o 64 none (.p .k (.p .k (.o 3 none .k)))) (.p (.o 68 none .k) (.p (.o 3 none .k) (.p (.o 46 none .k) (.p (.o 56 none .k) .k)))))),r0⟩],[]⟩)
noncomputable def run_I6 (N:Nat):=runOf sg_I6 (F_I6 N)
noncomputable def es_I6 (N:Nat):List Entry:=[]
noncomputable def body_I6:Code:=match Try.f6.body with | some c=>c | none=>.skip
theorem ls_I6:loopsIn body_I6=[]:=by kernel_rfl
theorem fn_I6 (N:Nat) (x:AVals sg_I6) (kf:Ret→Option Ret):F_I6 N x kf=peFunc h_I6 (Orc.of (es_I6 N)) (noL N N) Try.f6 (ashape sg_I6 x) kf:=by kernel_rfl
theorem sd_I6 {Γ : Gl} (N:Nat):Sound Γ Try.prog 6 (run_I6 N):=fun_ok2 (hh:=h_I6) mixed tab_ok (es:=es_I6 N) trivial (fn:=Try.f6) (body:=body_I6) (by kernel_rfl) (by kernel_rfl) (by kernel_rfl) (by kernel_rfl) (by kernel_rfl) (Lf:=noL N) (noL0 N) ls_I6 trivial (N:=N) (by kernel_rfl) (fn_I6 N) (.inl (by kernel_rfl))
noncomputable def h_I19:Hint:={ tab,hn:=[],loops:=[],outs:=[],ords:=[] }
noncomputable def sg_I19:List AK:=[.v (.int .i64) .k,.v (.int .i64) .k,.v (.int .i64) .k]
noncomputable def F_I19 (N:Nat) (x:AVals sg_I19) (kf:Ret→Option Ret):Option Ret:=I19 N x.1 x.2.1 x.2.2.1 (fun r0=>kf ⟨[⟨.bool,.k,r0⟩],[]⟩)
noncomputable def run_I19 (N:Nat):=runOf sg_I19 (F_I19 N)
noncomputable def es_I19 (N:Nat):List Entry:=[]
noncomputable def body_I19:Code:=match Try.f19.body with | some c=>c | none=>.skip
theorem ls_I19:loopsIn body_I19=[]:=by kernel_rfl
theorem fn_I19 (N:Nat) (x:AVals sg_I19) (kf:Ret→Option Ret):F_I19 N x kf=peFunc h_I19 (Orc.of (es_I19 N)) (noL N N) Try.f19 (ashape sg_I19 x) kf:=by kernel_rfl
theorem sd_I19 {Γ : Gl} (N:Nat):Sound Γ Try.prog 19 (run_I19 N):=fun_ok2 (hh:=h_I19) mixed tab_ok (es:=es_I19 N) trivial (fn:=Try.f19) (body:=body_I19) (by kernel_rfl) (by kernel_rfl) (by kernel_rfl) (by kernel_rfl) (by kernel_rfl) (Lf:=noL N) (noL0 N) ls_I19 trivial (N:=N) (by kernel_rfl) (fn_I19 N) (.inl (by kernel_rfl))
noncomputable def h_I55:Hint:={ tab,hn:=[],loops:=[],outs:=[],ords:=[] }
noncomputable def sg_I55:List AK:=[.v tQIIIIILIE .k,.v (.ptr (.int .i64)) .k]
noncomputable def F_I55 (N:Nat) (x:AVals sg_I55) (kf:Ret→Option Ret):Option Ret:=I55 N x.1 x.2.1 (fun r0=>kf ⟨[⟨.bool,.k,r0⟩],[]⟩)
noncomputable def run_I55 (N:Nat):=runOf sg_I55 (F_I55 N)
noncomputable def es_I55 (N:Nat):List Entry:=[]
noncomputable def body_I55:Code:=match Try.f55.body with | some c=>c | none=>.skip
theorem ls_I55:loopsIn body_I55=[]:=by kernel_rfl
theorem fn_I55 (N:Nat) (x:AVals sg_I55) (kf:Ret→Option Ret):F_I55 N x kf=peFunc h_I55 (Orc.of (es_I55 N)) (noL N N) Try.f55 (ashape sg_I55 x) kf:=by kernel_rfl
theorem sd_I55 {Γ : Gl} (N:Nat):Sound Γ Try.prog 55 (run_I55 N):=fun_ok2 (hh:=h_I55) mixed tab_ok (es:=es_I55 N) trivial (fn:=Try.f55) (body:=body_I55) (by kernel_rfl) (by kernel_rfl) (by kernel_rfl) (by kernel_rfl) (by kernel_rfl) (Lf:=noL N) (noL0 N) ls_I55 trivial (N:=N) (by kernel_rfl) (fn_I55 N) (.inl (by kernel_rfl))
noncomputable def ks_S54_l2:List Kd:=[.v (.sl tQIIIIILIE) .k,.clo 55 [.kv (.ptr (.int .i64))],dK,dK,dK,dK,dK,.v (.int .i64) .k,.v (.int .i64) .k,dK,dK,dK,dK,dK,dK,dK,dK,dK,dK]
noncomputable def ko_S54_l2_0:List Kd:=[dK,dK,dK,dK,dK,dK,dK,dK,dK,dK,dK,dK,dK,dK,dK,dK,dK,dK,dK]
noncomputable def ko_S54_l2_1:List Kd:=[dK,dK,dK,dK,.v (.int .i64) .k,dK,dK,dK,dK,dK,dK,dK,dK,dK,dK,dK,dK,dK,dK]
noncomputable def h_S54:Hint:={ tab,hn:=[],loops:=[(2,ks_S54_l2)],outs:=[(2,2,ko_S54_l2_0),(2,1,ko_S54_l2_1)],ords:=[] }
noncomputable def sg_S54:List AK:=[.v (.sl tQIIIIILIE) .k,.fn 55 [(.ptr (.int .i64))]]
noncomputable def F_S54 (N:Nat) (x:AVals sg_S54) (kf:Ret→Option Ret):Option Ret:=S54 N x.1 x.2.1.1 (fun r0=>kf ⟨[⟨(.int .i64),.k,r0⟩],[]⟩)
noncomputable def run_S54 (N:Nat):=runOf sg_S54 (F_S54 N)
noncomputable def es_S54 (N:Nat):List Entry:=[⟨55,[.val],(run_I55 N)⟩]
noncomputable def body_S54:Code:=match Try.f54.body with | some c=>c | none=>.skip
noncomputable def L_S54 (N n:Nat) (key:Nat) (S:St) (K:Ks):Option Ret:=bif Nat.beq key 2 then withVals ks_S54_l2 S (fun x=>S54_l2 N x.1 x.2.1.1 x.2.2.1 n (K (.x 0) (shape ko_S54_l2_0 ())) (fun z0=>K .r (shape ko_S54_l2_1 (z0,()))) x.2.2.2.1) else none
theorem L0_S54 (N key:Nat) (S:St) (K:Ks):L_S54 N 0 key S K=none:=(bif0 (withVals0 fun _=>rfl) rfl)
noncomputable def c_S54_0:Code:=(loopsIn body_S54).getD 0 .skip
theorem ls_S54:loopsIn body_S54=[c_S54_0]:=by kernel_rfl
theorem rd_S54_2 (N n:Nat) (x:Vals ks_S54_l2) (K:Ks):L_S54 N (n + 1) 2 (shape ks_S54_l2 x) (h_S54.onOut 2 K)=peRound h_S54 (Orc.of (es_S54 N)) (mixL (L_S54 N) N n 2) c_S54_0 (shape ks_S54_l2 x) (h_S54.onOut 2 K):=by kernel_rfl
theorem fn_S54 (N:Nat) (x:AVals sg_S54) (kf:Ret→Option Ret):F_S54 N x kf=peFunc h_S54 (Orc.of (es_S54 N)) (L_S54 N N) Try.f54 (ashape sg_S54 x) kf:=by kernel_rfl
theorem sd_S54 {Γ : Gl} (N:Nat):Sound Γ Try.prog 54 (run_S54 N):=fun_ok2 (hh:=h_S54) mixed tab_ok (es:=es_S54 N) ⟨sd_I55 N,trivial⟩ (fn:=Try.f54) (body:=body_S54) (by kernel_rfl) (by kernel_rfl) (by kernel_rfl) (by kernel_rfl) (by kernel_rfl) (Lf:=L_S54 N) (L0_S54 N) ls_S54 (round_cons (key:=2) (ks:=ks_S54_l2) (by kernel_rfl) (by kernel_rfl) (rd_S54_2 N) trivial) (N:=N) (by kernel_rfl) (fn_S54 N) (.inl (by kernel_rfl))
noncomputable def h_I34:Hint:={ tab,hn:=[],loops:=[],outs:=[],ords:=[] }
noncomputable def sg_I34:List AK:=[.v (.sl tQIIIIILIE) .k,.v (.int .i64) .k]
noncomputable def F_I34 (N:Nat) (x:AVals sg_I34) (kf:Ret→Option Ret):Option Ret:=I34 N x.1 x.2.1 (fun r0=>kf ⟨[⟨(.int .i64),.k,r0⟩],[]⟩)
noncomputable def run_I34 (N:Nat):=runOf sg_I34 (F_I34 N)
noncomputable def es_I34 (N:Nat):List Entry:=[⟨54,[.val,.val],(run_S54 N)⟩]
noncomputable def body_I34:Code:=match Try.f34.body with | some c=>c | none=>.skip
theorem ls_I34:loopsIn body_I34=[]:=by kernel_rfl
theorem fn_I34 (N:Nat) (x:AVals sg_I34) (kf:Ret→Option Ret):F_I34 N x kf=peFunc h_I34 (Orc.of (es_I34 N)) (noL N N) Try.f34 (ashape sg_I34 x) kf:=by kernel_rfl
theorem sd_I34 {Γ : Gl} (N:Nat):Sound Γ Try.prog 34 (run_I34 N):=fun_ok2 (hh:=h_I34) mixed tab_ok (es:=es_I34 N) ⟨sd_S54 N,trivial⟩ (fn:=Try.f34) (body:=body_I34) (by kernel_rfl) (by kernel_rfl) (by kernel_rfl) (by kernel_rfl) (by kernel_rfl) (Lf:=noL N) (noL0 N) ls_I34 trivial (N:=N) (by kernel_rfl) (fn_I34 N) (.inl (by kernel_rfl))
noncomputable def ks_I35_l3:List Kd:=[dK,.v (.int .i64) .k,dK,dK,dK,.v (.int .i64) .k,dK,dK,.v (.sl (.int .i64)) .k,.v (.int .i64) .k,.v (.int .i64) .k,dK,dK,dK,dK,dK,dK,dK,dK,dK,dK]
noncomputable def ko_I35_l3_0:List Kd:=[dK,dK,dK,dK,dK,.v (.int .i64) .k,dK,dK,dK,dK,dK,dK,dK,dK,dK,dK,dK,dK,dK,dK,dK]
noncomputable def h_I35:Hint:={ tab,hn:=[],loops:=[(3,ks_I35_l3)],outs:=[(3,2,ko_I35_l3_0)],ords:=[] }
noncomputable def sg_I35:List AK:=[.v (.sl (.int .i64)) .k,.v (.int .i64) .k]
noncomputable def F_I35 (N:Nat) (x:AVals sg_I35) (kf:Ret→Option Ret):Option Ret:=I35 N x.1 x.2.1 (fun r0=>kf ⟨[⟨(.int .i64),.k,r0⟩],[]⟩)
noncomputable def run_I35 (N:Nat):=runOf sg_I35 (F_I35 N)
noncomputable def es_I35 (N:Nat):List Entry:=[]
noncomputable def body_I35:Code:=match Try.f35.body with | some c=>c | none=>.skip
noncomputable def L_I35 (N n:Nat) (key:Nat) (S:St) (K:Ks):Option Ret:=bif Nat.beq key 3 then withVals ks_I35_l3 S (fun x=>I35_l3 x.1 x.2.2.1 x.2.2.2.1 n (fun z0=>K (.x 0) (shape ko_I35_l3_0 (z0,()))) x.2.1 x.2.2.2.2.1) else none
theorem L0_I35 (N key:Nat) (S:St) (K:Ks):L_I35 N 0 key S K=none:=(bif0 (withVals0 fun _=>rfl) rfl)
noncomputable def c_I35_0:Code:=(loopsIn body_I35).getD 0 .skip
theorem ls_I35:loopsIn body_I35=[c_I35_0]:=by kernel_rfl
theorem rd_I35_3 (N n:Nat) (x:Vals ks_I35_l3) (K:Ks):L_I35 N (n + 1) 3 (shape ks_I35_l3 x) (h_I35.onOut 3 K)=peRound h_I35 (Orc.of (es_I35 N)) (mixL (L_I35 N) N n 3) c_I35_0 (shape ks_I35_l3 x) (h_I35.onOut 3 K):=by kernel_rfl
theorem fn_I35 (N:Nat) (x:AVals sg_I35) (kf:Ret→Option Ret):F_I35 N x kf=peFunc h_I35 (Orc.of (es_I35 N)) (L_I35 N N) Try.f35 (ashape sg_I35 x) kf:=by kernel_rfl
theorem sd_I35 {Γ : Gl} (N:Nat):Sound Γ Try.prog 35 (run_I35 N):=fun_ok2 (hh:=h_I35) mixed tab_ok (es:=es_I35 N) trivial (fn:=Try.f35) (body:=body_I35) (by kernel_rfl) (by kernel_rfl) (by kernel_rfl) (by kernel_rfl) (by kernel_rfl) (Lf:=L_I35 N) (L0_I35 N) ls_I35 (round_cons (key:=3) (ks:=ks_I35_l3) (by kernel_rfl) (by kernel_rfl) (rd_I35_3 N) trivial) (N:=N) (by kernel_rfl) (fn_I35 N) (.inl (by kernel_rfl))
noncomputable def ks_I13_l10:List Kd:=[.v (.sl tQIIIIILIE) .k,dK,dK,dK,.v (.ptr tQIIIIILIE) (.o 59 none .k),dK,dK,dK,dK,dK,dK,dK,.v (.sl tQIIIIILIE) .k,.v (.int .i64) .k,.v (.int .i64) .k,dK,dK,dK,dK,dK,dK,dK,dK,dK,dK,dK,dK,dK,dK,dK,dK,dK,dK,dK,dK,dK,dK,dK,dK,dK,dK,dK,dK,dK,dK,dK,dK,dK,dK,dK,dK,dK,dK,dK,dK,dK,dK,dK,dK,dK,dK,dK,dK,dK,dK,dK,dK,dK,dK,dK,dK,dK,.v (.sl (.int .i64)) .k,.v (.int .i64) .k,.v (.int .i64) .k,dK,dK,dK,dK,dK,dK,dK,dK,dK,dK,dK,dK,dK,dK,dK,dK,dK,dK,dK,dK,dK,dK,dK,dK,dK,dK,dK,dK,dK,dK,dK]
noncomputable def ko_I13_l10_0:List Kd:=[.v (.sl tQIIIIILIE) .k,dK,dK,dK,dK,dK,dK,dK,dK,dK,dK,dK,.v (.sl tQIIIIILIE) .k,.v (.int .i64) .k,.v (.int .i64) .k,dK,dK,dK,dK,dK,dK,dK,dK,dK,dK,dK,dK,dK,dK,dK,dK,dK,dK,dK,dK,dK,dK,dK,dK,dK,dK,dK,dK,dK,dK,dK,dK,dK,dK,dK,dK,dK,dK,dK,dK,dK,dK,dK,dK,dK,dK,dK,dK,dK,dK,dK,dK,dK,dK,dK,dK,dK,dK,dK,dK,dK,dK,dK,dK,dK,dK,dK,dK,dK,dK,dK,dK,dK,dK,dK,dK,dK,dK,dK,dK,dK,dK,dK,dK,dK,dK,dK,dK,dK,dK,dK]
noncomputable def ko_I13_l10_1:List Kd:=[dK,dK,.v .bool .k,dK,dK,dK,dK,dK,dK,dK,dK,dK,dK,dK,dK,dK,dK,dK,dK,dK,dK,dK,dK,dK,dK,dK,dK,dK,dK,dK,dK,dK,dK,dK,dK,dK,dK,dK,dK,dK,dK,dK,dK,dK,dK,dK,dK,dK,dK,dK,dK,dK,dK,dK,dK,dK,dK,dK,dK,dK,dK,dK,dK,dK,dK,dK,dK,dK,dK,dK,dK,dK,dK,dK,dK,dK,dK,dK,dK,dK,dK,dK,dK,dK,dK,dK,dK,dK,dK,dK,dK,dK,dK,dK,dK,dK,dK,dK,dK,dK,dK,dK,dK,dK,dK,dK]
noncomputable def ks_I13_l4:List Kd:=[.v (.sl tQIIIIILIE) .k,dK,dK,dK,dK,dK,dK,dK,dK,dK,dK,dK,.v (.sl tQIIIIILIE) .k,.v (.int .i64) .k,.v (.int .i64) .k,dK,dK,dK,dK,dK,dK,dK,dK,dK,dK,dK,dK,dK,dK,dK,dK,dK,dK,dK,dK,dK,dK,dK,dK,dK,dK,dK,dK,dK,dK,dK,dK,dK,dK,dK,dK,dK,dK,dK,dK,dK,dK,dK,dK,dK,dK,dK,dK,dK,dK,dK,dK,dK,dK,dK,dK,dK,dK,dK,dK,dK,dK,dK,dK,dK,dK,dK,dK,dK,dK,dK,dK,dK,dK,dK,dK,dK,dK,dK,dK,dK,dK,dK,dK,dK,dK,dK,dK,dK,dK,dK]
noncomputable def ko_I13_l4_0:List Kd:=[dK,dK,dK,dK,dK,dK,dK,dK,dK,dK,dK,dK,dK,dK,dK,dK,dK,dK,dK,dK,dK,dK,dK,dK,dK,dK,dK,dK,dK,dK,dK,dK,dK,dK,dK,dK,dK,dK,dK,dK,dK,dK,dK,dK,dK,dK,dK,dK,dK,dK,dK,dK,dK,dK,dK,dK,dK,dK,dK,dK,dK,dK,dK,dK,dK,dK,dK,dK,dK,dK,dK,dK,dK,dK,dK,dK,dK,dK,dK,dK,dK,dK,dK,dK,dK,dK,dK,dK,dK,dK,dK,dK,dK,dK,dK,dK,dK,dK,dK,dK,dK,dK,dK,dK,dK,dK]
noncomputable def ko_I13_l4_1:List Kd:=[dK,dK,.v .bool .k,dK,dK,dK,dK,dK,dK,dK,dK,dK,dK,dK,dK,dK,dK,dK,dK,dK,dK,dK,dK,dK,dK,dK,dK,dK,dK,dK,dK,dK,dK,dK,dK,dK,dK,dK,dK,dK,dK,dK,dK,dK,dK,dK,dK,dK,dK,dK,dK,dK,dK,dK,dK,dK,dK,dK,dK,dK,dK,dK,dK,dK,dK,dK,dK,dK,dK,dK,dK,dK,dK,dK,dK,dK,dK,dK,dK,dK,dK,dK,dK,dK,dK,dK,dK,dK,dK,dK,dK,dK,dK,dK,dK,dK,dK,dK,dK,dK,dK,dK,dK,dK,dK,dK]
noncomputable def h_I13:Hint:={ tab,hn:=[],loops:=[(10,ks_I13_l10),(4,ks_I13_l4)],outs:=[(10,4,ko_I13_l10_0),(10,1,ko_I13_l10_1),(4,2,ko_I13_l4_0),(4,1,ko_I13_l4_1)],ords:=[(7,(OT.seq [0,1,2,3,4,5,6,7,8,9,10,11,12,13,14,15,16,17,18,19,20,21,22,23,24,25,26,27,28,29,30,31,32,33,34,35,36,37,38,39,40,41,42,43,44,45,46,47,48] .done)),(13,(OT.seq [0,1,2,3,4,5,6,7,8,9,10,11,13,14,15,16,17,18,19,12,20,21,22] .done))] }
noncomputable def sg_I13:List AK:=[.v (.sl tQIIIIILIE) .k]
noncomputable def F_I13 (N:Nat) (x:AVals sg_I13) (kf:Ret→Option Ret):Option Ret:=I13 N x.1 (fun r0=>kf ⟨[⟨.bool,.k,r0⟩],[]⟩)
noncomputable def run_I13 (N:Nat):=runOf sg_I13 (F_I13 N)
noncomputable def es_I13 (N:Nat):List Entry:=[⟨19,[.val,.val,.val],(run_I19 N)⟩,⟨34,[.val,.val],(run_I34 N)⟩,⟨35,[.val,.val],(run_I35 N)⟩]
noncomputable def body_I13:Code:=match Try.f13.body with | some c=>c | none=>.skip
noncomputable def L_I13 (N n:Nat) (key:Nat) (S:St) (K:Ks):Option Ret:=bif Nat.beq key 4 then withVals ks_I13_l4 S (fun x=>I13_l4 N x.1 x.2.1 x.2.2.1 n (K (.x 0) (shape ko_I13_l4_0 ())) (fun z0=>K .r (shape ko_I13_l4_1 (z0,()))) x.2.2.2.1) else bif Nat.beq key 10 then withVals ks_I13_l10 S (fun x=>I13_l10 N x.1 x.2.1 x.2.2.1 x.2.2.2.1 x.2.2.2.2.1 x.2.2.2.2.2.1 x.2.2.2.2.2.2.1 n (K (.x 2) (shape ko_I13_l10_0 (x.1,x.2.2.1,x.2.2.2.1,x.2.2.2.2.1,()))) (fun z0=>K .r (shape ko_I13_l10_1 (z0,()))) x.2.2.2.2.2.2.2.1) else none
theorem L0_I13 (N key:Nat) (S:St) (K:Ks):L_I13 N 0 key S K=none:=(bif0 (withVals0 fun _=>rfl) (bif0 (withVals0 fun _=>rfl) rfl))
noncomputable def c_I13_0:Code:=(loopsIn body_I13).getD 0 .skip
noncomputable def c_I13_1:Code:=(loopsIn body_I13).getD 1 .skip
theorem ls_I13:loopsIn body_I13=[c_I13_0,c_I13_1]:=by kernel_rfl
theorem rd_I13_10 (N n:Nat) (x:Vals ks_I13_l10) (K:Ks):L_I13 N (n + 1) 10 (shape ks_I13_l10 x) (h_I13.onOut 10 K)=peRound h_I13 (Orc.of (es_I13 N)) (mixL (L_I13 N) N n 10) c_I13_1 (shape ks_I13_l10 x) (h_I13.onOut 10 K):=by kernel_rfl
theorem rd_I13_4 (N n:Nat) (x:Vals ks_I13_l4) (K:Ks):L_I13 N (n + 1) 4 (shape ks_I13_l4 x) (h_I13.onOut 4 K)=peRound h_I13 (Orc.of (es_I13 N)) (mixL (L_I13 N) N n 4) c_I13_0 (shape ks_I13_l4 x) (h_I13.onOut 4 K):=by kernel_rfl
theorem fn_I13 (N:Nat) (x:AVals sg_I13) (kf:Ret→Option Ret):F_I13 N x kf=peFunc h_I13 (Orc.of (es_I13 N)) (L_I13 N N) Try.f13 (ashape sg_I13 x) kf:=by kernel_rfl
theorem sd_I13 {Γ : Gl} (N:Nat):Sound Γ Try.prog 13 (run_I13 N):=fun_ok2 (hh:=h_I13) mixed tab_ok (es:=es_I13 N) ⟨sd_I19 N,⟨sd_I34 N,⟨sd_I35 N,trivial⟩⟩⟩ (fn:=Try.f13) (body:=body_I13) (by kernel_rfl) (by kernel_rfl) (by kernel_rfl) (by kernel_rfl) (by kernel_rfl) (Lf:=L_I13 N) (L0_I13 N) ls_I13 (round_cons (key:=4) (ks:=ks_I13_l4) (by kernel_rfl) (by kernel_rfl) (rd_I13_4 N) (round_cons (key:=10) (ks:=ks_I13_l10) (by kernel_rfl) (by kernel_rfl) (rd_I13_10 N) trivial)) (N:=N) (by kernel_rfl) (fn_I13 N) (.inl (by kernel_rfl))
noncomputable def ks_I14_l9:List Kd:=[.v (.sl tQIILIE) .k,dK,dK,dK,.v (.ptr tQIILIE) (.o 64 none .k),dK,dK,dK,dK,dK,.v (.sl tQIILIE) .k,.v (.int .i64) .k,.v (.int .i64) .k,dK,dK,dK,dK,dK,dK,dK,dK,dK,dK,dK,dK,dK,dK,dK,dK,dK,dK,dK,dK,dK,dK,dK,dK,dK,dK,dK,dK,dK,dK,.v (.sl (.int .i64)) .k,.v (.int .i64) .k,.v (.int .i64) .k,dK,dK,dK,dK,dK,dK,dK,dK,dK,dK,dK,dK,dK,dK,dK,dK,dK,dK,dK,dK,dK,dK,dK]
noncomputable def ko_I14_l9_0:List Kd:=[.v (.sl tQIILIE) .k,dK,dK,dK,dK,dK,dK,dK,dK,dK,.v (.sl tQIILIE) .k,.v (.int .i64) .k,.v (.int .i64) .k,dK,dK,dK,dK,dK,dK,dK,dK,dK,dK,dK,dK,dK,dK,dK,dK,dK,dK,dK,dK,dK,dK,dK,dK,dK,dK,dK,dK,dK,dK,dK,dK,dK,dK,dK,dK,dK,dK,dK,dK,dK,dK,dK,dK,dK,dK,dK,dK,dK,dK,dK,dK,dK,dK,dK,dK]
noncomputable def ko_I14_l9_1:List Kd:=[dK,dK,.v .bool .k,dK,dK,dK,dK,dK,dK,dK,dK,dK,dK,dK,dK,dK,dK,dK,dK,dK,dK,dK,dK,dK,dK,dK,dK,dK,dK,dK,dK,dK,dK,dK,dK,dK,dK,dK,dK,dK,dK,dK,dK,dK,dK,dK,dK,dK,dK,dK,dK,dK,dK,dK,dK,dK,dK,dK,dK,dK,dK,dK,dK,dK,dK,dK,dK,dK,dK]
noncomputable def ks_I14_l4:List Kd:=[.v (.sl tQIILIE) .k,dK,dK,dK,dK,dK,dK,dK,dK,dK,.v (.sl tQIILIE) .k,.v (.int .i64) .k,.v (.int .i64) .k,dK,dK,dK,dK,dK,dK,dK,dK,dK,dK,dK,dK,dK,dK,dK,dK,dK,dK,dK,dK,dK,dK,dK,dK,dK,dK,dK,dK,dK,dK,dK,dK,dK,dK,dK,dK,dK,dK,dK,dK,dK,dK,dK,dK,dK,dK,dK,dK,dK,dK,dK,dK,dK,dK,dK,dK]
noncomputable def ko_I14_l4_0:List Kd:=[dK,dK,dK,dK,dK,dK,dK,dK,dK,dK,dK,dK,dK,dK,dK,dK,dK,dK,dK,dK,dK,dK,dK,dK,dK,dK,dK,dK,dK,dK,dK,dK,dK,dK,dK,dK,dK,dK,dK,dK,dK,dK,dK,dK,dK,dK,dK,dK,dK,dK,dK,dK,dK,dK,dK,dK,dK,dK,dK,dK,dK,dK,dK,dK,dK,dK,dK,dK,dK]
noncomputable def ko_I14_l4_1:List Kd:=[dK,dK,.v .bool .k,dK,dK,dK,dK,dK,dK,dK,dK,dK,dK,dK,dK,dK,dK,dK,dK,dK,dK,dK,dK,dK,dK,dK,dK,dK,dK,dK,dK,dK,dK,dK,dK,dK,dK,dK,dK,dK,dK,dK,dK,dK,dK,dK,dK,dK,dK,dK,dK,dK,dK,dK,dK,dK,dK,dK,dK,dK,dK,dK,dK,dK,dK,dK,dK,dK,dK]
noncomputable def h_I14:Hint:={ tab,hn:=[],loops:=[(9,ks_I14_l9),(4,ks_I14_l4)],outs:=[(9,4,ko_I14_l9_0),(9,1,ko_I14_l9_1),(4,2,ko_I14_l4_0),(4,1,ko_I14_l4_1)],ords:=[(6,(OT.seq [0,1,2,3,4,5,6,7,8,9,10,11,12,13,14,15,16,17,18,19,20,21,22,23,24] .done))] }
noncomputable def sg_I14:List AK:=[.v (.sl tQIILIE) .k]
noncomputable def F_I14 (N:Nat) (x:AVals sg_I14) (kf:Ret→Option Ret):Option Ret:=I14 N x.1 (fun r0=>kf ⟨[⟨.bool,.k,r0⟩],[]⟩)
noncomputable def run_I14 (N:Nat):=runOf sg_I14 (F_I14 N)
noncomputable def es_I14 (N:Nat):List Entry:=[⟨19,[.val,.val,.val],(run_I19 N)⟩]
noncomputable def body_I14:Code:=match Try.f14.body with | some c=>c | none=>.skip
noncomputable def L_I14 (N n:Nat) (key:Nat) (S:St) (K:Ks):Option Ret:=bif Nat.beq key 4 then withVals ks_I14_l4 S (fun x=>I14_l4 N x.1 x.2.1 x.2.2.1 n (K (.x 0) (shape ko_I14_l4_0 ())) (fun z0=>K .r (shape ko_I14_l4_1 (z0,()))) x.2.2.2.1) else bif Nat.beq key 9 then withVals ks_I14_l9 S (fun x=>I14_l9 N x.1 x.2.1 x.2.2.1 x.2.2.2.1 x.2.2.2.2.1 x.2.2.2.2.2.1 x.2.2.2.2.2.2.1 n (K (.x 2) (shape ko_I14_l9_0 (x.1,x.2.2.1,x.2.2.2.1,x.2.2.2.2.1,()))) (fun z0=>K .r (shape ko_I14_l9_1 (z0,()))) x.2.2.2.2.2.2.2.1) else none
theorem L0_I14 (N key:Nat) (S:St) (K:Ks):L_I14 N 0 key S K=none:=(bif0 (withVals0 fun _=>rfl) (bif0 (withVals0 fun _=>rfl) rfl))
noncomputable def c_I14_0:Code:=(loopsIn body_I14).getD 0 .skip
noncomputable def c_I14_1:Code:=(loopsIn body_I14).getD 1 .skip
theorem ls_I14:loopsIn body_I14=[c_I14_0,c_I14_1]:=by kernel_rfl
theorem rd_I14_9 (N n:Nat) (x:Vals ks_I14_l9) (K:Ks):L_I14 N (n + 1) 9 (shape ks_I14_l9 x) (h_I14.onOut 9 K)=peRound h_I14 (Orc.of (es_I14 N)) (mixL (L_I14 N) N n 9) c_I14_1 (shape ks_I14_l9 x) (h_I14.onOut 9 K):=by kernel_rfl
theorem rd_I14_4 (N n:Nat) (x:Vals ks_I14_l4) (K:Ks):L_I14 N (n + 1) 4 (shape ks_I14_l4 x) (h_I14.onOut 4 K)=peRound h_I14 (Orc.of (es_I14 N)) (mixL (L_I14 N) N n 4) c_I14_0 (shape ks_I14_l4 x) (h_I14.onOut 4 K):=by kernel_rfl
theorem fn_I14 (N:Nat) (x:AVals sg_I14) (kf:Ret→Option Ret):F_I14 N x kf=peFunc h_I14 (Orc.of (es_I14 N)) (L_I14 N N) Try.f14 (ashape sg_I14 x) kf:=by kernel_rfl
theorem sd_I14 {Γ : Gl} (N:Nat):Sound Γ Try.prog 14 (run_I14 N):=fun_ok2 (hh:=h_I14) mixed tab_ok (es:=es_I14 N) ⟨sd_I19 N,trivial⟩ (fn:=Try.f14) (body:=body_I14) (by kernel_rfl) (by kernel_rfl) (by kernel_rfl) (by kernel_rfl) (by kernel_rfl) (Lf:=L_I14 N) (L0_I14 N) ls_I14 (round_cons (key:=4) (ks:=ks_I14_l4) (by kernel_rfl) (by kernel_rfl) (rd_I14_4 N) (round_cons (key:=9) (ks:=ks_I14_l9) (by kernel_rfl) (by kernel_rfl) (rd_I14_9 N) trivial)) (N:=N) (by kernel_rfl) (fn_I14 N) (.inl (by kernel_rfl))
noncomputable def h_I79:Hint:={ tab,hn:=[],loops:=[],outs:=[],ords:=[] }
noncomputable def sg_I79:List AK:=[.v (.int .i64) .k,.v (.int .i64) .k]
noncomputable def F_I79 (N:Nat) (x:AVals sg_I79) (kf:Ret→Option Ret):Option Ret:=I79 N x.1 x.2.1 (fun r0=>kf ⟨[⟨(.int .i64),.k,r0⟩],[]⟩)
noncomputable def run_I79 (N:Nat):=runOf sg_I79 (F_I79 N)
noncomputable def es_I79 (N:Nat):List Entry:=[⟨19,[.val,.val,.val],(run_I19 N)⟩]
noncomputable def body_I79:Code:=match Try.f79.body with | some c=>c | none=>.skip
theorem ls_I79:loopsIn body_I79=[]:=by kernel_rfl
theorem fn_I79 (N:Nat) (x:AVals sg_I79) (kf:Ret→Option Ret):F_I79 N x kf=peFunc h_I79 (Orc.of (es_I79 N)) (noL N N) Try.f79 (ashape sg_I79 x) kf:=by kernel_rfl
theorem sd_I79 {Γ : Gl} (N:Nat):Sound Γ Try.prog 79 (run_I79 N):=fun_ok2 (hh:=h_I79) mixed tab_ok (es:=es_I79 N) ⟨sd_I19 N,trivial⟩ (fn:=Try.f79) (body:=body_I79) (by kernel_rfl) (by kernel_rfl) (by kernel_rfl) (by kernel_rfl) (by kernel_rfl) (Lf:=noL N) (noL0 N) ls_I79 trivial (N:=N) (by kernel_rfl) (fn_I79 N) (.inl (by kernel_rfl))
noncomputable def h_I67:Hint:={ tab,hn:=[],loops:=[],outs:=[],ords:=[] }
noncomputable def sg_I67:List AK:=[.v (.int .i64) .k,.v (.int .i64) .k]
noncomputable def F_I67 (N:Nat) (x:AVals sg_I67) (kf:Ret→Option Ret):Option Ret:=I67 N x.1 x.2.1 (fun r0=>kf ⟨[⟨(.int .i64),.k,r0⟩],[]⟩)
noncomputable def run_I67 (N:Nat):=runOf sg_I67 (F_I67 N)
noncomputable def es_I67 (N:Nat):List Entry:=[⟨79,[.val,.val],(run_I79 N)⟩]
noncomputable def body_I67:Code:=match Try.f67.body with | some c=>c | none=>.skip
theorem ls_I67:loopsIn body_I67=[]:=by kernel_rfl
theorem fn_I67 (N:Nat) (x:AVals sg_I67) (kf:Ret→Option Ret):F_I67 N x kf=peFunc h_I67 (Orc.of (es_I67 N)) (noL N N) Try.f67 (ashape sg_I67 x) kf:=by kernel_rfl
theorem sd_I67 {Γ : Gl} (N:Nat):Sound Γ Try.prog 67 (run_I67 N):=fun_ok2 (hh:=h_I67) mixed tab_ok (es:=es_I67 N) ⟨sd_I79 N,trivial⟩ (fn:=Try.f67) (body:=body_I67) (by kernel_rfl) (by kernel_rfl) (by kernel_rfl) (by kernel_rfl) (by kernel_rfl) (Lf:=noL N) (noL0 N) ls_I67 trivial (N:=N) (by kernel_rfl) (fn_I67 N) (.inl (by kernel_rfl))
noncomputable def ks_I56_l3:List Kd:=[dK,dK,dK,.v (.int .i64) .k,dK,dK,.v (.sl (.int .i64)) .k,.v (.int .i64) .k,.v (.int .i64) .k,dK,dK,dK,dK,dK,dK,dK,dK]
noncomputable def ko_I56_l3_0:List Kd:=[dK,dK,dK,.v (.int .i64) .k,dK,dK,dK,dK,dK,dK,dK,dK,dK,dK,dK,dK,dK]
noncomputable def h_I56:Hint:={ tab,hn:=[],loops:=[(3,ks_I56_l3)],outs:=[(3,2,ko_I56_l3_0)],ords:=[] }
noncomputable def sg_I56:List AK:=[.v (.sl (.int .i64)) .k]
noncomputable def F_I56 (N:Nat) (x:AVals sg_I56) (kf:Ret→Option Ret):Option Ret:=I56 N x.1 (fun r0=>kf ⟨[⟨(.int .i64),.k,r0⟩],[]⟩)
noncomputable def run_I56 (N:Nat):=runOf sg_I56 (F_I56 N)
noncomputable def es_I56 (N:Nat):List Entry:=[⟨67,[.val,.val],(run_I67 N)⟩]
noncomputable def body_I56:Code:=match Try.f56.body with | some c=>c | none=>.skip
noncomputable def L_I56 (N n:Nat) (key:Nat) (S:St) (K:Ks):Option Ret:=bif Nat.beq key 3 then withVals ks_I56_l3 S (fun x=>I56_l3 N x.2.1 x.2.2.1 n (fun z0=>K (.x 0) (shape ko_I56_l3_0 (z0,()))) x.1 x.2.2.2.1) else none
theorem L0_I56 (N key:Nat) (S:St) (K:Ks):L_I56 N 0 key S K=none:=(bif0 (withVals0 fun _=>rfl) rfl)
noncomputable def c_I56_0:Code:=(loopsIn body_I56).getD 0 .skip
theorem ls_I56:loopsIn body_I56=[c_I56_0]:=by kernel_rfl
theorem rd_I56_3 (N n:Nat) (x:Vals ks_I56_l3) (K:Ks):L_I56 N (n + 1) 3 (shape ks_I56_l3 x) (h_I56.onOut 3 K)=peRound h_I56 (Orc.of (es_I56 N)) (mixL (L_I56 N) N n 3) c_I56_0 (shape ks_I56_l3 x) (h_I56.onOut 3 K):=by kernel_rfl
theorem fn_I56 (N:Nat) (x:AVals sg_I56) (kf:Ret→Option Ret):F_I56 N x kf=peFunc h_I56 (Orc.of (es_I56 N)) (L_I56 N N) Try.f56 (ashape sg_I56 x) kf:=by kernel_rfl
theorem sd_I56 {Γ : Gl} (N:Nat):Sound Γ Try.prog 56 (run_I56 N):=fun_ok2 (hh:=h_I56) mixed tab_ok (es:=es_I56 N) ⟨sd_I67 N,trivial⟩ (fn:=Try.f56) (body:=body_I56) (by kernel_rfl) (by kernel_rfl) (by kernel_rfl) (by kernel_rfl) (by kernel_rfl) (Lf:=L_I56 N) (L0_I56 N) ls_I56 (round_cons (key:=3) (ks:=ks_I56_l3) (by kernel_rfl) (by kernel_rfl) (rd_I56_3 N) trivial) (N:=N) (by kernel_rfl) (fn_I56 N) (.inl (by kernel_rfl))
noncomputable def h_I36:Hint:={ tab,hn:=[],loops:=[],outs:=[],ords:=[] }
noncomputable def sg_I36:List AK:=[.v (.int .i64) .k,.v tQIIIIE .k]
noncomputable def F_I36 (N:Nat) (x:AVals sg_I36) (kf:Ret→Option Ret):Option Ret:=I36 N x.1 x.2.1 (fun r0=>kf ⟨[⟨(.int .i64),.k,r0⟩],[]⟩)
noncomputable def run_I36 (N:Nat):=runOf sg_I36 (F_I36 N)
noncomputable def es_I36 (N:Nat):List Entry:=[⟨56,[.val],(run_I56 N)⟩]
noncomputable def body_I36:Code:=match Try.f36.body with | some c=>c | none=>.skip
theorem ls_I36:loopsIn body_I36=[]:=by kernel_rfl
theorem fn_I36 (N:Nat) (x:AVals sg_I36) (kf:Ret→Option Ret):F_I36 N x kf=peFunc h_I36 (Orc.of (es_I36 N)) (noL N N) Try.f36 (ashape sg_I36 x) kf:=by kernel_rfl
theorem sd_I36 {Γ : Gl} (N:Nat):Sound Γ Try.prog 36 (run_I36 N):=fun_ok2 (hh:=h_I36) mixed tab_ok (es:=es_I36 N) ⟨sd_I56 N,trivial⟩ (fn:=Try.f36) (body:=body_I36) (by kernel_rfl) (by kernel_rfl) (by kernel_rfl) (by kernel_rfl) (by kernel_rfl) (Lf:=noL N) (noL0 N) ls_I36 trivial (N:=N) (by kernel_rfl) (fn_I36 N) (.inl (by kernel_rfl))
noncomputable def ks_I15_l5:List Kd:=[dK,dK,dK,.v (.int .i64) .k,dK,dK,dK,dK,dK,.v (.sl tQIIIIE) .k,.v (.int .i64) .k,.v (.int .i64) .k,dK,dK,dK,dK,dK,dK,dK,dK,dK,dK,dK,dK,dK,dK,dK,dK,dK,dK,dK,dK,dK,dK,dK,dK,dK,dK,dK,dK,dK,dK,dK,dK]
noncomputable def ko_I15_l5_0:List Kd:=[dK,dK,dK,dK,dK,dK,dK,dK,dK,dK,dK,dK,dK,dK,dK,dK,dK,dK,dK,dK,dK,dK,dK,dK,dK,dK,dK,dK,dK,dK,dK,dK,dK,dK,dK,dK,dK,dK,dK,dK,dK,dK,dK,dK]
noncomputable def ko_I15_l5_1:List Kd:=[dK,dK,.v .bool .k,dK,dK,dK,dK,dK,dK,dK,dK,dK,dK,dK,dK,dK,dK,dK,dK,dK,dK,dK,dK,dK,dK,dK,dK,dK,dK,dK,dK,dK,dK,dK,dK,dK,dK,dK,dK,dK,dK,dK,dK,dK]
noncomputable def h_I15:Hint:={ tab,hn:=[],loops:=[(5,ks_I15_l5)],outs:=[(5,2,ko_I15_l5_0),(5,1,ko_I15_l5_1)],ords:=[(7,(OT.seq [0,1,2,3,4,5,6,7,8,9,10,11,12,13,14,15,16,17,18,19,20,21,22,23,24] .done))] }
noncomputable def sg_I15:List AK:=[.v (.sl tQIIIIE) .k]
noncomputable def F_I15 (N:Nat) (x:AVals sg_I15) (kf:Ret→Option Ret):Option Ret:=I15 N x.1 (fun r0=>kf ⟨[⟨.bool,.k,r0⟩],[]⟩)
noncomputable def run_I15 (N:Nat):=runOf sg_I15 (F_I15 N)
noncomputable def es_I15 (N:Nat):List Entry:=[⟨19,[.val,.val,.val],(run_I19 N)⟩,⟨36,[.val,.val],(run_I36 N)⟩]
noncomputable def body_I15:Code:=match Try.f15.body with | some c=>c | none=>.skip
noncomputable def L_I15 (N n:Nat) (key:Nat) (S:St) (K:Ks):Option Ret:=bif Nat.beq key 5 then withVals ks_I15_l5 S (fun x=>I15_l5 N x.2.1 x.2.2.1 n (K (.x 0) (shape ko_I15_l5_0 ())) (fun z0=>K .r (shape ko_I15_l5_1 (z0,()))) x.1 x.2.2.2.1) else none
theorem L0_I15 (N key:Nat) (S:St) (K:Ks):L_I15 N 0 key S K=none:=(bif0 (withVals0 fun _=>rfl) rfl)
noncomputable def c_I15_0:Code:=(loopsIn body_I15).getD 0 .skip
theorem ls_I15:loopsIn body_I15=[c_I15_0]:=by kernel_rfl
theorem rd_I15_5 (N n:Nat) (x:Vals ks_I15_l5) (K:Ks):L_I15 N (n + 1) 5 (shape ks_I15_l5 x) (h_I15.onOut 5 K)=peRound h_I15 (Orc.of (es_I15 N)) (mixL (L_I15 N) N n 5) c_I15_0 (shape ks_I15_l5 x) (h_I15.onOut 5 K):=by kernel_rfl
theorem fn_I15 (N:Nat) (x:AVals sg_I15) (kf:Ret→Option Ret):F_I15 N x kf=peFunc h_I15 (Orc.of (es_I15 N)) (L_I15 N N) Try.f15 (ashape sg_I15 x) kf:=by kernel_rfl
theorem sd_I15 {Γ : Gl} (N:Nat):Sound Γ Try.prog 15 (run_I15 N):=fun_ok2 (hh:=h_I15) mixed tab_ok (es:=es_I15 N) ⟨sd_I19 N,⟨sd_I36 N,trivial⟩⟩ (fn:=Try.f15) (body:=body_I15) (by kernel_rfl) (by kernel_rfl) (by kernel_rfl) (by kernel_rfl) (by kernel_rfl) (Lf:=L_I15 N) (L0_I15 N) ls_I15 (round_cons (key:=5) (ks:=ks_I15_l5) (by kernel_rfl) (by kernel_rfl) (rd_I15_5 N) trivial) (N:=N) (by kernel_rfl) (fn_I15 N) (.inl (by kernel_rfl))
noncomputable def h_I7:Hint:={ tab,hn:=[],loops:=[],outs:=[],ords:=[] }
noncomputable def sg_I7:List AK:=[.v tQLQIIIIILIELQIILIELQIIELILQIIIELQIIIIEIE .k]
noncomputable def F_I7 (N:Nat) (x:AVals sg_I7) (kf:Ret→Option Ret):Option Ret:=I7 N x.1 (fun r0=>kf ⟨[⟨.bool,.k,r0⟩],[]⟩)
noncomputable def run_I7 (N:Nat):=runOf sg_I7 (F_I7 N)
noncomputable def es_I7 (N:Nat):List Entry:=[]
noncomputable def body_I7:Code:=match Try.f7.body with | some c=>c | none=>.skip
theorem ls_I7:loopsIn body_I7=[]:=by kernel_rfl
theorem fn_I7 (N:Nat) (x:AVals sg_I7) (kf:Ret→Option Ret):F_I7 N x kf=peFunc h_I7 (Orc.of (es_I7 N)) (noL N N) Try.f7 (ashape sg_I7 x) kf:=by kernel_rfl
theorem sd_I7 {Γ : Gl} (N:Nat):Sound Γ Try.prog 7 (run_I7 N):=fun_ok2 (hh:=h_I7) mixed tab_ok (es:=es_I7 N) trivial (fn:=Try.f7) (body:=body_I7) (by kernel_rfl) (by kernel_rfl) (by kernel_rfl) (by kernel_rfl) (by kernel_rfl) (Lf:=noL N) (noL0 N) ls_I7 trivial (N:=N) (by kernel_rfl) (fn_I7 N) (.inl (by kernel_rfl))
noncomputable def ks_S58_l2:List Kd:=[.v (.sl (.int .i64)) .k,.v (.int .i64) .k,dK,dK,dK,dK,dK,.v (.int .i64) .k,.v (.int .i64) .k,dK,dK,dK,dK,dK,dK,dK,dK,dK,dK]
noncomputable def ko_S58_l2_0:List Kd:=[dK,dK,dK,dK,dK,dK,dK,dK,dK,dK,dK,dK,dK,dK,dK,dK,dK,dK,dK]
noncomputable def ko_S58_l2_1:List Kd:=[dK,dK,dK,dK,.v (.int .i64) .k,dK,dK,dK,dK,dK,dK,dK,dK,dK,dK,dK,dK,dK,dK]
noncomputable def h_S58:Hint:={ tab,hn:=[],loops:=[(2,ks_S58_l2)],outs:=[(2,2,ko_S58_l2_0),(2,1,ko_S58_l2_1)],ords:=[] }
noncomputable def sg_S58:List AK:=[.v (.sl (.int .i64)) .k,.v (.int .i64) .k]
noncomputable def F_S58 (N:Nat) (x:AVals sg_S58) (kf:Ret→Option Ret):Option Ret:=S58 N x.1 x.2.1 (fun r0=>kf ⟨[⟨(.int .i64),.k,r0⟩],[]⟩)
noncomputable def run_S58 (N:Nat):=runOf sg_S58 (F_S58 N)
noncomputable def es_S58 (N:Nat):List Entry:=[]
noncomputable def body_S58:Code:=match Try.f58.body with | some c=>c | none=>.skip
noncomputable def L_S58 (N n:Nat) (key:Nat) (S:St) (K:Ks):Option Ret:=bif Nat.beq key 2 then withVals ks_S58_l2 S (fun x=>S58_l2 x.1 x.2.1 x.2.2.1 n (K (.x 0) (shape ko_S58_l2_0 ())) (fun z0=>K .r (shape ko_S58_l2_1 (z0,()))) x.2.2.2.1) else none
theorem L0_S58 (N key:Nat) (S:St) (K:Ks):L_S58 N 0 key S K=none:=(bif0 (withVals0 fun _=>rfl) rfl)
noncomputable def c_S58_0:Code:=(loopsIn body_S58).getD 0 .skip
theorem ls_S58:loopsIn body_S58=[c_S58_0]:=by kernel_rfl
theorem rd_S58_2 (N n:Nat) (x:Vals ks_S58_l2) (K:Ks):L_S58 N (n + 1) 2 (shape ks_S58_l2 x) (h_S58.onOut 2 K)=peRound h_S58 (Orc.of (es_S58 N)) (mixL (L_S58 N) N n 2) c_S58_0 (shape ks_S58_l2 x) (h_S58.onOut 2 K):=by kernel_rfl
theorem fn_S58 (N:Nat) (x:AVals sg_S58) (kf:Ret→Option Ret):F_S58 N x kf=peFunc h_S58 (Orc.of (es_S58 N)) (L_S58 N N) Try.f58 (ashape sg_S58 x) kf:=by kernel_rfl
theorem sd_S58 {Γ : Gl} (N:Nat):Sound Γ Try.prog 58 (run_S58 N):=fun_ok2 (hh:=h_S58) mixed tab_ok (es:=es_S58 N) trivial (fn:=Try.f58) (body:=body_S58) (by kernel_rfl) (by kernel_rfl) (by kernel_rfl) (by kernel_rfl) (by kernel_rfl) (Lf:=L_S58 N) (L0_S58 N) ls_S58 (round_cons (key:=2) (ks:=ks_S58_l2) (by kernel_rfl) (by kernel_rfl) (rd_S58_2 N) trivial) (N:=N) (by kernel_rfl) (fn_S58 N) (.inl (by kernel_rfl))
noncomputable def h_S40:Hint:={ tab,hn:=[],loops:=[],outs:=[],ords:=[] }
noncomputable def sg_S40:List AK:=[.v (.sl (.int .i64)) .k,.v (.int .i64) .k]
noncomputable def F_S40 (N:Nat) (x:AVals sg_S40) (kf:Ret→Option Ret):Option Ret:=S40 N x.1 x.2.1 (fun r0=>kf ⟨[⟨.bool,.k,r0⟩],[]⟩)
noncomputable def run_S40 (N:Nat):=runOf sg_S40 (F_S40 N)
noncomputable def es_S40 (N:Nat):List Entry:=[⟨58,[.val,.val],(run_S58 N)⟩]
noncomputable def body_S40:Code:=match Try.f40.body with | some c=>c | none=>.skip
theorem ls_S40:loopsIn body_S40=[]:=by kernel_rfl
theorem fn_S40 (N:Nat) (x:AVals sg_S40) (kf:Ret→Option Ret):F_S40 N x kf=peFunc h_S40 (Orc.of (es_S40 N)) (noL N N) Try.f40 (ashape sg_S40 x) kf:=by kernel_rfl
theorem sd_S40 {Γ : Gl} (N:Nat):Sound Γ Try.prog 40 (run_S40 N):=fun_ok2 (hh:=h_S40) mixed tab_ok (es:=es_S40 N) ⟨sd_S58 N,trivial⟩ (fn:=Try.f40) (body:=body_S40) (by kernel_rfl) (by kernel_rfl) (by kernel_rfl) (by kernel_rfl) (by kernel_rfl) (Lf:=noL N) (noL0 N) ls_S40 trivial (N:=N) (by kernel_rfl) (fn_S40 N) (.inl (by kernel_rfl))
noncomputable def h_I57:Hint:={ tab,hn:=[],loops:=[],outs:=[],ords:=[] }
noncomputable def sg_I57:List AK:=[.v (.sl tQIIIIILIE) .k,.v (.int .i64) .k,.v (.int .i64) .k]
noncomputable def F_I57 (N:Nat) (x:AVals sg_I57) (kf:Ret→Option Ret):Option Ret:=I57 N x.1 x.2.1 x.2.2.1 (fun r0=>kf ⟨[⟨.bool,.k,r0⟩],[]⟩)
noncomputable def run_I57 (N:Nat):=runOf sg_I57 (F_I57 N)
noncomputable def es_I57 (N:Nat):List Entry:=[⟨34,[.val,.val],(run_I34 N)⟩,⟨40,[.val,.val],(run_S40 N)⟩]
noncomputable def body_I57:Code:=match Try.f57.body with | some c=>c | none=>.skip
theorem ls_I57:loopsIn body_I57=[]:=by kernel_rfl
theorem fn_I57 (N:Nat) (x:AVals sg_I57) (kf:Ret→Option Ret):F_I57 N x kf=peFunc h_I57 (Orc.of (es_I57 N)) (noL N N) Try.f57 (ashape sg_I57 x) kf:=by kernel_rfl
theorem sd_I57 {Γ : Gl} (N:Nat):Sound Γ Try.prog 57 (run_I57 N):=fun_ok2 (hh:=h_I57) mixed tab_ok (es:=es_I57 N) ⟨sd_I34 N,⟨sd_S40 N,trivial⟩⟩ (fn:=Try.f57) (body:=body_I57) (by kernel_rfl) (by kernel_rfl) (by kernel_rfl) (by kernel_rfl) (by kernel_rfl) (Lf:=noL N) (noL0 N) ls_I57 trivial (N:=N) (by kernel_rfl) (fn_I57 N) (.inl (by kernel_rfl))
noncomputable def h_I37:Hint:={ tab,hn:=[],loops:=[],outs:=[],ords:=[(2,(OT.seq [0,1,2,3,4,5,6,7,8,9,10,11,12,13,14,15,16,17,18,19,20,21,22,23,24,25,26,27,28,29,30,31,32,33,34,35] .done))] }
noncomputable def sg_I37:List AK:=[.v (.sl tQIIIIILIE) .k,.v (.int .i64) .k,.v (.int .i64) .k]
noncomputable def F_I37 (N:Nat) (x:AVals sg_I37) (kf:Ret→Option Ret):Option Ret:=I37 N x.1 x.2.1 x.2.2.1 (fun r0=>kf ⟨[⟨.bool,.k,r0⟩],[]⟩)
noncomputable def run_I37 (N:Nat):=runOf sg_I37 (F_I37 N)
noncomputable def es_I37 (N:Nat):List Entry:=[⟨34,[.val,.val],(run_I34 N)⟩,⟨13,[.val],(run_I13 N)⟩,⟨57,[.val,.val,.val],(run_I57 N)⟩]
noncomputable def body_I37:Code:=match Try.f37.body with | some c=>c | none=>.skip
theorem ls_I37:loopsIn body_I37=[]:=by kernel_rfl
theorem fn_I37 (N:Nat) (x:AVals sg_I37) (kf:Ret→Option Ret):F_I37 N x kf=peFunc h_I37 (Orc.of (es_I37 N)) (noL N N) Try.f37 (ashape sg_I37 x) kf:=by kernel_rfl
theorem sd_I37 {Γ : Gl} (N:Nat):Sound Γ Try.prog 37 (run_I37 N):=fun_ok2 (hh:=h_I37) mixed tab_ok (es:=es_I37 N) ⟨sd_I34 N,⟨sd_I13 N,⟨sd_I57 N,trivial⟩⟩⟩ (fn:=Try.f37) (body:=body_I37) (by kernel_rfl) (by kernel_rfl) (by kernel_rfl) (by kernel_rfl) (by kernel_rfl) (Lf:=noL N) (noL0 N) ls_I37 trivial (N:=N) (by kernel_rfl) (fn_I37 N) (.inl (by kernel_rfl))
noncomputable def ks_I16_l3:List Kd:=[.v (.sl tQIIIIILIE) .k,dK,dK,dK,dK,.v (.sl (.int .i64)) (.o 3 none .k),dK,dK,dK,dK,dK,.v (.sl tQIIE) .k,.v (.int .i64) .k,.v (.int .i64) .k,dK,dK,dK,dK,dK,dK,dK,dK,dK,dK,dK,dK,dK,dK,dK,dK,dK,dK,dK,dK,dK,dK,dK,dK,dK,dK,dK,dK,dK,dK]
noncomputable def ko_I16_l3_0:List Kd:=[.v (.sl tQIIIIILIE) .k,dK,dK,dK,dK,.v (.sl (.int .i64)) (.o 3 none .k),dK,dK,dK,dK,dK,dK,dK,dK,dK,dK,dK,dK,dK,dK,dK,dK,dK,dK,dK,dK,dK,dK,dK,dK,dK,dK,dK,dK,dK,dK,dK,dK,dK,dK,dK,dK,dK,dK]
noncomputable def ko_I16_l3_1:List Kd:=[dK,dK,dK,dK,.v .bool .k,dK,dK,dK,dK,dK,dK,dK,dK,dK,dK,dK,dK,dK,dK,dK,dK,dK,dK,dK,dK,dK,dK,dK,dK,dK,dK,dK,dK,dK,dK,dK,dK,dK,dK,dK,dK,dK,dK,dK]
noncomputable def ks_I16_l10:List Kd:=[dK,dK,dK,dK,dK,.v (.sl (.int .i64)) (.o 3 none .k),dK,dK,dK,dK,dK,dK,dK,dK,dK,dK,dK,dK,dK,dK,dK,dK,dK,dK,dK,dK,dK,dK,dK,dK,dK,dK,.v (.sl tQIIIIILIE) .k,.v (.int .i64) .k,.v (.int .i64) .k,dK,dK,dK,dK,dK,dK,dK,dK,dK]
noncomputable def ko_I16_l10_0:List Kd:=[dK,dK,dK,dK,dK,dK,dK,dK,dK,dK,dK,dK,dK,dK,dK,dK,dK,dK,dK,dK,dK,dK,dK,dK,dK,dK,dK,dK,dK,dK,dK,dK,dK,dK,dK,dK,dK,dK,dK,dK,dK,dK,dK,dK]
noncomputable def ko_I16_l10_1:List Kd:=[dK,dK,dK,dK,.v .bool .k,dK,dK,dK,dK,dK,dK,dK,dK,dK,dK,dK,dK,dK,dK,dK,dK,dK,dK,dK,dK,dK,dK,dK,dK,dK,dK,dK,dK,dK,dK,dK,dK,dK,dK,dK,dK,dK,dK,dK]
noncomputable def h_I16:Hint:={ tab,hn:=[],loops:=[(3,ks_I16_l3),(10,ks_I16_l10)],outs:=[(3,2,ko_I16_l3_0),(3,1,ko_I16_l3_1),(10,4,ko_I16_l10_0),(10,1,ko_I16_l10_1)],ords:=[] }
noncomputable def sg_I16:List AK:=[.v (.sl tQIIIIILIE) .k,.v (.sl tQIIE) .k]
noncomputable def F_I16 (N:Nat) (x:AVals sg_I16) (kf:Ret→Option Ret):Option Ret:=I16 N x.1 x.2.1 (fun r0=>kf ⟨[⟨.bool,.k,r0⟩],[]⟩)
noncomputable def run_I16 (N:Nat):=runOf sg_I16 (F_I16 N)
noncomputable def es_I16 (N:Nat):List Entry:=[⟨37,[.val,.val,.val],(run_I37 N)⟩,⟨35,[.val,.val],(run_I35 N)⟩]
noncomputable def body_I16:Code:=match Try.f16.body with | some c=>c | none=>.skip
noncomputable def L_I16 (N n:Nat) (key:Nat) (S:St) (K:Ks):Option Ret:=bif Nat.beq key 3 then withVals ks_I16_l3 S (fun x=>I16_l3 N x.1 x.2.2.1 x.2.2.2.1 n (fun z0=>K (.x 0) (shape ko_I16_l3_0 (x.1,z0,()))) (fun z0=>K .r (shape ko_I16_l3_1 (z0,()))) x.2.1 x.2.2.2.2.1) else bif Nat.beq key 10 then withVals ks_I16_l10 S (fun x=>I16_l10 N x.1 x.2.1 x.2.2.1 n (K (.x 2) (shape ko_I16_l10_0 ())) (fun z0=>K .r (shape ko_I16_l10_1 (z0,()))) x.2.2.2.1) else none
theorem L0_I16 (N key:Nat) (S:St) (K:Ks):L_I16 N 0 key S K=none:=(bif0 (withVals0 fun _=>rfl) (bif0 (withVals0 fun _=>rfl) rfl))
noncomputable def c_I16_0:Code:=(loopsIn body_I16).getD 0 .skip
noncomputable def c_I16_1:Code:=(loopsIn body_I16).getD 1 .skip
theorem ls_I16:loopsIn body_I16=[c_I16_0,c_I16_1]:=by kernel_rfl
theorem rd_I16_10 (N n:Nat) (x:Vals ks_I16_l10) (K:Ks):L_I16 N (n + 1) 10 (shape ks_I16_l10 x) (h_I16.onOut 10 K)=peRound h_I16 (Orc.of (es_I16 N)) (mixL (L_I16 N) N n 10) c_I16_1 (shape ks_I16_l10 x) (h_I16.onOut 10 K):=by kernel_rfl
theorem rd_I16_3 (N n:Nat) (x:Vals ks_I16_l3) (K:Ks):L_I16 N (n + 1) 3 (shape ks_I16_l3 x) (h_I16.onOut 3 K)=peRound h_I16 (Orc.of (es_I16 N)) (mixL (L_I16 N) N n 3) c_I16_0 (shape ks_I16_l3 x) (h_I16.onOut 3 K):=by kernel_rfl
theorem fn_I16 (N:Nat) (x:AVals sg_I16) (kf:Ret→Option Ret):F_I16 N x kf=peFunc h_I16 (Orc.of (es_I16 N)) (L_I16 N N) Try.f16 (ashape sg_I16 x) kf:=by kernel_rfl
theorem sd_I16 {Γ : Gl} (N:Nat):Sound Γ Try.prog 16 (run_I16 N):=fun_ok2 (hh:=h_I16) mixed tab_ok (es:=es_I16 N) ⟨sd_I37 N,⟨sd_I35 N,trivial⟩⟩ (fn:=Try.f16) (body:=body_I16) (by kernel_rfl) (by kernel_rfl) (by kernel_rfl) (by kernel_rfl) (by kernel_rfl) (Lf:=L_I16 N) (L0_I16 N) ls_I16 (round_cons (key:=3) (ks:=ks_I16_l3) (by kernel_rfl) (by kernel_rfl) (rd_I16_3 N) (round_cons (key:=10) (ks:=ks_I16_l10) (by kernel_rfl) (by kernel_rfl) (rd_I16_10 N) trivial)) (N:=N) (by kernel_rfl) (fn_I16 N) (.inl (by kernel_rfl))
noncomputable def h_I39:Hint:={ tab,hn:=[],loops:=[],outs:=[],ords:=[] }
noncomputable def sg_I39:List AK:=[.v tQIILIE .k,.v (.ptr (.int .i64)) .k]
noncomputable def F_I39 (N:Nat) (x:AVals sg_I39) (kf:Ret→Option Ret):Option Ret:=I39 N x.1 x.2.1 (fun r0=>kf ⟨[⟨.bool,.k,r0⟩],[]⟩)
noncomputable def run_I39 (N:Nat):=runOf sg_I39 (F_I39 N)
noncomputable def es_I39 (N:Nat):List Entry:=[]
noncomputable def body_I39:Code:=match Try.f39.body with | some c=>c | none=>.skip
theorem ls_I39:loopsIn body_I39=[]:=by kernel_rfl
theorem fn_I39 (N:Nat) (x:AVals sg_I39) (kf:Ret→Option Ret):F_I39 N x kf=peFunc h_I39 (Orc.of (es_I39 N)) (noL N N) Try.f39 (ashape sg_I39 x) kf:=by kernel_rfl
theorem sd_I39 {Γ : Gl} (N:Nat):Sound Γ Try.prog 39 (run_I39 N):=fun_ok2 (hh:=h_I39) mixed tab_ok (es:=es_I39 N) trivial (fn:=Try.f39) (body:=body_I39) (by kernel_rfl) (by kernel_rfl) (by kernel_rfl) (by kernel_rfl) (by kernel_rfl) (Lf:=noL N) (noL0 N) ls_I39 trivial (N:=N) (by kernel_rfl) (fn_I39 N) (.inl (by kernel_rfl))
noncomputable def ks_S38_l2:List Kd:=[.v (.sl tQIILIE) .k,.clo 39 [.kv (.ptr (.int .i64))],dK,dK,dK,dK,dK,.v (.int .i64) .k,.v (.int .i64) .k,dK,dK,dK,dK,dK,dK,dK,dK,dK,dK]
noncomputable def ko_S38_l2_0:List Kd:=[dK,dK,dK,dK,dK,dK,dK,dK,dK,dK,dK,dK,dK,dK,dK,dK,dK,dK,dK]
noncomputable def ko_S38_l2_1:List Kd:=[dK,dK,dK,dK,.v (.int .i64) .k,dK,dK,dK,dK,dK,dK,dK,dK,dK,dK,dK,dK,dK,dK]
noncomputable def h_S38:Hint:={ tab,hn:=[],loops:=[(2,ks_S38_l2)],outs:=[(2,2,ko_S38_l2_0),(2,1,ko_S38_l2_1)],ords:=[] }
noncomputable def sg_S38:List AK:=[.v (.sl tQIILIE) .k,.fn 39 [(.ptr (.int .i64))]]
noncomputable def F_S38 (N:Nat) (x:AVals sg_S38) (kf:Ret→Option Ret):Option Ret:=S38 N x.1 x.2.1.1 (fun r0=>kf ⟨[⟨(.int .i64),.k,r0⟩],[]⟩)
noncomputable def run_S38 (N:Nat):=runOf sg_S38 (F_S38 N)
noncomputable def es_S38 (N:Nat):List Entry:=[⟨39,[.val],(run_I39 N)⟩]
noncomputable def body_S38:Code:=match Try.f38.body with | some c=>c | none=>.skip
noncomputable def L_S38 (N n:Nat) (key:Nat) (S:St) (K:Ks):Option Ret:=bif Nat.beq key 2 then withVals ks_S38_l2 S (fun x=>S38_l2 N x.1 x.2.1.1 x.2.2.1 n (K (.x 0) (shape ko_S38_l2_0 ())) (fun z0=>K .r (shape ko_S38_l2_1 (z0,()))) x.2.2.2.1) else none
theorem L0_S38 (N key:Nat) (S:St) (K:Ks):L_S38 N 0 key S K=none:=(bif0 (withVals0 fun _=>rfl) rfl)
noncomputable def c_S38_0:Code:=(loopsIn body_S38).getD 0 .skip
theorem ls_S38:loopsIn body_S38=[c_S38_0]:=by kernel_rfl
theorem rd_S38_2 (N n:Nat) (x:Vals ks_S38_l2) (K:Ks):L_S38 N (n + 1) 2 (shape ks_S38_l2 x) (h_S38.onOut 2 K)=peRound h_S38 (Orc.of (es_S38 N)) (mixL (L_S38 N) N n 2) c_S38_0 (shape ks_S38_l2 x) (h_S38.onOut 2 K):=by kernel_rfl
theorem fn_S38 (N:Nat) (x:AVals sg_S38) (kf:Ret→Option Ret):F_S38 N x kf=peFunc h_S38 (Orc.of (es_S38 N)) (L_S38 N N) Try.f38 (ashape sg_S38 x) kf:=by kernel_rfl
theorem sd_S38 {Γ : Gl} (N:Nat):Sound Γ Try.prog 38 (run_S38 N):=fun_ok2 (hh:=h_S38) mixed tab_ok (es:=es_S38 N) ⟨sd_I39 N,trivial⟩ (fn:=Try.f38) (body:=body_S38) (by kernel_rfl) (by kernel_rfl) (by kernel_rfl) (by kernel_rfl) (by kernel_rfl) (Lf:=L_S38 N) (L0_S38 N) ls_S38 (round_cons (key:=2) (ks:=ks_S38_l2) (by kernel_rfl) (by kernel_rfl) (rd_S38_2 N) trivial) (N:=N) (by kernel_rfl) (fn_S38 N) (.inl (by kernel_rfl))
noncomputable def ks_I41_l2:List Kd:=[.v (.sl tQIIIIILIE) .k,dK,dK,dK,.v (.ptr tQIILIE) (.o 64 none .k),dK,dK,dK,dK,dK,dK,dK,dK,dK,.v (.sl (.int .i64)) (.o 3 none .k),.v (.int .i64) .k,.v (.int .i64) .k,dK,dK,dK,dK,dK,dK,dK,dK,dK,dK,dK,dK,dK,dK,dK,dK,dK,dK,dK,dK,dK,dK,dK,dK,dK]
noncomputable def ko_I41_l2_0:List Kd:=[dK,dK,dK,dK,dK,dK,dK,dK,dK,dK,dK,dK,dK,dK,dK,dK,dK,dK,dK,dK,dK,dK,dK,dK,dK,dK,dK,dK,dK,dK,dK,dK,dK,dK,dK,dK,dK,dK,dK,dK,dK,dK]
noncomputable def ko_I41_l2_1:List Kd:=[dK,dK,dK,dK,dK,dK,.v .bool .k,dK,dK,dK,dK,dK,dK,dK,dK,dK,dK,dK,dK,dK,dK,dK,dK,dK,dK,dK,dK,dK,dK,dK,dK,dK,dK,dK,dK,dK,dK,dK,dK,dK,dK,dK]
noncomputable def h_I41:Hint:={ tab,hn:=[],loops:=[(2,ks_I41_l2)],outs:=[(2,2,ko_I41_l2_0),(2,1,ko_I41_l2_1)],ords:=[(5,(OT.seq [0,1,2,3,4,5,6,7,8,9,10,11,12,13,14,15,16,17] .done))] }
noncomputable def sg_I41:List AK:=[.v (.sl tQIIIIILIE) .k,.v tQIILIE .k,.v tQIIE .k]
noncomputable def F_I41 (N:Nat) (x:AVals sg_I41) (kf:Ret→Option Ret):Option Ret:=I41 N x.1 x.2.1 x.2.2.1 (fun r0=>kf ⟨[⟨.bool,.k,r0⟩],[]⟩)
noncomputable def run_I41 (N:Nat):=runOf sg_I41 (F_I41 N)
noncomputable def es_I41 (N:Nat):List Entry:=[⟨34,[.val,.val],(run_I34 N)⟩,⟨40,[.val,.val],(run_S40 N)⟩]
noncomputable def body_I41:Code:=match Try.f41.body with | some c=>c | none=>.skip
noncomputable def L_I41 (N n:Nat) (key:Nat) (S:St) (K:Ks):Option Ret:=bif Nat.beq key 2 then withVals ks_I41_l2 S (fun x=>I41_l2 N x.1 x.2.1 x.2.2.1 x.2.2.2.1 n (K (.x 0) (shape ko_I41_l2_0 ())) (fun z0=>K .r (shape ko_I41_l2_1 (z0,()))) x.2.2.2.2.1) else none
theorem L0_I41 (N key:Nat) (S:St) (K:Ks):L_I41 N 0 key S K=none:=(bif0 (withVals0 fun _=>rfl) rfl)
noncomputable def c_I41_0:Code:=(loopsIn body_I41).getD 0 .skip
theorem ls_I41:loopsIn body_I41=[c_I41_0]:=by kernel_rfl
theorem rd_I41_2 (N n:Nat) (x:Vals ks_I41_l2) (K:Ks):L_I41 N (n + 1) 2 (shape ks_I41_l2 x) (h_I41.onOut 2 K)=peRound h_I41 (Orc.of (es_I41 N)) (mixL (L_I41 N) N n 2) c_I41_0 (shape ks_I41_l2 x) (h_I41.onOut 2 K):=by kernel_rfl
theorem fn_I41 (N:Nat) (x:AVals sg_I41) (kf:Ret→Option Ret):F_I41 N x kf=peFunc h_I41 (Orc.of (es_I41 N)) (L_I41 N N) Try.f41 (ashape sg_I41 x) kf:=by kernel_rfl
theorem sd_I41 {Γ : Gl} (N:Nat):Sound Γ Try.prog 41 (run_I41 N):=fun_ok2 (hh:=h_I41) mixed tab_ok (es:=es_I41 N) ⟨sd_I34 N,⟨sd_S40 N,trivial⟩⟩ (fn:=Try.f41) (body:=body_I41) (by kernel_rfl) (by kernel_rfl) (by kernel_rfl) (by kernel_rfl) (by kernel_rfl) (Lf:=L_I41 N) (L0_I41 N) ls_I41 (round_cons (key:=2) (ks:=ks_I41_l2) (by kernel_rfl) (by kernel_rfl) (rd_I41_2 N) trivial) (N:=N) (by kernel_rfl) (fn_I41 N) (.inl (by kernel_rfl))
noncomputable def ks_I17_l4:List Kd:=[.v (.sl tQIIIIILIE) .k,.v (.sl tQIILIE) .k,.v (.sl tQIIE) .k,.v (.sl (.int .i64)) .k,dK,dK,dK,dK,dK,dK,dK,dK,dK,dK,dK,dK,dK,dK,dK,dK,dK,dK,.v (.sl (.int .i64)) .k,.v (.int .i64) .k,.v (.int .i64) .k,dK,dK,dK,dK,dK,dK,dK,dK,dK,dK,dK,dK,dK,dK,dK,dK,dK,dK,dK,dK,dK,dK,dK,dK,dK,dK,dK,dK,dK,dK]
noncomputable def ko_I17_l4_0:List Kd:=[dK,dK,dK,dK,dK,dK,dK,dK,dK,dK,dK,dK,dK,dK,dK,dK,dK,dK,dK,dK,dK,dK,dK,dK,dK,dK,dK,dK,dK,dK,dK,dK,dK,dK,dK,dK,dK,dK,dK,dK,dK,dK,dK,dK,dK,dK,dK,dK,dK,dK,dK,dK,dK,dK,dK]
noncomputable def ko_I17_l4_1:List Kd:=[dK,dK,dK,dK,dK,dK,dK,dK,.v .bool .k,dK,dK,dK,dK,dK,dK,dK,dK,dK,dK,dK,dK,dK,dK,dK,dK,dK,dK,dK,dK,dK,dK,dK,dK,dK,dK,dK,dK,dK,dK,dK,dK,dK,dK,dK,dK,dK,dK,dK,dK,dK,dK,dK,dK,dK,dK]
noncomputable def h_I17:Hint:={ tab,hn:=[],loops:=[(4,ks_I17_l4)],outs:=[(4,2,ko_I17_l4_0),(4,1,ko_I17_l4_1)],ords:=[(7,(OT.seq [0,1,2,3,4,5,6,7,8,9,10,11,12,13,14,15,16,17,18,19,20,21] .done))] }
noncomputable def sg_I17:List AK:=[.v (.sl tQIIIIILIE) .k,.v (.sl tQIILIE) .k,.v (.sl tQIIE) .k,.v (.sl (.int .i64)) .k]
noncomputable def F_I17 (N:Nat) (x:AVals sg_I17) (kf:Ret→Option Ret):Option Ret:=I17 N x.1 x.2.1 x.2.2.1 x.2.2.2.1 (fun r0=>kf ⟨[⟨.bool,.k,r0⟩],[]⟩)
noncomputable def run_I17 (N:Nat):=runOf sg_I17 (F_I17 N)
noncomputable def es_I17 (N:Nat):List Entry:=[⟨14,[.val],(run_I14 N)⟩,⟨38,[.val,.val],(run_S38 N)⟩,⟨40,[.val,.val],(run_S40 N)⟩,⟨41,[.val,.val,.val],(run_I41 N)⟩]
noncomputable def body_I17:Code:=match Try.f17.body with | some c=>c | none=>.skip
noncomputable def L_I17 (N n:Nat) (key:Nat) (S:St) (K:Ks):Option Ret:=bif Nat.beq key 4 then withVals ks_I17_l4 S (fun x=>I17_l4 N x.1 x.2.1 x.2.2.1 x.2.2.2.1 x.2.2.2.2.1 x.2.2.2.2.2.1 n (K (.x 0) (shape ko_I17_l4_0 ())) (fun z0=>K .r (shape ko_I17_l4_1 (z0,()))) x.2.2.2.2.2.2.1) else none
theorem L0_I17 (N key:Nat) (S:St) (K:Ks):L_I17 N 0 key S K=none:=(bif0 (withVals0 fun _=>rfl) rfl)
noncomputable def c_I17_0:Code:=(loopsIn body_I17).getD 0 .skip
theorem ls_I17:loopsIn body_I17=[c_I17_0]:=by kernel_rfl
theorem rd_I17_4 (N n:Nat) (x:Vals ks_I17_l4) (K:Ks):L_I17 N (n + 1) 4 (shape ks_I17_l4 x) (h_I17.onOut 4 K)=peRound h_I17 (Orc.of (es_I17 N)) (mixL (L_I17 N) N n 4) c_I17_0 (shape ks_I17_l4 x) (h_I17.onOut 4 K):=by kernel_rfl
theorem fn_I17 (N:Nat) (x:AVals sg_I17) (kf:Ret→Option Ret):F_I17 N x kf=peFunc h_I17 (Orc.of (es_I17 N)) (L_I17 N N) Try.f17 (ashape sg_I17 x) kf:=by kernel_rfl
theorem sd_I17 {Γ : Gl} (N:Nat):Sound Γ Try.prog 17 (run_I17 N):=fun_ok2 (hh:=h_I17) mixed tab_ok (es:=es_I17 N) ⟨sd_I14 N,⟨sd_S38 N,⟨sd_S40 N,⟨sd_I41 N,trivial⟩⟩⟩⟩ (fn:=Try.f17) (body:=body_I17) (by kernel_rfl) (by kernel_rfl) (by kernel_rfl) (by kernel_rfl) (by kernel_rfl) (Lf:=L_I17 N) (L0_I17 N) ls_I17 (round_cons (key:=4) (ks:=ks_I17_l4) (by kernel_rfl) (by kernel_rfl) (rd_I17_4 N) trivial) (N:=N) (by kernel_rfl) (fn_I17 N) (.inl (by kernel_rfl))
noncomputable def h_I18:Hint:={ tab,hn:=[],loops:=[],outs:=[],ords:=[] }
noncomputable def sg_I18:List AK:=[.v tQIIIE .k]
noncomputable def F_I18 (N:Nat) (x:AVals sg_I18) (kf:Ret→Option Ret):Option Ret:=I18 N x.1 (fun r0=>kf ⟨[⟨.bool,.k,r0⟩],[]⟩)
noncomputable def run_I18 (N:Nat):=runOf sg_I18 (F_I18 N)
noncomputable def es_I18 (N:Nat):List Entry:=[⟨19,[.val,.val,.val],(run_I19 N)⟩]
noncomputable def body_I18:Code:=match Try.f18.body with | some c=>c | none=>.skip
theorem ls_I18:loopsIn body_I18=[]:=by kernel_rfl
theorem fn_I18 (N:Nat) (x:AVals sg_I18) (kf:Ret→Option Ret):F_I18 N x kf=peFunc h_I18 (Orc.of (es_I18 N)) (noL N N) Try.f18 (ashape sg_I18 x) kf:=by kernel_rfl
theorem sd_I18 {Γ : Gl} (N:Nat):Sound Γ Try.prog 18 (run_I18 N):=fun_ok2 (hh:=h_I18) mixed tab_ok (es:=es_I18 N) ⟨sd_I19 N,trivial⟩ (fn:=Try.f18) (body:=body_I18) (by kernel_rfl) (by kernel_rfl) (by kernel_rfl) (by kernel_rfl) (by kernel_rfl) (Lf:=noL N) (noL0 N) ls_I18 trivial (N:=N) (by kernel_rfl) (fn_I18 N) (.inl (by kernel_rfl))
noncomputable def ks_I20_l5:List Kd:=[dK,dK,dK,.v (.int .i64) .k,dK,dK,dK,dK,dK,dK,.v (.sl tQIIIIILIE) .k,.v (.int .i64) .k,.v (.int .i64) .k,dK,dK,dK,dK,dK,dK,dK,dK,dK]
noncomputable def ko_I20_l5_0:List Kd:=[dK,dK,dK,.v (.int .i64) .k,dK,dK,dK,dK,dK,dK,dK,dK,dK,dK,dK,dK,dK,dK,dK,dK,dK,dK]
noncomputable def h_I20:Hint:={ tab,hn:=[],loops:=[(5,ks_I20_l5)],outs:=[(5,2,ko_I20_l5_0)],ords:=[] }
noncomputable def sg_I20:List AK:=[.v (.sl tQIIIIILIE) .k]
noncomputable def F_I20 (N:Nat) (x:AVals sg_I20) (kf:Ret→Option Ret):Option Ret:=I20 N x.1 (fun r0=>kf ⟨[⟨(.int .i64),.k,r0⟩],[]⟩)
noncomputable def run_I20 (N:Nat):=runOf sg_I20 (F_I20 N)
noncomputable def es_I20 (N:Nat):List Entry:=[⟨13,[.val],(run_I13 N)⟩]
noncomputable def body_I20:Code:=match Try.f20.body with | some c=>c | none=>.skip
noncomputable def L_I20 (N n:Nat) (key:Nat) (S:St) (K:Ks):Option Ret:=bif Nat.beq key 5 then withVals ks_I20_l5 S (fun x=>I20_l5 x.2.1 x.2.2.1 n (fun z0=>K (.x 0) (shape ko_I20_l5_0 (z0,()))) x.1 x.2.2.2.1) else none
theorem L0_I20 (N key:Nat) (S:St) (K:Ks):L_I20 N 0 key S K=none:=(bif0 (withVals0 fun _=>rfl) rfl)
noncomputable def c_I20_0:Code:=(loopsIn body_I20).getD 0 .skip
theorem ls_I20:loopsIn body_I20=[c_I20_0]:=by kernel_rfl
theorem rd_I20_5 (N n:Nat) (x:Vals ks_I20_l5) (K:Ks):L_I20 N (n + 1) 5 (shape ks_I20_l5 x) (h_I20.onOut 5 K)=peRound h_I20 (Orc.of (es_I20 N)) (mixL (L_I20 N) N n 5) c_I20_0 (shape ks_I20_l5 x) (h_I20.onOut 5 K):=by kernel_rfl
theorem fn_I20 (N:Nat) (x:AVals sg_I20) (kf:Ret→Option Ret):F_I20 N x kf=peFunc h_I20 (Orc.of (es_I20 N)) (L_I20 N N) Try.f20 (ashape sg_I20 x) kf:=by kernel_rfl
theorem sd_I20 {Γ : Gl} (N:Nat):Sound Γ Try.prog 20 (run_I20 N):=fun_ok2 (hh:=h_I20) mixed tab_ok (es:=es_I20 N) ⟨sd_I13 N,trivial⟩ (fn:=Try.f20) (body:=body_I20) (by kernel_rfl) (by kernel_rfl) (by kernel_rfl) (by kernel_rfl) (by kernel_rfl) (Lf:=L_I20 N) (L0_I20 N) ls_I20 (round_cons (key:=5) (ks:=ks_I20_l5) (by kernel_rfl) (by kernel_rfl) (rd_I20_5 N) trivial) (N:=N) (by kernel_rfl) (fn_I20 N) (.inl (by kernel_rfl))
noncomputable def ks_I5_l6:List Kd:=[dK,.v (.ptr tQLQIIIIILIELQIILIELQIIELILQIIIELQIIIIEIE) (.o 32 none .k),dK,dK,dK,dK,dK,dK,dK,dK,dK,dK,dK,dK,dK,dK,dK,dK,dK,dK,dK,dK,dK,dK,dK,dK,dK,dK,dK,dK,dK,dK,dK,dK,dK,dK,dK,dK,dK,dK,dK,dK,dK,dK,dK,dK,dK,dK,dK,dK,dK,dK,dK,dK,dK,dK,dK,dK,dK,dK,dK,dK,.v (.sl tQIIIE) .k,.v (.int .i64) .k,.v (.int .i64) .k,dK,dK,dK,dK,dK,dK,dK,dK,dK,dK,dK,dK,dK,dK,dK,dK,dK,dK,dK,dK,dK,dK,dK,dK,dK,dK,dK,dK,dK,dK,dK,dK,dK,dK]
noncomputable def ko_I5_l6_0:List Kd:=[dK,.v (.ptr tQLQIIIIILIELQIILIELQIIELILQIIIELQIIIIEIE) (.o 32 none .k),dK,dK,dK,dK,dK,dK,dK,dK,dK,dK,dK,dK,dK,dK,dK,dK,dK,dK,dK,dK,dK,dK,dK,dK,dK,dK,dK,dK,dK,dK,dK,dK,dK,dK,dK,dK,dK,dK,dK,dK,dK,dK,dK,dK,dK,dK,dK,dK,dK,dK,dK,dK,dK,dK,dK,dK,dK,dK,dK,dK,dK,dK,dK,dK,dK,dK,dK,dK,dK,dK,dK,dK,dK,dK,dK,dK,dK,dK,dK,dK,dK,dK,dK,dK,dK,dK,dK,dK,dK,dK,dK,dK,dK,dK,dK,dK,dK]
noncomputable def ko_I5_l6_1:List Kd:=[dK,dK,.v .bool .k,dK,dK,dK,dK,dK,dK,dK,dK,dK,dK,dK,dK,dK,dK,dK,dK,dK,dK,dK,dK,dK,dK,dK,dK,dK,dK,dK,dK,dK,dK,dK,dK,dK,dK,dK,dK,dK,dK,dK,dK,dK,dK,dK,dK,dK,dK,dK,dK,dK,dK,dK,dK,dK,dK,dK,dK,dK,dK,dK,dK,dK,dK,dK,dK,dK,dK,dK,dK,dK,dK,dK,dK,dK,dK,dK,dK,dK,dK,dK,dK,dK,dK,dK,dK,dK,dK,dK,dK,dK,dK,dK,dK,dK,dK,dK,dK]
noncomputable def h_I5:Hint:={ tab,hn:=[],loops:=[(6,ks_I5_l6)],outs:=[(6,2,ko_I5_l6_0),(6,1,ko_I5_l6_1)],ords:=[(8,(OT.seq [0,1,2,3,4,5,6,7,8,9,10,11,12,13,14,15,16,17] .done)),(11,(OT.seq [0,1,2,3,4,5,7,8,6,9,10,11] .done))] }
noncomputable def sg_I5:List AK:=[.v tQLQIIIIILIELQIILIELQIIELILQIIIELQIIIIEIE .k]
noncomputable def F_I5 (N:Nat) (x:AVals sg_I5) (kf:Ret→Option Ret):Option Ret:=I5 N x.1 (fun r0=>kf ⟨[⟨.bool,.k,r0⟩],[]⟩)
noncomputable def run_I5 (N:Nat):=runOf sg_I5 (F_I5 N)
noncomputable def es_I5 (N:Nat):List Entry:=[⟨13,[.val],(run_I13 N)⟩,⟨14,[.val],(run_I14 N)⟩,⟨15,[.val],(run_I15 N)⟩,⟨7,[.val],(run_I7 N)⟩,⟨16,[.val,.val],(run_I16 N)⟩,⟨17,[.val,.val,.val,.val],(run_I17 N)⟩,⟨18,[.val],(run_I18 N)⟩,⟨19,[.val,.val,.val],(run_I19 N)⟩,⟨20,[.val],(run_I20 N)⟩]
noncomputable def body_I5:Code:=match Try.f5.body with | some c=>c | none=>.skip
noncomputable def L_I5 (N n:Nat) (key:Nat) (S:St) (K:Ks):Option Ret:=bif Nat.beq key 6 then withVals ks_I5_l6 S (fun x=>I5_l6 N x.1 x.2.1 x.2.2.1 n (K (.x 0) (shape ko_I5_l6_0 (x.1,()))) (fun z0=>K .r (shape ko_I5_l6_1 (z0,()))) x.2.2.2.1) else none
theorem L0_I5 (N key:Nat) (S:St) (K:Ks):L_I5 N 0 key S K=none:=(bif0 (withVals0 fun _=>rfl) rfl)
noncomputable def c_I5_0:Code:=(loopsIn body_I5).getD 0 .skip
theorem ls_I5:loopsIn body_I5=[c_I5_0]:=by kernel_rfl
theorem rd_I5_6 (N n:Nat) (x:Vals ks_I5_l6) (K:Ks):L_I5 N (n + 1) 6 (shape ks_I5_l6 x) (h_I5.onOut 6 K)=peRound h_I5 (Orc.of (es_I5 N)) (mixL (L_I5 N) N n 6) c_I5_0 (shape ks_I5_l6 x) (h_I5.onOut 6 K):=by kernel_rfl
theorem fn_I5 (N:Nat) (x:AVals sg_I5) (kf:Ret→Option Ret):F_I5 N x kf=peFunc h_I5 (Orc.of (es_I5 N)) (L_I5 N N) Try.f5 (ashape sg_I5 x) kf:=by kernel_rfl
theorem sd_I5 {Γ : Gl} (N:Nat):Sound Γ Try.prog 5 (run_I5 N):=fun_ok2 (hh:=h_I5) mixed tab_ok (es:=es_I5 N) ⟨sd_I13 N,⟨sd_I14 N,⟨sd_I15 N,⟨sd_I7 N,⟨sd_I16 N,⟨sd_I17 N,⟨sd_I18 N,⟨sd_I19 N,⟨sd_I20 N,trivial⟩⟩⟩⟩⟩⟩⟩⟩⟩ (fn:=Try.f5) (body:=body_I5) (by kernel_rfl) (by kernel_rfl) (by kernel_rfl) (by kernel_rfl) (by kernel_rfl) (Lf:=L_I5 N) (L0_I5 N) ls_I5 (round_cons (key:=6) (ks:=ks_I5_l6) (by kernel_rfl) (by kernel_rfl) (rd_I5_6 N) trivial) (N:=N) (by kernel_rfl) (fn_I5 N) (.inl (by kernel_rfl))
noncomputable def ks_S22_l3:List Kd:=[.v (.sl (.int .u8)) .k,dK,dK,.v (.int .i64) .k,.v (.int .i64) .k,dK,dK,dK,dK,dK,dK,dK,dK,dK,dK,dK,dK,dK,dK,dK,dK,dK,dK,dK,dK,dK,dK,dK,dK,dK,dK,dK]
noncomputable def ko_S22_l3_0:List Kd:=[.v (.sl (.int .u8)) .k,dK,dK,.v (.int .i64) .k,dK,dK,dK,dK,dK,dK,dK,dK,dK,dK,dK,dK,dK,dK,dK,dK,dK,dK,dK,dK,dK,dK,dK,dK,dK,dK,dK,dK]
noncomputable def h_S22:Hint:={ tab,hn:=[],loops:=[(3,ks_S22_l3)],outs:=[(3,2,ko_S22_l3_0)],ords:=[] }
noncomputable def sg_S22:List AK:=[.v (.sl (.int .u8)) .k]
noncomputable def F_S22 (N:Nat) (x:AVals sg_S22) (kf:Ret→Option Ret):Option Ret:=S22 N x.1 (fun r0=>kf ⟨[⟨(.ptr tQLIIIE),(.o 80 none .k),r0⟩],[]⟩)
noncomputable def run_S22 (N:Nat):=runOf sg_S22 (F_S22 N)
noncomputable def es_S22 (N:Nat):List Entry:=[]
noncomputable def body_S22:Code:=match Try.f22.body with | some c=>c | none=>.skip
noncomputable def L_S22 (N n:Nat) (key:Nat) (S:St) (K:Ks):Option Ret:=bif Nat.beq key 3 then withVals ks_S22_l3 S (fun x=>S22_l3 x.1 n (fun z0=>K (.x 0) (shape ko_S22_l3_0 (x.1,z0,()))) x.2.1 x.2.2.1) else none
theorem L0_S22 (N key:Nat) (S:St) (K:Ks):L_S22 N 0 key S K=none:=(bif0 (withVals0 fun _=>rfl) rfl)
noncomputable def c_S22_0:Code:=(loopsIn body_S22).getD 0 .skip
theorem ls_S22:loopsIn body_S22=[c_S22_0]:=by kernel_rfl
theorem rd_S22_3 (N n:Nat) (x:Vals ks_S22_l3) (K:Ks):L_S22 N (n + 1) 3 (shape ks_S22_l3 x) (h_S22.onOut 3 K)=peRound h_S22 (Orc.of (es_S22 N)) (mixL (L_S22 N) N n 3) c_S22_0 (shape ks_S22_l3 x) (h_S22.onOut 3 K):=by kernel_rfl
theorem fn_S22 (N:Nat) (x:AVals sg_S22) (kf:Ret→Option Ret):F_S22 N x kf=peFunc h_S22 (Orc.of (es_S22 N)) (L_S22 N N) Try.f22 (ashape sg_S22 x) kf:=by kernel_rfl
theorem sd_S22 {Γ : Gl} (N:Nat):Sound Γ Try.prog 22 (run_S22 N):=fun_ok2 (hh:=h_S22) mixed tab_ok (es:=es_S22 N) trivial (fn:=Try.f22) (body:=body_S22) (by kernel_rfl) (by kernel_rfl) (by kernel_rfl) (by kernel_rfl) (by kernel_rfl) (Lf:=L_S22 N) (L0_S22 N) ls_S22 (round_cons (key:=3) (ks:=ks_S22_l3) (by kernel_rfl) (by kernel_rfl) (rd_S22_3 N) trivial) (N:=N) (by kernel_rfl) (fn_S22 N) (.inl (by kernel_rfl))
noncomputable def h_S53:Hint:={ tab,hn:=[],loops:=[],outs:=[],ords:=[(2,(OT.seq [0,1,2,3,4,5,6,7,8,9,10,11,12] .done)),(3,(OT.seq [0,1,2,3,4,5,6,7,8,9] .done)),(4,(OT.seq [0,1,2,3,4,5,6,7,8,9,10,11,12,13,14] .done))],lent:=some (0,false) }
noncomputable def sg_S53:List AK:=[.v (.ptr tQLIIIE) (.o 80 (some 0) .k)]
noncomputable def F_S53 (N:Nat) (x:AVals sg_S53) (kf:Ret→Option Ret):Option Ret:=S53 N x.1 (fun r0 z=>kf ⟨[⟨(.int .i64),.k,r0⟩],[⟨(.ptr tQLIIIE),(.o 80 (some 0) .k),z⟩]⟩)
noncomputable def run_S53 (N:Nat):=runOf sg_S53 (F_S53 N)
noncomputable def es_S53 (N:Nat):List Entry:=[]
noncomputable def body_S53:Code:=match Try.f53.body with | some c=>c | none=>.skip
theorem ls_S53:loopsIn body_S53=[]:=by kernel_rfl
theorem fn_S53 (N:Nat) (x:AVals sg_S53) (kf:Ret→Option Ret):F_S53 N x kf=peFunc h_S53 (Orc.of (es_S53 N)) (noL N N) Try.f53 (ashape sg_S53 x) kf:=by kernel_rfl
theorem sd_S53 {Γ : Gl} (N:Nat):Sound Γ Try.prog 53 (run_S53 N):=fun_ok2 (hh:=h_S53) mixed tab_ok (es:=es_S53 N) trivial (fn:=Try.f53) (body:=body_S53) (by kernel_rfl) (by kernel_rfl) (by kernel_rfl) (by kernel_rfl) (by kernel_rfl) (Lf:=noL N) (noL0 N) ls_S53 trivial (N:=N) (by kernel_rfl) (fn_S53 N) (.inl (by kernel_rfl))
noncomputable def h_S25:Hint:={ tab,hn:=[],loops:=[],outs:=[],ords:=[],lent:=some (0,false) }
noncomputable def sg_S25:List AK:=[.v (.ptr tQLIIIE) (.o 80 (some 0) .k),.v (.int .i64) .k]
noncomputable def F_S25 (N:Nat) (x:AVals sg_S25) (kf:Ret→Option Ret):Option Ret:=S25 N x.1 x.2.1 (fun r0 z=>kf ⟨[⟨(.int .i64),.k,r0⟩],[⟨(.ptr tQLIIIE),(.o 80 (some 0) .k),z⟩]⟩)
noncomputable def run_S25 (N:Nat):=runOf sg_S25 (F_S25 N)
noncomputable def es_S25 (N:Nat):List Entry:=[⟨53,[.lend],(run_S53 N)⟩]
noncomputable def body_S25:Code:=match Try.f25.body with | some c=>c | none=>.skip
theorem ls_S25:loopsIn body_S25=[]:=by kernel_rfl
theorem fn_S25 (N:Nat) (x:AVals sg_S25) (kf:Ret→Option Ret):F_S25 N x kf=peFunc h_S25 (Orc.of (es_S25 N)) (noL N N) Try.f25 (ashape sg_S25 x) kf:=by kernel_rfl
theorem sd_S25 {Γ : Gl} (N:Nat):Sound Γ Try.prog 25 (run_S25 N):=fun_ok2 (hh:=h_S25) mixed tab_ok (es:=es_S25 N) ⟨sd_S53 N,trivial⟩ (fn:=Try.f25) (body:=body_S25) (by kernel_rfl) (by kernel_rfl) (by kernel_rfl) (by kernel_rfl) (by kernel_rfl) (Lf:=noL N) (noL0 N) ls_S25 trivial (N:=N) (by kernel_rfl) (fn_S25 N) (.inl (by kernel_rfl))
noncomputable def ks_S51_l3:List Kd:=[.v (.sl tQIIIIILIE) .k,dK,dK,.v (.sl tQIIIIILIE) (.o 59 none (.p .k (.p .k (.p .k (.p .k (.p .k (.o 3 none .k))))))),.v (.int .i64) .k,dK,dK,dK,dK,dK,dK,dK,dK,dK,dK,dK,dK,dK,dK,dK,dK,dK,dK,dK,dK,dK,dK]
noncomputable def ko_S51_l3_0:List Kd:=[dK,dK,dK,.v (.sl tQIIIIILIE) (.o 59 none (.p .k (.p .k (.p .k (.p .k (.p .k (.o 3 none .k))))))),dK,dK,dK,dK,dK,dK,dK,dK,dK,dK,dK,dK,dK,dK,dK,dK,dK,dK,dK,dK,dK,dK,dK]
noncomputable def h_S51:Hint:={ tab,hn:=[(6,(.p .k (.p .k (.p .k (.p .k (.p .k (.o 3 none .k)))))))],loops:=[(3,ks_S51_l3)],outs:=[(3,2,ko_S51_l3_0)],ords:=[] }
noncomputable def sg_S51:List AK:=[.v (.sl tQIIIIILIE) .k]
noncomputable def F_S51 (N:Nat) (x:AVals sg_S51) (kf:Ret→Option Ret):Option Ret:=S51 N x.1 (fun r0=>kf ⟨[⟨(.sl tQIIIIILIE),(.o 59 none (.p .k (.p .k (.p .k (.p .k (.p .k (.o 3 none .k))))))),r0⟩],[]⟩)
noncomputable def run_S51 (N:Nat):=runOf sg_S51 (F_S51 N)
noncomputable def es_S51 (N:Nat):List Entry:=[]
noncomputable def body_S51:Code:=match Try.f51.body with | some c=>c | none=>.skip
noncomputable def L_S51 (N n:Nat) (key:Nat) (S:St) (K:Ks):Option Ret:=bif Nat.beq key 3 then withVals ks_S51_l3 S (fun x=>S51_l3 x.1 n (fun z0=>K (.x 0) (shape ko_S51_l3_0 (z0,()))) x.2.1 x.2.2.1) else none
theorem L0_S51 (N key:Nat) (S:St) (K:Ks):L_S51 N 0 key S K=none:=(bif0 (withVals0 fun _=>rfl) rfl)
noncomputable def c_S51_0:Code:=(loopsIn body_S51).getD 0 .skip
theorem ls_S51:loopsIn body_S51=[c_S51_0]:=by kernel_rfl
theorem rd_S51_3 (N n:Nat) (x:Vals ks_S51_l3) (K:Ks):L_S51 N (n + 1) 3 (shape ks_S51_l3 x) (h_S51.onOut 3 K)=peRound h_S51 (Orc.of (es_S51 N)) (mixL (L_S51 N) N n 3) c_S51_0 (shape ks_S51_l3 x) (h_S51.onOut 3 K):=by kernel_rfl
theorem fn_S51 (N:Nat) (x:AVals sg_S51) (kf:Ret→Option Ret):F_S51 N x kf=peFunc h_S51 (Orc.of (es_S51 N)) (L_S51 N N) Try.f51 (ashape sg_S51 x) kf:=by kernel_rfl
theorem sd_S51 {Γ : Gl} (N:Nat):Sound Γ Try.prog 51 (run_S51 N):=fun_ok2 (hh:=h_S51) mixed tab_ok (es:=es_S51 N) trivial (fn:=Try.f51) (body:=body_S51) (by kernel_rfl) (by kernel_rfl) (by kernel_rfl) (by kernel_rfl) (by kernel_rfl) (Lf:=L_S51 N) (L0_S51 N) ls_S51 (round_cons (key:=3) (ks:=ks_S51_l3) (by kernel_rfl) (by kernel_rfl) (rd_S51_3 N) trivial) (N:=N) (by kernel_rfl) (fn_S51 N) (.inl (by kernel_rfl))
noncomputable def ks_S68_l2:List Kd:=[.v (.sl tQIIIIILIE) .k,.v (.int .i64) .k,dK,dK,dK,.v (.int .i64) .k,dK,dK,dK,dK,dK,dK,dK,dK,dK,dK,dK,dK,dK,dK]
noncomputable def ko_S68_l2_0:List Kd:=[dK,dK,dK,dK,dK,dK,dK,dK,dK,dK,dK,dK,dK,dK,dK,dK,dK,dK,dK,dK]
noncomputable def ko_S68_l2_1:List Kd:=[dK,dK,dK,dK,.v (.int .i64) .k,dK,dK,dK,dK,dK,dK,dK,dK,dK,dK,dK,dK,dK,dK,dK]
noncomputable def h_S68:Hint:={ tab,hn:=[],loops:=[(2,ks_S68_l2)],outs:=[(2,2,ko_S68_l2_0),(2,1,ko_S68_l2_1)],ords:=[] }
noncomputable def sg_S68:List AK:=[.v (.sl tQIIIIILIE) .k,.v (.int .i64) .k]
noncomputable def F_S68 (N:Nat) (x:AVals sg_S68) (kf:Ret→Option Ret):Option Ret:=S68 N x.1 x.2.1 (fun r0=>kf ⟨[⟨(.int .i64),.k,r0⟩],[]⟩)
noncomputable def run_S68 (N:Nat):=runOf sg_S68 (F_S68 N)
noncomputable def es_S68 (N:Nat):List Entry:=[]
noncomputable def body_S68:Code:=match Try.f68.body with | some c=>c | none=>.skip
noncomputable def L_S68 (N n:Nat) (key:Nat) (S:St) (K:Ks):Option Ret:=bif Nat.beq key 2 then withVals ks_S68_l2 S (fun x=>S68_l2 x.1 x.2.1 n (K (.x 0) (shape ko_S68_l2_0 ())) (fun z0=>K .r (shape ko_S68_l2_1 (z0,()))) x.2.2.1) else none
theorem L0_S68 (N key:Nat) (S:St) (K:Ks):L_S68 N 0 key S K=none:=(bif0 (withVals0 fun _=>rfl) rfl)
noncomputable def c_S68_0:Code:=(loopsIn body_S68).getD 0 .skip
theorem ls_S68:loopsIn body_S68=[c_S68_0]:=by kernel_rfl
theorem rd_S68_2 (N n:Nat) (x:Vals ks_S68_l2) (K:Ks):L_S68 N (n + 1) 2 (shape ks_S68_l2 x) (h_S68.onOut 2 K)=peRound h_S68 (Orc.of (es_S68 N)) (mixL (L_S68 N) N n 2) c_S68_0 (shape ks_S68_l2 x) (h_S68.onOut 2 K):=by kernel_rfl
theorem fn_S68 (N:Nat) (x:AVals sg_S68) (kf:Ret→Option Ret):F_S68 N x kf=peFunc h_S68 (Orc.of (es_S68 N)) (L_S68 N N) Try.f68 (ashape sg_S68 x) kf:=by kernel_rfl
theorem sd_S68 {Γ : Gl} (N:Nat):Sound Γ Try.prog 68 (run_S68 N):=fun_ok2 (hh:=h_S68) mixed tab_ok (es:=es_S68 N) trivial (fn:=Try.f68) (body:=body_S68) (by kernel_rfl) (by kernel_rfl) (by kernel_rfl) (by kernel_rfl) (by kernel_rfl) (Lf:=L_S68 N) (L0_S68 N) ls_S68 (round_cons (key:=2) (ks:=ks_S68_l2) (by kernel_rfl) (by kernel_rfl) (rd_S68_2 N) trivial) (N:=N) (by kernel_rfl) (fn_S68 N) (.inl (by kernel_rfl))
noncomputable def h_S69:Hint:={ tab,hn:=[],loops:=[],outs:=[],ords:=[] }
noncomputable def sg_S69:List AK:=[.v (.int .i64) .k,.v (.int .i64) .k,.v (.int .i64) .k]
noncomputable def F_S69 (N:Nat) (x:AVals sg_S69) (kf:Ret→Option Ret):Option Ret:=S69 N x.1 x.2.1 x.2.2.1 (fun r0=>kf ⟨[⟨.bool,.k,r0⟩],[]⟩)
noncomputable def run_S69 (N:Nat):=runOf sg_S69 (F_S69 N)
noncomputable def es_S69 (N:Nat):List Entry:=[]
noncomputable def body_S69:Code:=match Try.f69.body with | some c=>c | none=>.skip
theorem ls_S69:loopsIn body_S69=[]:=by kernel_rfl
theorem fn_S69 (N:Nat) (x:AVals sg_S69) (kf:Ret→Option Ret):F_S69 N x kf=peFunc h_S69 (Orc.of (es_S69 N)) (noL N N) Try.f69 (ashape sg_S69 x) kf:=by kernel_rfl
theorem sd_S69 {Γ : Gl} (N:Nat):Sound Γ Try.prog 69 (run_S69 N):=fun_ok2 (hh:=h_S69) mixed tab_ok (es:=es_S69 N) trivial (fn:=Try.f69) (body:=body_S69) (by kernel_rfl) (by kernel_rfl) (by kernel_rfl) (by kernel_rfl) (by kernel_rfl) (Lf:=noL N) (noL0 N) ls_S69 trivial (N:=N) (by kernel_rfl) (fn_S69 N) (.inl (by kernel_rfl))
noncomputable def ks_S70_l3:List Kd:=[.v (.sl (.int .i64)) .k,.v (.int .i64) .k,dK,dK,dK,.v (.int .i64) .k,.v (.int .i64) .k,dK,dK,dK,dK,dK,dK,dK,dK,dK,dK,dK,dK,dK,dK,dK]
noncomputable def ko_S70_l3_0:List Kd:=[dK,dK,dK,dK,dK,.v (.int .i64) .k,dK,dK,dK,dK,dK,dK,dK,dK,dK,dK,dK,dK,dK,dK,dK,dK]
noncomputable def h_S70:Hint:={ tab,hn:=[],loops:=[(3,ks_S70_l3)],outs:=[(3,2,ko_S70_l3_0)],ords:=[] }
noncomputable def sg_S70:List AK:=[.v (.sl (.int .i64)) .k,.v (.int .i64) .k]
noncomputable def F_S70 (N:Nat) (x:AVals sg_S70) (kf:Ret→Option Ret):Option Ret:=S70 N x.1 x.2.1 (fun r0=>kf ⟨[⟨(.int .i64),.k,r0⟩],[]⟩)
noncomputable def run_S70 (N:Nat):=runOf sg_S70 (F_S70 N)
noncomputable def es_S70 (N:Nat):List Entry:=[]
noncomputable def body_S70:Code:=match Try.f70.body with | some c=>c | none=>.skip
noncomputable def L_S70 (N n:Nat) (key:Nat) (S:St) (K:Ks):Option Ret:=bif Nat.beq key 3 then withVals ks_S70_l3 S (fun x=>S70_l3 x.1 x.2.1 n (fun z0=>K (.x 0) (shape ko_S70_l3_0 (z0,()))) x.2.2.1 x.2.2.2.1) else none
theorem L0_S70 (N key:Nat) (S:St) (K:Ks):L_S70 N 0 key S K=none:=(bif0 (withVals0 fun _=>rfl) rfl)
noncomputable def c_S70_0:Code:=(loopsIn body_S70).getD 0 .skip
theorem ls_S70:loopsIn body_S70=[c_S70_0]:=by kernel_rfl
theorem rd_S70_3 (N n:Nat) (x:Vals ks_S70_l3) (K:Ks):L_S70 N (n + 1) 3 (shape ks_S70_l3 x) (h_S70.onOut 3 K)=peRound h_S70 (Orc.of (es_S70 N)) (mixL (L_S70 N) N n 3) c_S70_0 (shape ks_S70_l3 x) (h_S70.onOut 3 K):=by kernel_rfl
theorem fn_S70 (N:Nat) (x:AVals sg_S70) (kf:Ret→Option Ret):F_S70 N x kf=peFunc h_S70 (Orc.of (es_S70 N)) (L_S70 N N) Try.f70 (ashape sg_S70 x) kf:=by kernel_rfl
theorem sd_S70 {Γ : Gl} (N:Nat):Sound Γ Try.prog 70 (run_S70 N):=fun_ok2 (hh:=h_S70) mixed tab_ok (es:=es_S70 N) trivial (fn:=Try.f70) (body:=body_S70) (by kernel_rfl) (by kernel_rfl) (by kernel_rfl) (by kernel_rfl) (by kernel_rfl) (Lf:=L_S70 N) (L0_S70 N) ls_S70 (round_cons (key:=3) (ks:=ks_S70_l3) (by kernel_rfl) (by kernel_rfl) (rd_S70_3 N) trivial) (N:=N) (by kernel_rfl) (fn_S70 N) (.inl (by kernel_rfl))
noncomputable def ks_S60_l8:List Kd:=[.v (.sl tQIIIIILIE) .k,dK,dK,.v (.int .i64) .k,.v (.ptr tQIIIIILIE) (.o 59 none .k),.v (.int .i64) .k,dK,dK,dK,dK,dK,dK,dK,dK,dK,dK,dK,dK,dK,dK,dK,dK,dK,dK,dK,dK,dK,dK,dK,dK,dK,dK,dK,dK,dK,dK,dK,dK,dK,dK,dK,dK,dK,dK,dK,dK,dK,dK,dK,dK,dK,dK,dK,dK,dK,dK,dK,dK,dK,dK,dK,dK,dK,dK,dK,dK,dK,dK,dK,dK,dK,dK,dK,dK,dK,dK,dK,dK,dK,dK,dK,dK,dK,dK,dK,dK,dK,dK,dK,dK,dK,dK,dK,dK,dK,dK,dK,dK,dK,dK,dK,dK,dK,dK,dK,dK,dK,dK,dK,dK,dK,dK,dK,dK,dK]
noncomputable def ko_S60_l8_0:List Kd:=[.v (.sl tQIIIIILIE) .k,dK,dK,.v (.int .i64) .k,dK,dK,dK,dK,dK,dK,dK,dK,dK,dK,dK,dK,dK,dK,dK,dK,dK,dK,dK,dK,dK,dK,dK,dK,dK,dK,dK,dK,dK,dK,dK,dK,dK,dK,dK,dK,dK,dK,dK,dK,dK,dK,dK,dK,dK,dK,dK,dK,dK,dK,dK,dK,dK,dK,dK,dK,dK,dK,dK,dK,dK,dK,dK,dK,dK,dK,dK,dK,dK,dK,dK,dK,dK,dK,dK,dK,dK,dK,dK,dK,dK,dK,dK,dK,dK,dK,dK,dK,dK,dK,dK,dK,dK,dK,dK,dK,dK,dK,dK,dK,dK,dK,dK,dK,dK,dK,dK,dK,dK,dK,dK]
noncomputable def ko_S60_l8_1:List Kd:=[dK,dK,.v .bool .k,dK,dK,dK,dK,dK,dK,dK,dK,dK,dK,dK,dK,dK,dK,dK,dK,dK,dK,dK,dK,dK,dK,dK,dK,dK,dK,dK,dK,dK,dK,dK,dK,dK,dK,dK,dK,dK,dK,dK,dK,dK,dK,dK,dK,dK,dK,dK,dK,dK,dK,dK,dK,dK,dK,dK,dK,dK,dK,dK,dK,dK,dK,dK,dK,dK,dK,dK,dK,dK,dK,dK,dK,dK,dK,dK,dK,dK,dK,dK,dK,dK,dK,dK,dK,dK,dK,dK,dK,dK,dK,dK,dK,dK,dK,dK,dK,dK,dK,dK,dK,dK,dK,dK,dK,dK,dK,dK,dK,dK,dK,dK,dK]
noncomputable def ks_S60_l2:List Kd:=[.v (.sl tQIIIIILIE) .k,dK,dK,.v (.int .i64) .k,dK,dK,dK,dK,dK,dK,dK,dK,dK,dK,dK,dK,dK,dK,dK,dK,dK,dK,dK,dK,dK,dK,dK,dK,dK,dK,dK,dK,dK,dK,dK,dK,dK,dK,dK,dK,dK,dK,dK,dK,dK,dK,dK,dK,dK,dK,dK,dK,dK,dK,dK,dK,dK,dK,dK,dK,dK,dK,dK,dK,dK,dK,dK,dK,dK,dK,dK,dK,dK,dK,dK,dK,dK,dK,dK,dK,dK,dK,dK,dK,dK,dK,dK,dK,dK,dK,dK,dK,dK,dK,dK,dK,dK,dK,dK,dK,dK,dK,dK,dK,dK,dK,dK,dK,dK,dK,dK,dK,dK,dK,dK]
noncomputable def ko_S60_l2_0:List Kd:=[.v (.sl tQIIIIILIE) .k,dK,dK,dK,dK,dK,dK,dK,dK,dK,dK,dK,dK,dK,dK,dK,dK,dK,dK,dK,dK,dK,dK,dK,dK,dK,dK,dK,dK,dK,dK,dK,dK,dK,dK,dK,dK,dK,dK,dK,dK,dK,dK,dK,dK,dK,dK,dK,dK,dK,dK,dK,dK,dK,dK,dK,dK,dK,dK,dK,dK,dK,dK,dK,dK,dK,dK,dK,dK,dK,dK,dK,dK,dK,dK,dK,dK,dK,dK,dK,dK,dK,dK,dK,dK,dK,dK,dK,dK,dK,dK,dK,dK,dK,dK,dK,dK,dK,dK,dK,dK,dK,dK,dK,dK,dK,dK,dK,dK,dK,dK,dK,dK,dK,dK]
noncomputable def ko_S60_l2_1:List Kd:=[dK,dK,.v .bool .k,dK,dK,dK,dK,dK,dK,dK,dK,dK,dK,dK,dK,dK,dK,dK,dK,dK,dK,dK,dK,dK,dK,dK,dK,dK,dK,dK,dK,dK,dK,dK,dK,dK,dK,dK,dK,dK,dK,dK,dK,dK,dK,dK,dK,dK,dK,dK,dK,dK,dK,dK,dK,dK,dK,dK,dK,dK,dK,dK,dK,dK,dK,dK,dK,dK,dK,dK,dK,dK,dK,dK,dK,dK,dK,dK,dK,dK,dK,dK,dK,dK,dK,dK,dK,dK,dK,dK,dK,dK,dK,dK,dK,dK,dK,dK,dK,dK,dK,dK,dK,dK,dK,dK,dK,dK,dK,dK,dK,dK,dK,dK,dK]
noncomputable def h_S60:Hint:={ tab,hn:=[],loops:=[(8,ks_S60_l8),(2,ks_S60_l2)],outs:=[(8,4,ko_S60_l8_0),(8,1,ko_S60_l8_1),(2,2,ko_S60_l2_0),(2,1,ko_S60_l2_1)],ords:=[(5,(OT.seq [0,1,2,3,4,5,6,7,8,9,10,11,12,13,14,15,16,17,18,19,20,21,22,23,24,25,26,27,28,29,30,31,32,33,34,35,36,37,38,39,40,41,42,43,44,45,46,47,48,49,50,51,52,53,54] .done)),(11,(OT.seq [0,1,2,3,4,5,6,7,8,9,10,11,12,13,14,16,17,18,19,20,21,22,15,23,24,25] .done))] }
noncomputable def sg_S60:List AK:=[.v (.sl tQIIIIILIE) .k]
noncomputable def F_S60 (N:Nat) (x:AVals sg_S60) (kf:Ret→Option Ret):Option Ret:=S60 N x.1 (fun r0=>kf ⟨[⟨.bool,.k,r0⟩],[]⟩)
noncomputable def run_S60 (N:Nat):=runOf sg_S60 (F_S60 N)
noncomputable def es_S60 (N:Nat):List Entry:=[⟨69,[.val,.val,.val],(run_S69 N)⟩,⟨68,[.val,.val],(run_S68 N)⟩,⟨70,[.val,.val],(run_S70 N)⟩]
noncomputable def body_S60:Code:=match Try.f60.body with | some c=>c | none=>.skip
noncomputable def L_S60 (N n:Nat) (key:Nat) (S:St) (K:Ks):Option Ret:=bif Nat.beq key 2 then withVals ks_S60_l2 S (fun x=>S60_l2 N x.1 n (K (.x 0) (shape ko_S60_l2_0 (x.1,()))) (fun z0=>K .r (shape ko_S60_l2_1 (z0,()))) x.2.1) else bif Nat.beq key 8 then withVals ks_S60_l8 S (fun x=>S60_l8 N x.1 x.2.1 x.2.2.1 n (K (.x 2) (shape ko_S60_l8_0 (x.1,x.2.1,()))) (fun z0=>K .r (shape ko_S60_l8_1 (z0,()))) x.2.2.2.1) else none
theorem L0_S60 (N key:Nat) (S:St) (K:Ks):L_S60 N 0 key S K=none:=(bif0 (withVals0 fun _=>rfl) (bif0 (withVals0 fun _=>rfl) rfl))
noncomputable def c_S60_0:Code:=(loopsIn body_S60).getD 0 .skip
noncomputable def c_S60_1:Code:=(loopsIn body_S60).getD 1 .skip
theorem ls_S60:loopsIn body_S60=[c_S60_0,c_S60_1]:=by kernel_rfl
theorem rd_S60_8 (N n:Nat) (x:Vals ks_S60_l8) (K:Ks):L_S60 N (n + 1) 8 (shape ks_S60_l8 x) (h_S60.onOut 8 K)=peRound h_S60 (Orc.of (es_S60 N)) (mixL (L_S60 N) N n 8) c_S60_1 (shape ks_S60_l8 x) (h_S60.onOut 8 K):=by kernel_rfl
theorem rd_S60_2 (N n:Nat) (x:Vals ks_S60_l2) (K:Ks):L_S60 N (n + 1) 2 (shape ks_S60_l2 x) (h_S60.onOut 2 K)=peRound h_S60 (Orc.of (es_S60 N)) (mixL (L_S60 N) N n 2) c_S60_0 (shape ks_S60_l2 x) (h_S60.onOut 2 K):=by kernel_rfl
theorem fn_S60 (N:Nat) (x:AVals sg_S60) (kf:Ret→Option Ret):F_S60 N x kf=peFunc h_S60 (Orc.of (es_S60 N)) (L_S60 N N) Try.f60 (ashape sg_S60 x) kf:=by kernel_rfl
theorem sd_S60 {Γ : Gl} (N:Nat):Sound Γ Try.prog 60 (run_S60 N):=fun_ok2 (hh:=h_S60) mixed tab_ok (es:=es_S60 N) ⟨sd_S69 N,⟨sd_S68 N,⟨sd_S70 N,trivial⟩⟩⟩ (fn:=Try.f60) (body:=body_S60) (by kernel_rfl) (by kernel_rfl) (by kernel_rfl) (by kernel_rfl) (by kernel_rfl) (Lf:=L_S60 N) (L0_S60 N) ls_S60 (round_cons (key:=2) (ks:=ks_S60_l2) (by kernel_rfl) (by kernel_rfl) (rd_S60_2 N) (round_cons (key:=8) (ks:=ks_S60_l8) (by kernel_rfl) (by kernel_rfl) (rd_S60_8 N) trivial)) (N:=N) (by kernel_rfl) (fn_S60 N) (.inl (by kernel_rfl))
noncomputable def h_S59:Hint:={ tab,hn:=[],loops:=[],outs:=[],ords:=[] }
noncomputable def sg_S59:List AK:=[.v (.sl tQIIIIILIE) .k,.v (.int .i64) .k,.v (.int .i64) .k,.v (.int .i64) .k,.v (.int .i64) .k,.v (.int .i64) .k]
noncomputable def F_S59 (N:Nat) (x:AVals sg_S59) (kf:Ret→Option Ret):Option Ret:=S59 N x.1 x.2.1 x.2.2.1 x.2.2.2.1 x.2.2.2.2.1 x.2.2.2.2.2.1 (fun r0 r1=>kf ⟨[⟨(.sl tQIIIIILIE),(.o 59 none (.p .k (.p .k (.p .k (.p .k (.p .k (.o 3 none .k))))))),r0⟩,⟨.bool,.k,r1⟩],[]⟩)
noncomputable def run_S59 (N:Nat):=runOf sg_S59 (F_S59 N)
noncomputable def es_S59 (N:Nat):List Entry:=[⟨51,[.val],(run_S51 N)⟩,⟨68,[.val,.val],(run_S68 N)⟩,⟨60,[.val],(run_S60 N)⟩,⟨69,[.val,.val,.val],(run_S69 N)⟩]
noncomputable def body_S59:Code:=match Try.f59.body with | some c=>c | none=>.skip
theorem ls_S59:loopsIn body_S59=[]:=by kernel_rfl
theorem fn_S59 (N:Nat) (x:AVals sg_S59) (kf:Ret→Option Ret):F_S59 N x kf=peFunc h_S59 (Orc.of (es_S59 N)) (noL N N) Try.f59 (ashape sg_S59 x) kf:=by kernel_rfl
theorem sd_S59 {Γ : Gl} (N:Nat):Sound Γ Try.prog 59 (run_S59 N):=fun_ok2 (hh:=h_S59) mixed tab_ok (es:=es_S59 N) ⟨sd_S51 N,⟨sd_S68 N,⟨sd_S60 N,⟨sd_S69 N,trivial⟩⟩⟩⟩ (fn:=Try.f59) (body:=body_S59) (by kernel_rfl) (by kernel_rfl) (by kernel_rfl) (by kernel_rfl) (by kernel_rfl) (Lf:=noL N) (noL0 N) ls_S59 trivial (N:=N) (by kernel_rfl) (fn_S59 N) (.inl (by kernel_rfl))
noncomputable def ks_S42_l3:List Kd:=[.v (.ptr tQLIIIE) (.o 80 (some 0) .k),dK,dK,.v (.sl tQIIIIILIE) (.o 59 none (.p .k (.p .k (.p .k (.p .k (.p .k (.o 3 none .k))))))),.v (.int .i64) .k,dK,dK,dK,dK,dK,dK,dK,dK,dK,dK,dK,dK,dK,dK,dK,dK,dK,dK,dK,dK,dK,dK,dK,dK,dK,dK,dK,dK,dK,dK,dK,dK,dK,dK,dK,dK,dK,dK,dK,dK,dK,dK,dK,dK,dK,dK,dK]
noncomputable def ko_S42_l3_0:List Kd:=[.v (.ptr tQLIIIE) (.o 80 (some 0) .k),dK,dK,.v (.sl tQIIIIILIE) (.o 59 none (.p .k (.p .k (.p .k (.p .k (.p .k (.o 3 none .k))))))),dK,dK,dK,dK,dK,dK,dK,dK,dK,dK,dK,dK,dK,dK,dK,dK,dK,dK,dK,dK,dK,dK,dK,dK,dK,dK,dK,dK,dK,dK,dK,dK,dK,dK,dK,dK,dK,dK,dK,dK,dK,dK,dK,dK,dK,dK,dK,dK]
noncomputable def ks_S42_l7:List Kd:=[.v (.ptr tQLIIIE) (.o 80 (some 0) .k),dK,dK,.v (.sl tQIIIIILIE) (.o 59 none (.p .k (.p .k (.p .k (.p .k (.p .k (.o 3 none .k))))))),dK,.v (.int .i64) .k,dK,dK,dK,dK,dK,dK,dK,dK,dK,dK,dK,dK,dK,dK,dK,dK,dK,dK,dK,dK,dK,dK,dK,dK,dK,dK,dK,dK,dK,dK,dK,dK,dK,dK,dK,dK,dK,dK,dK,dK,dK,dK,dK,dK,dK,dK]
noncomputable def ko_S42_l7_0:List Kd:=[.v (.ptr tQLIIIE) (.o 80 (some 0) .k),dK,dK,.v (.sl tQIIIIILIE) (.o 59 none (.p .k (.p .k (.p .k (.p .k (.p .k (.o 3 none .k))))))),dK,dK,dK,dK,dK,dK,dK,dK,dK,dK,dK,dK,dK,dK,dK,dK,dK,dK,dK,dK,dK,dK,dK,dK,dK,dK,dK,dK,dK,dK,dK,dK,dK,dK,dK,dK,dK,dK,dK,dK,dK,dK,dK,dK,dK,dK,dK,dK]
noncomputable def h_S42:Hint:={ tab,hn:=[(6,(.p .k (.p .k (.p .k (.p .k (.p .k (.o 3 none .k)))))))],loops:=[(3,ks_S42_l3),(7,ks_S42_l7)],outs:=[(3,2,ko_S42_l3_0),(7,4,ko_S42_l7_0)],ords:=[],lent:=some (0,false) }
noncomputable def sg_S42:List AK:=[.v (.ptr tQLIIIE) (.o 80 (some 0) .k)]
noncomputable def F_S42 (N:Nat) (x:AVals sg_S42) (kf:Ret→Option Ret):Option Ret:=S42 N x.1 (fun r0 z=>kf ⟨[⟨(.sl tQIIIIILIE),(.o 59 none (.p .k (.p .k (.p .k (.p .k (.p .k (.o 3 none .k))))))),r0⟩],[⟨(.ptr tQLIIIE),(.o 80 (some 0) .k),z⟩]⟩)
noncomputable def run_S42 (N:Nat):=runOf sg_S42 (F_S42 N)
noncomputable def es_S42 (N:Nat):List Entry:=[⟨25,[.lend,.val],(run_S25 N)⟩,⟨59,[.val,.val,.val,.val,.val,.val],(run_S59 N)⟩]
noncomputable def body_S42:Code:=match Try.f42.body with | some c=>c | none=>.skip
noncomputable def L_S42 (N n:Nat) (key:Nat) (S:St) (K:Ks):Option Ret:=bif Nat.beq key 3 then withVals ks_S42_l3 S (fun x=>S42_l3 N n (fun z0 z1=>K (.x 0) (shape ko_S42_l3_0 (z0,z1,()))) x.1 x.2.1 x.2.2.1) else bif Nat.beq key 7 then withVals ks_S42_l7 S (fun x=>S42_l7 N n (fun z0 z1=>K (.x 2) (shape ko_S42_l7_0 (z0,z1,()))) x.1 x.2.1 x.2.2.1) else none
theorem L0_S42 (N key:Nat) (S:St) (K:Ks):L_S42 N 0 key S K=none:=(bif0 (withVals0 fun _=>rfl) (bif0 (withVals0 fun _=>rfl) rfl))
noncomputable def c_S42_0:Code:=(loopsIn body_S42).getD 0 .skip
noncomputable def c_S42_1:Code:=(loopsIn body_S42).getD 1 .skip
theorem ls_S42:loopsIn body_S42=[c_S42_0,c_S42_1]:=by kernel_rfl
theorem rd_S42_7 (N n:Nat) (x:Vals ks_S42_l7) (K:Ks):L_S42 N (n + 1) 7 (shape ks_S42_l7 x) (h_S42.onOut 7 K)=peRound h_S42 (Orc.of (es_S42 N)) (mixL (L_S42 N) N n 7) c_S42_1 (shape ks_S42_l7 x) (h_S42.onOut 7 K):=by kernel_rfl
theorem rd_S42_3 (N n:Nat) (x:Vals ks_S42_l3) (K:Ks):L_S42 N (n + 1) 3 (shape ks_S42_l3 x) (h_S42.onOut 3 K)=peRound h_S42 (Orc.of (es_S42 N)) (mixL (L_S42 N) N n 3) c_S42_0 (shape ks_S42_l3 x) (h_S42.onOut 3 K):=by kernel_rfl
theorem fn_S42 (N:Nat) (x:AVals sg_S42) (kf:Ret→Option Ret):F_S42 N x kf=peFunc h_S42 (Orc.of (es_S42 N)) (L_S42 N N) Try.f42 (ashape sg_S42 x) kf:=by kernel_rfl
theorem sd_S42 {Γ : Gl} (N:Nat):Sound Γ Try.prog 42 (run_S42 N):=fun_ok2 (hh:=h_S42) mixed tab_ok (es:=es_S42 N) ⟨sd_S25 N,⟨sd_S59 N,trivial⟩⟩ (fn:=Try.f42) (body:=body_S42) (by kernel_rfl) (by kernel_rfl) (by kernel_rfl) (by kernel_rfl) (by kernel_rfl) (Lf:=L_S42 N) (L0_S42 N) ls_S42 (round_cons (key:=3) (ks:=ks_S42_l3) (by kernel_rfl) (by kernel_rfl) (rd_S42_3 N) (round_cons (key:=7) (ks:=ks_S42_l7) (by kernel_rfl) (by kernel_rfl) (rd_S42_7 N) trivial)) (N:=N) (by kernel_rfl) (fn_S42 N) (.inl (by kernel_rfl))
noncomputable def h_S47:Hint:={ tab,hn:=[],loops:=[],outs:=[],ords:=[],lent:=some (0,false) }
noncomputable def sg_S47:List AK:=[.v (.ptr tQLIIIE) (.o 80 (some 0) .k),.v (.int .i64) .k]
noncomputable def F_S47 (N:Nat) (x:AVals sg_S47) (kf:Ret→Option Ret):Option Ret:=S47 N x.1 x.2.1 (fun r0 z=>kf ⟨[⟨.bool,.k,r0⟩],[⟨(.ptr tQLIIIE),(.o 80 (some 0) .k),z⟩]⟩)
noncomputable def run_S47 (N:Nat):=runOf sg_S47 (F_S47 N)
noncomputable def es_S47 (N:Nat):List Entry:=[⟨25,[.lend,.val],(run_S25 N)⟩]
noncomputable def body_S47:Code:=match Try.f47.body with | some c=>c | none=>.skip
theorem ls_S47:loopsIn body_S47=[]:=by kernel_rfl
theorem fn_S47 (N:Nat) (x:AVals sg_S47) (kf:Ret→Option Ret):F_S47 N x kf=peFunc h_S47 (Orc.of (es_S47 N)) (noL N N) Try.f47 (ashape sg_S47 x) kf:=by kernel_rfl
theorem sd_S47 {Γ : Gl} (N:Nat):Sound Γ Try.prog 47 (run_S47 N):=fun_ok2 (hh:=h_S47) mixed tab_ok (es:=es_S47 N) ⟨sd_S25 N,trivial⟩ (fn:=Try.f47) (body:=body_S47) (by kernel_rfl) (by kernel_rfl) (by kernel_rfl) (by kernel_rfl) (by kernel_rfl) (Lf:=noL N) (noL0 N) ls_S47 trivial (N:=N) (by kernel_rfl) (fn_S47 N) (.inl (by kernel_rfl))
noncomputable def ks_S43_l3:List Kd:=[.v (.ptr tQLIIIE) (.o 80 (some 0) .k),dK,dK,.v (.sl tQIILIE) (.o 64 none (.p .k (.p .k (.o 3 none .k)))),.v (.int .i64) .k,dK,dK,dK,dK,dK,dK,dK,dK,dK,dK,dK,dK,dK,dK,dK,dK,dK,dK,dK,dK,dK,dK,dK,dK,dK,dK,dK,dK]
noncomputable def ko_S43_l3_0:List Kd:=[.v (.ptr tQLIIIE) (.o 80 (some 0) .k),dK,dK,.v (.sl tQIILIE) (.o 64 none (.p .k (.p .k (.o 3 none .k)))),dK,dK,dK,dK,dK,dK,dK,dK,dK,dK,dK,dK,dK,dK,dK,dK,dK,dK,dK,dK,dK,dK,dK,dK,dK,dK,dK,dK,dK]
noncomputable def h_S43:Hint:={ tab,hn:=[(6,(.p .k (.p .k (.o 3 none .k))))],loops:=[(3,ks_S43_l3)],outs:=[(3,2,ko_S43_l3_0)],ords:=[],lent:=some (0,false) }
noncomputable def sg_S43:List AK:=[.v (.ptr tQLIIIE) (.o 80 (some 0) .k)]
noncomputable def F_S43 (N:Nat) (x:AVals sg_S43) (kf:Ret→Option Ret):Option Ret:=S43 N x.1 (fun r0 z=>kf ⟨[⟨(.sl tQIILIE),(.o 64 none (.p .k (.p .k (.o 3 none .k)))),r0⟩],[⟨(.ptr tQLIIIE),(.o 80 (some 0) .k),z⟩]⟩)
noncomputable def run_S43 (N:Nat):=runOf sg_S43 (F_S43 N)
noncomputable def es_S43 (N:Nat):List Entry:=[⟨25,[.lend,.val],(run_S25 N)⟩,⟨47,[.lend,.val],(run_S47 N)⟩]
noncomputable def body_S43:Code:=match Try.f43.body with | some c=>c | none=>.skip
noncomputable def L_S43 (N n:Nat) (key:Nat) (S:St) (K:Ks):Option Ret:=bif Nat.beq key 3 then withVals ks_S43_l3 S (fun x=>S43_l3 N n (fun z0 z1=>K (.x 0) (shape ko_S43_l3_0 (z0,z1,()))) x.1 x.2.1 x.2.2.1) else none
theorem L0_S43 (N key:Nat) (S:St) (K:Ks):L_S43 N 0 key S K=none:=(bif0 (withVals0 fun _=>rfl) rfl)
noncomputable def c_S43_0:Code:=(loopsIn body_S43).getD 0 .skip
theorem ls_S43:loopsIn body_S43=[c_S43_0]:=by kernel_rfl
theorem rd_S43_3 (N n:Nat) (x:Vals ks_S43_l3) (K:Ks):L_S43 N (n + 1) 3 (shape ks_S43_l3 x) (h_S43.onOut 3 K)=peRound h_S43 (Orc.of (es_S43 N)) (mixL (L_S43 N) N n 3) c_S43_0 (shape ks_S43_l3 x) (h_S43.onOut 3 K):=by kernel_rfl
theorem fn_S43 (N:Nat) (x:AVals sg_S43) (kf:Ret→Option Ret):F_S43 N x kf=peFunc h_S43 (Orc.of (es_S43 N)) (L_S43 N N) Try.f43 (ashape sg_S43 x) kf:=by kernel_rfl
theorem sd_S43 {Γ : Gl} (N:Nat):Sound Γ Try.prog 43 (run_S43 N):=fun_ok2 (hh:=h_S43) mixed tab_ok (es:=es_S43 N) ⟨sd_S25 N,⟨sd_S47 N,trivial⟩⟩ (fn:=Try.f43) (body:=body_S43) (by kernel_rfl) (by kernel_rfl) (by kernel_rfl) (by kernel_rfl) (by kernel_rfl) (Lf:=L_S43 N) (L0_S43 N) ls_S43 (round_cons (key:=3) (ks:=ks_S43_l3) (by kernel_rfl) (by kernel_rfl) (rd_S43_3 N) trivial) (N:=N) (by kernel_rfl) (fn_S43 N) (.inl (by kernel_rfl))
noncomputable def ks_S44_l3:List Kd:=[.v (.sl tQIIIIILIE) .k,dK,dK,.v (.int .i64) .k,.v (.int .i64) .k,dK,dK,dK,dK,dK,dK,dK,dK,dK,dK,dK,dK,dK,dK,dK,dK,dK,dK]
noncomputable def ko_S44_l3_0:List Kd:=[dK,dK,dK,.v (.int .i64) .k,dK,dK,dK,dK,dK,dK,dK,dK,dK,dK,dK,dK,dK,dK,dK,dK,dK,dK,dK]
noncomputable def h_S44:Hint:={ tab,hn:=[],loops:=[(3,ks_S44_l3)],outs:=[(3,2,ko_S44_l3_0)],ords:=[] }
noncomputable def sg_S44:List AK:=[.v (.sl tQIIIIILIE) .k]
noncomputable def F_S44 (N:Nat) (x:AVals sg_S44) (kf:Ret→Option Ret):Option Ret:=S44 N x.1 (fun r0=>kf ⟨[⟨(.int .i64),.k,r0⟩],[]⟩)
noncomputable def run_S44 (N:Nat):=runOf sg_S44 (F_S44 N)
noncomputable def es_S44 (N:Nat):List Entry:=[⟨60,[.val],(run_S60 N)⟩]
noncomputable def body_S44:Code:=match Try.f44.body with | some c=>c | none=>.skip
noncomputable def L_S44 (N n:Nat) (key:Nat) (S:St) (K:Ks):Option Ret:=bif Nat.beq key 3 then withVals ks_S44_l3 S (fun x=>S44_l3 N x.1 n (fun z0=>K (.x 0) (shape ko_S44_l3_0 (z0,()))) x.2.1 x.2.2.1) else none
theorem L0_S44 (N key:Nat) (S:St) (K:Ks):L_S44 N 0 key S K=none:=(bif0 (withVals0 fun _=>rfl) rfl)
noncomputable def c_S44_0:Code:=(loopsIn body_S44).getD 0 .skip
theorem ls_S44:loopsIn body_S44=[c_S44_0]:=by kernel_rfl
theorem rd_S44_3 (N n:Nat) (x:Vals ks_S44_l3) (K:Ks):L_S44 N (n + 1) 3 (shape ks_S44_l3 x) (h_S44.onOut 3 K)=peRound h_S44 (Orc.of (es_S44 N)) (mixL (L_S44 N) N n 3) c_S44_0 (shape ks_S44_l3 x) (h_S44.onOut 3 K):=by kernel_rfl
theorem fn_S44 (N:Nat) (x:AVals sg_S44) (kf:Ret→Option Ret):F_S44 N x kf=peFunc h_S44 (Orc.of (es_S44 N)) (L_S44 N N) Try.f44 (ashape sg_S44 x) kf:=by kernel_rfl
theorem sd_S44 {Γ : Gl} (N:Nat):Sound Γ Try.prog 44 (run_S44 N):=fun_ok2 (hh:=h_S44) mixed tab_ok (es:=es_S44 N) ⟨sd_S60 N,trivial⟩ (fn:=Try.f44) (body:=body_S44) (by kernel_rfl) (by kernel_rfl) (by kernel_rfl) (by kernel_rfl) (by kernel_rfl) (Lf:=L_S44 N) (L0_S44 N) ls_S44 (round_cons (key:=3) (ks:=ks_S44_l3) (by kernel_rfl) (by kernel_rfl) (rd_S44_3 N) trivial) (N:=N) (by kernel_rfl) (fn_S44 N) (.inl (by kernel_rfl))
noncomputable def h_S73:Hint:={ tab,hn:=[],loops:=[],outs:=[],ords:=[] }
noncomputable def sg_S73:List AK:=[.v tQIIIIILIE .k,.v tQIIIIILIE .k]
noncomputable def F_S73 (N:Nat) (x:AVals sg_S73) (kf:Ret→Option Ret):Option Ret:=S73 N x.1 x.2.1 (fun r0=>kf ⟨[⟨.bool,.k,r0⟩],[]⟩)
noncomputable def run_S73 (N:Nat):=runOf sg_S73 (F_S73 N)
noncomputable def es_S73 (N:Nat):List Entry:=[]
noncomputable def body_S73:Code:=match Try.f73.body with | some c=>c | none=>.skip
theorem ls_S73:loopsIn body_S73=[]:=by kernel_rfl
theorem fn_S73 (N:Nat) (x:AVals sg_S73) (kf:Ret→Option Ret):F_S73 N x kf=peFunc h_S73 (Orc.of (es_S73 N)) (noL N N) Try.f73 (ashape sg_S73 x) kf:=by kernel_rfl
theorem sd_S73 {Γ : Gl} (N:Nat):Sound Γ Try.prog 73 (run_S73 N):=fun_ok2 (hh:=h_S73) mixed tab_ok (es:=es_S73 N) trivial (fn:=Try.f73) (body:=body_S73) (by kernel_rfl) (by kernel_rfl) (by kernel_rfl) (by kernel_rfl) (by kernel_rfl) (Lf:=noL N) (noL0 N) ls_S73 trivial (N:=N) (by kernel_rfl) (fn_S73 N) (.inl (by kernel_rfl))
end Go.Pv.R
