/- Each function of the program that the law reaches computes its plain function, part 0. -/
import Derived.Test.YtcpakhaogbempaaGreatPlRes
import Derived.Test.YtcpakhaogbempaaGreatPrim
import Derived.Test.YtcpakhaogbempaaGreatProg
namespace Go.Pv.R
open Go.Proofs
set_option linter.unusedVariables false
set_option maxRecDepth 100000
noncomputable abbrev dK:Kd:=.dead
noncomputable def tab:Tab:=[⟨2,(.int .i64),0,[]⟩,⟨3,(.int .i64),0,[]⟩,⟨4,.bool,0,[]⟩,⟨5,(.int .u8),0,[]⟩,⟨9,.str,0,[]⟩,⟨12,(.int .u64),0,[]⟩,⟨21,(.int .i32),0,[]⟩,⟨22,(.sl (.int .u8)),5,[]⟩,⟨24,(.sl tQIIIIILIE),46,[]⟩,⟨25,(.sl tQIILIE),80,[]⟩,⟨26,(.sl tQIIE),104,[]⟩,⟨27,(.sl (.int .i64)),3,[]⟩,⟨28,(.sl tQIIIE),136,[]⟩,⟨29,(.sl tQIIIIE),102,[]⟩,⟨30,tQLQIIIIILIELQIILIELQIIELILQIIIELQIIIIEIE,0,[24,25,26,27,28,29,3]⟩,⟨31,tQLQIIIIILIELQIILIELQIIELILQIIIELQIIIIEIE,0,[24,25,26,27,28,29,3]⟩,⟨32,(.sl tQIIIIE),38,[]⟩,⟨37,tQIIIIE,0,[3,3,3,3]⟩,⟨38,tQIIIIE,0,[3,3,3,3]⟩,⟨45,tQIIIIILIE,0,[3,3,3,3,3,27]⟩,⟨46,tQIIIIILIE,0,[3,3,3,3,3,27]⟩,⟨47,(.sl tQIIIIILIE),171,[]⟩,⟨48,(.sl tQIILIE),173,[]⟩,⟨49,(.sl tQIIE),182,[]⟩,⟨50,(.sl tQIIIE),184,[]⟩,⟨51,(.sl tQIIIIE),186,[]⟩,⟨52,tQLQIIIIILIELQIILIELQIIELILQIIIELQIIIIEIE,0,[47,48,49,27,50,51,3]⟩,⟨53,tQLQIIIIILIELQIILIELQIIELILQIIIELQIIIIEIE,0,[47,48,49,27,50,51,3]⟩,⟨79,tQIILIE,0,[3,3,27]⟩,⟨80,tQIILIE,0,[3,3,27]⟩,⟨88,tQIIIIE,0,[3,3,3,3]⟩,⟨91,(.sl tQIIIIE),88,[]⟩,⟨101,tQIIIIE,0,[3,3,3,3]⟩,⟨102,tQIIIIE,0,[3,3,3,3]⟩,⟨103,tQIIE,0,[3,3]⟩,⟨104,tQIIE,0,[3,3]⟩,⟨135,tQIIIE,0,[3,3,3]⟩,⟨136,tQIIIE,0,[3,3,3]⟩,⟨162,tQLIIIE,0,[22,3,3]⟩,⟨163,tQLIIIE,0,[22,3,3]⟩,⟨171,tQIIIIILIE,0,[3,3,3,3,3,27]⟩,⟨173,tQIILIE,0,[3,3,27]⟩,⟨182,tQIIE,0,[3,3]⟩,⟨184,tQIIIE,0,[3,3,3]⟩,⟨186,tQIIIIE,0,[3,3,3,3]⟩,⟨194,(.int .u64),0,[]⟩,⟨207,(.int .i64),0,[]⟩,⟨216,(.int .u32),0,[]⟩,⟨218,(.int .u64),0,[]⟩,⟨219,(.sl (.sl (.int .i64))),27,[]⟩,⟨222,(.int .u64),0,[]⟩]
theorem mixed:Tryz.prog.follows .mixedOrders=true:=by kernel_rfl
noncomputable def noL (N n:Nat) (key:Nat) (S:St) (K:Ks):Option Ret:=none
theorem noL0 (N key:Nat) (S:St) (K:Ks):noL N 0 key S K=none:=rfl
theorem tab_ok:tabB Tryz.prog tab=true:=by kernel_rfl
noncomputable def h_L87:Hint:={ tab,hn:=[],loops:=[],outs:=[],ords:=[] }
noncomputable def sg_L87:List AK:=[.v (.sl (.int .i64)) .k,.v (.int .i64) .k]
noncomputable def F_L87 (N:Nat) (x:AVals sg_L87) (kf:Ret→Option Ret):Option Ret:=L87 N x.1 x.2.1 (fun r0=>kf ⟨[⟨(.int .i64),.k,r0⟩],[]⟩)
noncomputable def run_L87 (N:Nat):=runOf sg_L87 (F_L87 N)
noncomputable def es_L87 (N:Nat):List Entry:=[]
noncomputable def body_L87:Code:=match Tryz.f87.body with | some c=>c | none=>.skip
theorem ls_L87:loopsIn body_L87=[]:=by kernel_rfl
theorem fn_L87 (N:Nat) (x:AVals sg_L87) (kf:Ret→Option Ret):F_L87 N x kf=peFunc h_L87 (Orc.of (es_L87 N)) (noL N N) Tryz.f87 (ashape sg_L87 x) kf:=by kernel_rfl
theorem sd_L87 {Γ : Gl} (N:Nat):Sound Γ Tryz.prog 87 (run_L87 N):=fun_ok2 (hh:=h_L87) mixed tab_ok (es:=es_L87 N) trivial (fn:=Tryz.f87) (body:=body_L87) (by kernel_rfl) (by kernel_rfl) (by kernel_rfl) (by kernel_rfl) (by kernel_rfl) (Lf:=noL N) (noL0 N) ls_L87 trivial (N:=N) (by kernel_rfl) (fn_L87 N) (.inl (by kernel_rfl))
noncomputable def h_L171:Hint:={ tab,hn:=[],loops:=[],outs:=[],ords:=[] }
noncomputable def sg_L171:List AK:=[.v tQIIIIILIE .k,.v (.int .i64) .k]
noncomputable def F_L171 (N:Nat) (x:AVals sg_L171) (kf:Ret→Option Ret):Option Ret:=L171 N x.1 x.2.1 (fun r0=>kf ⟨[⟨(.int .i64),.k,r0⟩],[]⟩)
noncomputable def run_L171 (N:Nat):=runOf sg_L171 (F_L171 N)
noncomputable def es_L171 (N:Nat):List Entry:=[⟨87,[.val,.val],(run_L87 N)⟩]
noncomputable def body_L171:Code:=match Tryz.f171.body with | some c=>c | none=>.skip
theorem ls_L171:loopsIn body_L171=[]:=by kernel_rfl
theorem fn_L171 (N:Nat) (x:AVals sg_L171) (kf:Ret→Option Ret):F_L171 N x kf=peFunc h_L171 (Orc.of (es_L171 N)) (noL N N) Tryz.f171 (ashape sg_L171 x) kf:=by kernel_rfl
theorem sd_L171 {Γ : Gl} (N:Nat):Sound Γ Tryz.prog 171 (run_L171 N):=fun_ok2 (hh:=h_L171) mixed tab_ok (es:=es_L171 N) ⟨sd_L87 N,trivial⟩ (fn:=Tryz.f171) (body:=body_L171) (by kernel_rfl) (by kernel_rfl) (by kernel_rfl) (by kernel_rfl) (by kernel_rfl) (Lf:=noL N) (noL0 N) ls_L171 trivial (N:=N) (by kernel_rfl) (fn_L171 N) (.inl (by kernel_rfl))
noncomputable def ks_L84_l5:List Kd:=[.v (.sl tQIIIIILIE) .k,.v (.int .i64) .k,dK,dK,dK,.v (.int .i64) .k,dK,dK,dK,dK,dK,dK,dK,dK,dK,dK,dK,dK,dK,dK,dK,dK,dK,dK,dK,dK,dK]
noncomputable def ko_L84_l5_0:List Kd:=[dK,.v (.int .i64) .k,dK,dK,dK,dK,dK,dK,dK,dK,dK,dK,dK,dK,dK,dK,dK,dK,dK,dK,dK,dK,dK,dK,dK,dK,dK]
noncomputable def ko_L84_l5_1:List Kd:=[dK,dK,dK,dK,.v (.int .i64) .k,dK,dK,dK,dK,dK,dK,dK,dK,dK,dK,dK,dK,dK,dK,dK,dK,dK,dK,dK,dK,dK,dK]
noncomputable def h_L84:Hint:={ tab,hn:=[],loops:=[(5,ks_L84_l5)],outs:=[(5,2,ko_L84_l5_0),(5,1,ko_L84_l5_1)],ords:=[] }
noncomputable def sg_L84:List AK:=[.v (.sl tQIIIIILIE) .k,.v (.int .i64) .k]
noncomputable def F_L84 (N:Nat) (x:AVals sg_L84) (kf:Ret→Option Ret):Option Ret:=L84 N x.1 x.2.1 (fun r0=>kf ⟨[⟨(.int .i64),.k,r0⟩],[]⟩)
noncomputable def run_L84 (N:Nat):=runOf sg_L84 (F_L84 N)
noncomputable def es_L84 (N:Nat):List Entry:=[⟨171,[.val,.val],(run_L171 N)⟩]
noncomputable def body_L84:Code:=match Tryz.f84.body with | some c=>c | none=>.skip
noncomputable def L_L84 (N n:Nat) (key:Nat) (S:St) (K:Ks):Option Ret:=bif Nat.beq key 5 then withVals ks_L84_l5 S (fun x=>L84_l5 N x.1 n (fun z0=>K (.x 0) (shape ko_L84_l5_0 (z0,()))) (fun z0=>K .r (shape ko_L84_l5_1 (z0,()))) x.2.1 x.2.2.1) else none
theorem L0_L84 (N key:Nat) (S:St) (K:Ks):L_L84 N 0 key S K=none:=(bif0 (withVals0 fun _=>rfl) rfl)
noncomputable def c_L84_0:Code:=(loopsIn body_L84).getD 0 .skip
theorem ls_L84:loopsIn body_L84=[c_L84_0]:=by kernel_rfl
theorem rd_L84_5 (N n:Nat) (x:Vals ks_L84_l5) (K:Ks):L_L84 N (n + 1) 5 (shape ks_L84_l5 x) (h_L84.onOut 5 K)=peRound h_L84 (Orc.of (es_L84 N)) (mixL (L_L84 N) N n 5) c_L84_0 (shape ks_L84_l5 x) (h_L84.onOut 5 K):=by kernel_rfl
theorem fn_L84 (N:Nat) (x:AVals sg_L84) (kf:Ret→Option Ret):F_L84 N x kf=peFunc h_L84 (Orc.of (es_L84 N)) (L_L84 N N) Tryz.f84 (ashape sg_L84 x) kf:=by kernel_rfl
theorem sd_L84 {Γ : Gl} (N:Nat):Sound Γ Tryz.prog 84 (run_L84 N):=fun_ok2 (hh:=h_L84) mixed tab_ok (es:=es_L84 N) ⟨sd_L171 N,trivial⟩ (fn:=Tryz.f84) (body:=body_L84) (by kernel_rfl) (by kernel_rfl) (by kernel_rfl) (by kernel_rfl) (by kernel_rfl) (Lf:=L_L84 N) (L0_L84 N) ls_L84 (round_cons (key:=5) (ks:=ks_L84_l5) (by kernel_rfl) (by kernel_rfl) (rd_L84_5 N) trivial) (N:=N) (by kernel_rfl) (fn_L84 N) (.inl (by kernel_rfl))
noncomputable def h_L172:Hint:={ tab,hn:=[],loops:=[],outs:=[],ords:=[] }
noncomputable def sg_L172:List AK:=[.v tQIILIE .k,.v (.int .i64) .k]
noncomputable def F_L172 (N:Nat) (x:AVals sg_L172) (kf:Ret→Option Ret):Option Ret:=L172 N x.1 x.2.1 (fun r0=>kf ⟨[⟨(.int .i64),.k,r0⟩],[]⟩)
noncomputable def run_L172 (N:Nat):=runOf sg_L172 (F_L172 N)
noncomputable def es_L172 (N:Nat):List Entry:=[⟨87,[.val,.val],(run_L87 N)⟩]
noncomputable def body_L172:Code:=match Tryz.f172.body with | some c=>c | none=>.skip
theorem ls_L172:loopsIn body_L172=[]:=by kernel_rfl
theorem fn_L172 (N:Nat) (x:AVals sg_L172) (kf:Ret→Option Ret):F_L172 N x kf=peFunc h_L172 (Orc.of (es_L172 N)) (noL N N) Tryz.f172 (ashape sg_L172 x) kf:=by kernel_rfl
theorem sd_L172 {Γ : Gl} (N:Nat):Sound Γ Tryz.prog 172 (run_L172 N):=fun_ok2 (hh:=h_L172) mixed tab_ok (es:=es_L172 N) ⟨sd_L87 N,trivial⟩ (fn:=Tryz.f172) (body:=body_L172) (by kernel_rfl) (by kernel_rfl) (by kernel_rfl) (by kernel_rfl) (by kernel_rfl) (Lf:=noL N) (noL0 N) ls_L172 trivial (N:=N) (by kernel_rfl) (fn_L172 N) (.inl (by kernel_rfl))
noncomputable def ks_L85_l5:List Kd:=[.v (.sl tQIILIE) .k,.v (.int .i64) .k,dK,dK,dK,.v (.int .i64) .k,dK,dK,dK,dK,dK,dK,dK,dK,dK,dK,dK,dK,dK,dK,dK,dK,dK,dK,dK,dK,dK]
noncomputable def ko_L85_l5_0:List Kd:=[dK,.v (.int .i64) .k,dK,dK,dK,dK,dK,dK,dK,dK,dK,dK,dK,dK,dK,dK,dK,dK,dK,dK,dK,dK,dK,dK,dK,dK,dK]
noncomputable def ko_L85_l5_1:List Kd:=[dK,dK,dK,dK,.v (.int .i64) .k,dK,dK,dK,dK,dK,dK,dK,dK,dK,dK,dK,dK,dK,dK,dK,dK,dK,dK,dK,dK,dK,dK]
noncomputable def h_L85:Hint:={ tab,hn:=[],loops:=[(5,ks_L85_l5)],outs:=[(5,2,ko_L85_l5_0),(5,1,ko_L85_l5_1)],ords:=[] }
noncomputable def sg_L85:List AK:=[.v (.sl tQIILIE) .k,.v (.int .i64) .k]
noncomputable def F_L85 (N:Nat) (x:AVals sg_L85) (kf:Ret→Option Ret):Option Ret:=L85 N x.1 x.2.1 (fun r0=>kf ⟨[⟨(.int .i64),.k,r0⟩],[]⟩)
noncomputable def run_L85 (N:Nat):=runOf sg_L85 (F_L85 N)
noncomputable def es_L85 (N:Nat):List Entry:=[⟨172,[.val,.val],(run_L172 N)⟩]
noncomputable def body_L85:Code:=match Tryz.f85.body with | some c=>c | none=>.skip
noncomputable def L_L85 (N n:Nat) (key:Nat) (S:St) (K:Ks):Option Ret:=bif Nat.beq key 5 then withVals ks_L85_l5 S (fun x=>L85_l5 N x.1 n (fun z0=>K (.x 0) (shape ko_L85_l5_0 (z0,()))) (fun z0=>K .r (shape ko_L85_l5_1 (z0,()))) x.2.1 x.2.2.1) else none
theorem L0_L85 (N key:Nat) (S:St) (K:Ks):L_L85 N 0 key S K=none:=(bif0 (withVals0 fun _=>rfl) rfl)
noncomputable def c_L85_0:Code:=(loopsIn body_L85).getD 0 .skip
theorem ls_L85:loopsIn body_L85=[c_L85_0]:=by kernel_rfl
theorem rd_L85_5 (N n:Nat) (x:Vals ks_L85_l5) (K:Ks):L_L85 N (n + 1) 5 (shape ks_L85_l5 x) (h_L85.onOut 5 K)=peRound h_L85 (Orc.of (es_L85 N)) (mixL (L_L85 N) N n 5) c_L85_0 (shape ks_L85_l5 x) (h_L85.onOut 5 K):=by kernel_rfl
theorem fn_L85 (N:Nat) (x:AVals sg_L85) (kf:Ret→Option Ret):F_L85 N x kf=peFunc h_L85 (Orc.of (es_L85 N)) (L_L85 N N) Tryz.f85 (ashape sg_L85 x) kf:=by kernel_rfl
theorem sd_L85 {Γ : Gl} (N:Nat):Sound Γ Tryz.prog 85 (run_L85 N):=fun_ok2 (hh:=h_L85) mixed tab_ok (es:=es_L85 N) ⟨sd_L172 N,trivial⟩ (fn:=Tryz.f85) (body:=body_L85) (by kernel_rfl) (by kernel_rfl) (by kernel_rfl) (by kernel_rfl) (by kernel_rfl) (Lf:=L_L85 N) (L0_L85 N) ls_L85 (round_cons (key:=5) (ks:=ks_L85_l5) (by kernel_rfl) (by kernel_rfl) (rd_L85_5 N) trivial) (N:=N) (by kernel_rfl) (fn_L85 N) (.inl (by kernel_rfl))
noncomputable def h_L86:Hint:={ tab,hn:=[],loops:=[],outs:=[],ords:=[] }
noncomputable def sg_L86:List AK:=[.v (.sl tQIIE) .k,.v (.int .i64) .k]
noncomputable def F_L86 (N:Nat) (x:AVals sg_L86) (kf:Ret→Option Ret):Option Ret:=L86 N x.1 x.2.1 (fun r0=>kf ⟨[⟨(.int .i64),.k,r0⟩],[]⟩)
noncomputable def run_L86 (N:Nat):=runOf sg_L86 (F_L86 N)
noncomputable def es_L86 (N:Nat):List Entry:=[]
noncomputable def body_L86:Code:=match Tryz.f86.body with | some c=>c | none=>.skip
theorem ls_L86:loopsIn body_L86=[]:=by kernel_rfl
theorem fn_L86 (N:Nat) (x:AVals sg_L86) (kf:Ret→Option Ret):F_L86 N x kf=peFunc h_L86 (Orc.of (es_L86 N)) (noL N N) Tryz.f86 (ashape sg_L86 x) kf:=by kernel_rfl
theorem sd_L86 {Γ : Gl} (N:Nat):Sound Γ Tryz.prog 86 (run_L86 N):=fun_ok2 (hh:=h_L86) mixed tab_ok (es:=es_L86 N) trivial (fn:=Tryz.f86) (body:=body_L86) (by kernel_rfl) (by kernel_rfl) (by kernel_rfl) (by kernel_rfl) (by kernel_rfl) (Lf:=noL N) (noL0 N) ls_L86 trivial (N:=N) (by kernel_rfl) (fn_L86 N) (.inl (by kernel_rfl))
noncomputable def h_L88:Hint:={ tab,hn:=[],loops:=[],outs:=[],ords:=[] }
noncomputable def sg_L88:List AK:=[.v (.sl tQIIIE) .k,.v (.int .i64) .k]
noncomputable def F_L88 (N:Nat) (x:AVals sg_L88) (kf:Ret→Option Ret):Option Ret:=L88 N x.1 x.2.1 (fun r0=>kf ⟨[⟨(.int .i64),.k,r0⟩],[]⟩)
noncomputable def run_L88 (N:Nat):=runOf sg_L88 (F_L88 N)
noncomputable def es_L88 (N:Nat):List Entry:=[]
noncomputable def body_L88:Code:=match Tryz.f88.body with | some c=>c | none=>.skip
theorem ls_L88:loopsIn body_L88=[]:=by kernel_rfl
theorem fn_L88 (N:Nat) (x:AVals sg_L88) (kf:Ret→Option Ret):F_L88 N x kf=peFunc h_L88 (Orc.of (es_L88 N)) (noL N N) Tryz.f88 (ashape sg_L88 x) kf:=by kernel_rfl
theorem sd_L88 {Γ : Gl} (N:Nat):Sound Γ Tryz.prog 88 (run_L88 N):=fun_ok2 (hh:=h_L88) mixed tab_ok (es:=es_L88 N) trivial (fn:=Tryz.f88) (body:=body_L88) (by kernel_rfl) (by kernel_rfl) (by kernel_rfl) (by kernel_rfl) (by kernel_rfl) (Lf:=noL N) (noL0 N) ls_L88 trivial (N:=N) (by kernel_rfl) (fn_L88 N) (.inl (by kernel_rfl))
noncomputable def h_L89:Hint:={ tab,hn:=[],loops:=[],outs:=[],ords:=[] }
noncomputable def sg_L89:List AK:=[.v (.sl tQIIIIE) .k,.v (.int .i64) .k]
noncomputable def F_L89 (N:Nat) (x:AVals sg_L89) (kf:Ret→Option Ret):Option Ret:=L89 N x.1 x.2.1 (fun r0=>kf ⟨[⟨(.int .i64),.k,r0⟩],[]⟩)
noncomputable def run_L89 (N:Nat):=runOf sg_L89 (F_L89 N)
noncomputable def es_L89 (N:Nat):List Entry:=[]
noncomputable def body_L89:Code:=match Tryz.f89.body with | some c=>c | none=>.skip
theorem ls_L89:loopsIn body_L89=[]:=by kernel_rfl
theorem fn_L89 (N:Nat) (x:AVals sg_L89) (kf:Ret→Option Ret):F_L89 N x kf=peFunc h_L89 (Orc.of (es_L89 N)) (noL N N) Tryz.f89 (ashape sg_L89 x) kf:=by kernel_rfl
theorem sd_L89 {Γ : Gl} (N:Nat):Sound Γ Tryz.prog 89 (run_L89 N):=fun_ok2 (hh:=h_L89) mixed tab_ok (es:=es_L89 N) trivial (fn:=Tryz.f89) (body:=body_L89) (by kernel_rfl) (by kernel_rfl) (by kernel_rfl) (by kernel_rfl) (by kernel_rfl) (Lf:=noL N) (noL0 N) ls_L89 trivial (N:=N) (by kernel_rfl) (fn_L89 N) (.inl (by kernel_rfl))
noncomputable def h_L20:Hint:={ tab,hn:=[],loops:=[],outs:=[],ords:=[] }
noncomputable def sg_L20:List AK:=[.v tQLQIIIIILIELQIILIELQIIELILQIIIELQIIIIEIE .k,.v (.int .i64) .k]
noncomputable def F_L20 (N:Nat) (x:AVals sg_L20) (kf:Ret→Option Ret):Option Ret:=L20 N x.1 x.2.1 (fun r0=>kf ⟨[⟨(.int .i64),.k,r0⟩],[]⟩)
noncomputable def run_L20 (N:Nat):=runOf sg_L20 (F_L20 N)
noncomputable def es_L20 (N:Nat):List Entry:=[⟨84,[.val,.val],(run_L84 N)⟩,⟨85,[.val,.val],(run_L85 N)⟩,⟨86,[.val,.val],(run_L86 N)⟩,⟨87,[.val,.val],(run_L87 N)⟩,⟨88,[.val,.val],(run_L88 N)⟩,⟨89,[.val,.val],(run_L89 N)⟩]
noncomputable def body_L20:Code:=match Tryz.f20.body with | some c=>c | none=>.skip
theorem ls_L20:loopsIn body_L20=[]:=by kernel_rfl
theorem fn_L20 (N:Nat) (x:AVals sg_L20) (kf:Ret→Option Ret):F_L20 N x kf=peFunc h_L20 (Orc.of (es_L20 N)) (noL N N) Tryz.f20 (ashape sg_L20 x) kf:=by kernel_rfl
theorem sd_L20 {Γ : Gl} (N:Nat):Sound Γ Tryz.prog 20 (run_L20 N):=fun_ok2 (hh:=h_L20) mixed tab_ok (es:=es_L20 N) ⟨sd_L84 N,⟨sd_L85 N,⟨sd_L86 N,⟨sd_L87 N,⟨sd_L88 N,⟨sd_L89 N,trivial⟩⟩⟩⟩⟩⟩ (fn:=Tryz.f20) (body:=body_L20) (by kernel_rfl) (by kernel_rfl) (by kernel_rfl) (by kernel_rfl) (by kernel_rfl) (Lf:=noL N) (noL0 N) ls_L20 trivial (N:=N) (by kernel_rfl) (fn_L20 N) (.inl (by kernel_rfl))
noncomputable def ks_L98_l3:List Kd:=[.v (.sl (.int .i64)) .k,dK,dK,.v (.sl (.int .i64)) (.o 3 none .k),.v (.int .i64) .k,dK,dK,dK,dK,dK,dK,dK,dK,dK,dK,dK,dK,dK,dK,dK,dK,dK]
noncomputable def ko_L98_l3_0:List Kd:=[dK,dK,dK,.v (.sl (.int .i64)) (.o 3 none .k),dK,dK,dK,dK,dK,dK,dK,dK,dK,dK,dK,dK,dK,dK,dK,dK,dK,dK]
noncomputable def h_L98:Hint:={ tab,hn:=[],loops:=[(3,ks_L98_l3)],outs:=[(3,2,ko_L98_l3_0)],ords:=[] }
noncomputable def sg_L98:List AK:=[.v (.sl (.int .i64)) .k]
noncomputable def F_L98 (N:Nat) (x:AVals sg_L98) (kf:Ret→Option Ret):Option Ret:=L98 N x.1 (fun r0=>kf ⟨[⟨(.sl (.int .i64)),(.o 3 none .k),r0⟩],[]⟩)
noncomputable def run_L98 (N:Nat):=runOf sg_L98 (F_L98 N)
noncomputable def es_L98 (N:Nat):List Entry:=[]
noncomputable def body_L98:Code:=match Tryz.f98.body with | some c=>c | none=>.skip
noncomputable def L_L98 (N n:Nat) (key:Nat) (S:St) (K:Ks):Option Ret:=bif Nat.beq key 3 then withVals ks_L98_l3 S (fun x=>L98_l3 x.1 n (fun z0=>K (.x 0) (shape ko_L98_l3_0 (z0,()))) x.2.1 x.2.2.1) else none
theorem L0_L98 (N key:Nat) (S:St) (K:Ks):L_L98 N 0 key S K=none:=(bif0 (withVals0 fun _=>rfl) rfl)
noncomputable def c_L98_0:Code:=(loopsIn body_L98).getD 0 .skip
theorem ls_L98:loopsIn body_L98=[c_L98_0]:=by kernel_rfl
theorem rd_L98_3 (N n:Nat) (x:Vals ks_L98_l3) (K:Ks):L_L98 N (n + 1) 3 (shape ks_L98_l3 x) (h_L98.onOut 3 K)=peRound h_L98 (Orc.of (es_L98 N)) (mixL (L_L98 N) N n 3) c_L98_0 (shape ks_L98_l3 x) (h_L98.onOut 3 K):=by kernel_rfl
theorem fn_L98 (N:Nat) (x:AVals sg_L98) (kf:Ret→Option Ret):F_L98 N x kf=peFunc h_L98 (Orc.of (es_L98 N)) (L_L98 N N) Tryz.f98 (ashape sg_L98 x) kf:=by kernel_rfl
theorem sd_L98 {Γ : Gl} (N:Nat):Sound Γ Tryz.prog 98 (run_L98 N):=fun_ok2 (hh:=h_L98) mixed tab_ok (es:=es_L98 N) trivial (fn:=Tryz.f98) (body:=body_L98) (by kernel_rfl) (by kernel_rfl) (by kernel_rfl) (by kernel_rfl) (by kernel_rfl) (Lf:=L_L98 N) (L0_L98 N) ls_L98 (round_cons (key:=3) (ks:=ks_L98_l3) (by kernel_rfl) (by kernel_rfl) (rd_L98_3 N) trivial) (N:=N) (by kernel_rfl) (fn_L98 N) (.inl (by kernel_rfl))
noncomputable def h_L181:Hint:={ tab,hn:=[],loops:=[],outs:=[],ords:=[] }
noncomputable def sg_L181:List AK:=[.v tQIIIIILIE .k]
noncomputable def F_L181 (N:Nat) (x:AVals sg_L181) (kf:Ret→Option Ret):Option Ret:=L181 N x.1 (fun r0=>kf ⟨[⟨tQIIIIILIE,(.p .k (.p .k (.p .k (.p .k (.p .k (.o 3 none .k)))))),r0⟩],[]⟩)
noncomputable def run_L181 (N:Nat):=runOf sg_L181 (F_L181 N)
noncomputable def es_L181 (N:Nat):List Entry:=[⟨98,[.val],(run_L98 N)⟩]
noncomputable def body_L181:Code:=match Tryz.f181.body with | some c=>c | none=>.skip
theorem ls_L181:loopsIn body_L181=[]:=by kernel_rfl
theorem fn_L181 (N:Nat) (x:AVals sg_L181) (kf:Ret→Option Ret):F_L181 N x kf=peFunc h_L181 (Orc.of (es_L181 N)) (noL N N) Tryz.f181 (ashape sg_L181 x) kf:=by kernel_rfl
theorem sd_L181 {Γ : Gl} (N:Nat):Sound Γ Tryz.prog 181 (run_L181 N):=fun_ok2 (hh:=h_L181) mixed tab_ok (es:=es_L181 N) ⟨sd_L98 N,trivial⟩ (fn:=Tryz.f181) (body:=body_L181) (by kernel_rfl) (by kernel_rfl) (by kernel_rfl) (by kernel_rfl) (by kernel_rfl) (Lf:=noL N) (noL0 N) ls_L181 trivial (N:=N) (by kernel_rfl) (fn_L181 N) (.inl (by kernel_rfl))
noncomputable def ks_L95_l3:List Kd:=[.v (.sl tQIIIIILIE) .k,dK,dK,.v (.sl tQIIIIILIE) (.o 46 none (.p .k (.p .k (.p .k (.p .k (.p .k (.o 3 none .k))))))),.v (.int .i64) .k,dK,dK,dK,dK,dK,dK,dK,dK,dK,dK,dK,dK,dK,dK,dK,dK,dK,dK]
noncomputable def ko_L95_l3_0:List Kd:=[dK,dK,dK,.v (.sl tQIIIIILIE) (.o 46 none (.p .k (.p .k (.p .k (.p .k (.p .k (.o 3 none .k))))))),dK,dK,dK,dK,dK,dK,dK,dK,dK,dK,dK,dK,dK,dK,dK,dK,dK,dK,dK]
noncomputable def h_L95:Hint:={ tab,hn:=[],loops:=[(3,ks_L95_l3)],outs:=[(3,2,ko_L95_l3_0)],ords:=[] }
noncomputable def sg_L95:List AK:=[.v (.sl tQIIIIILIE) .k]
noncomputable def F_L95 (N:Nat) (x:AVals sg_L95) (kf:Ret→Option Ret):Option Ret:=L95 N x.1 (fun r0=>kf ⟨[⟨(.sl tQIIIIILIE),(.o 46 none (.p .k (.p .k (.p .k (.p .k (.p .k (.o 3 none .k))))))),r0⟩],[]⟩)
noncomputable def run_L95 (N:Nat):=runOf sg_L95 (F_L95 N)
noncomputable def es_L95 (N:Nat):List Entry:=[⟨181,[.val],(run_L181 N)⟩]
noncomputable def body_L95:Code:=match Tryz.f95.body with | some c=>c | none=>.skip
noncomputable def L_L95 (N n:Nat) (key:Nat) (S:St) (K:Ks):Option Ret:=bif Nat.beq key 3 then withVals ks_L95_l3 S (fun x=>L95_l3 N x.1 n (fun z0=>K (.x 0) (shape ko_L95_l3_0 (z0,()))) x.2.1 x.2.2.1) else none
theorem L0_L95 (N key:Nat) (S:St) (K:Ks):L_L95 N 0 key S K=none:=(bif0 (withVals0 fun _=>rfl) rfl)
noncomputable def c_L95_0:Code:=(loopsIn body_L95).getD 0 .skip
theorem ls_L95:loopsIn body_L95=[c_L95_0]:=by kernel_rfl
theorem rd_L95_3 (N n:Nat) (x:Vals ks_L95_l3) (K:Ks):L_L95 N (n + 1) 3 (shape ks_L95_l3 x) (h_L95.onOut 3 K)=peRound h_L95 (Orc.of (es_L95 N)) (mixL (L_L95 N) N n 3) c_L95_0 (shape ks_L95_l3 x) (h_L95.onOut 3 K):=by kernel_rfl
theorem fn_L95 (N:Nat) (x:AVals sg_L95) (kf:Ret→Option Ret):F_L95 N x kf=peFunc h_L95 (Orc.of (es_L95 N)) (L_L95 N N) Tryz.f95 (ashape sg_L95 x) kf:=by kernel_rfl
theorem sd_L95 {Γ : Gl} (N:Nat):Sound Γ Tryz.prog 95 (run_L95 N):=fun_ok2 (hh:=h_L95) mixed tab_ok (es:=es_L95 N) ⟨sd_L181 N,trivial⟩ (fn:=Tryz.f95) (body:=body_L95) (by kernel_rfl) (by kernel_rfl) (by kernel_rfl) (by kernel_rfl) (by kernel_rfl) (Lf:=L_L95 N) (L0_L95 N) ls_L95 (round_cons (key:=3) (ks:=ks_L95_l3) (by kernel_rfl) (by kernel_rfl) (rd_L95_3 N) trivial) (N:=N) (by kernel_rfl) (fn_L95 N) (.inl (by kernel_rfl))
noncomputable def h_L182:Hint:={ tab,hn:=[],loops:=[],outs:=[],ords:=[] }
noncomputable def sg_L182:List AK:=[.v tQIILIE .k]
noncomputable def F_L182 (N:Nat) (x:AVals sg_L182) (kf:Ret→Option Ret):Option Ret:=L182 N x.1 (fun r0=>kf ⟨[⟨tQIILIE,(.p .k (.p .k (.o 3 none .k))),r0⟩],[]⟩)
noncomputable def run_L182 (N:Nat):=runOf sg_L182 (F_L182 N)
noncomputable def es_L182 (N:Nat):List Entry:=[⟨98,[.val],(run_L98 N)⟩]
noncomputable def body_L182:Code:=match Tryz.f182.body with | some c=>c | none=>.skip
theorem ls_L182:loopsIn body_L182=[]:=by kernel_rfl
theorem fn_L182 (N:Nat) (x:AVals sg_L182) (kf:Ret→Option Ret):F_L182 N x kf=peFunc h_L182 (Orc.of (es_L182 N)) (noL N N) Tryz.f182 (ashape sg_L182 x) kf:=by kernel_rfl
theorem sd_L182 {Γ : Gl} (N:Nat):Sound Γ Tryz.prog 182 (run_L182 N):=fun_ok2 (hh:=h_L182) mixed tab_ok (es:=es_L182 N) ⟨sd_L98 N,trivial⟩ (fn:=Tryz.f182) (body:=body_L182) (by kernel_rfl) (by kernel_rfl) (by kernel_rfl) (by kernel_rfl) (by kernel_rfl) (Lf:=noL N) (noL0 N) ls_L182 trivial (N:=N) (by kernel_rfl) (fn_L182 N) (.inl (by kernel_rfl))
noncomputable def ks_L96_l3:List Kd:=[.v (.sl tQIILIE) .k,dK,dK,.v (.sl tQIILIE) (.o 80 none (.p .k (.p .k (.o 3 none .k)))),.v (.int .i64) .k,dK,dK,dK,dK,dK,dK,dK,dK,dK,dK,dK,dK,dK,dK,dK,dK,dK,dK]
noncomputable def ko_L96_l3_0:List Kd:=[dK,dK,dK,.v (.sl tQIILIE) (.o 80 none (.p .k (.p .k (.o 3 none .k)))),dK,dK,dK,dK,dK,dK,dK,dK,dK,dK,dK,dK,dK,dK,dK,dK,dK,dK,dK]
noncomputable def h_L96:Hint:={ tab,hn:=[],loops:=[(3,ks_L96_l3)],outs:=[(3,2,ko_L96_l3_0)],ords:=[] }
noncomputable def sg_L96:List AK:=[.v (.sl tQIILIE) .k]
noncomputable def F_L96 (N:Nat) (x:AVals sg_L96) (kf:Ret→Option Ret):Option Ret:=L96 N x.1 (fun r0=>kf ⟨[⟨(.sl tQIILIE),(.o 80 none (.p .k (.p .k (.o 3 none .k)))),r0⟩],[]⟩)
noncomputable def run_L96 (N:Nat):=runOf sg_L96 (F_L96 N)
noncomputable def es_L96 (N:Nat):List Entry:=[⟨182,[.val],(run_L182 N)⟩]
noncomputable def body_L96:Code:=match Tryz.f96.body with | some c=>c | none=>.skip
noncomputable def L_L96 (N n:Nat) (key:Nat) (S:St) (K:Ks):Option Ret:=bif Nat.beq key 3 then withVals ks_L96_l3 S (fun x=>L96_l3 N x.1 n (fun z0=>K (.x 0) (shape ko_L96_l3_0 (z0,()))) x.2.1 x.2.2.1) else none
theorem L0_L96 (N key:Nat) (S:St) (K:Ks):L_L96 N 0 key S K=none:=(bif0 (withVals0 fun _=>rfl) rfl)
noncomputable def c_L96_0:Code:=(loopsIn body_L96).getD 0 .skip
theorem ls_L96:loopsIn body_L96=[c_L96_0]:=by kernel_rfl
theorem rd_L96_3 (N n:Nat) (x:Vals ks_L96_l3) (K:Ks):L_L96 N (n + 1) 3 (shape ks_L96_l3 x) (h_L96.onOut 3 K)=peRound h_L96 (Orc.of (es_L96 N)) (mixL (L_L96 N) N n 3) c_L96_0 (shape ks_L96_l3 x) (h_L96.onOut 3 K):=by kernel_rfl
theorem fn_L96 (N:Nat) (x:AVals sg_L96) (kf:Ret→Option Ret):F_L96 N x kf=peFunc h_L96 (Orc.of (es_L96 N)) (L_L96 N N) Tryz.f96 (ashape sg_L96 x) kf:=by kernel_rfl
theorem sd_L96 {Γ : Gl} (N:Nat):Sound Γ Tryz.prog 96 (run_L96 N):=fun_ok2 (hh:=h_L96) mixed tab_ok (es:=es_L96 N) ⟨sd_L182 N,trivial⟩ (fn:=Tryz.f96) (body:=body_L96) (by kernel_rfl) (by kernel_rfl) (by kernel_rfl) (by kernel_rfl) (by kernel_rfl) (Lf:=L_L96 N) (L0_L96 N) ls_L96 (round_cons (key:=3) (ks:=ks_L96_l3) (by kernel_rfl) (by kernel_rfl) (rd_L96_3 N) trivial) (N:=N) (by kernel_rfl) (fn_L96 N) (.inl (by kernel_rfl))
noncomputable def h_L183:Hint:={ tab,hn:=[],loops:=[],outs:=[],ords:=[] }
noncomputable def sg_L183:List AK:=[.v tQIIE .k]
noncomputable def F_L183 (N:Nat) (x:AVals sg_L183) (kf:Ret→Option Ret):Option Ret:=L183 N x.1 (fun r0=>kf ⟨[⟨tQIIE,.k,r0⟩],[]⟩)
noncomputable def run_L183 (N:Nat):=runOf sg_L183 (F_L183 N)
noncomputable def es_L183 (N:Nat):List Entry:=[]
noncomputable def body_L183:Code:=match Tryz.f183.body with | some c=>c | none=>.skip
theorem ls_L183:loopsIn body_L183=[]:=by kernel_rfl
theorem fn_L183 (N:Nat) (x:AVals sg_L183) (kf:Ret→Option Ret):F_L183 N x kf=peFunc h_L183 (Orc.of (es_L183 N)) (noL N N) Tryz.f183 (ashape sg_L183 x) kf:=by kernel_rfl
theorem sd_L183 {Γ : Gl} (N:Nat):Sound Γ Tryz.prog 183 (run_L183 N):=fun_ok2 (hh:=h_L183) mixed tab_ok (es:=es_L183 N) trivial (fn:=Tryz.f183) (body:=body_L183) (by kernel_rfl) (by kernel_rfl) (by kernel_rfl) (by kernel_rfl) (by kernel_rfl) (Lf:=noL N) (noL0 N) ls_L183 trivial (N:=N) (by kernel_rfl) (fn_L183 N) (.inl (by kernel_rfl))
noncomputable def ks_L97_l3:List Kd:=[.v (.sl tQIIE) .k,dK,dK,.v (.sl tQIIE) (.o 104 none .k),.v (.int .i64) .k,dK,dK,dK,dK,dK,dK,dK,dK,dK,dK,dK,dK,dK,dK,dK,dK,dK,dK]
noncomputable def ko_L97_l3_0:List Kd:=[dK,dK,dK,.v (.sl tQIIE) (.o 104 none .k),dK,dK,dK,dK,dK,dK,dK,dK,dK,dK,dK,dK,dK,dK,dK,dK,dK,dK,dK]
noncomputable def h_L97:Hint:={ tab,hn:=[],loops:=[(3,ks_L97_l3)],outs:=[(3,2,ko_L97_l3_0)],ords:=[] }
noncomputable def sg_L97:List AK:=[.v (.sl tQIIE) .k]
noncomputable def F_L97 (N:Nat) (x:AVals sg_L97) (kf:Ret→Option Ret):Option Ret:=L97 N x.1 (fun r0=>kf ⟨[⟨(.sl tQIIE),(.o 104 none .k),r0⟩],[]⟩)
noncomputable def run_L97 (N:Nat):=runOf sg_L97 (F_L97 N)
noncomputable def es_L97 (N:Nat):List Entry:=[⟨183,[.val],(run_L183 N)⟩]
noncomputable def body_L97:Code:=match Tryz.f97.body with | some c=>c | none=>.skip
noncomputable def L_L97 (N n:Nat) (key:Nat) (S:St) (K:Ks):Option Ret:=bif Nat.beq key 3 then withVals ks_L97_l3 S (fun x=>L97_l3 N x.1 n (fun z0=>K (.x 0) (shape ko_L97_l3_0 (z0,()))) x.2.1 x.2.2.1) else none
theorem L0_L97 (N key:Nat) (S:St) (K:Ks):L_L97 N 0 key S K=none:=(bif0 (withVals0 fun _=>rfl) rfl)
noncomputable def c_L97_0:Code:=(loopsIn body_L97).getD 0 .skip
theorem ls_L97:loopsIn body_L97=[c_L97_0]:=by kernel_rfl
theorem rd_L97_3 (N n:Nat) (x:Vals ks_L97_l3) (K:Ks):L_L97 N (n + 1) 3 (shape ks_L97_l3 x) (h_L97.onOut 3 K)=peRound h_L97 (Orc.of (es_L97 N)) (mixL (L_L97 N) N n 3) c_L97_0 (shape ks_L97_l3 x) (h_L97.onOut 3 K):=by kernel_rfl
theorem fn_L97 (N:Nat) (x:AVals sg_L97) (kf:Ret→Option Ret):F_L97 N x kf=peFunc h_L97 (Orc.of (es_L97 N)) (L_L97 N N) Tryz.f97 (ashape sg_L97 x) kf:=by kernel_rfl
theorem sd_L97 {Γ : Gl} (N:Nat):Sound Γ Tryz.prog 97 (run_L97 N):=fun_ok2 (hh:=h_L97) mixed tab_ok (es:=es_L97 N) ⟨sd_L183 N,trivial⟩ (fn:=Tryz.f97) (body:=body_L97) (by kernel_rfl) (by kernel_rfl) (by kernel_rfl) (by kernel_rfl) (by kernel_rfl) (Lf:=L_L97 N) (L0_L97 N) ls_L97 (round_cons (key:=3) (ks:=ks_L97_l3) (by kernel_rfl) (by kernel_rfl) (rd_L97_3 N) trivial) (N:=N) (by kernel_rfl) (fn_L97 N) (.inl (by kernel_rfl))
noncomputable def h_L184:Hint:={ tab,hn:=[],loops:=[],outs:=[],ords:=[] }
noncomputable def sg_L184:List AK:=[.v tQIIIE .k]
noncomputable def F_L184 (N:Nat) (x:AVals sg_L184) (kf:Ret→Option Ret):Option Ret:=L184 N x.1 (fun r0=>kf ⟨[⟨tQIIIE,.k,r0⟩],[]⟩)
noncomputable def run_L184 (N:Nat):=runOf sg_L184 (F_L184 N)
noncomputable def es_L184 (N:Nat):List Entry:=[]
noncomputable def body_L184:Code:=match Tryz.f184.body with | some c=>c | none=>.skip
theorem ls_L184:loopsIn body_L184=[]:=by kernel_rfl
theorem fn_L184 (N:Nat) (x:AVals sg_L184) (kf:Ret→Option Ret):F_L184 N x kf=peFunc h_L184 (Orc.of (es_L184 N)) (noL N N) Tryz.f184 (ashape sg_L184 x) kf:=by kernel_rfl
theorem sd_L184 {Γ : Gl} (N:Nat):Sound Γ Tryz.prog 184 (run_L184 N):=fun_ok2 (hh:=h_L184) mixed tab_ok (es:=es_L184 N) trivial (fn:=Tryz.f184) (body:=body_L184) (by kernel_rfl) (by kernel_rfl) (by kernel_rfl) (by kernel_rfl) (by kernel_rfl) (Lf:=noL N) (noL0 N) ls_L184 trivial (N:=N) (by kernel_rfl) (fn_L184 N) (.inl (by kernel_rfl))
noncomputable def ks_L99_l3:List Kd:=[.v (.sl tQIIIE) .k,dK,dK,.v (.sl tQIIIE) (.o 136 none .k),.v (.int .i64) .k,dK,dK,dK,dK,dK,dK,dK,dK,dK,dK,dK,dK,dK,dK,dK,dK,dK,dK]
noncomputable def ko_L99_l3_0:List Kd:=[dK,dK,dK,.v (.sl tQIIIE) (.o 136 none .k),dK,dK,dK,dK,dK,dK,dK,dK,dK,dK,dK,dK,dK,dK,dK,dK,dK,dK,dK]
noncomputable def h_L99:Hint:={ tab,hn:=[],loops:=[(3,ks_L99_l3)],outs:=[(3,2,ko_L99_l3_0)],ords:=[] }
noncomputable def sg_L99:List AK:=[.v (.sl tQIIIE) .k]
noncomputable def F_L99 (N:Nat) (x:AVals sg_L99) (kf:Ret→Option Ret):Option Ret:=L99 N x.1 (fun r0=>kf ⟨[⟨(.sl tQIIIE),(.o 136 none .k),r0⟩],[]⟩)
noncomputable def run_L99 (N:Nat):=runOf sg_L99 (F_L99 N)
noncomputable def es_L99 (N:Nat):List Entry:=[⟨184,[.val],(run_L184 N)⟩]
noncomputable def body_L99:Code:=match Tryz.f99.body with | some c=>c | none=>.skip
noncomputable def L_L99 (N n:Nat) (key:Nat) (S:St) (K:Ks):Option Ret:=bif Nat.beq key 3 then withVals ks_L99_l3 S (fun x=>L99_l3 N x.1 n (fun z0=>K (.x 0) (shape ko_L99_l3_0 (z0,()))) x.2.1 x.2.2.1) else none
theorem L0_L99 (N key:Nat) (S:St) (K:Ks):L_L99 N 0 key S K=none:=(bif0 (withVals0 fun _=>rfl) rfl)
noncomputable def c_L99_0:Code:=(loopsIn body_L99).getD 0 .skip
theorem ls_L99:loopsIn body_L99=[c_L99_0]:=by kernel_rfl
theorem rd_L99_3 (N n:Nat) (x:Vals ks_L99_l3) (K:Ks):L_L99 N (n + 1) 3 (shape ks_L99_l3 x) (h_L99.onOut 3 K)=peRound h_L99 (Orc.of (es_L99 N)) (mixL (L_L99 N) N n 3) c_L99_0 (shape ks_L99_l3 x) (h_L99.onOut 3 K):=by kernel_rfl
theorem fn_L99 (N:Nat) (x:AVals sg_L99) (kf:Ret→Option Ret):F_L99 N x kf=peFunc h_L99 (Orc.of (es_L99 N)) (L_L99 N N) Tryz.f99 (ashape sg_L99 x) kf:=by kernel_rfl
theorem sd_L99 {Γ : Gl} (N:Nat):Sound Γ Tryz.prog 99 (run_L99 N):=fun_ok2 (hh:=h_L99) mixed tab_ok (es:=es_L99 N) ⟨sd_L184 N,trivial⟩ (fn:=Tryz.f99) (body:=body_L99) (by kernel_rfl) (by kernel_rfl) (by kernel_rfl) (by kernel_rfl) (by kernel_rfl) (Lf:=L_L99 N) (L0_L99 N) ls_L99 (round_cons (key:=3) (ks:=ks_L99_l3) (by kernel_rfl) (by kernel_rfl) (rd_L99_3 N) trivial) (N:=N) (by kernel_rfl) (fn_L99 N) (.inl (by kernel_rfl))
noncomputable def h_L185:Hint:={ tab,hn:=[],loops:=[],outs:=[],ords:=[] }
noncomputable def sg_L185:List AK:=[.v tQIIIIE .k]
noncomputable def F_L185 (N:Nat) (x:AVals sg_L185) (kf:Ret→Option Ret):Option Ret:=L185 N x.1 (fun r0=>kf ⟨[⟨tQIIIIE,.k,r0⟩],[]⟩)
noncomputable def run_L185 (N:Nat):=runOf sg_L185 (F_L185 N)
noncomputable def es_L185 (N:Nat):List Entry:=[]
noncomputable def body_L185:Code:=match Tryz.f185.body with | some c=>c | none=>.skip
theorem ls_L185:loopsIn body_L185=[]:=by kernel_rfl
theorem fn_L185 (N:Nat) (x:AVals sg_L185) (kf:Ret→Option Ret):F_L185 N x kf=peFunc h_L185 (Orc.of (es_L185 N)) (noL N N) Tryz.f185 (ashape sg_L185 x) kf:=by kernel_rfl
theorem sd_L185 {Γ : Gl} (N:Nat):Sound Γ Tryz.prog 185 (run_L185 N):=fun_ok2 (hh:=h_L185) mixed tab_ok (es:=es_L185 N) trivial (fn:=Tryz.f185) (body:=body_L185) (by kernel_rfl) (by kernel_rfl) (by kernel_rfl) (by kernel_rfl) (by kernel_rfl) (Lf:=noL N) (noL0 N) ls_L185 trivial (N:=N) (by kernel_rfl) (fn_L185 N) (.inl (by kernel_rfl))
noncomputable def ks_L100_l3:List Kd:=[.v (.sl tQIIIIE) .k,dK,dK,.v (.sl tQIIIIE) (.o 102 none .k),.v (.int .i64) .k,dK,dK,dK,dK,dK,dK,dK,dK,dK,dK,dK,dK,dK,dK,dK,dK,dK,dK]
noncomputable def ko_L100_l3_0:List Kd:=[dK,dK,dK,.v (.sl tQIIIIE) (.o 102 none .k),dK,dK,dK,dK,dK,dK,dK,dK,dK,dK,dK,dK,dK,dK,dK,dK,dK,dK,dK]
noncomputable def h_L100:Hint:={ tab,hn:=[],loops:=[(3,ks_L100_l3)],outs:=[(3,2,ko_L100_l3_0)],ords:=[] }
noncomputable def sg_L100:List AK:=[.v (.sl tQIIIIE) .k]
noncomputable def F_L100 (N:Nat) (x:AVals sg_L100) (kf:Ret→Option Ret):Option Ret:=L100 N x.1 (fun r0=>kf ⟨[⟨(.sl tQIIIIE),(.o 102 none .k),r0⟩],[]⟩)
noncomputable def run_L100 (N:Nat):=runOf sg_L100 (F_L100 N)
noncomputable def es_L100 (N:Nat):List Entry:=[⟨185,[.val],(run_L185 N)⟩]
noncomputable def body_L100:Code:=match Tryz.f100.body with | some c=>c | none=>.skip
noncomputable def L_L100 (N n:Nat) (key:Nat) (S:St) (K:Ks):Option Ret:=bif Nat.beq key 3 then withVals ks_L100_l3 S (fun x=>L100_l3 N x.1 n (fun z0=>K (.x 0) (shape ko_L100_l3_0 (z0,()))) x.2.1 x.2.2.1) else none
theorem L0_L100 (N key:Nat) (S:St) (K:Ks):L_L100 N 0 key S K=none:=(bif0 (withVals0 fun _=>rfl) rfl)
noncomputable def c_L100_0:Code:=(loopsIn body_L100).getD 0 .skip
theorem ls_L100:loopsIn body_L100=[c_L100_0]:=by kernel_rfl
theorem rd_L100_3 (N n:Nat) (x:Vals ks_L100_l3) (K:Ks):L_L100 N (n + 1) 3 (shape ks_L100_l3 x) (h_L100.onOut 3 K)=peRound h_L100 (Orc.of (es_L100 N)) (mixL (L_L100 N) N n 3) c_L100_0 (shape ks_L100_l3 x) (h_L100.onOut 3 K):=by kernel_rfl
theorem fn_L100 (N:Nat) (x:AVals sg_L100) (kf:Ret→Option Ret):F_L100 N x kf=peFunc h_L100 (Orc.of (es_L100 N)) (L_L100 N N) Tryz.f100 (ashape sg_L100 x) kf:=by kernel_rfl
theorem sd_L100 {Γ : Gl} (N:Nat):Sound Γ Tryz.prog 100 (run_L100 N):=fun_ok2 (hh:=h_L100) mixed tab_ok (es:=es_L100 N) ⟨sd_L185 N,trivial⟩ (fn:=Tryz.f100) (body:=body_L100) (by kernel_rfl) (by kernel_rfl) (by kernel_rfl) (by kernel_rfl) (by kernel_rfl) (Lf:=L_L100 N) (L0_L100 N) ls_L100 (round_cons (key:=3) (ks:=ks_L100_l3) (by kernel_rfl) (by kernel_rfl) (rd_L100_3 N) trivial) (N:=N) (by kernel_rfl) (fn_L100 N) (.inl (by kernel_rfl))
noncomputable def h_L22:Hint:={ tab,hn:=[],loops:=[],outs:=[],ords:=[] }
noncomputable def sg_L22:List AK:=[.v tQLQIIIIILIELQIILIELQIIELILQIIIELQIIIIEIE .k]
noncomputable def F_L22 (N:Nat) (x:AVals sg_L22) (kf:Ret→Option Ret):Option Ret:=L22 N x.1 (fun r0=>kf ⟨[⟨tQLQIIIIILIELQIILIELQIIELILQIIIELQIIIIEIE,(.p (.o 46 none (.p .k (.p .k (.p .k (.p .k (.p .k (.o 3 none .k))))))) (.p (.o 80 none (.p .k (.p .k (.o 3 none .k)))) (.p (.o 104 none .k) (.p (.o 3 none .k) (.p (.o 136 none .k) (.p (.o 102 none .k) .k)))))),r0⟩],[]⟩)
noncomputable def run_L22 (N:Nat):=runOf sg_L22 (F_L22 N)
noncomputable def es_L22 (N:Nat):List Entry:=[⟨95,[.val],(run_L95 N)⟩,⟨96,[.val],(run_L96 N)⟩,⟨97,[.val],(run_L97 N)⟩,⟨98,[.val],(run_L98 N)⟩,⟨99,[.val],(run_L99 N)⟩,⟨100,[.val],(run_L100 N)⟩]
noncomputable def body_L22:Code:=match Tryz.f22.body with | some c=>c | none=>.skip
theorem ls_L22:loopsIn body_L22=[]:=by kernel_rfl
theorem fn_L22 (N:Nat) (x:AVals sg_L22) (kf:Ret→Option Ret):F_L22 N x kf=peFunc h_L22 (Orc.of (es_L22 N)) (noL N N) Tryz.f22 (ashape sg_L22 x) kf:=by kernel_rfl
theorem sd_L22 {Γ : Gl} (N:Nat):Sound Γ Tryz.prog 22 (run_L22 N):=fun_ok2 (hh:=h_L22) mixed tab_ok (es:=es_L22 N) ⟨sd_L95 N,⟨sd_L96 N,⟨sd_L97 N,⟨sd_L98 N,⟨sd_L99 N,⟨sd_L100 N,trivial⟩⟩⟩⟩⟩⟩ (fn:=Tryz.f22) (body:=body_L22) (by kernel_rfl) (by kernel_rfl) (by kernel_rfl) (by kernel_rfl) (by kernel_rfl) (Lf:=noL N) (noL0 N) ls_L22 trivial (N:=N) (by kernel_rfl) (fn_L22 N) (.inl (by kernel_rfl))
noncomputable def ks_S173_l3:List Kd:=[.v (.sl tQIIIIILIE) .k,dK,dK,.v (.sl tQIIIIILIE) (.o 46 none (.p .k (.p .k (.p .k (.p .k (.p .k (.o 3 none .k))))))),.v (.int .i64) .k,dK,dK,dK,dK,dK,dK,dK,dK,dK,dK,dK,dK,dK,dK,dK,dK,dK,dK,dK,dK,dK,dK]
noncomputable def ko_S173_l3_0:List Kd:=[dK,dK,dK,.v (.sl tQIIIIILIE) (.o 46 none (.p .k (.p .k (.p .k (.p .k (.p .k (.o 3 none .k))))))),dK,dK,dK,dK,dK,dK,dK,dK,dK,dK,dK,dK,dK,dK,dK,dK,dK,dK,dK,dK,dK,dK,dK]
noncomputable def h_S173:Hint:={ tab,hn:=[(6,(.p .k (.p .k (.p .k (.p .k (.p .k (.o 3 none .k)))))))],loops:=[(3,ks_S173_l3)],outs:=[(3,2,ko_S173_l3_0)],ords:=[] }
noncomputable def sg_S173:List AK:=[.v (.sl tQIIIIILIE) .k]
noncomputable def F_S173 (N:Nat) (x:AVals sg_S173) (kf:Ret→Option Ret):Option Ret:=S173 N x.1 (fun r0=>kf ⟨[⟨(.sl tQIIIIILIE),(.o 46 none (.p .k (.p .k (.p .k (.p .k (.p .k (.o 3 none .k))))))),r0⟩],[]⟩)
noncomputable def run_S173 (N:Nat):=runOf sg_S173 (F_S173 N)
noncomputable def es_S173 (N:Nat):List Entry:=[]
noncomputable def body_S173:Code:=match Tryz.f173.body with | some c=>c | none=>.skip
noncomputable def L_S173 (N n:Nat) (key:Nat) (S:St) (K:Ks):Option Ret:=bif Nat.beq key 3 then withVals ks_S173_l3 S (fun x=>S173_l3 x.1 n (fun z0=>K (.x 0) (shape ko_S173_l3_0 (z0,()))) x.2.1 x.2.2.1) else none
theorem L0_S173 (N key:Nat) (S:St) (K:Ks):L_S173 N 0 key S K=none:=(bif0 (withVals0 fun _=>rfl) rfl)
noncomputable def c_S173_0:Code:=(loopsIn body_S173).getD 0 .skip
theorem ls_S173:loopsIn body_S173=[c_S173_0]:=by kernel_rfl
theorem rd_S173_3 (N n:Nat) (x:Vals ks_S173_l3) (K:Ks):L_S173 N (n + 1) 3 (shape ks_S173_l3 x) (h_S173.onOut 3 K)=peRound h_S173 (Orc.of (es_S173 N)) (mixL (L_S173 N) N n 3) c_S173_0 (shape ks_S173_l3 x) (h_S173.onOut 3 K):=by kernel_rfl
theorem fn_S173 (N:Nat) (x:AVals sg_S173) (kf:Ret→Option Ret):F_S173 N x kf=peFunc h_S173 (Orc.of (es_S173 N)) (L_S173 N N) Tryz.f173 (ashape sg_S173 x) kf:=by kernel_rfl
theorem sd_S173 {Γ : Gl} (N:Nat):Sound Γ Tryz.prog 173 (run_S173 N):=fun_ok2 (hh:=h_S173) mixed tab_ok (es:=es_S173 N) trivial (fn:=Tryz.f173) (body:=body_S173) (by kernel_rfl) (by kernel_rfl) (by kernel_rfl) (by kernel_rfl) (by kernel_rfl) (Lf:=L_S173 N) (L0_S173 N) ls_S173 (round_cons (key:=3) (ks:=ks_S173_l3) (by kernel_rfl) (by kernel_rfl) (rd_S173_3 N) trivial) (N:=N) (by kernel_rfl) (fn_S173 N) (.inl (by kernel_rfl))
noncomputable def ks_S174_l3:List Kd:=[.v (.sl tQIILIE) .k,dK,dK,.v (.sl tQIILIE) (.o 80 none (.p .k (.p .k (.o 3 none .k)))),.v (.int .i64) .k,dK,dK,dK,dK,dK,dK,dK,dK,dK,dK,dK,dK,dK,dK,dK,dK,dK,dK,dK,dK,dK,dK]
noncomputable def ko_S174_l3_0:List Kd:=[dK,dK,dK,.v (.sl tQIILIE) (.o 80 none (.p .k (.p .k (.o 3 none .k)))),dK,dK,dK,dK,dK,dK,dK,dK,dK,dK,dK,dK,dK,dK,dK,dK,dK,dK,dK,dK,dK,dK,dK]
noncomputable def h_S174:Hint:={ tab,hn:=[(6,(.p .k (.p .k (.o 3 none .k))))],loops:=[(3,ks_S174_l3)],outs:=[(3,2,ko_S174_l3_0)],ords:=[] }
noncomputable def sg_S174:List AK:=[.v (.sl tQIILIE) .k]
noncomputable def F_S174 (N:Nat) (x:AVals sg_S174) (kf:Ret→Option Ret):Option Ret:=S174 N x.1 (fun r0=>kf ⟨[⟨(.sl tQIILIE),(.o 80 none (.p .k (.p .k (.o 3 none .k)))),r0⟩],[]⟩)
noncomputable def run_S174 (N:Nat):=runOf sg_S174 (F_S174 N)
noncomputable def es_S174 (N:Nat):List Entry:=[]
noncomputable def body_S174:Code:=match Tryz.f174.body with | some c=>c | none=>.skip
noncomputable def L_S174 (N n:Nat) (key:Nat) (S:St) (K:Ks):Option Ret:=bif Nat.beq key 3 then withVals ks_S174_l3 S (fun x=>S174_l3 x.1 n (fun z0=>K (.x 0) (shape ko_S174_l3_0 (z0,()))) x.2.1 x.2.2.1) else none
theorem L0_S174 (N key:Nat) (S:St) (K:Ks):L_S174 N 0 key S K=none:=(bif0 (withVals0 fun _=>rfl) rfl)
noncomputable def c_S174_0:Code:=(loopsIn body_S174).getD 0 .skip
theorem ls_S174:loopsIn body_S174=[c_S174_0]:=by kernel_rfl
theorem rd_S174_3 (N n:Nat) (x:Vals ks_S174_l3) (K:Ks):L_S174 N (n + 1) 3 (shape ks_S174_l3 x) (h_S174.onOut 3 K)=peRound h_S174 (Orc.of (es_S174 N)) (mixL (L_S174 N) N n 3) c_S174_0 (shape ks_S174_l3 x) (h_S174.onOut 3 K):=by kernel_rfl
theorem fn_S174 (N:Nat) (x:AVals sg_S174) (kf:Ret→Option Ret):F_S174 N x kf=peFunc h_S174 (Orc.of (es_S174 N)) (L_S174 N N) Tryz.f174 (ashape sg_S174 x) kf:=by kernel_rfl
theorem sd_S174 {Γ : Gl} (N:Nat):Sound Γ Tryz.prog 174 (run_S174 N):=fun_ok2 (hh:=h_S174) mixed tab_ok (es:=es_S174 N) trivial (fn:=Tryz.f174) (body:=body_S174) (by kernel_rfl) (by kernel_rfl) (by kernel_rfl) (by kernel_rfl) (by kernel_rfl) (Lf:=L_S174 N) (L0_S174 N) ls_S174 (round_cons (key:=3) (ks:=ks_S174_l3) (by kernel_rfl) (by kernel_rfl) (rd_S174_3 N) trivial) (N:=N) (by kernel_rfl) (fn_S174 N) (.inl (by kernel_rfl))
noncomputable def h_S90:Hint:={ tab,hn:=[],loops:=[],outs:=[],ords:=[(1,(OT.seq [0,1,3,4,7,8,11,15,19,22] (.any [2,5,6,9,10,12,13,14,16,17,18,20,21,23] (OT.seq [24,25] .done))))] }
noncomputable def sg_S90:List AK:=[.v tQLQIIIIILIELQIILIELQIIELILQIIIELQIIIIEIE .k]
noncomputable def F_S90 (N:Nat) (x:AVals sg_S90) (kf:Ret→Option Ret):Option Ret:=S90 N x.1 (fun r0=>kf ⟨[⟨tQLQIIIIILIELQIILIELQIIELILQIIIELQIIIIEIE,(.p (.o 46 none (.p .k (.p .k (.p .k (.p .k (.p .k (.o 3 none .k))))))) (.p (.o 80 none (.p .k (.p .k (.o 3 none .k)))) (.p (.o 104 none .k) (.p (.o 3 none .k) (.p (.o 136 none .k) (.p (.o 102 none .k) .k)))))),r0⟩],[]⟩)
noncomputable def run_S90 (N:Nat):=runOf sg_S90 (F_S90 N)
noncomputable def es_S90 (N:Nat):List Entry:=[⟨173,[.val],(run_S173 N)⟩,⟨174,[.val],(run_S174 N)⟩]
noncomputable def body_S90:Code:=match Tryz.f90.body with | some c=>c | none=>.skip
theorem ls_S90:loopsIn body_S90=[]:=by kernel_rfl
theorem fn_S90 (N:Nat) (x:AVals sg_S90) (kf:Ret→Option Ret):F_S90 N x kf=peFunc h_S90 (Orc.of (es_S90 N)) (noL N N) Tryz.f90 (ashape sg_S90 x) kf:=by kernel_rfl
theorem sd_S90 {Γ : Gl} (N:Nat):Sound Γ Tryz.prog 90 (run_S90 N):=fun_ok2 (hh:=h_S90) mixed tab_ok (es:=es_S90 N) ⟨sd_S173 N,⟨sd_S174 N,trivial⟩⟩ (fn:=Tryz.f90) (body:=body_S90) (by kernel_rfl) (by kernel_rfl) (by kernel_rfl) (by kernel_rfl) (by kernel_rfl) (Lf:=noL N) (noL0 N) ls_S90 trivial (N:=N) (by kernel_rfl) (fn_S90 N) (.inl (by kernel_rfl))
noncomputable def h_S195:Hint:={ tab,hn:=[],loops:=[],outs:=[],ords:=[] }
noncomputable def sg_S195:List AK:=[.v (.int .i64) .k,.v (.int .i64) .k,.v (.int .i64) .k]
noncomputable def F_S195 (N:Nat) (x:AVals sg_S195) (kf:Ret→Option Ret):Option Ret:=S195 N x.1 x.2.1 x.2.2.1 (fun r0=>kf ⟨[⟨.bool,.k,r0⟩],[]⟩)
noncomputable def run_S195 (N:Nat):=runOf sg_S195 (F_S195 N)
noncomputable def es_S195 (N:Nat):List Entry:=[]
noncomputable def body_S195:Code:=match Tryz.f195.body with | some c=>c | none=>.skip
theorem ls_S195:loopsIn body_S195=[]:=by kernel_rfl
theorem fn_S195 (N:Nat) (x:AVals sg_S195) (kf:Ret→Option Ret):F_S195 N x kf=peFunc h_S195 (Orc.of (es_S195 N)) (noL N N) Tryz.f195 (ashape sg_S195 x) kf:=by kernel_rfl
theorem sd_S195 {Γ : Gl} (N:Nat):Sound Γ Tryz.prog 195 (run_S195 N):=fun_ok2 (hh:=h_S195) mixed tab_ok (es:=es_S195 N) trivial (fn:=Tryz.f195) (body:=body_S195) (by kernel_rfl) (by kernel_rfl) (by kernel_rfl) (by kernel_rfl) (by kernel_rfl) (Lf:=noL N) (noL0 N) ls_S195 trivial (N:=N) (by kernel_rfl) (fn_S195 N) (.inl (by kernel_rfl))
noncomputable def ks_S200_l2:List Kd:=[.v (.sl tQIIIIILIE) .k,.v (.int .i64) .k,dK,dK,dK,.v (.int .i64) .k,dK,dK,dK,dK,dK,dK,dK,dK,dK,dK,dK,dK,dK,dK]
noncomputable def ko_S200_l2_0:List Kd:=[dK,dK,dK,dK,dK,dK,dK,dK,dK,dK,dK,dK,dK,dK,dK,dK,dK,dK,dK,dK]
noncomputable def ko_S200_l2_1:List Kd:=[dK,dK,dK,dK,.v (.int .i64) .k,dK,dK,dK,dK,dK,dK,dK,dK,dK,dK,dK,dK,dK,dK,dK]
noncomputable def h_S200:Hint:={ tab,hn:=[],loops:=[(2,ks_S200_l2)],outs:=[(2,2,ko_S200_l2_0),(2,1,ko_S200_l2_1)],ords:=[] }
noncomputable def sg_S200:List AK:=[.v (.sl tQIIIIILIE) .k,.v (.int .i64) .k]
noncomputable def F_S200 (N:Nat) (x:AVals sg_S200) (kf:Ret→Option Ret):Option Ret:=S200 N x.1 x.2.1 (fun r0=>kf ⟨[⟨(.int .i64),.k,r0⟩],[]⟩)
noncomputable def run_S200 (N:Nat):=runOf sg_S200 (F_S200 N)
noncomputable def es_S200 (N:Nat):List Entry:=[]
noncomputable def body_S200:Code:=match Tryz.f200.body with | some c=>c | none=>.skip
noncomputable def L_S200 (N n:Nat) (key:Nat) (S:St) (K:Ks):Option Ret:=bif Nat.beq key 2 then withVals ks_S200_l2 S (fun x=>S200_l2 x.1 x.2.1 n (K (.x 0) (shape ko_S200_l2_0 ())) (fun z0=>K .r (shape ko_S200_l2_1 (z0,()))) x.2.2.1) else none
theorem L0_S200 (N key:Nat) (S:St) (K:Ks):L_S200 N 0 key S K=none:=(bif0 (withVals0 fun _=>rfl) rfl)
noncomputable def c_S200_0:Code:=(loopsIn body_S200).getD 0 .skip
theorem ls_S200:loopsIn body_S200=[c_S200_0]:=by kernel_rfl
theorem rd_S200_2 (N n:Nat) (x:Vals ks_S200_l2) (K:Ks):L_S200 N (n + 1) 2 (shape ks_S200_l2 x) (h_S200.onOut 2 K)=peRound h_S200 (Orc.of (es_S200 N)) (mixL (L_S200 N) N n 2) c_S200_0 (shape ks_S200_l2 x) (h_S200.onOut 2 K):=by kernel_rfl
theorem fn_S200 (N:Nat) (x:AVals sg_S200) (kf:Ret→Option Ret):F_S200 N x kf=peFunc h_S200 (Orc.of (es_S200 N)) (L_S200 N N) Tryz.f200 (ashape sg_S200 x) kf:=by kernel_rfl
theorem sd_S200 {Γ : Gl} (N:Nat):Sound Γ Tryz.prog 200 (run_S200 N):=fun_ok2 (hh:=h_S200) mixed tab_ok (es:=es_S200 N) trivial (fn:=Tryz.f200) (body:=body_S200) (by kernel_rfl) (by kernel_rfl) (by kernel_rfl) (by kernel_rfl) (by kernel_rfl) (Lf:=L_S200 N) (L0_S200 N) ls_S200 (round_cons (key:=2) (ks:=ks_S200_l2) (by kernel_rfl) (by kernel_rfl) (rd_S200_2 N) trivial) (N:=N) (by kernel_rfl) (fn_S200 N) (.inl (by kernel_rfl))
noncomputable def ks_S220_l3:List Kd:=[.v (.sl (.int .i64)) .k,.v (.int .i64) .k,dK,dK,dK,.v (.int .i64) .k,.v (.int .i64) .k,dK,dK,dK,dK,dK,dK,dK,dK,dK,dK,dK,dK,dK,dK,dK]
noncomputable def ko_S220_l3_0:List Kd:=[dK,dK,dK,dK,dK,.v (.int .i64) .k,dK,dK,dK,dK,dK,dK,dK,dK,dK,dK,dK,dK,dK,dK,dK,dK]
noncomputable def h_S220:Hint:={ tab,hn:=[],loops:=[(3,ks_S220_l3)],outs:=[(3,2,ko_S220_l3_0)],ords:=[] }
noncomputable def sg_S220:List AK:=[.v (.sl (.int .i64)) .k,.v (.int .i64) .k]
noncomputable def F_S220 (N:Nat) (x:AVals sg_S220) (kf:Ret→Option Ret):Option Ret:=S220 N x.1 x.2.1 (fun r0=>kf ⟨[⟨(.int .i64),.k,r0⟩],[]⟩)
noncomputable def run_S220 (N:Nat):=runOf sg_S220 (F_S220 N)
noncomputable def es_S220 (N:Nat):List Entry:=[]
noncomputable def body_S220:Code:=match Tryz.f220.body with | some c=>c | none=>.skip
noncomputable def L_S220 (N n:Nat) (key:Nat) (S:St) (K:Ks):Option Ret:=bif Nat.beq key 3 then withVals ks_S220_l3 S (fun x=>S220_l3 x.1 x.2.1 n (fun z0=>K (.x 0) (shape ko_S220_l3_0 (z0,()))) x.2.2.1 x.2.2.2.1) else none
theorem L0_S220 (N key:Nat) (S:St) (K:Ks):L_S220 N 0 key S K=none:=(bif0 (withVals0 fun _=>rfl) rfl)
noncomputable def c_S220_0:Code:=(loopsIn body_S220).getD 0 .skip
theorem ls_S220:loopsIn body_S220=[c_S220_0]:=by kernel_rfl
theorem rd_S220_3 (N n:Nat) (x:Vals ks_S220_l3) (K:Ks):L_S220 N (n + 1) 3 (shape ks_S220_l3 x) (h_S220.onOut 3 K)=peRound h_S220 (Orc.of (es_S220 N)) (mixL (L_S220 N) N n 3) c_S220_0 (shape ks_S220_l3 x) (h_S220.onOut 3 K):=by kernel_rfl
theorem fn_S220 (N:Nat) (x:AVals sg_S220) (kf:Ret→Option Ret):F_S220 N x kf=peFunc h_S220 (Orc.of (es_S220 N)) (L_S220 N N) Tryz.f220 (ashape sg_S220 x) kf:=by kernel_rfl
theorem sd_S220 {Γ : Gl} (N:Nat):Sound Γ Tryz.prog 220 (run_S220 N):=fun_ok2 (hh:=h_S220) mixed tab_ok (es:=es_S220 N) trivial (fn:=Tryz.f220) (body:=body_S220) (by kernel_rfl) (by kernel_rfl) (by kernel_rfl) (by kernel_rfl) (by kernel_rfl) (Lf:=L_S220 N) (L0_S220 N) ls_S220 (round_cons (key:=3) (ks:=ks_S220_l3) (by kernel_rfl) (by kernel_rfl) (rd_S220_3 N) trivial) (N:=N) (by kernel_rfl) (fn_S220 N) (.inl (by kernel_rfl))
noncomputable def ks_S175_l8:List Kd:=[.v (.sl tQIIIIILIE) .k,dK,dK,.v (.int .i64) .k,.v (.ptr tQIIIIILIE) (.o 46 none .k),.v (.int .i64) .k,dK,dK,dK,dK,dK,dK,dK,dK,dK,dK,dK,dK,dK,dK,dK,dK,dK,dK,dK,dK,dK,dK,dK,dK,dK,dK,dK,dK,dK,dK,dK,dK,dK,dK,dK,dK,dK,dK,dK,dK,dK,dK,dK,dK,dK,dK,dK,dK,dK,dK,dK,dK,dK,dK,dK,dK,dK,dK,dK,dK,dK,dK,dK,dK,dK,dK,dK,dK,dK,dK,dK,dK,dK,dK,dK,dK,dK,dK,dK,dK,dK,dK,dK,dK,dK,dK,dK,dK,dK,dK,dK,dK,dK,dK,dK,dK,dK,dK,dK,dK,dK,dK,dK,dK,dK,dK,dK,dK,dK]
noncomputable def ko_S175_l8_0:List Kd:=[.v (.sl tQIIIIILIE) .k,dK,dK,.v (.int .i64) .k,dK,dK,dK,dK,dK,dK,dK,dK,dK,dK,dK,dK,dK,dK,dK,dK,dK,dK,dK,dK,dK,dK,dK,dK,dK,dK,dK,dK,dK,dK,dK,dK,dK,dK,dK,dK,dK,dK,dK,dK,dK,dK,dK,dK,dK,dK,dK,dK,dK,dK,dK,dK,dK,dK,dK,dK,dK,dK,dK,dK,dK,dK,dK,dK,dK,dK,dK,dK,dK,dK,dK,dK,dK,dK,dK,dK,dK,dK,dK,dK,dK,dK,dK,dK,dK,dK,dK,dK,dK,dK,dK,dK,dK,dK,dK,dK,dK,dK,dK,dK,dK,dK,dK,dK,dK,dK,dK,dK,dK,dK,dK]
noncomputable def ko_S175_l8_1:List Kd:=[dK,dK,.v .bool .k,dK,dK,dK,dK,dK,dK,dK,dK,dK,dK,dK,dK,dK,dK,dK,dK,dK,dK,dK,dK,dK,dK,dK,dK,dK,dK,dK,dK,dK,dK,dK,dK,dK,dK,dK,dK,dK,dK,dK,dK,dK,dK,dK,dK,dK,dK,dK,dK,dK,dK,dK,dK,dK,dK,dK,dK,dK,dK,dK,dK,dK,dK,dK,dK,dK,dK,dK,dK,dK,dK,dK,dK,dK,dK,dK,dK,dK,dK,dK,dK,dK,dK,dK,dK,dK,dK,dK,dK,dK,dK,dK,dK,dK,dK,dK,dK,dK,dK,dK,dK,dK,dK,dK,dK,dK,dK,dK,dK,dK,dK,dK,dK]
noncomputable def ks_S175_l2:List Kd:=[.v (.sl tQIIIIILIE) .k,dK,dK,.v (.int .i64) .k,dK,dK,dK,dK,dK,dK,dK,dK,dK,dK,dK,dK,dK,dK,dK,dK,dK,dK,dK,dK,dK,dK,dK,dK,dK,dK,dK,dK,dK,dK,dK,dK,dK,dK,dK,dK,dK,dK,dK,dK,dK,dK,dK,dK,dK,dK,dK,dK,dK,dK,dK,dK,dK,dK,dK,dK,dK,dK,dK,dK,dK,dK,dK,dK,dK,dK,dK,dK,dK,dK,dK,dK,dK,dK,dK,dK,dK,dK,dK,dK,dK,dK,dK,dK,dK,dK,dK,dK,dK,dK,dK,dK,dK,dK,dK,dK,dK,dK,dK,dK,dK,dK,dK,dK,dK,dK,dK,dK,dK,dK,dK]
noncomputable def ko_S175_l2_0:List Kd:=[.v (.sl tQIIIIILIE) .k,dK,dK,dK,dK,dK,dK,dK,dK,dK,dK,dK,dK,dK,dK,dK,dK,dK,dK,dK,dK,dK,dK,dK,dK,dK,dK,dK,dK,dK,dK,dK,dK,dK,dK,dK,dK,dK,dK,dK,dK,dK,dK,dK,dK,dK,dK,dK,dK,dK,dK,dK,dK,dK,dK,dK,dK,dK,dK,dK,dK,dK,dK,dK,dK,dK,dK,dK,dK,dK,dK,dK,dK,dK,dK,dK,dK,dK,dK,dK,dK,dK,dK,dK,dK,dK,dK,dK,dK,dK,dK,dK,dK,dK,dK,dK,dK,dK,dK,dK,dK,dK,dK,dK,dK,dK,dK,dK,dK,dK,dK,dK,dK,dK,dK]
noncomputable def ko_S175_l2_1:List Kd:=[dK,dK,.v .bool .k,dK,dK,dK,dK,dK,dK,dK,dK,dK,dK,dK,dK,dK,dK,dK,dK,dK,dK,dK,dK,dK,dK,dK,dK,dK,dK,dK,dK,dK,dK,dK,dK,dK,dK,dK,dK,dK,dK,dK,dK,dK,dK,dK,dK,dK,dK,dK,dK,dK,dK,dK,dK,dK,dK,dK,dK,dK,dK,dK,dK,dK,dK,dK,dK,dK,dK,dK,dK,dK,dK,dK,dK,dK,dK,dK,dK,dK,dK,dK,dK,dK,dK,dK,dK,dK,dK,dK,dK,dK,dK,dK,dK,dK,dK,dK,dK,dK,dK,dK,dK,dK,dK,dK,dK,dK,dK,dK,dK,dK,dK,dK,dK]
noncomputable def h_S175:Hint:={ tab,hn:=[],loops:=[(8,ks_S175_l8),(2,ks_S175_l2)],outs:=[(8,4,ko_S175_l8_0),(8,1,ko_S175_l8_1),(2,2,ko_S175_l2_0),(2,1,ko_S175_l2_1)],ords:=[(5,(OT.seq [0,1,2,3,4,5,6,7,8,9,10,11,12,13,14,15,16,17,18,19,20,21,22,23,24,25,26,27,28,29,30,31,32,33,34,35,36,37,38,39,40,41,42,43,44,45,46,47,48,49,50,51,52,53,54] .done)),(11,(OT.seq [0,1,2,3,4,5,6,7,8,9,10,11,12,13,14,16,17,18,19,20,21,22,15,23,24,25] .done))] }
noncomputable def sg_S175:List AK:=[.v (.sl tQIIIIILIE) .k]
noncomputable def F_S175 (N:Nat) (x:AVals sg_S175) (kf:Ret→Option Ret):Option Ret:=S175 N x.1 (fun r0=>kf ⟨[⟨.bool,.k,r0⟩],[]⟩)
noncomputable def run_S175 (N:Nat):=runOf sg_S175 (F_S175 N)
noncomputable def es_S175 (N:Nat):List Entry:=[⟨195,[.val,.val,.val],(run_S195 N)⟩,⟨200,[.val,.val],(run_S200 N)⟩,⟨220,[.val,.val],(run_S220 N)⟩]
noncomputable def body_S175:Code:=match Tryz.f175.body with | some c=>c | none=>.skip
noncomputable def L_S175 (N n:Nat) (key:Nat) (S:St) (K:Ks):Option Ret:=bif Nat.beq key 2 then withVals ks_S175_l2 S (fun x=>S175_l2 N x.1 n (K (.x 0) (shape ko_S175_l2_0 (x.1,()))) (fun z0=>K .r (shape ko_S175_l2_1 (z0,()))) x.2.1) else bif Nat.beq key 8 then withVals ks_S175_l8 S (fun x=>S175_l8 N x.1 x.2.1 x.2.2.1 n (K (.x 2) (shape ko_S175_l8_0 (x.1,x.2.1,()))) (fun z0=>K .r (shape ko_S175_l8_1 (z0,()))) x.2.2.2.1) else none
theorem L0_S175 (N key:Nat) (S:St) (K:Ks):L_S175 N 0 key S K=none:=(bif0 (withVals0 fun _=>rfl) (bif0 (withVals0 fun _=>rfl) rfl))
noncomputable def c_S175_0:Code:=(loopsIn body_S175).getD 0 .skip
noncomputable def c_S175_1:Code:=(loopsIn body_S175).getD 1 .skip
theorem ls_S175:loopsIn body_S175=[c_S175_0,c_S175_1]:=by kernel_rfl
theorem rd_S175_8 (N n:Nat) (x:Vals ks_S175_l8) (K:Ks):L_S175 N (n + 1) 8 (shape ks_S175_l8 x) (h_S175.onOut 8 K)=peRound h_S175 (Orc.of (es_S175 N)) (mixL (L_S175 N) N n 8) c_S175_1 (shape ks_S175_l8 x) (h_S175.onOut 8 K):=by kernel_rfl
theorem rd_S175_2 (N n:Nat) (x:Vals ks_S175_l2) (K:Ks):L_S175 N (n + 1) 2 (shape ks_S175_l2 x) (h_S175.onOut 2 K)=peRound h_S175 (Orc.of (es_S175 N)) (mixL (L_S175 N) N n 2) c_S175_0 (shape ks_S175_l2 x) (h_S175.onOut 2 K):=by kernel_rfl
theorem fn_S175 (N:Nat) (x:AVals sg_S175) (kf:Ret→Option Ret):F_S175 N x kf=peFunc h_S175 (Orc.of (es_S175 N)) (L_S175 N N) Tryz.f175 (ashape sg_S175 x) kf:=by kernel_rfl
theorem sd_S175 {Γ : Gl} (N:Nat):Sound Γ Tryz.prog 175 (run_S175 N):=fun_ok2 (hh:=h_S175) mixed tab_ok (es:=es_S175 N) ⟨sd_S195 N,⟨sd_S200 N,⟨sd_S220 N,trivial⟩⟩⟩ (fn:=Tryz.f175) (body:=body_S175) (by kernel_rfl) (by kernel_rfl) (by kernel_rfl) (by kernel_rfl) (by kernel_rfl) (Lf:=L_S175 N) (L0_S175 N) ls_S175 (round_cons (key:=2) (ks:=ks_S175_l2) (by kernel_rfl) (by kernel_rfl) (rd_S175_2 N) (round_cons (key:=8) (ks:=ks_S175_l8) (by kernel_rfl) (by kernel_rfl) (rd_S175_8 N) trivial)) (N:=N) (by kernel_rfl) (fn_S175 N) (.inl (by kernel_rfl))
noncomputable def ks_S224_l2:List Kd:=[.v (.sl (.int .i64)) .k,.v (.int .i64) .k,dK,dK,dK,.v (.int .i64) .k,dK,dK,dK,dK,dK,dK,dK,dK,dK,dK,dK,dK]
noncomputable def ko_S224_l2_0:List Kd:=[dK,dK,dK,dK,dK,dK,dK,dK,dK,dK,dK,dK,dK,dK,dK,dK,dK,dK]
noncomputable def ko_S224_l2_1:List Kd:=[dK,dK,dK,dK,.v .bool .k,dK,dK,dK,dK,dK,dK,dK,dK,dK,dK,dK,dK,dK]
noncomputable def h_S224:Hint:={ tab,hn:=[],loops:=[(2,ks_S224_l2)],outs:=[(2,2,ko_S224_l2_0),(2,1,ko_S224_l2_1)],ords:=[] }
noncomputable def sg_S224:List AK:=[.v (.sl (.int .i64)) .k,.v (.int .i64) .k]
noncomputable def F_S224 (N:Nat) (x:AVals sg_S224) (kf:Ret→Option Ret):Option Ret:=S224 N x.1 x.2.1 (fun r0=>kf ⟨[⟨.bool,.k,r0⟩],[]⟩)
noncomputable def run_S224 (N:Nat):=runOf sg_S224 (F_S224 N)
noncomputable def es_S224 (N:Nat):List Entry:=[]
noncomputable def body_S224:Code:=match Tryz.f224.body with | some c=>c | none=>.skip
noncomputable def L_S224 (N n:Nat) (key:Nat) (S:St) (K:Ks):Option Ret:=bif Nat.beq key 2 then withVals ks_S224_l2 S (fun x=>S224_l2 x.1 x.2.1 n (K (.x 0) (shape ko_S224_l2_0 ())) (fun z0=>K .r (shape ko_S224_l2_1 (z0,()))) x.2.2.1) else none
theorem L0_S224 (N key:Nat) (S:St) (K:Ks):L_S224 N 0 key S K=none:=(bif0 (withVals0 fun _=>rfl) rfl)
noncomputable def c_S224_0:Code:=(loopsIn body_S224).getD 0 .skip
theorem ls_S224:loopsIn body_S224=[c_S224_0]:=by kernel_rfl
theorem rd_S224_2 (N n:Nat) (x:Vals ks_S224_l2) (K:Ks):L_S224 N (n + 1) 2 (shape ks_S224_l2 x) (h_S224.onOut 2 K)=peRound h_S224 (Orc.of (es_S224 N)) (mixL (L_S224 N) N n 2) c_S224_0 (shape ks_S224_l2 x) (h_S224.onOut 2 K):=by kernel_rfl
theorem fn_S224 (N:Nat) (x:AVals sg_S224) (kf:Ret→Option Ret):F_S224 N x kf=peFunc h_S224 (Orc.of (es_S224 N)) (L_S224 N N) Tryz.f224 (ashape sg_S224 x) kf:=by kernel_rfl
theorem sd_S224 {Γ : Gl} (N:Nat):Sound Γ Tryz.prog 224 (run_S224 N):=fun_ok2 (hh:=h_S224) mixed tab_ok (es:=es_S224 N) trivial (fn:=Tryz.f224) (body:=body_S224) (by kernel_rfl) (by kernel_rfl) (by kernel_rfl) (by kernel_rfl) (by kernel_rfl) (Lf:=L_S224 N) (L0_S224 N) ls_S224 (round_cons (key:=2) (ks:=ks_S224_l2) (by kernel_rfl) (by kernel_rfl) (rd_S224_2 N) trivial) (N:=N) (by kernel_rfl) (fn_S224 N) (.inl (by kernel_rfl))
noncomputable def h_S250:Hint:={ tab,hn:=[],loops:=[],outs:=[],ords:=[] }
noncomputable def sg_S250:List AK:=[.v (.sl tQIIIIILIE) .k,.v (.int .i64) .k,.v (.int .i64) .k]
noncomputable def F_S250 (N:Nat) (x:AVals sg_S250) (kf:Ret→Option Ret):Option Ret:=S250 N x.1 x.2.1 x.2.2.1 (fun r0=>kf ⟨[⟨.bool,.k,r0⟩],[]⟩)
noncomputable def run_S250 (N:Nat):=runOf sg_S250 (F_S250 N)
noncomputable def es_S250 (N:Nat):List Entry:=[⟨200,[.val,.val],(run_S200 N)⟩,⟨224,[.val,.val],(run_S224 N)⟩]
noncomputable def body_S250:Code:=match Tryz.f250.body with | some c=>c | none=>.skip
theorem ls_S250:loopsIn body_S250=[]:=by kernel_rfl
theorem fn_S250 (N:Nat) (x:AVals sg_S250) (kf:Ret→Option Ret):F_S250 N x kf=peFunc h_S250 (Orc.of (es_S250 N)) (noL N N) Tryz.f250 (ashape sg_S250 x) kf:=by kernel_rfl
theorem sd_S250 {Γ : Gl} (N:Nat):Sound Γ Tryz.prog 250 (run_S250 N):=fun_ok2 (hh:=h_S250) mixed tab_ok (es:=es_S250 N) ⟨sd_S200 N,⟨sd_S224 N,trivial⟩⟩ (fn:=Tryz.f250) (body:=body_S250) (by kernel_rfl) (by kernel_rfl) (by kernel_rfl) (by kernel_rfl) (by kernel_rfl) (Lf:=noL N) (noL0 N) ls_S250 trivial (N:=N) (by kernel_rfl) (fn_S250 N) (.inl (by kernel_rfl))
noncomputable def h_S221:Hint:={ tab,hn:=[],loops:=[],outs:=[],ords:=[(3,(OT.seq [0,1,2,3,4,5,6,7,8,9,10,11,12,13,14,15,16,17,18,19,20,21,22,23,24,25,26,27,28,29,30,31,32,33,34,35] .done))] }
noncomputable def sg_S221:List AK:=[.v (.sl tQIIIIILIE) .k,.v (.int .i64) .k,.v (.int .i64) .k]
noncomputable def F_S221 (N:Nat) (x:AVals sg_S221) (kf:Ret→Option Ret):Option Ret:=S221 N x.1 x.2.1 x.2.2.1 (fun r0=>kf ⟨[⟨.bool,.k,r0⟩],[]⟩)
noncomputable def run_S221 (N:Nat):=runOf sg_S221 (F_S221 N)
noncomputable def es_S221 (N:Nat):List Entry:=[⟨200,[.val,.val],(run_S200 N)⟩,⟨175,[.val],(run_S175 N)⟩,⟨250,[.val,.val,.val],(run_S250 N)⟩]
noncomputable def body_S221:Code:=match Tryz.f221.body with | some c=>c | none=>.skip
theorem ls_S221:loopsIn body_S221=[]:=by kernel_rfl
theorem fn_S221 (N:Nat) (x:AVals sg_S221) (kf:Ret→Option Ret):F_S221 N x kf=peFunc h_S221 (Orc.of (es_S221 N)) (noL N N) Tryz.f221 (ashape sg_S221 x) kf:=by kernel_rfl
theorem sd_S221 {Γ : Gl} (N:Nat):Sound Γ Tryz.prog 221 (run_S221 N):=fun_ok2 (hh:=h_S221) mixed tab_ok (es:=es_S221 N) ⟨sd_S200 N,⟨sd_S175 N,⟨sd_S250 N,trivial⟩⟩⟩ (fn:=Tryz.f221) (body:=body_S221) (by kernel_rfl) (by kernel_rfl) (by kernel_rfl) (by kernel_rfl) (by kernel_rfl) (Lf:=noL N) (noL0 N) ls_S221 trivial (N:=N) (by kernel_rfl) (fn_S221 N) (.inl (by kernel_rfl))
noncomputable def ks_S178_l7:List Kd:=[.v (.sl tQIILIE) .k,dK,dK,.v (.int .i64) .k,.v (.int .i64) .k,dK,dK,dK,dK,dK,dK,dK,dK,dK,dK,dK,dK,dK,dK,dK,dK,dK,dK,dK,dK,dK,dK,dK,dK,dK,dK,dK,dK,dK,dK,dK,dK,dK,dK,dK,dK,dK,dK,dK,dK,dK,dK,dK,dK,dK,dK,dK,dK,dK,dK,dK,dK,dK,dK,dK,dK,dK,dK,dK,dK,dK,dK,dK,dK,dK,dK,dK,dK,dK,dK,dK,dK,dK,dK,dK,dK,dK,dK,dK,dK,dK,dK,dK,dK,dK,dK,dK]
noncomputable def ko_S178_l7_0:List Kd:=[.v (.sl tQIILIE) .k,dK,dK,.v (.int .i64) .k,dK,dK,dK,dK,dK,dK,dK,dK,dK,dK,dK,dK,dK,dK,dK,dK,dK,dK,dK,dK,dK,dK,dK,dK,dK,dK,dK,dK,dK,dK,dK,dK,dK,dK,dK,dK,dK,dK,dK,dK,dK,dK,dK,dK,dK,dK,dK,dK,dK,dK,dK,dK,dK,dK,dK,dK,dK,dK,dK,dK,dK,dK,dK,dK,dK,dK,dK,dK,dK,dK,dK,dK,dK,dK,dK,dK,dK,dK,dK,dK,dK,dK,dK,dK,dK,dK,dK,dK]
noncomputable def ko_S178_l7_1:List Kd:=[dK,dK,.v .bool .k,dK,dK,dK,dK,dK,dK,dK,dK,dK,dK,dK,dK,dK,dK,dK,dK,dK,dK,dK,dK,dK,dK,dK,dK,dK,dK,dK,dK,dK,dK,dK,dK,dK,dK,dK,dK,dK,dK,dK,dK,dK,dK,dK,dK,dK,dK,dK,dK,dK,dK,dK,dK,dK,dK,dK,dK,dK,dK,dK,dK,dK,dK,dK,dK,dK,dK,dK,dK,dK,dK,dK,dK,dK,dK,dK,dK,dK,dK,dK,dK,dK,dK,dK,dK,dK,dK,dK,dK,dK]
noncomputable def ks_S178_l2:List Kd:=[.v (.sl tQIILIE) .k,dK,dK,.v (.int .i64) .k,dK,dK,dK,dK,dK,dK,dK,dK,dK,dK,dK,dK,dK,dK,dK,dK,dK,dK,dK,dK,dK,dK,dK,dK,dK,dK,dK,dK,dK,dK,dK,dK,dK,dK,dK,dK,dK,dK,dK,dK,dK,dK,dK,dK,dK,dK,dK,dK,dK,dK,dK,dK,dK,dK,dK,dK,dK,dK,dK,dK,dK,dK,dK,dK,dK,dK,dK,dK,dK,dK,dK,dK,dK,dK,dK,dK,dK,dK,dK,dK,dK,dK,dK,dK,dK,dK,dK,dK]
noncomputable def ko_S178_l2_0:List Kd:=[.v (.sl tQIILIE) .k,dK,dK,dK,dK,dK,dK,dK,dK,dK,dK,dK,dK,dK,dK,dK,dK,dK,dK,dK,dK,dK,dK,dK,dK,dK,dK,dK,dK,dK,dK,dK,dK,dK,dK,dK,dK,dK,dK,dK,dK,dK,dK,dK,dK,dK,dK,dK,dK,dK,dK,dK,dK,dK,dK,dK,dK,dK,dK,dK,dK,dK,dK,dK,dK,dK,dK,dK,dK,dK,dK,dK,dK,dK,dK,dK,dK,dK,dK,dK,dK,dK,dK,dK,dK,dK,dK,dK,dK,dK,dK,dK]
noncomputable def ko_S178_l2_1:List Kd:=[dK,dK,.v .bool .k,dK,dK,dK,dK,dK,dK,dK,dK,dK,dK,dK,dK,dK,dK,dK,dK,dK,dK,dK,dK,dK,dK,dK,dK,dK,dK,dK,dK,dK,dK,dK,dK,dK,dK,dK,dK,dK,dK,dK,dK,dK,dK,dK,dK,dK,dK,dK,dK,dK,dK,dK,dK,dK,dK,dK,dK,dK,dK,dK,dK,dK,dK,dK,dK,dK,dK,dK,dK,dK,dK,dK,dK,dK,dK,dK,dK,dK,dK,dK,dK,dK,dK,dK,dK,dK,dK,dK,dK,dK]
noncomputable def h_S178:Hint:={ tab,hn:=[],loops:=[(7,ks_S178_l7),(2,ks_S178_l2)],outs:=[(7,4,ko_S178_l7_0),(7,1,ko_S178_l7_1),(2,2,ko_S178_l2_0),(2,1,ko_S178_l2_1)],ords:=[(4,(OT.seq [0,1,2,3,4,5,6,7,8,9,10,11,12,13,14,15,16,17,18,19,20,21,22,23,24,25,26,27,28,29,30,31,32,33] .done)),(9,(OT.seq [0,1,2,3,4,5,6,7,8,9,10,11,12,13,14,15,16,17,18,19,20,21,22,23,24,25,26,27,28,29,30,31,32,33] .done))] }
noncomputable def sg_S178:List AK:=[.v (.sl tQIILIE) .k]
noncomputable def F_S178 (N:Nat) (x:AVals sg_S178) (kf:Ret→Option Ret):Option Ret:=S178 N x.1 (fun r0=>kf ⟨[⟨.bool,.k,r0⟩],[]⟩)
noncomputable def run_S178 (N:Nat):=runOf sg_S178 (F_S178 N)
noncomputable def es_S178 (N:Nat):List Entry:=[⟨195,[.val,.val,.val],(run_S195 N)⟩]
noncomputable def body_S178:Code:=match Tryz.f178.body with | some c=>c | none=>.skip
noncomputable def L_S178 (N n:Nat) (key:Nat) (S:St) (K:Ks):Option Ret:=bif Nat.beq key 2 then withVals ks_S178_l2 S (fun x=>S178_l2 N x.1 n (K (.x 0) (shape ko_S178_l2_0 (x.1,()))) (fun z0=>K .r (shape ko_S178_l2_1 (z0,()))) x.2.1) else bif Nat.beq key 7 then withVals ks_S178_l7 S (fun x=>S178_l7 N x.1 x.2.1 n (K (.x 2) (shape ko_S178_l7_0 (x.1,x.2.1,()))) (fun z0=>K .r (shape ko_S178_l7_1 (z0,()))) x.2.2.1) else none
theorem L0_S178 (N key:Nat) (S:St) (K:Ks):L_S178 N 0 key S K=none:=(bif0 (withVals0 fun _=>rfl) (bif0 (withVals0 fun _=>rfl) rfl))
noncomputable def c_S178_0:Code:=(loopsIn body_S178).getD 0 .skip
noncomputable def c_S178_1:Code:=(loopsIn body_S178).getD 1 .skip
theorem ls_S178:loopsIn body_S178=[c_S178_0,c_S178_1]:=by kernel_rfl
theorem rd_S178_7 (N n:Nat) (x:Vals ks_S178_l7) (K:Ks):L_S178 N (n + 1) 7 (shape ks_S178_l7 x) (h_S178.onOut 7 K)=peRound h_S178 (Orc.of (es_S178 N)) (mixL (L_S178 N) N n 7) c_S178_1 (shape ks_S178_l7 x) (h_S178.onOut 7 K):=by kernel_rfl
theorem rd_S178_2 (N n:Nat) (x:Vals ks_S178_l2) (K:Ks):L_S178 N (n + 1) 2 (shape ks_S178_l2 x) (h_S178.onOut 2 K)=peRound h_S178 (Orc.of (es_S178 N)) (mixL (L_S178 N) N n 2) c_S178_0 (shape ks_S178_l2 x) (h_S178.onOut 2 K):=by kernel_rfl
theorem fn_S178 (N:Nat) (x:AVals sg_S178) (kf:Ret→Option Ret):F_S178 N x kf=peFunc h_S178 (Orc.of (es_S178 N)) (L_S178 N N) Tryz.f178 (ashape sg_S178 x) kf:=by kernel_rfl
theorem sd_S178 {Γ : Gl} (N:Nat):Sound Γ Tryz.prog 178 (run_S178 N):=fun_ok2 (hh:=h_S178) mixed tab_ok (es:=es_S178 N) ⟨sd_S195 N,trivial⟩ (fn:=Tryz.f178) (body:=body_S178) (by kernel_rfl) (by kernel_rfl) (by kernel_rfl) (by kernel_rfl) (by kernel_rfl) (Lf:=L_S178 N) (L0_S178 N) ls_S178 (round_cons (key:=2) (ks:=ks_S178_l2) (by kernel_rfl) (by kernel_rfl) (rd_S178_2 N) (round_cons (key:=7) (ks:=ks_S178_l7) (by kernel_rfl) (by kernel_rfl) (rd_S178_7 N) trivial)) (N:=N) (by kernel_rfl) (fn_S178 N) (.inl (by kernel_rfl))
noncomputable def h_S225:Hint:={ tab,hn:=[],loops:=[],outs:=[],ords:=[(3,(OT.seq [0,1,2,3,4,5,6,7,8,9,10,11,12,13,14,15,16,17,18,19,20,21,22,23,24,25,26,27,28,29,30,31,32,33,34,35,36,37,38,39,40,41,42] .done))] }
noncomputable def sg_S225:List AK:=[.v (.sl tQIIIIILIE) .k,.v tQIILIE .k,.v tQIIE .k]
noncomputable def F_S225 (N:Nat) (x:AVals sg_S225) (kf:Ret→Option Ret):Option Ret:=S225 N x.1 x.2.1 x.2.2.1 (fun r0=>kf ⟨[⟨.bool,.k,r0⟩],[]⟩)
noncomputable def run_S225 (N:Nat):=runOf sg_S225 (F_S225 N)
noncomputable def es_S225 (N:Nat):List Entry:=[⟨200,[.val,.val],(run_S200 N)⟩,⟨224,[.val,.val],(run_S224 N)⟩]
noncomputable def body_S225:Code:=match Tryz.f225.body with | some c=>c | none=>.skip
theorem ls_S225:loopsIn body_S225=[]:=by kernel_rfl
theorem fn_S225 (N:Nat) (x:AVals sg_S225) (kf:Ret→Option Ret):F_S225 N x kf=peFunc h_S225 (Orc.of (es_S225 N)) (noL N N) Tryz.f225 (ashape sg_S225 x) kf:=by kernel_rfl
theorem sd_S225 {Γ : Gl} (N:Nat):Sound Γ Tryz.prog 225 (run_S225 N):=fun_ok2 (hh:=h_S225) mixed tab_ok (es:=es_S225 N) ⟨sd_S200 N,⟨sd_S224 N,trivial⟩⟩ (fn:=Tryz.f225) (body:=body_S225) (by kernel_rfl) (by kernel_rfl) (by kernel_rfl) (by kernel_rfl) (by kernel_rfl) (Lf:=noL N) (noL0 N) ls_S225 trivial (N:=N) (by kernel_rfl) (fn_S225 N) (.inl (by kernel_rfl))
noncomputable def h_S94:Hint:={ tab,hn:=[],loops:=[],outs:=[],ords:=[] }
noncomputable def sg_S94:List AK:=[.v tQLQIIIIILIELQIILIELQIIELILQIIIELQIIIIEIE .k]
noncomputable def F_S94 (N:Nat) (x:AVals sg_S94) (kf:Ret→Option Ret):Option Ret:=S94 N x.1 (fun r0=>kf ⟨[⟨.bool,.k,r0⟩],[]⟩)
noncomputable def run_S94 (N:Nat):=runOf sg_S94 (F_S94 N)
noncomputable def es_S94 (N:Nat):List Entry:=[]
noncomputable def body_S94:Code:=match Tryz.f94.body with | some c=>c | none=>.skip
theorem ls_S94:loopsIn body_S94=[]:=by kernel_rfl
theorem fn_S94 (N:Nat) (x:AVals sg_S94) (kf:Ret→Option Ret):F_S94 N x kf=peFunc h_S94 (Orc.of (es_S94 N)) (noL N N) Tryz.f94 (ashape sg_S94 x) kf:=by kernel_rfl
theorem sd_S94 {Γ : Gl} (N:Nat):Sound Γ Tryz.prog 94 (run_S94 N):=fun_ok2 (hh:=h_S94) mixed tab_ok (es:=es_S94 N) trivial (fn:=Tryz.f94) (body:=body_S94) (by kernel_rfl) (by kernel_rfl) (by kernel_rfl) (by kernel_rfl) (by kernel_rfl) (Lf:=noL N) (noL0 N) ls_S94 trivial (N:=N) (by kernel_rfl) (fn_S94 N) (.inl (by kernel_rfl))
noncomputable def h_S226:Hint:={ tab,hn:=[],loops:=[],outs:=[],ords:=[] }
noncomputable def sg_S226:List AK:=[.v (.sl tQIIIIE) .k]
noncomputable def F_S226 (N:Nat) (x:AVals sg_S226) (kf:Ret→Option Ret):Option Ret:=S226 N x.1 (fun r0=>kf ⟨[⟨(.int .i64),.k,r0⟩],[]⟩)
noncomputable def run_S226 (N:Nat):=runOf sg_S226 (F_S226 N)
noncomputable def es_S226 (N:Nat):List Entry:=[]
noncomputable def body_S226:Code:=match Tryz.f226.body with | some c=>c | none=>.skip
theorem ls_S226:loopsIn body_S226=[]:=by kernel_rfl
theorem fn_S226 (N:Nat) (x:AVals sg_S226) (kf:Ret→Option Ret):F_S226 N x kf=peFunc h_S226 (Orc.of (es_S226 N)) (noL N N) Tryz.f226 (ashape sg_S226 x) kf:=by kernel_rfl
theorem sd_S226 {Γ : Gl} (N:Nat):Sound Γ Tryz.prog 226 (run_S226 N):=fun_ok2 (hh:=h_S226) mixed tab_ok (es:=es_S226 N) trivial (fn:=Tryz.f226) (body:=body_S226) (by kernel_rfl) (by kernel_rfl) (by kernel_rfl) (by kernel_rfl) (by kernel_rfl) (Lf:=noL N) (noL0 N) ls_S226 trivial (N:=N) (by kernel_rfl) (fn_S226 N) (.inl (by kernel_rfl))
noncomputable def h_S261:Hint:={ tab,hn:=[],loops:=[],outs:=[],ords:=[] }
noncomputable def sg_S261:List AK:=[.v (.int .i64) .k,.v (.int .i64) .k]
noncomputable def F_S261 (N:Nat) (x:AVals sg_S261) (kf:Ret→Option Ret):Option Ret:=S261 N x.1 x.2.1 (fun r0=>kf ⟨[⟨(.int .i64),.k,r0⟩],[]⟩)
noncomputable def run_S261 (N:Nat):=runOf sg_S261 (F_S261 N)
noncomputable def es_S261 (N:Nat):List Entry:=[⟨195,[.val,.val,.val],(run_S195 N)⟩]
noncomputable def body_S261:Code:=match Tryz.f261.body with | some c=>c | none=>.skip
theorem ls_S261:loopsIn body_S261=[]:=by kernel_rfl
theorem fn_S261 (N:Nat) (x:AVals sg_S261) (kf:Ret→Option Ret):F_S261 N x kf=peFunc h_S261 (Orc.of (es_S261 N)) (noL N N) Tryz.f261 (ashape sg_S261 x) kf:=by kernel_rfl
theorem sd_S261 {Γ : Gl} (N:Nat):Sound Γ Tryz.prog 261 (run_S261 N):=fun_ok2 (hh:=h_S261) mixed tab_ok (es:=es_S261 N) ⟨sd_S195 N,trivial⟩ (fn:=Tryz.f261) (body:=body_S261) (by kernel_rfl) (by kernel_rfl) (by kernel_rfl) (by kernel_rfl) (by kernel_rfl) (Lf:=noL N) (noL0 N) ls_S261 trivial (N:=N) (by kernel_rfl) (fn_S261 N) (.inl (by kernel_rfl))
noncomputable def ks_S248_l3:List Kd:=[.v (.sl (.int .i64)) .k,dK,dK,.v (.int .i64) .k,.v (.int .i64) .k,dK,dK,dK,dK,dK,dK,dK,dK,dK,dK,dK,dK,dK,dK,dK,dK,dK]
noncomputable def ko_S248_l3_0:List Kd:=[dK,dK,dK,.v (.int .i64) .k,dK,dK,dK,dK,dK,dK,dK,dK,dK,dK,dK,dK,dK,dK,dK,dK,dK,dK]
noncomputable def h_S248:Hint:={ tab,hn:=[],loops:=[(3,ks_S248_l3)],outs:=[(3,2,ko_S248_l3_0)],ords:=[] }
noncomputable def sg_S248:List AK:=[.v (.sl (.int .i64)) .k]
noncomputable def F_S248 (N:Nat) (x:AVals sg_S248) (kf:Ret→Option Ret):Option Ret:=S248 N x.1 (fun r0=>kf ⟨[⟨(.int .i64),.k,r0⟩],[]⟩)
noncomputable def run_S248 (N:Nat):=runOf sg_S248 (F_S248 N)
noncomputable def es_S248 (N:Nat):List Entry:=[⟨261,[.val,.val],(run_S261 N)⟩]
noncomputable def body_S248:Code:=match Tryz.f248.body with | some c=>c | none=>.skip
noncomputable def L_S248 (N n:Nat) (key:Nat) (S:St) (K:Ks):Option Ret:=bif Nat.beq key 3 then withVals ks_S248_l3 S (fun x=>S248_l3 N x.1 n (fun z0=>K (.x 0) (shape ko_S248_l3_0 (z0,()))) x.2.1 x.2.2.1) else none
theorem L0_S248 (N key:Nat) (S:St) (K:Ks):L_S248 N 0 key S K=none:=(bif0 (withVals0 fun _=>rfl) rfl)
noncomputable def c_S248_0:Code:=(loopsIn body_S248).getD 0 .skip
theorem ls_S248:loopsIn body_S248=[c_S248_0]:=by kernel_rfl
theorem rd_S248_3 (N n:Nat) (x:Vals ks_S248_l3) (K:Ks):L_S248 N (n + 1) 3 (shape ks_S248_l3 x) (h_S248.onOut 3 K)=peRound h_S248 (Orc.of (es_S248 N)) (mixL (L_S248 N) N n 3) c_S248_0 (shape ks_S248_l3 x) (h_S248.onOut 3 K):=by kernel_rfl
theorem fn_S248 (N:Nat) (x:AVals sg_S248) (kf:Ret→Option Ret):F_S248 N x kf=peFunc h_S248 (Orc.of (es_S248 N)) (L_S248 N N) Tryz.f248 (ashape sg_S248 x) kf:=by kernel_rfl
theorem sd_S248 {Γ : Gl} (N:Nat):Sound Γ Tryz.prog 248 (run_S248 N):=fun_ok2 (hh:=h_S248) mixed tab_ok (es:=es_S248 N) ⟨sd_S261 N,trivial⟩ (fn:=Tryz.f248) (body:=body_S248) (by kernel_rfl) (by kernel_rfl) (by kernel_rfl) (by kernel_rfl) (by kernel_rfl) (Lf:=L_S248 N) (L0_S248 N) ls_S248 (round_cons (key:=3) (ks:=ks_S248_l3) (by kernel_rfl) (by kernel_rfl) (rd_S248_3 N) trivial) (N:=N) (by kernel_rfl) (fn_S248 N) (.inl (by kernel_rfl))
noncomputable def h_S218:Hint:={ tab,hn:=[],loops:=[],outs:=[],ords:=[] }
noncomputable def sg_S218:List AK:=[.v (.int .i64) .k,.v tQIIIIE .k]
noncomputable def F_S218 (N:Nat) (x:AVals sg_S218) (kf:Ret→Option Ret):Option Ret:=S218 N x.1 x.2.1 (fun r0=>kf ⟨[⟨(.int .i64),.k,r0⟩],[]⟩)
noncomputable def run_S218 (N:Nat):=runOf sg_S218 (F_S218 N)
noncomputable def es_S218 (N:Nat):List Entry:=[⟨248,[.val],(run_S248 N)⟩]
noncomputable def body_S218:Code:=match Tryz.f218.body with | some c=>c | none=>.skip
theorem ls_S218:loopsIn body_S218=[]:=by kernel_rfl
theorem fn_S218 (N:Nat) (x:AVals sg_S218) (kf:Ret→Option Ret):F_S218 N x kf=peFunc h_S218 (Orc.of (es_S218 N)) (noL N N) Tryz.f218 (ashape sg_S218 x) kf:=by kernel_rfl
theorem sd_S218 {Γ : Gl} (N:Nat):Sound Γ Tryz.prog 218 (run_S218 N):=fun_ok2 (hh:=h_S218) mixed tab_ok (es:=es_S218 N) ⟨sd_S248 N,trivial⟩ (fn:=Tryz.f218) (body:=body_S218) (by kernel_rfl) (by kernel_rfl) (by kernel_rfl) (by kernel_rfl) (by kernel_rfl) (Lf:=noL N) (noL0 N) ls_S218 trivial (N:=N) (by kernel_rfl) (fn_S218 N) (.inl (by kernel_rfl))
noncomputable def ks_S158_l3:List Kd:=[.v (.sl tQIIIIE) .k,dK,dK,.v (.int .i64) .k,.v (.int .i64) .k,dK,dK,dK,dK,dK,dK,dK,dK,dK,dK,dK,dK,dK,dK,dK,dK,dK,dK,dK,dK,dK,dK,dK,dK,dK,dK,dK,dK,dK,dK,dK,dK,dK,dK,dK,dK,dK,dK,dK,dK,dK,dK,dK,dK,dK]
noncomputable def ko_S158_l3_0:List Kd:=[.v (.sl tQIIIIE) .k,dK,dK,dK,dK,dK,dK,dK,dK,dK,dK,dK,dK,dK,dK,dK,dK,dK,dK,dK,dK,dK,dK,dK,dK,dK,dK,dK,dK,dK,dK,dK,dK,dK,dK,dK,dK,dK,dK,dK,dK,dK,dK,dK,dK,dK,dK,dK,dK,dK]
noncomputable def ko_S158_l3_1:List Kd:=[dK,dK,.v .bool .k,dK,dK,dK,dK,dK,dK,dK,dK,dK,dK,dK,dK,dK,dK,dK,dK,dK,dK,dK,dK,dK,dK,dK,dK,dK,dK,dK,dK,dK,dK,dK,dK,dK,dK,dK,dK,dK,dK,dK,dK,dK,dK,dK,dK,dK,dK,dK]
noncomputable def h_S158:Hint:={ tab,hn:=[],loops:=[(3,ks_S158_l3)],outs:=[(3,2,ko_S158_l3_0),(3,1,ko_S158_l3_1)],ords:=[] }
noncomputable def sg_S158:List AK:=[.v (.sl tQIIIIE) .k]
noncomputable def F_S158 (N:Nat) (x:AVals sg_S158) (kf:Ret→Option Ret):Option Ret:=S158 N x.1 (fun r0=>kf ⟨[⟨.bool,.k,r0⟩],[]⟩)
noncomputable def run_S158 (N:Nat):=runOf sg_S158 (F_S158 N)
noncomputable def es_S158 (N:Nat):List Entry:=[⟨218,[.val,.val],(run_S218 N)⟩,⟨195,[.val,.val,.val],(run_S195 N)⟩]
noncomputable def body_S158:Code:=match Tryz.f158.body with | some c=>c | none=>.skip
noncomputable def L_S158 (N n:Nat) (key:Nat) (S:St) (K:Ks):Option Ret:=bif Nat.beq key 3 then withVals ks_S158_l3 S (fun x=>S158_l3 N x.1 n (K (.x 0) (shape ko_S158_l3_0 (x.1,()))) (fun z0=>K .r (shape ko_S158_l3_1 (z0,()))) x.2.1 x.2.2.1) else none
theorem L0_S158 (N key:Nat) (S:St) (K:Ks):L_S158 N 0 key S K=none:=(bif0 (withVals0 fun _=>rfl) rfl)
noncomputable def c_S158_0:Code:=(loopsIn body_S158).getD 0 .skip
theorem ls_S158:loopsIn body_S158=[c_S158_0]:=by kernel_rfl
theorem rd_S158_3 (N n:Nat) (x:Vals ks_S158_l3) (K:Ks):L_S158 N (n + 1) 3 (shape ks_S158_l3 x) (h_S158.onOut 3 K)=peRound h_S158 (Orc.of (es_S158 N)) (mixL (L_S158 N) N n 3) c_S158_0 (shape ks_S158_l3 x) (h_S158.onOut 3 K):=by kernel_rfl
theorem fn_S158 (N:Nat) (x:AVals sg_S158) (kf:Ret→Option Ret):F_S158 N x kf=peFunc h_S158 (Orc.of (es_S158 N)) (L_S158 N N) Tryz.f158 (ashape sg_S158 x) kf:=by kernel_rfl
theorem sd_S158 {Γ : Gl} (N:Nat):Sound Γ Tryz.prog 158 (run_S158 N):=fun_ok2 (hh:=h_S158) mixed tab_ok (es:=es_S158 N) ⟨sd_S218 N,⟨sd_S195 N,trivial⟩⟩ (fn:=Tryz.f158) (body:=body_S158) (by kernel_rfl) (by kernel_rfl) (by kernel_rfl) (by kernel_rfl) (by kernel_rfl) (Lf:=L_S158 N) (L0_S158 N) ls_S158 (round_cons (key:=3) (ks:=ks_S158_l3) (by kernel_rfl) (by kernel_rfl) (rd_S158_3 N) trivial) (N:=N) (by kernel_rfl) (fn_S158 N) (.inl (by kernel_rfl))
noncomputable def h_S180:Hint:={ tab,hn:=[],loops:=[],outs:=[],ords:=[(2,(OT.seq [0,2,1,3,4,5] .done)),(3,(OT.seq [1] (.any [0,2,3,4] (OT.seq [5,6] .done))))] }
noncomputable def sg_S180:List AK:=[.v (.sl tQIIIIE) .k,.v (.int .i64) .k,.v (.int .i64) .k]
noncomputable def F_S180 (N:Nat) (x:AVals sg_S180) (kf:Ret→Option Ret):Option Ret:=S180 N x.1 x.2.1 x.2.2.1 (fun r0 r1=>kf ⟨[⟨(.sl tQIIIIE),(.o 102 none .k),r0⟩,⟨.bool,.k,r1⟩],[]⟩)
noncomputable def run_S180 (N:Nat):=runOf sg_S180 (F_S180 N)
noncomputable def es_S180 (N:Nat):List Entry:=[⟨226,[.val],(run_S226 N)⟩,⟨218,[.val,.val],(run_S218 N)⟩,⟨158,[.val],(run_S158 N)⟩]
noncomputable def body_S180:Code:=match Tryz.f180.body with | some c=>c | none=>.skip
theorem ls_S180:loopsIn body_S180=[]:=by kernel_rfl
theorem fn_S180 (N:Nat) (x:AVals sg_S180) (kf:Ret→Option Ret):F_S180 N x kf=peFunc h_S180 (Orc.of (es_S180 N)) (noL N N) Tryz.f180 (ashape sg_S180 x) kf:=by kernel_rfl
theorem sd_S180 {Γ : Gl} (N:Nat):Sound Γ Tryz.prog 180 (run_S180 N):=fun_ok2 (hh:=h_S180) mixed tab_ok (es:=es_S180 N) ⟨sd_S226 N,⟨sd_S218 N,⟨sd_S158 N,trivial⟩⟩⟩ (fn:=Tryz.f180) (body:=body_S180) (by kernel_rfl) (by kernel_rfl) (by kernel_rfl) (by kernel_rfl) (by kernel_rfl) (Lf:=noL N) (noL0 N) ls_S180 trivial (N:=N) (by kernel_rfl) (fn_S180 N) (.inl (by kernel_rfl))
noncomputable def ks_S196_l3:List Kd:=[.v (.sl tQIIIIILIE) .k,dK,dK,.v (.int .i64) .k,.v (.int .i64) .k,dK,dK,dK,dK,dK,dK,dK,dK,dK,dK,dK,dK,dK,dK,dK,dK,dK,dK]
noncomputable def ko_S196_l3_0:List Kd:=[dK,dK,dK,.v (.int .i64) .k,dK,dK,dK,dK,dK,dK,dK,dK,dK,dK,dK,dK,dK,dK,dK,dK,dK,dK,dK]
noncomputable def h_S196:Hint:={ tab,hn:=[],loops:=[(3,ks_S196_l3)],outs:=[(3,2,ko_S196_l3_0)],ords:=[] }
noncomputable def sg_S196:List AK:=[.v (.sl tQIIIIILIE) .k]
noncomputable def F_S196 (N:Nat) (x:AVals sg_S196) (kf:Ret→Option Ret):Option Ret:=S196 N x.1 (fun r0=>kf ⟨[⟨(.int .i64),.k,r0⟩],[]⟩)
noncomputable def run_S196 (N:Nat):=runOf sg_S196 (F_S196 N)
noncomputable def es_S196 (N:Nat):List Entry:=[⟨175,[.val],(run_S175 N)⟩]
noncomputable def body_S196:Code:=match Tryz.f196.body with | some c=>c | none=>.skip
noncomputable def L_S196 (N n:Nat) (key:Nat) (S:St) (K:Ks):Option Ret:=bif Nat.beq key 3 then withVals ks_S196_l3 S (fun x=>S196_l3 N x.1 n (fun z0=>K (.x 0) (shape ko_S196_l3_0 (z0,()))) x.2.1 x.2.2.1) else none
theorem L0_S196 (N key:Nat) (S:St) (K:Ks):L_S196 N 0 key S K=none:=(bif0 (withVals0 fun _=>rfl) rfl)
noncomputable def c_S196_0:Code:=(loopsIn body_S196).getD 0 .skip
theorem ls_S196:loopsIn body_S196=[c_S196_0]:=by kernel_rfl
theorem rd_S196_3 (N n:Nat) (x:Vals ks_S196_l3) (K:Ks):L_S196 N (n + 1) 3 (shape ks_S196_l3 x) (h_S196.onOut 3 K)=peRound h_S196 (Orc.of (es_S196 N)) (mixL (L_S196 N) N n 3) c_S196_0 (shape ks_S196_l3 x) (h_S196.onOut 3 K):=by kernel_rfl
theorem fn_S196 (N:Nat) (x:AVals sg_S196) (kf:Ret→Option Ret):F_S196 N x kf=peFunc h_S196 (Orc.of (es_S196 N)) (L_S196 N N) Tryz.f196 (ashape sg_S196 x) kf:=by kernel_rfl
theorem sd_S196 {Γ : Gl} (N:Nat):Sound Γ Tryz.prog 196 (run_S196 N):=fun_ok2 (hh:=h_S196) mixed tab_ok (es:=es_S196 N) ⟨sd_S175 N,trivial⟩ (fn:=Tryz.f196) (body:=body_S196) (by kernel_rfl) (by kernel_rfl) (by kernel_rfl) (by kernel_rfl) (by kernel_rfl) (Lf:=L_S196 N) (L0_S196 N) ls_S196 (round_cons (key:=3) (ks:=ks_S196_l3) (by kernel_rfl) (by kernel_rfl) (rd_S196_3 N) trivial) (N:=N) (by kernel_rfl) (fn_S196 N) (.inl (by kernel_rfl))
noncomputable def ks_S197_l3:List Kd:=[.v (.sl tQIIIIILIE) .k,.v (.sl tQIIE) .k,dK,dK,dK,.v (.sl (.int .i64)) (.o 3 none .k),.v (.int .i64) .k,dK,dK,dK,dK,dK,dK,dK,dK,dK,dK,dK,dK,dK,dK,dK,dK,dK,dK,dK,dK,dK,dK,dK,dK,dK,dK,dK,dK,dK,dK,dK,dK,dK,dK,dK,dK,dK,dK,dK,dK,dK,dK,dK,dK,dK,dK,dK,dK,dK,dK,dK,dK,dK,dK,dK,dK,dK,dK,dK,dK]
noncomputable def ko_S197_l3_0:List Kd:=[.v (.sl tQIIIIILIE) .k,dK,dK,dK,dK,.v (.sl (.int .i64)) (.o 3 none .k),dK,dK,dK,dK,dK,dK,dK,dK,dK,dK,dK,dK,dK,dK,dK,dK,dK,dK,dK,dK,dK,dK,dK,dK,dK,dK,dK,dK,dK,dK,dK,dK,dK,dK,dK,dK,dK,dK,dK,dK,dK,dK,dK,dK,dK,dK,dK,dK,dK,dK,dK,dK,dK,dK,dK,dK,dK,dK,dK,dK,dK]
noncomputable def ko_S197_l3_1:List Kd:=[dK,dK,dK,dK,.v .bool .k,dK,dK,dK,dK,dK,dK,dK,dK,dK,dK,dK,dK,dK,dK,dK,dK,dK,dK,dK,dK,dK,dK,dK,dK,dK,dK,dK,dK,dK,dK,dK,dK,dK,dK,dK,dK,dK,dK,dK,dK,dK,dK,dK,dK,dK,dK,dK,dK,dK,dK,dK,dK,dK,dK,dK,dK,dK,dK,dK,dK,dK,dK]
noncomputable def h_S197:Hint:={ tab,hn:=[],loops:=[(3,ks_S197_l3)],outs:=[(3,2,ko_S197_l3_0),(3,1,ko_S197_l3_1)],ords:=[(5,(OT.seq [0,1,2,3,4,5,6,7,8,9,10,11,12,13,14,15,16,17,18,19,20,21,22,23,24,25,26,27,28,29,30] .done)),(7,(OT.seq [0,1,2,3,4,5,6,7,8,9,10,11,12,13] .done))] }
noncomputable def sg_S197:List AK:=[.v (.sl tQIIIIILIE) .k,.v (.sl tQIIE) .k]
noncomputable def F_S197 (N:Nat) (x:AVals sg_S197) (kf:Ret→Option Ret):Option Ret:=S197 N x.1 x.2.1 (fun r0=>kf ⟨[⟨.bool,.k,r0⟩],[]⟩)
noncomputable def run_S197 (N:Nat):=runOf sg_S197 (F_S197 N)
noncomputable def es_S197 (N:Nat):List Entry:=[⟨221,[.val,.val,.val],(run_S221 N)⟩,⟨224,[.val,.val],(run_S224 N)⟩,⟨175,[.val],(run_S175 N)⟩]
noncomputable def body_S197:Code:=match Tryz.f197.body with | some c=>c | none=>.skip
noncomputable def L_S197 (N n:Nat) (key:Nat) (S:St) (K:Ks):Option Ret:=bif Nat.beq key 3 then withVals ks_S197_l3 S (fun x=>S197_l3 N x.1 x.2.1 n (fun z0=>K (.x 0) (shape ko_S197_l3_0 (x.1,z0,()))) (fun z0=>K .r (shape ko_S197_l3_1 (z0,()))) x.2.2.1 x.2.2.2.1) else none
theorem L0_S197 (N key:Nat) (S:St) (K:Ks):L_S197 N 0 key S K=none:=(bif0 (withVals0 fun _=>rfl) rfl)
noncomputable def c_S197_0:Code:=(loopsIn body_S197).getD 0 .skip
theorem ls_S197:loopsIn body_S197=[c_S197_0]:=by kernel_rfl
theorem rd_S197_3 (N n:Nat) (x:Vals ks_S197_l3) (K:Ks):L_S197 N (n + 1) 3 (shape ks_S197_l3 x) (h_S197.onOut 3 K)=peRound h_S197 (Orc.of (es_S197 N)) (mixL (L_S197 N) N n 3) c_S197_0 (shape ks_S197_l3 x) (h_S197.onOut 3 K):=by kernel_rfl
theorem fn_S197 (N:Nat) (x:AVals sg_S197) (kf:Ret→Option Ret):F_S197 N x kf=peFunc h_S197 (Orc.of (es_S197 N)) (L_S197 N N) Tryz.f197 (ashape sg_S197 x) kf:=by kernel_rfl
theorem sd_S197 {Γ : Gl} (N:Nat):Sound Γ Tryz.prog 197 (run_S197 N):=fun_ok2 (hh:=h_S197) mixed tab_ok (es:=es_S197 N) ⟨sd_S221 N,⟨sd_S224 N,⟨sd_S175 N,trivial⟩⟩⟩ (fn:=Tryz.f197) (body:=body_S197) (by kernel_rfl) (by kernel_rfl) (by kernel_rfl) (by kernel_rfl) (by kernel_rfl) (Lf:=L_S197 N) (L0_S197 N) ls_S197 (round_cons (key:=3) (ks:=ks_S197_l3) (by kernel_rfl) (by kernel_rfl) (rd_S197_3 N) trivial) (N:=N) (by kernel_rfl) (fn_S197 N) (.inl (by kernel_rfl))
noncomputable def ks_S126_l2:List Kd:=[.v (.sl tQIILIE) .k,.v (.int .i64) .k,dK,dK,dK,.v (.int .i64) .k,dK,dK,dK,dK,dK,dK,dK,dK,dK,dK,dK,dK,dK,dK]
noncomputable def ko_S126_l2_0:List Kd:=[dK,dK,dK,dK,dK,dK,dK,dK,dK,dK,dK,dK,dK,dK,dK,dK,dK,dK,dK,dK]
noncomputable def ko_S126_l2_1:List Kd:=[dK,dK,dK,dK,.v (.int .i64) .k,dK,dK,dK,dK,dK,dK,dK,dK,dK,dK,dK,dK,dK,dK,dK]
noncomputable def h_S126:Hint:={ tab,hn:=[],loops:=[(2,ks_S126_l2)],outs:=[(2,2,ko_S126_l2_0),(2,1,ko_S126_l2_1)],ords:=[] }
noncomputable def sg_S126:List AK:=[.v (.sl tQIILIE) .k,.v (.int .i64) .k]
noncomputable def F_S126 (N:Nat) (x:AVals sg_S126) (kf:Ret→Option Ret):Option Ret:=S126 N x.1 x.2.1 (fun r0=>kf ⟨[⟨(.int .i64),.k,r0⟩],[]⟩)
noncomputable def run_S126 (N:Nat):=runOf sg_S126 (F_S126 N)
noncomputable def es_S126 (N:Nat):List Entry:=[]
noncomputable def body_S126:Code:=match Tryz.f126.body with | some c=>c | none=>.skip
noncomputable def L_S126 (N n:Nat) (key:Nat) (S:St) (K:Ks):Option Ret:=bif Nat.beq key 2 then withVals ks_S126_l2 S (fun x=>S126_l2 x.1 x.2.1 n (K (.x 0) (shape ko_S126_l2_0 ())) (fun z0=>K .r (shape ko_S126_l2_1 (z0,()))) x.2.2.1) else none
theorem L0_S126 (N key:Nat) (S:St) (K:Ks):L_S126 N 0 key S K=none:=(bif0 (withVals0 fun _=>rfl) rfl)
noncomputable def c_S126_0:Code:=(loopsIn body_S126).getD 0 .skip
theorem ls_S126:loopsIn body_S126=[c_S126_0]:=by kernel_rfl
theorem rd_S126_2 (N n:Nat) (x:Vals ks_S126_l2) (K:Ks):L_S126 N (n + 1) 2 (shape ks_S126_l2 x) (h_S126.onOut 2 K)=peRound h_S126 (Orc.of (es_S126 N)) (mixL (L_S126 N) N n 2) c_S126_0 (shape ks_S126_l2 x) (h_S126.onOut 2 K):=by kernel_rfl
theorem fn_S126 (N:Nat) (x:AVals sg_S126) (kf:Ret→Option Ret):F_S126 N x kf=peFunc h_S126 (Orc.of (es_S126 N)) (L_S126 N N) Tryz.f126 (ashape sg_S126 x) kf:=by kernel_rfl
theorem sd_S126 {Γ : Gl} (N:Nat):Sound Γ Tryz.prog 126 (run_S126 N):=fun_ok2 (hh:=h_S126) mixed tab_ok (es:=es_S126 N) trivial (fn:=Tryz.f126) (body:=body_S126) (by kernel_rfl) (by kernel_rfl) (by kernel_rfl) (by kernel_rfl) (by kernel_rfl) (Lf:=L_S126 N) (L0_S126 N) ls_S126 (round_cons (key:=2) (ks:=ks_S126_l2) (by kernel_rfl) (by kernel_rfl) (rd_S126_2 N) trivial) (N:=N) (by kernel_rfl) (fn_S126 N) (.inl (by kernel_rfl))
noncomputable def ks_S198_l4:List Kd:=[.v (.sl tQIIIIILIE) .k,.v (.sl tQIILIE) .k,.v (.sl tQIIE) .k,.v (.sl (.int .i64)) .k,dK,dK,dK,dK,dK,.v (.int .i64) .k,dK,dK,dK,dK,dK,dK,dK,dK,dK,dK,dK,dK,dK,dK,dK,dK,dK,dK,dK,dK,dK,dK,dK,dK,dK,dK,dK,dK,dK,dK,dK,dK,dK,dK,dK,dK,dK,dK,dK,dK,dK,dK,dK,dK,dK,dK,dK,dK]
noncomputable def ko_S198_l4_0:List Kd:=[dK,dK,dK,dK,dK,dK,dK,dK,dK,dK,dK,dK,dK,dK,dK,dK,dK,dK,dK,dK,dK,dK,dK,dK,dK,dK,dK,dK,dK,dK,dK,dK,dK,dK,dK,dK,dK,dK,dK,dK,dK,dK,dK,dK,dK,dK,dK,dK,dK,dK,dK,dK,dK,dK,dK,dK,dK,dK]
noncomputable def ko_S198_l4_1:List Kd:=[dK,dK,dK,dK,dK,dK,dK,dK,.v .bool .k,dK,dK,dK,dK,dK,dK,dK,dK,dK,dK,dK,dK,dK,dK,dK,dK,dK,dK,dK,dK,dK,dK,dK,dK,dK,dK,dK,dK,dK,dK,dK,dK,dK,dK,dK,dK,dK,dK,dK,dK,dK,dK,dK,dK,dK,dK,dK,dK,dK]
noncomputable def h_S198:Hint:={ tab,hn:=[],loops:=[(4,ks_S198_l4)],outs:=[(4,2,ko_S198_l4_0),(4,1,ko_S198_l4_1)],ords:=[(7,(OT.seq [0,1,2,3,4,5,6,7,8,9,10,11,12,13,14,15,16,17,18,19,20,21,22,23,24] .done))] }
noncomputable def sg_S198:List AK:=[.v (.sl tQIIIIILIE) .k,.v (.sl tQIILIE) .k,.v (.sl tQIIE) .k,.v (.sl (.int .i64)) .k]
noncomputable def F_S198 (N:Nat) (x:AVals sg_S198) (kf:Ret→Option Ret):Option Ret:=S198 N x.1 x.2.1 x.2.2.1 x.2.2.2.1 (fun r0=>kf ⟨[⟨.bool,.k,r0⟩],[]⟩)
noncomputable def run_S198 (N:Nat):=runOf sg_S198 (F_S198 N)
noncomputable def es_S198 (N:Nat):List Entry:=[⟨178,[.val],(run_S178 N)⟩,⟨126,[.val,.val],(run_S126 N)⟩,⟨224,[.val,.val],(run_S224 N)⟩,⟨225,[.val,.val,.val],(run_S225 N)⟩]
noncomputable def body_S198:Code:=match Tryz.f198.body with | some c=>c | none=>.skip
noncomputable def L_S198 (N n:Nat) (key:Nat) (S:St) (K:Ks):Option Ret:=bif Nat.beq key 4 then withVals ks_S198_l4 S (fun x=>S198_l4 N x.1 x.2.1 x.2.2.1 x.2.2.2.1 n (K (.x 0) (shape ko_S198_l4_0 ())) (fun z0=>K .r (shape ko_S198_l4_1 (z0,()))) x.2.2.2.2.1) else none
theorem L0_S198 (N key:Nat) (S:St) (K:Ks):L_S198 N 0 key S K=none:=(bif0 (withVals0 fun _=>rfl) rfl)
noncomputable def c_S198_0:Code:=(loopsIn body_S198).getD 0 .skip
theorem ls_S198:loopsIn body_S198=[c_S198_0]:=by kernel_rfl
theorem rd_S198_4 (N n:Nat) (x:Vals ks_S198_l4) (K:Ks):L_S198 N (n + 1) 4 (shape ks_S198_l4 x) (h_S198.onOut 4 K)=peRound h_S198 (Orc.of (es_S198 N)) (mixL (L_S198 N) N n 4) c_S198_0 (shape ks_S198_l4 x) (h_S198.onOut 4 K):=by kernel_rfl
theorem fn_S198 (N:Nat) (x:AVals sg_S198) (kf:Ret→Option Ret):F_S198 N x kf=peFunc h_S198 (Orc.of (es_S198 N)) (L_S198 N N) Tryz.f198 (ashape sg_S198 x) kf:=by kernel_rfl
theorem sd_S198 {Γ : Gl} (N:Nat):Sound Γ Tryz.prog 198 (run_S198 N):=fun_ok2 (hh:=h_S198) mixed tab_ok (es:=es_S198 N) ⟨sd_S178 N,⟨sd_S126 N,⟨sd_S224 N,⟨sd_S225 N,trivial⟩⟩⟩⟩ (fn:=Tryz.f198) (body:=body_S198) (by kernel_rfl) (by kernel_rfl) (by kernel_rfl) (by kernel_rfl) (by kernel_rfl) (Lf:=L_S198 N) (L0_S198 N) ls_S198 (round_cons (key:=4) (ks:=ks_S198_l4) (by kernel_rfl) (by kernel_rfl) (rd_S198_4 N) trivial) (N:=N) (by kernel_rfl) (fn_S198 N) (.inl (by kernel_rfl))
noncomputable def h_S199:Hint:={ tab,hn:=[],loops:=[],outs:=[],ords:=[] }
noncomputable def sg_S199:List AK:=[.v tQIIIE .k]
noncomputable def F_S199 (N:Nat) (x:AVals sg_S199) (kf:Ret→Option Ret):Option Ret:=S199 N x.1 (fun r0=>kf ⟨[⟨.bool,.k,r0⟩],[]⟩)
noncomputable def run_S199 (N:Nat):=runOf sg_S199 (F_S199 N)
noncomputable def es_S199 (N:Nat):List Entry:=[⟨195,[.val,.val,.val],(run_S195 N)⟩]
noncomputable def body_S199:Code:=match Tryz.f199.body with | some c=>c | none=>.skip
theorem ls_S199:loopsIn body_S199=[]:=by kernel_rfl
theorem fn_S199 (N:Nat) (x:AVals sg_S199) (kf:Ret→Option Ret):F_S199 N x kf=peFunc h_S199 (Orc.of (es_S199 N)) (noL N N) Tryz.f199 (ashape sg_S199 x) kf:=by kernel_rfl
theorem sd_S199 {Γ : Gl} (N:Nat):Sound Γ Tryz.prog 199 (run_S199 N):=fun_ok2 (hh:=h_S199) mixed tab_ok (es:=es_S199 N) ⟨sd_S195 N,trivial⟩ (fn:=Tryz.f199) (body:=body_S199) (by kernel_rfl) (by kernel_rfl) (by kernel_rfl) (by kernel_rfl) (by kernel_rfl) (Lf:=noL N) (noL0 N) ls_S199 trivial (N:=N) (by kernel_rfl) (fn_S199 N) (.inl (by kernel_rfl))
noncomputable def ks_S122_l7:List Kd:=[dK,.v (.ptr tQLQIIIIILIELQIILIELQIIELILQIIIELQIIIIEIE) (.o 31 none .k),dK,.v (.ptr tQIIIE) (.o 136 none .k),.v (.int .i64) .k,dK,dK,dK,dK,dK,dK,dK,dK,dK,dK,dK,dK,dK,dK,dK,dK,dK,dK,dK,dK,dK,dK,dK,dK,dK,dK,dK,dK,dK,dK,dK,dK,dK,dK,dK,dK,dK,dK,dK,dK,dK,dK,dK,dK,dK,dK,dK,dK,dK,dK,dK,dK,dK,dK,dK,dK,dK,dK,dK,dK,dK,dK,dK,dK,dK,dK,dK,dK,dK,dK,dK,dK,dK,dK,dK,dK,dK,dK,dK,dK,dK,dK,dK,dK,dK,dK,dK,dK,dK,dK,dK,dK,dK,dK,dK,dK,dK,dK,dK,dK,dK,dK,dK,dK,dK,dK,dK,dK,dK,dK]
noncomputable def ko_S122_l7_0:List Kd:=[dK,dK,dK,dK,dK,dK,dK,dK,dK,dK,dK,dK,dK,dK,dK,dK,dK,dK,dK,dK,dK,dK,dK,dK,dK,dK,dK,dK,dK,dK,dK,dK,dK,dK,dK,dK,dK,dK,dK,dK,dK,dK,dK,dK,dK,dK,dK,dK,dK,dK,dK,dK,dK,dK,dK,dK,dK,dK,dK,dK,dK,dK,dK,dK,dK,dK,dK,dK,dK,dK,dK,dK,dK,dK,dK,dK,dK,dK,dK,dK,dK,dK,dK,dK,dK,dK,dK,dK,dK,dK,dK,dK,dK,dK,dK,dK,dK,dK,dK,dK,dK,dK,dK,dK,dK,dK,dK,dK,dK,dK,dK,dK,dK,dK,dK]
noncomputable def ko_S122_l7_1:List Kd:=[dK,dK,.v .bool .k,dK,dK,dK,dK,dK,dK,dK,dK,dK,dK,dK,dK,dK,dK,dK,dK,dK,dK,dK,dK,dK,dK,dK,dK,dK,dK,dK,dK,dK,dK,dK,dK,dK,dK,dK,dK,dK,dK,dK,dK,dK,dK,dK,dK,dK,dK,dK,dK,dK,dK,dK,dK,dK,dK,dK,dK,dK,dK,dK,dK,dK,dK,dK,dK,dK,dK,dK,dK,dK,dK,dK,dK,dK,dK,dK,dK,dK,dK,dK,dK,dK,dK,dK,dK,dK,dK,dK,dK,dK,dK,dK,dK,dK,dK,dK,dK,dK,dK,dK,dK,dK,dK,dK,dK,dK,dK,dK,dK,dK,dK,dK,dK]
noncomputable def h_S122:Hint:={ tab,hn:=[],loops:=[(7,ks_S122_l7)],outs:=[(7,2,ko_S122_l7_0),(7,1,ko_S122_l7_1)],ords:=[(1,(OT.seq [0,1,2,3,4,5,6,7,8,9,10,11,12,13,14,15,16,17,18,19,20,21,22,23,24,25,26,27,28,29,30,31,32,33,34,35,36,37,38,39,40,41,42,44,45,43,46,47] .done)),(9,(OT.seq [0,1,2,3,4,5,6,7,8,9,10,11,12,13,14,15,16,17,18,19,20,21,22,23,24,25,26,27,28,29] .done))] }
noncomputable def sg_S122:List AK:=[.v tQLQIIIIILIELQIILIELQIIELILQIIIELQIIIIEIE .k]
noncomputable def F_S122 (N:Nat) (x:AVals sg_S122) (kf:Ret→Option Ret):Option Ret:=S122 N x.1 (fun r0=>kf ⟨[⟨.bool,.k,r0⟩],[]⟩)
noncomputable def run_S122 (N:Nat):=runOf sg_S122 (F_S122 N)
noncomputable def es_S122 (N:Nat):List Entry:=[⟨175,[.val],(run_S175 N)⟩,⟨178,[.val],(run_S178 N)⟩,⟨158,[.val],(run_S158 N)⟩,⟨195,[.val,.val,.val],(run_S195 N)⟩,⟨196,[.val],(run_S196 N)⟩,⟨197,[.val,.val],(run_S197 N)⟩,⟨198,[.val,.val,.val,.val],(run_S198 N)⟩,⟨199,[.val],(run_S199 N)⟩]
noncomputable def body_S122:Code:=match Tryz.f122.body with | some c=>c | none=>.skip
noncomputable def L_S122 (N n:Nat) (key:Nat) (S:St) (K:Ks):Option Ret:=bif Nat.beq key 7 then withVals ks_S122_l7 S (fun x=>S122_l7 N x.1 x.2.1 n (K (.x 0) (shape ko_S122_l7_0 ())) (fun z0=>K .r (shape ko_S122_l7_1 (z0,()))) x.2.2.1) else none
theorem L0_S122 (N key:Nat) (S:St) (K:Ks):L_S122 N 0 key S K=none:=(bif0 (withVals0 fun _=>rfl) rfl)
noncomputable def c_S122_0:Code:=(loopsIn body_S122).getD 0 .skip
theorem ls_S122:loopsIn body_S122=[c_S122_0]:=by kernel_rfl
theorem rd_S122_7 (N n:Nat) (x:Vals ks_S122_l7) (K:Ks):L_S122 N (n + 1) 7 (shape ks_S122_l7 x) (h_S122.onOut 7 K)=peRound h_S122 (Orc.of (es_S122 N)) (mixL (L_S122 N) N n 7) c_S122_0 (shape ks_S122_l7 x) (h_S122.onOut 7 K):=by kernel_rfl
theorem fn_S122 (N:Nat) (x:AVals sg_S122) (kf:Ret→Option Ret):F_S122 N x kf=peFunc h_S122 (Orc.of (es_S122 N)) (L_S122 N N) Tryz.f122 (ashape sg_S122 x) kf:=by kernel_rfl
theorem sd_S122 {Γ : Gl} (N:Nat):Sound Γ Tryz.prog 122 (run_S122 N):=fun_ok2 (hh:=h_S122) mixed tab_ok (es:=es_S122 N) ⟨sd_S175 N,⟨sd_S178 N,⟨sd_S158 N,⟨sd_S195 N,⟨sd_S196 N,⟨sd_S197 N,⟨sd_S198 N,⟨sd_S199 N,trivial⟩⟩⟩⟩⟩⟩⟩⟩ (fn:=Tryz.f122) (body:=body_S122) (by kernel_rfl) (by kernel_rfl) (by kernel_rfl) (by kernel_rfl) (by kernel_rfl) (Lf:=L_S122 N) (L0_S122 N) ls_S122 (round_cons (key:=7) (ks:=ks_S122_l7) (by kernel_rfl) (by kernel_rfl) (rd_S122_7 N) trivial) (N:=N) (by kernel_rfl) (fn_S122 N) (.inl (by kernel_rfl))
end Go.Pv.R
