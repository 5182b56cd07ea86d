/- Each function of the program that the law reaches computes its plain function, part 0. -/
import Derived.Test.YtoclmlalcgjplaaDoorPlRes
import Derived.Test.YtoclmlalcgjplaaDoorGro
import Derived.Test.YtoclmlalcgjplaaDoorProg
namespace Go.Pv.R
open Go.Proofs
set_option linter.unusedVariables false
set_option maxRecDepth 100000
noncomputable abbrev dK:Kd:=.dead
noncomputable abbrev dR (n:Nat):List Kd:=List.replicate n .dead
noncomputable def tab:Tab:=[⟨2,(.int .i64),0,[]⟩,⟨3,(.int .i64),0,[]⟩,⟨4,.bool,0,[]⟩,⟨5,(.int .u8),0,[]⟩,⟨9,.str,0,[]⟩,⟨12,(.int .u64),0,[]⟩,⟨21,(.int .i32),0,[]⟩,⟨22,(.sl (.int .u8)),5,[]⟩,⟨24,(.sl (.sl (.int .i64))),34,[]⟩,⟨25,tQILLIE,0,[3,24]⟩,⟨26,tQILLIE,0,[3,24]⟩,⟨34,(.sl (.int .i64)),3,[]⟩,⟨41,tQIIIE,0,[3,3,3]⟩,⟨42,tQIIIE,0,[3,3,3]⟩,⟨46,(.sl .str),9,[]⟩,⟨63,(.int .u64),0,[]⟩,⟨67,(.sl tQIIIE),42,[]⟩,⟨72,tQLIIIE,0,[22,3,3]⟩,⟨73,tQLIIIE,0,[22,3,3]⟩,⟨78,(.sl (.int .u64)),63,[]⟩,⟨105,(.int .u64),0,[]⟩,⟨112,(.int .u32),0,[]⟩]
theorem mixed:Tryd.prog.follows .mixedOrders=true:=by kernel_rfl
theorem tab_ok:tabB Tryd.prog tab=true:=by kernel_rfl
noncomputable def noL (N n:Nat) (key:Nat) (S:St) (K:Ks):Option Ret:=none
theorem noL0 (N key:Nat) (S:St) (K:Ks):noL N 0 key S K=none:=rfl
abbrev TabΓ (Γ : Gl):Prop:=PowTab Tryd.prog Γ
noncomputable def h_L4:Hint:={ tab,hn:=[],loops:=[],outs:=[],ords:=[] }
noncomputable def sg_L4:List AK:=[.v (.sl (.int .u8)) .k]
noncomputable def F_L4 (N:Nat) (x:AVals sg_L4) (kf:Ret→Option Ret):Option Ret:=L4 N x.1 (fun r0=>kf ⟨[⟨.bool,.k,r0⟩],[]⟩)
noncomputable def run_L4 (N:Nat):=runOf sg_L4 (F_L4 N)
noncomputable def es_L4 (N:Nat):List Entry:=[]
noncomputable def body_L4:Code:=match Tryd.f4.body with | some c=>c | none=>.skip
theorem ls_L4:loopsIn body_L4=[]:=by kernel_rfl
theorem fn_L4 (N:Nat) (x:AVals sg_L4) (kf:Ret→Option Ret):F_L4 N x kf=peFunc h_L4 (Orc.of (es_L4 N)) (noL N N) Tryd.f4 (ashape sg_L4 x) kf:=by kernel_rfl
theorem sd_L4 {Γ : Gl} (hΓ : TabΓ Γ) (N:Nat):Sound Γ Tryd.prog 4 (run_L4 N):=fun_ok2 (hh:=h_L4) mixed tab_ok (es:=es_L4 N) trivial (fn:=Tryd.f4) (body:=body_L4) (by kernel_rfl) (by kernel_rfl) (by kernel_rfl) (by kernel_rfl) (by kernel_rfl) (Lf:=noL N) (noL0 N) ls_L4 trivial (N:=N) (by kernel_rfl) (fn_L4 N) (.inl (by kernel_rfl))
noncomputable def ks_S30_l3:List Kd:=[.v (.sl (.int .u8)) .k,dK,dK,.v (.int .i64) .k,.v (.int .i64) .k,dK,dK,dK,dK,dK,dK,dK,dK,dK,dK,dK,dK,dK,dK,dK,dK,dK,dK,dK,dK,dK,dK,dK,dK,dK,dK,dK]
noncomputable def ko_S30_l3_0:List Kd:=[.v (.sl (.int .u8)) .k,dK,dK,.v (.int .i64) .k,dK,dK,dK,dK,dK,dK,dK,dK,dK,dK,dK,dK,dK,dK,dK,dK,dK,dK,dK,dK,dK,dK,dK,dK,dK,dK,dK,dK]
noncomputable def h_S30:Hint:={ tab,hn:=[],loops:=[(3,ks_S30_l3)],outs:=[(3,2,ko_S30_l3_0)],ords:=[] }
noncomputable def sg_S30:List AK:=[.v (.sl (.int .u8)) .k]
noncomputable def F_S30 (N:Nat) (x:AVals sg_S30) (kf:Ret→Option Ret):Option Ret:=S30 N x.1 (fun r0=>kf ⟨[⟨(.ptr tQLIIIE),(.o 73 none .k),r0⟩],[]⟩)
noncomputable def run_S30 (N:Nat):=runOf sg_S30 (F_S30 N)
noncomputable def es_S30 (N:Nat):List Entry:=[]
noncomputable def body_S30:Code:=match Tryd.f30.body with | some c=>c | none=>.skip
noncomputable def L_S30 (N n:Nat) (key:Nat) (S:St) (K:Ks):Option Ret:=bif Nat.beq key 3 then withVals ks_S30_l3 S (fun x=>S30_l3 x.1 n (fun z0=>K (.x 0) (shape ko_S30_l3_0 (x.1,z0,()))) x.2.1 x.2.2.1) else none
theorem L0_S30 (N key:Nat) (S:St) (K:Ks):L_S30 N 0 key S K=none:=(bif0 (withVals0 fun _=>rfl) rfl)
noncomputable def c_S30_0:Code:=(loopsIn body_S30).getD 0 .skip
theorem ls_S30:loopsIn body_S30=[c_S30_0]:=by kernel_rfl
theorem rd_S30_3 (N n:Nat) (x:Vals ks_S30_l3) (K:Ks):L_S30 N (n + 1) 3 (shape ks_S30_l3 x) (h_S30.onOut 3 K)=peRound h_S30 (Orc.of (es_S30 N)) (mixL (L_S30 N) N n 3) c_S30_0 (shape ks_S30_l3 x) (h_S30.onOut 3 K):=by kernel_rfl
theorem fn_S30 (N:Nat) (x:AVals sg_S30) (kf:Ret→Option Ret):F_S30 N x kf=peFunc h_S30 (Orc.of (es_S30 N)) (L_S30 N N) Tryd.f30 (ashape sg_S30 x) kf:=by kernel_rfl
theorem sd_S30 {Γ : Gl} (hΓ : TabΓ Γ) (N:Nat):Sound Γ Tryd.prog 30 (run_S30 N):=fun_ok2 (hh:=h_S30) mixed tab_ok (es:=es_S30 N) trivial (fn:=Tryd.f30) (body:=body_S30) (by kernel_rfl) (by kernel_rfl) (by kernel_rfl) (by kernel_rfl) (by kernel_rfl) (Lf:=L_S30 N) (L0_S30 N) ls_S30 (round_cons (key:=3) (ks:=ks_S30_l3) (by kernel_rfl) (by kernel_rfl) (rd_S30_3 N) trivial) (N:=N) (by kernel_rfl) (fn_S30 N) (.inl (by kernel_rfl))
noncomputable def h_S68:Hint:={ tab,hn:=[],loops:=[],outs:=[],ords:=[(2,(OT.seq [0,1,2,3,4,5,6,7,8,9,10,11,12] .done)),(3,(OT.seq [0,1,2,3,4,5,6,7,8,9] .done)),(4,(OT.seq [0,1,2,3,4,5,6,7,8,9,10,11,12,13,14] .done))],lent:=some (0,false) }
noncomputable def sg_S68:List AK:=[.v (.ptr tQLIIIE) (.o 73 (some 0) .k)]
noncomputable def F_S68 (N:Nat) (x:AVals sg_S68) (kf:Ret→Option Ret):Option Ret:=S68 N x.1 (fun r0 z=>kf ⟨[⟨(.int .i64),.k,r0⟩],[⟨(.ptr tQLIIIE),(.o 73 (some 0) .k),z⟩]⟩)
noncomputable def run_S68 (N:Nat):=runOf sg_S68 (F_S68 N)
noncomputable def es_S68 (N:Nat):List Entry:=[]
noncomputable def body_S68:Code:=match Tryd.f68.body with | some c=>c | none=>.skip
theorem ls_S68:loopsIn body_S68=[]:=by kernel_rfl
theorem fn_S68 (N:Nat) (x:AVals sg_S68) (kf:Ret→Option Ret):F_S68 N x kf=peFunc h_S68 (Orc.of (es_S68 N)) (noL N N) Tryd.f68 (ashape sg_S68 x) kf:=by kernel_rfl
theorem sd_S68 {Γ : Gl} (hΓ : TabΓ Γ) (N:Nat):Sound Γ Tryd.prog 68 (run_S68 N):=fun_ok2 (hh:=h_S68) mixed tab_ok (es:=es_S68 N) trivial (fn:=Tryd.f68) (body:=body_S68) (by kernel_rfl) (by kernel_rfl) (by kernel_rfl) (by kernel_rfl) (by kernel_rfl) (Lf:=noL N) (noL0 N) ls_S68 trivial (N:=N) (by kernel_rfl) (fn_S68 N) (.inl (by kernel_rfl))
noncomputable def h_S48:Hint:={ tab,hn:=[],loops:=[],outs:=[],ords:=[],lent:=some (0,false) }
noncomputable def sg_S48:List AK:=[.v (.ptr tQLIIIE) (.o 73 (some 0) .k),.v (.int .i64) .k]
noncomputable def F_S48 (N:Nat) (x:AVals sg_S48) (kf:Ret→Option Ret):Option Ret:=S48 N x.1 x.2.1 (fun r0 z=>kf ⟨[⟨(.int .i64),.k,r0⟩],[⟨(.ptr tQLIIIE),(.o 73 (some 0) .k),z⟩]⟩)
noncomputable def run_S48 (N:Nat):=runOf sg_S48 (F_S48 N)
noncomputable def es_S48 (N:Nat):List Entry:=[⟨68,[.lend],(run_S68 N)⟩]
noncomputable def body_S48:Code:=match Tryd.f48.body with | some c=>c | none=>.skip
theorem ls_S48:loopsIn body_S48=[]:=by kernel_rfl
theorem fn_S48 (N:Nat) (x:AVals sg_S48) (kf:Ret→Option Ret):F_S48 N x kf=peFunc h_S48 (Orc.of (es_S48 N)) (noL N N) Tryd.f48 (ashape sg_S48 x) kf:=by kernel_rfl
theorem sd_S48 {Γ : Gl} (hΓ : TabΓ Γ) (N:Nat):Sound Γ Tryd.prog 48 (run_S48 N):=fun_ok2 (hh:=h_S48) mixed tab_ok (es:=es_S48 N) ⟨sd_S68 hΓ N,trivial⟩ (fn:=Tryd.f48) (body:=body_S48) (by kernel_rfl) (by kernel_rfl) (by kernel_rfl) (by kernel_rfl) (by kernel_rfl) (Lf:=noL N) (noL0 N) ls_S48 trivial (N:=N) (by kernel_rfl) (fn_S48 N) (.inl (by kernel_rfl))
noncomputable def h_S66:Hint:={ tab,hn:=[],loops:=[],outs:=[],ords:=[] }
noncomputable def sg_S66:List AK:=[.v (.int .i64) .k,.v (.int .i64) .k,.v (.int .i64) .k]
noncomputable def F_S66 (N:Nat) (x:AVals sg_S66) (kf:Ret→Option Ret):Option Ret:=S66 N x.1 x.2.1 x.2.2.1 (fun r0=>kf ⟨[⟨.bool,.k,r0⟩],[]⟩)
noncomputable def run_S66 (N:Nat):=runOf sg_S66 (F_S66 N)
noncomputable def es_S66 (N:Nat):List Entry:=[]
noncomputable def body_S66:Code:=match Tryd.f66.body with | some c=>c | none=>.skip
theorem ls_S66:loopsIn body_S66=[]:=by kernel_rfl
theorem fn_S66 (N:Nat) (x:AVals sg_S66) (kf:Ret→Option Ret):F_S66 N x kf=peFunc h_S66 (Orc.of (es_S66 N)) (noL N N) Tryd.f66 (ashape sg_S66 x) kf:=by kernel_rfl
theorem sd_S66 {Γ : Gl} (hΓ : TabΓ Γ) (N:Nat):Sound Γ Tryd.prog 66 (run_S66 N):=fun_ok2 (hh:=h_S66) mixed tab_ok (es:=es_S66 N) trivial (fn:=Tryd.f66) (body:=body_S66) (by kernel_rfl) (by kernel_rfl) (by kernel_rfl) (by kernel_rfl) (by kernel_rfl) (Lf:=noL N) (noL0 N) ls_S66 trivial (N:=N) (by kernel_rfl) (fn_S66 N) (.inl (by kernel_rfl))
noncomputable def ks_S45_l2:List Kd:=[dK,.v (.ptr tQILLIE) (.o 26 none .k),dK,.v (.int .i64) .k,dK,dK,dK,dK,dK,dK,dK,dK,dK,dK,dK,dK,dK,dK,dK,dK,dK,dK,dK,dK,dK,dK,dK,dK,dK,dK,dK,dK,dK,dK,dK,dK,dK,dK,dK,dK,dK,dK,dK,dK,dK,dK,dK,dK,dK,dK,dK,dK,dK,dK,dK,dK,dK,dK,dK,dK,dK,dK,dK,dK,dK,dK,dK,dK,dK,dK,dK,dK,dK,dK,dK,dK,dK]
noncomputable def ko_S45_l2_0:List Kd:=[dK,.v (.ptr tQILLIE) (.o 26 none .k),dK,dK,dK,dK,dK,dK,dK,dK,dK,dK,dK,dK,dK,dK,dK,dK,dK,dK,dK,dK,dK,dK,dK,dK,dK,dK,dK,dK,dK,dK,dK,dK,dK,dK,dK,dK,dK,dK,dK,dK,dK,dK,dK,dK,dK,dK,dK,dK,dK,dK,dK,dK,dK,dK,dK,dK,dK,dK,dK,dK,dK,dK,dK,dK,dK,dK,dK,dK,dK,dK,dK,dK,dK,dK,dK]
noncomputable def ko_S45_l2_1:List Kd:=[dK,dK,.v .bool .k,dK,dK,dK,dK,dK,dK,dK,dK,dK,dK,dK,dK,dK,dK,dK,dK,dK,dK,dK,dK,dK,dK,dK,dK,dK,dK,dK,dK,dK,dK,dK,dK,dK,dK,dK,dK,dK,dK,dK,dK,dK,dK,dK,dK,dK,dK,dK,dK,dK,dK,dK,dK,dK,dK,dK,dK,dK,dK,dK,dK,dK,dK,dK,dK,dK,dK,dK,dK,dK,dK,dK,dK,dK,dK]
noncomputable def h_S45:Hint:={ tab,hn:=[],loops:=[(2,ks_S45_l2)],outs:=[(2,2,ko_S45_l2_0),(2,1,ko_S45_l2_1)],ords:=[(5,(OT.seq [0,1,2,3,4,5,6,7,8,9,10,11,12,13,14,15,16,17,18,19,20,21,22] .done)),(9,(OT.seq [0,1,2,3,4,5,6,7,8,9,10,11,12,13,14,15,16,17,18,19,20,21,22,23,24] .done))] }
noncomputable def sg_S45:List AK:=[.v tQILLIE .k]
noncomputable def F_S45 (N:Nat) (x:AVals sg_S45) (kf:Ret→Option Ret):Option Ret:=S45 N x.1 (fun r0=>kf ⟨[⟨.bool,.k,r0⟩],[]⟩)
noncomputable def run_S45 (N:Nat):=runOf sg_S45 (F_S45 N)
noncomputable def es_S45 (N:Nat):List Entry:=[⟨66,[.val,.val,.val],(run_S66 N)⟩]
noncomputable def body_S45:Code:=match Tryd.f45.body with | some c=>c | none=>.skip
noncomputable def L_S45 (N n:Nat) (key:Nat) (S:St) (K:Ks):Option Ret:=bif Nat.beq key 2 then withVals ks_S45_l2 S (fun x=>S45_l2 N x.1 n (K (.x 0) (shape ko_S45_l2_0 (x.1,()))) (fun z0=>K .r (shape ko_S45_l2_1 (z0,()))) x.2.1) else none
theorem L0_S45 (N key:Nat) (S:St) (K:Ks):L_S45 N 0 key S K=none:=(bif0 (withVals0 fun _=>rfl) rfl)
noncomputable def c_S45_0:Code:=(loopsIn body_S45).getD 0 .skip
theorem ls_S45:loopsIn body_S45=[c_S45_0]:=by kernel_rfl
theorem rd_S45_2 (N n:Nat) (x:Vals ks_S45_l2) (K:Ks):L_S45 N (n + 1) 2 (shape ks_S45_l2 x) (h_S45.onOut 2 K)=peRound h_S45 (Orc.of (es_S45 N)) (mixL (L_S45 N) N n 2) c_S45_0 (shape ks_S45_l2 x) (h_S45.onOut 2 K):=by kernel_rfl
theorem fn_S45 (N:Nat) (x:AVals sg_S45) (kf:Ret→Option Ret):F_S45 N x kf=peFunc h_S45 (Orc.of (es_S45 N)) (L_S45 N N) Tryd.f45 (ashape sg_S45 x) kf:=by kernel_rfl
theorem sd_S45 {Γ : Gl} (hΓ : TabΓ Γ) (N:Nat):Sound Γ Tryd.prog 45 (run_S45 N):=fun_ok2 (hh:=h_S45) mixed tab_ok (es:=es_S45 N) ⟨sd_S66 hΓ N,trivial⟩ (fn:=Tryd.f45) (body:=body_S45) (by kernel_rfl) (by kernel_rfl) (by kernel_rfl) (by kernel_rfl) (by kernel_rfl) (Lf:=L_S45 N) (L0_S45 N) ls_S45 (round_cons (key:=2) (ks:=ks_S45_l2) (by kernel_rfl) (by kernel_rfl) (rd_S45_2 N) trivial) (N:=N) (by kernel_rfl) (fn_S45 N) (.inl (by kernel_rfl))
noncomputable def ks_S83_l3:List Kd:=[dK,.v (.ptr tQILLIE) (.o 26 none .k),.v (.ptr tQILLIE) (.o 26 none (.p .k (.o 34 none (.o 3 none .k)))),.v (.ptr tQILLIE) (.o 26 none (.p .k (.o 34 none (.o 3 none .k)))),.v (.int .i64) .k,dK,dK,dK,dK,dK,dK,dK,dK,dK,dK,dK,dK,dK,dK,dK,dK,dK,dK,dK,dK,dK,dK,dK]
noncomputable def ko_S83_l3_0:List Kd:=[dK,dK,.v (.ptr tQILLIE) (.o 26 none (.p .k (.o 34 none (.o 3 none .k)))),.v (.ptr tQILLIE) (.o 26 none (.p .k (.o 34 none (.o 3 none .k)))),dK,dK,dK,dK,dK,dK,dK,dK,dK,dK,dK,dK,dK,dK,dK,dK,dK,dK,dK,dK,dK,dK,dK,dK]
noncomputable def h_S83:Hint:={ tab,hn:=[],loops:=[(3,ks_S83_l3)],outs:=[(3,2,ko_S83_l3_0)],ords:=[(5,(OT.seq [3,4,5,6,7,0] (.par [1,2,8,9] [[17],[3,15,16]] (OT.seq [10,11,12] .done))))] }
noncomputable def sg_S83:List AK:=[.v tQILLIE .k]
noncomputable def F_S83 (N:Nat) (x:AVals sg_S83) (kf:Ret→Option Ret):Option Ret:=S83 N x.1 (fun r0=>kf ⟨[⟨tQILLIE,(.p .k (.o 34 none (.o 3 none .k))),r0⟩],[]⟩)
noncomputable def run_S83 (N:Nat):=runOf sg_S83 (F_S83 N)
noncomputable def es_S83 (N:Nat):List Entry:=[]
noncomputable def body_S83:Code:=match Tryd.f83.body with | some c=>c | none=>.skip
noncomputable def L_S83 (N n:Nat) (key:Nat) (S:St) (K:Ks):Option Ret:=bif Nat.beq key 3 then withVals ks_S83_l3 S (fun x=>S83_l3 x.1 x.2.1 n (fun z0=>K (.x 0) (shape ko_S83_l3_0 (x.2.1,z0,()))) x.2.2.1 x.2.2.2.1) else none
theorem L0_S83 (N key:Nat) (S:St) (K:Ks):L_S83 N 0 key S K=none:=(bif0 (withVals0 fun _=>rfl) rfl)
noncomputable def c_S83_0:Code:=(loopsIn body_S83).getD 0 .skip
theorem ls_S83:loopsIn body_S83=[c_S83_0]:=by kernel_rfl
theorem rd_S83_3 (N n:Nat) (x:Vals ks_S83_l3) (K:Ks):L_S83 N (n + 1) 3 (shape ks_S83_l3 x) (h_S83.onOut 3 K)=peRound h_S83 (Orc.of (es_S83 N)) (mixL (L_S83 N) N n 3) c_S83_0 (shape ks_S83_l3 x) (h_S83.onOut 3 K):=by kernel_rfl
theorem fn_S83 (N:Nat) (x:AVals sg_S83) (kf:Ret→Option Ret):F_S83 N x kf=peFunc h_S83 (Orc.of (es_S83 N)) (L_S83 N N) Tryd.f83 (ashape sg_S83 x) kf:=by kernel_rfl
theorem sd_S83 {Γ : Gl} (hΓ : TabΓ Γ) (N:Nat):Sound Γ Tryd.prog 83 (run_S83 N):=fun_ok2 (hh:=h_S83) mixed tab_ok (es:=es_S83 N) trivial (fn:=Tryd.f83) (body:=body_S83) (by kernel_rfl) (by kernel_rfl) (by kernel_rfl) (by kernel_rfl) (by kernel_rfl) (Lf:=L_S83 N) (L0_S83 N) ls_S83 (round_cons (key:=3) (ks:=ks_S83_l3) (by kernel_rfl) (by kernel_rfl) (rd_S83_3 N) trivial) (N:=N) (by kernel_rfl) (fn_S83 N) (.inl (by kernel_rfl))
noncomputable def ks_S67_l4:List Kd:=[dK,.v (.int .i64) .k,.v (.int .i64) .k,.v (.ptr tQILLIE) (.o 26 none .k),dK,dK,.v (.ptr tQILLIE) (.o 26 none (.p .k (.o 34 none (.o 3 none .k)))),dK,.v (.ptr tQILLIE) (.o 26 none (.p .k (.o 34 none (.o 3 none .k)))),.v .bool .k,.v (.int .i64) .k,dK,dK,dK,dK,dK,dK,dK,dK,dK,dK,dK,dK,dK,dK,dK,dK,dK,dK,dK,dK,dK,dK,dK,dK,dK,dK,dK,dK,dK,dK,dK,dK,dK,dK,dK,dK,dK,dK,dK,dK,dK,dK,dK,dK,dK,dK,dK,dK,dK,dK,dK,dK,dK,dK,dK,dK,dK,dK,dK,dK,dK,dK,dK,dK,dK,dK,dK,dK,dK,dK,dK,dK,dK,dK,dK,dK,dK,dK,dK,dK]
noncomputable def ko_S67_l4_0:List Kd:=[dK,.v (.int .i64) .k,.v (.int .i64) .k,.v (.ptr tQILLIE) (.o 26 none .k),dK,dK,.v (.ptr tQILLIE) (.o 26 none (.p .k (.o 34 none (.o 3 none .k)))),dK,.v (.ptr tQILLIE) (.o 26 none (.p .k (.o 34 none (.o 3 none .k)))),.v .bool .k,dK,dK,dK,dK,dK,dK,dK,dK,dK,dK,dK,dK,dK,dK,dK,dK,dK,dK,dK,dK,dK,dK,dK,dK,dK,dK,dK,dK,dK,dK,dK,dK,dK,dK,dK,dK,dK,dK,dK,dK,dK,dK,dK,dK,dK,dK,dK,dK,dK,dK,dK,dK,dK,dK,dK,dK,dK,dK,dK,dK,dK,dK,dK,dK,dK,dK,dK,dK,dK,dK,dK,dK,dK,dK,dK,dK,dK,dK,dK,dK,dK]
noncomputable def h_S67:Hint:={ tab,hn:=[],loops:=[(4,ks_S67_l4)],outs:=[(4,2,ko_S67_l4_0)],ords:=[(10,(OT.seq [3,0] (.par [1,2,4,5] [[64],[8,62,63]] (OT.seq [6,7,8] .done))))] }
noncomputable def sg_S67:List AK:=[.v tQILLIE .k,.v (.int .i64) .k,.v (.int .i64) .k]
noncomputable def F_S67 (N:Nat) (x:AVals sg_S67) (kf:Ret→Option Ret):Option Ret:=S67 N x.1 x.2.1 x.2.2.1 (fun r0 r1=>kf ⟨[⟨tQILLIE,(.p .k (.o 34 none (.o 3 none .k))),r0⟩,⟨.bool,.k,r1⟩],[]⟩)
noncomputable def run_S67 (N:Nat):=runOf sg_S67 (F_S67 N)
noncomputable def es_S67 (N:Nat):List Entry:=[⟨45,[.val],(run_S45 N)⟩,⟨83,[.val],(run_S83 N)⟩]
noncomputable def body_S67:Code:=match Tryd.f67.body with | some c=>c | none=>.skip
noncomputable def L_S67 (N n:Nat) (key:Nat) (S:St) (K:Ks):Option Ret:=bif Nat.beq key 4 then withVals ks_S67_l4 S (fun x=>S67_l4 N x.1 x.2.1 x.2.2.1 x.2.2.2.1 n (fun z0 z1=>K (.x 0) (shape ko_S67_l4_0 (x.1,x.2.1,x.2.2.1,x.2.2.2.1,z0,z1,()))) x.2.2.2.2.1 x.2.2.2.2.2.1 x.2.2.2.2.2.2.1) else none
theorem L0_S67 (N key:Nat) (S:St) (K:Ks):L_S67 N 0 key S K=none:=(bif0 (withVals0 fun _=>rfl) rfl)
noncomputable def c_S67_0:Code:=(loopsIn body_S67).getD 0 .skip
theorem ls_S67:loopsIn body_S67=[c_S67_0]:=by kernel_rfl
theorem rd_S67_4 (N n:Nat) (x:Vals ks_S67_l4) (K:Ks):L_S67 N (n + 1) 4 (shape ks_S67_l4 x) (h_S67.onOut 4 K)=peRound h_S67 (Orc.of (es_S67 N)) (mixL (L_S67 N) N n 4) c_S67_0 (shape ks_S67_l4 x) (h_S67.onOut 4 K):=by kernel_rfl
theorem fn_S67 (N:Nat) (x:AVals sg_S67) (kf:Ret→Option Ret):F_S67 N x kf=peFunc h_S67 (Orc.of (es_S67 N)) (L_S67 N N) Tryd.f67 (ashape sg_S67 x) kf:=by kernel_rfl
theorem sd_S67 {Γ : Gl} (hΓ : TabΓ Γ) (N:Nat):Sound Γ Tryd.prog 67 (run_S67 N):=fun_ok2 (hh:=h_S67) mixed tab_ok (es:=es_S67 N) ⟨sd_S45 hΓ N,⟨sd_S83 hΓ N,trivial⟩⟩ (fn:=Tryd.f67) (body:=body_S67) (by kernel_rfl) (by kernel_rfl) (by kernel_rfl) (by kernel_rfl) (by kernel_rfl) (Lf:=L_S67 N) (L0_S67 N) ls_S67 (round_cons (key:=4) (ks:=ks_S67_l4) (by kernel_rfl) (by kernel_rfl) (rd_S67_4 N) trivial) (N:=N) (by kernel_rfl) (fn_S67 N) (.inl (by kernel_rfl))
noncomputable def ks_S47_l3:List Kd:=[.v (.ptr tQLIIIE) (.o 73 (some 0) .k),dK,.v (.ptr tQILLIE) (.o 26 none (.p .k (.o 34 none (.o 3 none .k)))),.v (.ptr tQILLIE) (.o 26 none (.p .k (.o 34 none (.o 3 none .k)))),.v (.int .i64) .k,dK,dK,dK,dK,dK,dK,dK,dK,dK,dK,dK,dK,dK,dK,dK,dK,dK,dK,dK,dK,dK,dK,dK,dK]
noncomputable def ko_S47_l3_0:List Kd:=[.v (.ptr tQLIIIE) (.o 73 (some 0) .k),dK,.v (.ptr tQILLIE) (.o 26 none (.p .k (.o 34 none (.o 3 none .k)))),.v (.ptr tQILLIE) (.o 26 none (.p .k (.o 34 none (.o 3 none .k)))),dK,dK,dK,dK,dK,dK,dK,dK,dK,dK,dK,dK,dK,dK,dK,dK,dK,dK,dK,dK,dK,dK,dK,dK,dK]
noncomputable def h_S47:Hint:={ tab,hn:=[],loops:=[(3,ks_S47_l3)],outs:=[(3,2,ko_S47_l3_0)],ords:=[(5,(OT.seq [1,2,3,5,6] (.par [0,4,7,8] [[3,16,18,22],[16],[23],[0,17,19,20,21]] (OT.seq [9,10,11,12,13] .done))))],lent:=some (0,false) }
noncomputable def sg_S47:List AK:=[.v (.ptr tQLIIIE) (.o 73 (some 0) .k)]
noncomputable def F_S47 (N:Nat) (x:AVals sg_S47) (kf:Ret→Option Ret):Option Ret:=S47 N x.1 (fun r0 z=>kf ⟨[⟨tQILLIE,(.p .k (.o 34 none (.o 3 none .k))),r0⟩],[⟨(.ptr tQLIIIE),(.o 73 (some 0) .k),z⟩]⟩)
noncomputable def run_S47 (N:Nat):=runOf sg_S47 (F_S47 N)
noncomputable def es_S47 (N:Nat):List Entry:=[⟨48,[.lend,.val],(run_S48 N)⟩,⟨67,[.val,.val,.val],(run_S67 N)⟩]
noncomputable def body_S47:Code:=match Tryd.f47.body with | some c=>c | none=>.skip
noncomputable def L_S47 (N n:Nat) (key:Nat) (S:St) (K:Ks):Option Ret:=bif Nat.beq key 3 then withVals ks_S47_l3 S (fun x=>S47_l3 N x.2.1 n (fun z0 z1=>K (.x 0) (shape ko_S47_l3_0 (z0,x.2.1,z1,()))) x.1 x.2.2.1 x.2.2.2.1) else none
theorem L0_S47 (N key:Nat) (S:St) (K:Ks):L_S47 N 0 key S K=none:=(bif0 (withVals0 fun _=>rfl) rfl)
noncomputable def c_S47_0:Code:=(loopsIn body_S47).getD 0 .skip
theorem ls_S47:loopsIn body_S47=[c_S47_0]:=by kernel_rfl
theorem rd_S47_3 (N n:Nat) (x:Vals ks_S47_l3) (K:Ks):L_S47 N (n + 1) 3 (shape ks_S47_l3 x) (h_S47.onOut 3 K)=peRound h_S47 (Orc.of (es_S47 N)) (mixL (L_S47 N) N n 3) c_S47_0 (shape ks_S47_l3 x) (h_S47.onOut 3 K):=by kernel_rfl
theorem fn_S47 (N:Nat) (x:AVals sg_S47) (kf:Ret→Option Ret):F_S47 N x kf=peFunc h_S47 (Orc.of (es_S47 N)) (L_S47 N N) Tryd.f47 (ashape sg_S47 x) kf:=by kernel_rfl
theorem sd_S47 {Γ : Gl} (hΓ : TabΓ Γ) (N:Nat):Sound Γ Tryd.prog 47 (run_S47 N):=fun_ok2 (hh:=h_S47) mixed tab_ok (es:=es_S47 N) ⟨sd_S48 hΓ N,⟨sd_S67 hΓ N,trivial⟩⟩ (fn:=Tryd.f47) (body:=body_S47) (by kernel_rfl) (by kernel_rfl) (by kernel_rfl) (by kernel_rfl) (by kernel_rfl) (Lf:=L_S47 N) (L0_S47 N) ls_S47 (round_cons (key:=3) (ks:=ks_S47_l3) (by kernel_rfl) (by kernel_rfl) (rd_S47_3 N) trivial) (N:=N) (by kernel_rfl) (fn_S47 N) (.inl (by kernel_rfl))
noncomputable def h_S55:Hint:={ tab,hn:=[],loops:=[],outs:=[],ords:=[],lent:=some (0,false) }
noncomputable def sg_S55:List AK:=[.v (.ptr tQLIIIE) (.o 73 (some 0) .k),.v (.sl (.int .i64)) .k]
noncomputable def F_S55 (N:Nat) (x:AVals sg_S55) (kf:Ret→Option Ret):Option Ret:=S55 N x.1 x.2.1 (fun r0 z=>kf ⟨[⟨(.int .i64),.k,r0⟩],[⟨(.ptr tQLIIIE),(.o 73 (some 0) .k),z⟩]⟩)
noncomputable def run_S55 (N:Nat):=runOf sg_S55 (F_S55 N)
noncomputable def es_S55 (N:Nat):List Entry:=[⟨48,[.lend,.val],(run_S48 N)⟩]
noncomputable def body_S55:Code:=match Tryd.f55.body with | some c=>c | none=>.skip
theorem ls_S55:loopsIn body_S55=[]:=by kernel_rfl
theorem fn_S55 (N:Nat) (x:AVals sg_S55) (kf:Ret→Option Ret):F_S55 N x kf=peFunc h_S55 (Orc.of (es_S55 N)) (noL N N) Tryd.f55 (ashape sg_S55 x) kf:=by kernel_rfl
theorem sd_S55 {Γ : Gl} (hΓ : TabΓ Γ) (N:Nat):Sound Γ Tryd.prog 55 (run_S55 N):=fun_ok2 (hh:=h_S55) mixed tab_ok (es:=es_S55 N) ⟨sd_S48 hΓ N,trivial⟩ (fn:=Tryd.f55) (body:=body_S55) (by kernel_rfl) (by kernel_rfl) (by kernel_rfl) (by kernel_rfl) (by kernel_rfl) (Lf:=noL N) (noL0 N) ls_S55 trivial (N:=N) (by kernel_rfl) (fn_S55 N) (.inl (by kernel_rfl))
noncomputable def h_S49:Hint:={ tab,hn:=[(4,.k)],loops:=[],outs:=[],ords:=[],lent:=some (0,false) }
noncomputable def sg_S49:List AK:=[.v (.ptr tQLIIIE) (.o 73 (some 0) .k)]
noncomputable def F_S49 (N:Nat) (x:AVals sg_S49) (kf:Ret→Option Ret):Option Ret:=S49 N x.1 (fun r0 z=>kf ⟨[⟨(.int .i64),.k,r0⟩],[⟨(.ptr tQLIIIE),(.o 73 (some 0) .k),z⟩]⟩)
noncomputable def run_S49 (N:Nat):=runOf sg_S49 (F_S49 N)
noncomputable def es_S49 (N:Nat):List Entry:=[⟨55,[.lend,.val],(run_S55 N)⟩]
noncomputable def body_S49:Code:=match Tryd.f49.body with | some c=>c | none=>.skip
theorem ls_S49:loopsIn body_S49=[]:=by kernel_rfl
theorem fn_S49 (N:Nat) (x:AVals sg_S49) (kf:Ret→Option Ret):F_S49 N x kf=peFunc h_S49 (Orc.of (es_S49 N)) (noL N N) Tryd.f49 (ashape sg_S49 x) kf:=by kernel_rfl
theorem sd_S49 {Γ : Gl} (hΓ : TabΓ Γ) (N:Nat):Sound Γ Tryd.prog 49 (run_S49 N):=fun_ok2 (hh:=h_S49) mixed tab_ok (es:=es_S49 N) ⟨sd_S55 hΓ N,trivial⟩ (fn:=Tryd.f49) (body:=body_S49) (by kernel_rfl) (by kernel_rfl) (by kernel_rfl) (by kernel_rfl) (by kernel_rfl) (Lf:=noL N) (noL0 N) ls_S49 trivial (N:=N) (by kernel_rfl) (fn_S49 N) (.inl (by kernel_rfl))
noncomputable def h_S32:Hint:={ tab,hn:=[],loops:=[],outs:=[],ords:=[(8,(OT.seq [2,0,4] (.par [1,3,5,6,7] [[3,23,24]] (OT.seq [8,9,10] .done))))],lent:=some (0,false) }
noncomputable def sg_S32:List AK:=[.v (.ptr tQLIIIE) (.o 73 (some 0) .k)]
noncomputable def F_S32 (N:Nat) (x:AVals sg_S32) (kf:Ret→Option Ret):Option Ret:=S32 N x.1 (fun r0 z=>kf ⟨[⟨tQILLIE,(.p .k (.o 34 none (.o 3 none .k))),r0⟩],[⟨(.ptr tQLIIIE),(.o 73 (some 0) .k),z⟩]⟩)
noncomputable def run_S32 (N:Nat):=runOf sg_S32 (F_S32 N)
noncomputable def es_S32 (N:Nat):List Entry:=[⟨47,[.lend],(run_S47 N)⟩,⟨48,[.lend,.val],(run_S48 N)⟩,⟨49,[.lend],(run_S49 N)⟩]
noncomputable def body_S32:Code:=match Tryd.f32.body with | some c=>c | none=>.skip
theorem ls_S32:loopsIn body_S32=[]:=by kernel_rfl
theorem fn_S32 (N:Nat) (x:AVals sg_S32) (kf:Ret→Option Ret):F_S32 N x kf=peFunc h_S32 (Orc.of (es_S32 N)) (noL N N) Tryd.f32 (ashape sg_S32 x) kf:=by kernel_rfl
theorem sd_S32 {Γ : Gl} (hΓ : TabΓ Γ) (N:Nat):Sound Γ Tryd.prog 32 (run_S32 N):=fun_ok2 (hh:=h_S32) mixed tab_ok (es:=es_S32 N) ⟨sd_S47 hΓ N,⟨sd_S48 hΓ N,⟨sd_S49 hΓ N,trivial⟩⟩⟩ (fn:=Tryd.f32) (body:=body_S32) (by kernel_rfl) (by kernel_rfl) (by kernel_rfl) (by kernel_rfl) (by kernel_rfl) (Lf:=noL N) (noL0 N) ls_S32 trivial (N:=N) (by kernel_rfl) (fn_S32 N) (.inl (by kernel_rfl))
noncomputable def h_S20:Hint:={ tab,hn:=[],loops:=[],outs:=[],ords:=[] }
noncomputable def sg_S20:List AK:=[.v (.sl (.int .u8)) .k]
noncomputable def F_S20 (N:Nat) (x:AVals sg_S20) (kf:Ret→Option Ret):Option Ret:=S20 N x.1 (fun r0=>kf ⟨[⟨tQILLIE,(.p .k (.o 34 none (.o 3 none .k))),r0⟩],[]⟩)
noncomputable def run_S20 (N:Nat):=runOf sg_S20 (F_S20 N)
noncomputable def es_S20 (N:Nat):List Entry:=[⟨30,[.val],(run_S30 N)⟩,⟨32,[.lend],(run_S32 N)⟩]
noncomputable def body_S20:Code:=match Tryd.f20.body with | some c=>c | none=>.skip
theorem ls_S20:loopsIn body_S20=[]:=by kernel_rfl
theorem fn_S20 (N:Nat) (x:AVals sg_S20) (kf:Ret→Option Ret):F_S20 N x kf=peFunc h_S20 (Orc.of (es_S20 N)) (noL N N) Tryd.f20 (ashape sg_S20 x) kf:=by kernel_rfl
theorem sd_S20 {Γ : Gl} (hΓ : TabΓ Γ) (N:Nat):Sound Γ Tryd.prog 20 (run_S20 N):=fun_ok2 (hh:=h_S20) mixed tab_ok (es:=es_S20 N) ⟨sd_S30 hΓ N,⟨sd_S32 hΓ N,trivial⟩⟩ (fn:=Tryd.f20) (body:=body_S20) (by kernel_rfl) (by kernel_rfl) (by kernel_rfl) (by kernel_rfl) (by kernel_rfl) (Lf:=noL N) (noL0 N) ls_S20 trivial (N:=N) (by kernel_rfl) (fn_S20 N) (.inl (by kernel_rfl))
noncomputable def h_S5:Hint:={ tab,hn:=[],loops:=[],outs:=[],ords:=[] }
noncomputable def sg_S5:List AK:=[.v (.sl (.int .u8)) .k]
noncomputable def F_S5 (N:Nat) (x:AVals sg_S5) (kf:Ret→Option Ret):Option Ret:=S5 N x.1 (fun r0=>kf ⟨[⟨tQILLIE,(.p .k (.o 34 none (.o 3 none .k))),r0⟩],[]⟩)
noncomputable def run_S5 (N:Nat):=runOf sg_S5 (F_S5 N)
noncomputable def es_S5 (N:Nat):List Entry:=[⟨20,[.val],(run_S20 N)⟩]
noncomputable def body_S5:Code:=match Tryd.f5.body with | some c=>c | none=>.skip
theorem ls_S5:loopsIn body_S5=[]:=by kernel_rfl
theorem fn_S5 (N:Nat) (x:AVals sg_S5) (kf:Ret→Option Ret):F_S5 N x kf=peFunc h_S5 (Orc.of (es_S5 N)) (noL N N) Tryd.f5 (ashape sg_S5 x) kf:=by kernel_rfl
theorem sd_S5 {Γ : Gl} (hΓ : TabΓ Γ) (N:Nat):Sound Γ Tryd.prog 5 (run_S5 N):=fun_ok2 (hh:=h_S5) mixed tab_ok (es:=es_S5 N) ⟨sd_S20 hΓ N,trivial⟩ (fn:=Tryd.f5) (body:=body_S5) (by kernel_rfl) (by kernel_rfl) (by kernel_rfl) (by kernel_rfl) (by kernel_rfl) (Lf:=noL N) (noL0 N) ls_S5 trivial (N:=N) (by kernel_rfl) (fn_S5 N) (.inl (by kernel_rfl))
noncomputable def h_I25:Hint:={ tab,hn:=[],loops:=[],outs:=[],ords:=[] }
noncomputable def sg_I25:List AK:=[.v (.int .i64) .k,.v (.int .i64) .k,.v (.int .i64) .k]
noncomputable def F_I25 (N:Nat) (x:AVals sg_I25) (kf:Ret→Option Ret):Option Ret:=I25 N x.1 x.2.1 x.2.2.1 (fun r0=>kf ⟨[⟨.bool,.k,r0⟩],[]⟩)
noncomputable def run_I25 (N:Nat):=runOf sg_I25 (F_I25 N)
noncomputable def es_I25 (N:Nat):List Entry:=[]
noncomputable def body_I25:Code:=match Tryd.f25.body with | some c=>c | none=>.skip
theorem ls_I25:loopsIn body_I25=[]:=by kernel_rfl
theorem fn_I25 (N:Nat) (x:AVals sg_I25) (kf:Ret→Option Ret):F_I25 N x kf=peFunc h_I25 (Orc.of (es_I25 N)) (noL N N) Tryd.f25 (ashape sg_I25 x) kf:=by kernel_rfl
theorem sd_I25 {Γ : Gl} (hΓ : TabΓ Γ) (N:Nat):Sound Γ Tryd.prog 25 (run_I25 N):=fun_ok2 (hh:=h_I25) mixed tab_ok (es:=es_I25 N) trivial (fn:=Tryd.f25) (body:=body_I25) (by kernel_rfl) (by kernel_rfl) (by kernel_rfl) (by kernel_rfl) (by kernel_rfl) (Lf:=noL N) (noL0 N) ls_I25 trivial (N:=N) (by kernel_rfl) (fn_I25 N) (.inl (by kernel_rfl))
noncomputable def h_I26:Hint:={ tab,hn:=[],loops:=[],outs:=[],ords:=[] }
noncomputable def sg_I26:List AK:=[.v tQILLIE .k,.v (.int .i64) .k]
noncomputable def F_I26 (N:Nat) (x:AVals sg_I26) (kf:Ret→Option Ret):Option Ret:=I26 N x.1 x.2.1 (fun r0=>kf ⟨[⟨.bool,.k,r0⟩],[]⟩)
noncomputable def run_I26 (N:Nat):=runOf sg_I26 (F_I26 N)
noncomputable def es_I26 (N:Nat):List Entry:=[⟨25,[.val,.val,.val],(run_I25 N)⟩]
noncomputable def body_I26:Code:=match Tryd.f26.body with | some c=>c | none=>.skip
theorem ls_I26:loopsIn body_I26=[]:=by kernel_rfl
theorem fn_I26 (N:Nat) (x:AVals sg_I26) (kf:Ret→Option Ret):F_I26 N x kf=peFunc h_I26 (Orc.of (es_I26 N)) (noL N N) Tryd.f26 (ashape sg_I26 x) kf:=by kernel_rfl
theorem sd_I26 {Γ : Gl} (hΓ : TabΓ Γ) (N:Nat):Sound Γ Tryd.prog 26 (run_I26 N):=fun_ok2 (hh:=h_I26) mixed tab_ok (es:=es_I26 N) ⟨sd_I25 hΓ N,trivial⟩ (fn:=Tryd.f26) (body:=body_I26) (by kernel_rfl) (by kernel_rfl) (by kernel_rfl) (by kernel_rfl) (by kernel_rfl) (Lf:=noL N) (noL0 N) ls_I26 trivial (N:=N) (by kernel_rfl) (fn_I26 N) (.inl (by kernel_rfl))
noncomputable def h_C65:Hint:={ tab,hn:=[],loops:=[],outs:=[],ords:=[] }
noncomputable def sg_C65:List AK:=[.v (.int .i64) .k]
noncomputable def F_C65 (N:Nat) (x:AVals sg_C65) (kf:Ret→Option Ret):Option Ret:=C65 N x.1 (fun r0=>kf ⟨[⟨.bool,.k,r0⟩],[]⟩)
noncomputable def run_C65 (N:Nat):=runOf sg_C65 (F_C65 N)
noncomputable def es_C65 (N:Nat):List Entry:=[]
noncomputable def body_C65:Code:=match Tryd.f65.body with | some c=>c | none=>.skip
theorem ls_C65:loopsIn body_C65=[]:=by kernel_rfl
theorem fn_C65 (N:Nat) (x:AVals sg_C65) (kf:Ret→Option Ret):F_C65 N x kf=peFunc h_C65 (Orc.of (es_C65 N)) (noL N N) Tryd.f65 (ashape sg_C65 x) kf:=by kernel_rfl
theorem sd_C65 {Γ : Gl} (hΓ : TabΓ Γ) (N:Nat):Sound Γ Tryd.prog 65 (run_C65 N):=fun_ok2 (hh:=h_C65) mixed tab_ok (es:=es_C65 N) trivial (fn:=Tryd.f65) (body:=body_C65) (by kernel_rfl) (by kernel_rfl) (by kernel_rfl) (by kernel_rfl) (by kernel_rfl) (Lf:=noL N) (noL0 N) ls_C65 trivial (N:=N) (by kernel_rfl) (fn_C65 N) (.inl (by kernel_rfl))
noncomputable def h_C44:Hint:={ tab,hn:=[],loops:=[],outs:=[],ords:=[] }
noncomputable def sg_C44:List AK:=[.v (.int .i64) .k,.v (.int .i64) .k]
noncomputable def F_C44 (N:Nat) (x:AVals sg_C44) (kf:Ret→Option Ret):Option Ret:=C44 N x.1 x.2.1 (fun r0=>kf ⟨[⟨(.int .i64),.k,r0⟩],[]⟩)
noncomputable def run_C44 (N:Nat):=runOf sg_C44 (F_C44 N)
noncomputable def es_C44 (N:Nat):List Entry:=[⟨65,[.val],(run_C65 N)⟩]
noncomputable def body_C44:Code:=match Tryd.f44.body with | some c=>c | none=>.skip
theorem ls_C44:loopsIn body_C44=[]:=by kernel_rfl
theorem fn_C44 (N:Nat) (x:AVals sg_C44) (kf:Ret→Option Ret):F_C44 N x kf=peFunc h_C44 (Orc.of (es_C44 N)) (noL N N) Tryd.f44 (ashape sg_C44 x) kf:=by kernel_rfl
theorem sd_C44 {Γ : Gl} (hΓ : TabΓ Γ) (N:Nat):Sound Γ Tryd.prog 44 (run_C44 N):=fun_ok2 (hh:=h_C44) mixed tab_ok (es:=es_C44 N) ⟨sd_C65 hΓ N,trivial⟩ (fn:=Tryd.f44) (body:=body_C44) (by kernel_rfl) (by kernel_rfl) (by kernel_rfl) (by kernel_rfl) (by kernel_rfl) (Lf:=noL N) (noL0 N) ls_C44 trivial (N:=N) (by kernel_rfl) (fn_C44 N) (.inl (by kernel_rfl))
noncomputable def ks_S27_l2:List Kd:=[.v (.sl (.int .i64)) .k,.v (.sl (.int .i64)) .k,dK,dK,dK,dK,dK,dK,dK,.v (.sl (.int .i64)) .k,.v (.int .i64) .k,.v (.int .i64) .k,dK,dK,dK,dK,dK,dK,dK,dK,dK,dK,dK,dK,dK,dK,dK,dK,dK,dK,dK,dK,dK,dK,dK,dK]
noncomputable def ko_S27_l2_0:List Kd:=[.v (.sl (.int .i64)) .k,.v (.sl (.int .i64)) .k,dK,dK,dK,dK,dK,dK,dK,dK,dK,dK,dK,dK,dK,dK,dK,dK,dK,dK,dK,dK,dK,dK,dK,dK,dK,dK,dK,dK,dK,dK,dK,dK,dK,dK]
noncomputable def ko_S27_l2_1:List Kd:=[dK,dK,dK,dK,.v (.int .i64) .k,dK,dK,dK,dK,dK,dK,dK,dK,dK,dK,dK,dK,dK,dK,dK,dK,dK,dK,dK,dK,dK,dK,dK,dK,dK,dK,dK,dK,dK,dK,dK]
noncomputable def h_S27:Hint:={ tab,hn:=[],loops:=[(2,ks_S27_l2)],outs:=[(2,2,ko_S27_l2_0),(2,1,ko_S27_l2_1)],ords:=[] }
noncomputable def sg_S27:List AK:=[.v (.sl (.int .i64)) .k,.v (.sl (.int .i64)) .k]
noncomputable def F_S27 (N:Nat) (x:AVals sg_S27) (kf:Ret→Option Ret):Option Ret:=S27 N x.1 x.2.1 (fun r0=>kf ⟨[⟨(.int .i64),.k,r0⟩],[]⟩)
noncomputable def run_S27 (N:Nat):=runOf sg_S27 (F_S27 N)
noncomputable def es_S27 (N:Nat):List Entry:=[⟨44,[.val,.val],(run_C44 N)⟩]
noncomputable def body_S27:Code:=match Tryd.f27.body with | some c=>c | none=>.skip
noncomputable def L_S27 (N n:Nat) (key:Nat) (S:St) (K:Ks):Option Ret:=bif Nat.beq key 2 then withVals ks_S27_l2 S (fun x=>S27_l2 N x.1 x.2.1 x.2.2.1 x.2.2.2.1 n (K (.x 0) (shape ko_S27_l2_0 (x.1,x.2.1,()))) (fun z0=>K .r (shape ko_S27_l2_1 (z0,()))) x.2.2.2.2.1) else none
theorem L0_S27 (N key:Nat) (S:St) (K:Ks):L_S27 N 0 key S K=none:=(bif0 (withVals0 fun _=>rfl) rfl)
noncomputable def c_S27_0:Code:=(loopsIn body_S27).getD 0 .skip
theorem ls_S27:loopsIn body_S27=[c_S27_0]:=by kernel_rfl
theorem rd_S27_2 (N n:Nat) (x:Vals ks_S27_l2) (K:Ks):L_S27 N (n + 1) 2 (shape ks_S27_l2 x) (h_S27.onOut 2 K)=peRound h_S27 (Orc.of (es_S27 N)) (mixL (L_S27 N) N n 2) c_S27_0 (shape ks_S27_l2 x) (h_S27.onOut 2 K):=by kernel_rfl
theorem fn_S27 (N:Nat) (x:AVals sg_S27) (kf:Ret→Option Ret):F_S27 N x kf=peFunc h_S27 (Orc.of (es_S27 N)) (L_S27 N N) Tryd.f27 (ashape sg_S27 x) kf:=by kernel_rfl
theorem sd_S27 {Γ : Gl} (hΓ : TabΓ Γ) (N:Nat):Sound Γ Tryd.prog 27 (run_S27 N):=fun_ok2 (hh:=h_S27) mixed tab_ok (es:=es_S27 N) ⟨sd_C44 hΓ N,trivial⟩ (fn:=Tryd.f27) (body:=body_S27) (by kernel_rfl) (by kernel_rfl) (by kernel_rfl) (by kernel_rfl) (by kernel_rfl) (Lf:=L_S27 N) (L0_S27 N) ls_S27 (round_cons (key:=2) (ks:=ks_S27_l2) (by kernel_rfl) (by kernel_rfl) (rd_S27_2 N) trivial) (N:=N) (by kernel_rfl) (fn_S27 N) (.inl (by kernel_rfl))
noncomputable def ks_I8_l4:List Kd:=[dK,.v (.ptr tQILLIE) (.o 26 none .k),dK,dK,dK,dK,dK,dK,dK,dK,.v (.sl (.sl (.int .i64))) .k,.v (.int .i64) .k,.v (.int .i64) .k,dK,dK,dK,dK,dK,dK,dK,dK,dK,dK,dK,dK,dK,dK,dK,dK,dK,dK,dK,dK,dK,dK,dK,dK,dK,dK,dK,dK,dK,dK,dK,dK,dK,dK,dK,dK,dK,dK,dK]
noncomputable def ko_I8_l4_0:List Kd:=[dK,dK,dK,dK,dK,dK,dK,dK,dK,dK,dK,dK,dK,dK,dK,dK,dK,dK,dK,dK,dK,dK,dK,dK,dK,dK,dK,dK,dK,dK,dK,dK,dK,dK,dK,dK,dK,dK,dK,dK,dK,dK,dK,dK,dK,dK,dK,dK,dK,dK,dK,dK]
noncomputable def ko_I8_l4_1:List Kd:=[dK,dK,.v .bool .k,dK,dK,dK,dK,dK,dK,dK,dK,dK,dK,dK,dK,dK,dK,dK,dK,dK,dK,dK,dK,dK,dK,dK,dK,dK,dK,dK,dK,dK,dK,dK,dK,dK,dK,dK,dK,dK,dK,dK,dK,dK,dK,dK,dK,dK,dK,dK,dK,dK]
noncomputable def h_I8:Hint:={ tab,hn:=[],loops:=[(4,ks_I8_l4)],outs:=[(4,2,ko_I8_l4_0),(4,1,ko_I8_l4_1)],ords:=[(6,(OT.seq [0,1,2,3,4,5,6,7,8,9,10,11,12,13,14,15,16,17,18,19,20,21,22,23,24,25,26,27,28,29,30,31,32,33] .done))] }
noncomputable def sg_I8:List AK:=[.v tQILLIE .k]
noncomputable def F_I8 (N:Nat) (x:AVals sg_I8) (kf:Ret→Option Ret):Option Ret:=I8 N x.1 (fun r0=>kf ⟨[⟨.bool,.k,r0⟩],[]⟩)
noncomputable def run_I8 (N:Nat):=runOf sg_I8 (F_I8 N)
noncomputable def es_I8 (N:Nat):List Entry:=[⟨25,[.val,.val,.val],(run_I25 N)⟩,⟨26,[.val,.val],(run_I26 N)⟩,⟨27,[.val,.val],(run_S27 N)⟩]
noncomputable def body_I8:Code:=match Tryd.f8.body with | some c=>c | none=>.skip
noncomputable def L_I8 (N n:Nat) (key:Nat) (S:St) (K:Ks):Option Ret:=bif Nat.beq key 4 then withVals ks_I8_l4 S (fun x=>I8_l4 N x.1 x.2.1 x.2.2.1 n (K (.x 0) (shape ko_I8_l4_0 ())) (fun z0=>K .r (shape ko_I8_l4_1 (z0,()))) x.2.2.2.1) else none
theorem L0_I8 (N key:Nat) (S:St) (K:Ks):L_I8 N 0 key S K=none:=(bif0 (withVals0 fun _=>rfl) rfl)
noncomputable def c_I8_0:Code:=(loopsIn body_I8).getD 0 .skip
theorem ls_I8:loopsIn body_I8=[c_I8_0]:=by kernel_rfl
theorem rd_I8_4 (N n:Nat) (x:Vals ks_I8_l4) (K:Ks):L_I8 N (n + 1) 4 (shape ks_I8_l4 x) (h_I8.onOut 4 K)=peRound h_I8 (Orc.of (es_I8 N)) (mixL (L_I8 N) N n 4) c_I8_0 (shape ks_I8_l4 x) (h_I8.onOut 4 K):=by kernel_rfl
theorem fn_I8 (N:Nat) (x:AVals sg_I8) (kf:Ret→Option Ret):F_I8 N x kf=peFunc h_I8 (Orc.of (es_I8 N)) (L_I8 N N) Tryd.f8 (ashape sg_I8 x) kf:=by kernel_rfl
theorem sd_I8 {Γ : Gl} (hΓ : TabΓ Γ) (N:Nat):Sound Γ Tryd.prog 8 (run_I8 N):=fun_ok2 (hh:=h_I8) mixed tab_ok (es:=es_I8 N) ⟨sd_I25 hΓ N,⟨sd_I26 hΓ N,⟨sd_S27 hΓ N,trivial⟩⟩⟩ (fn:=Tryd.f8) (body:=body_I8) (by kernel_rfl) (by kernel_rfl) (by kernel_rfl) (by kernel_rfl) (by kernel_rfl) (Lf:=L_I8 N) (L0_I8 N) ls_I8 (round_cons (key:=4) (ks:=ks_I8_l4) (by kernel_rfl) (by kernel_rfl) (rd_I8_4 N) trivial) (N:=N) (by kernel_rfl) (fn_I8 N) (.inl (by kernel_rfl))
def ren_S43:Go.Shelf.Ren:=⟨fun n=>bif Nat.beq n 129 then 95 else bif Nat.beq n 171 then 43 else bif Nat.beq n 243 then 64 else bif Nat.beq n 246 then 82 else bif Nat.beq n 283 then 90 else bif Nat.beq n 284 then 91 else bif Nat.beq n 285 then 92 else bif Nat.beq n 286 then 93 else bif Nat.beq n 317 then 94 else bif Nat.beq n 318 then 96 else bif Nat.beq n 319 then 97 else bif Nat.beq n 320 then 98 else bif Nat.beq n 337 then 99 else bif Nat.beq n 338 then 100 else n,fun n=>bif Nat.beq n 0 then 0 else bif Nat.beq n 2 then 2 else bif Nat.beq n 3 then 3 else bif Nat.beq n 4 then 4 else bif Nat.beq n 5 then 5 else bif Nat.beq n 9 then 9 else bif Nat.beq n 20 then 20 else bif Nat.beq n 37 then 22 else bif Nat.beq n 46 then 105 else bif Nat.beq n 51 then 112 else bif Nat.beq n 53 then 63 else bif Nat.beq n 171 then 115 else bif Nat.beq n 173 then 118 else bif Nat.beq n 212 then 125 else bif Nat.beq n 213 then 126 else bif Nat.beq n 232 then 129 else bif Nat.beq n 233 then 130 else n,fun n=>bif Nat.beq n 17 then 3 else bif Nat.beq n 18 then 4 else bif Nat.beq n 19 then 5 else n⟩
theorem lays_S43:LaysM.n171 Tryd.prog ren_S43:={ mixed:=by kernel_rfl,f129:=by kernel_rfl,f171:=by kernel_rfl,f243:=by kernel_rfl,f246:=by kernel_rfl,f283:=by kernel_rfl,f284:=by kernel_rfl,f285:=by kernel_rfl,f286:=by kernel_rfl,f317:=by kernel_rfl,f318:=by kernel_rfl,f319:=by kernel_rfl,f320:=by kernel_rfl,f337:=by kernel_rfl,f338:=by kernel_rfl,t0:=by kernel_rfl,a0:=fun w=>by kernel_rfl,z0:=fun w=>by kernel_rfl,v0:=fun w=>by kernel_rfl,t2:=by kernel_rfl,a2:=fun w=>by kernel_rfl,z2:=fun w=>by kernel_rfl,v2:=fun w=>by kernel_rfl,t3:=by kernel_rfl,a3:=fun w=>by kernel_rfl,z3:=fun w=>by kernel_rfl,v3:=fun w=>by kernel_rfl,t4:=by kernel_rfl,a4:=fun w=>by kernel_rfl,z4:=fun w=>by kernel_rfl,v4:=fun w=>by kernel_rfl,t5:=by kernel_rfl,a5:=fun w=>by kernel_rfl,z5:=fun w=>by kernel_rfl,v5:=fun w=>by kernel_rfl,t9:=by kernel_rfl,a9:=fun w=>by kernel_rfl,z9:=fun w=>by kernel_rfl,v9:=fun w=>by kernel_rfl,t20:=by kernel_rfl,a20:=fun w=>by kernel_rfl,z20:=fun w=>by kernel_rfl,v20:=fun w=>by kernel_rfl,t37:=by kernel_rfl,a37:=fun w=>by kernel_rfl,z37:=fun w=>by kernel_rfl,v37:=fun w=>by kernel_rfl,t46:=by kernel_rfl,a46:=fun w=>by kernel_rfl,z46:=fun w=>by kernel_rfl,v46:=fun w=>by kernel_rfl,t51:=by kernel_rfl,a51:=fun w=>by kernel_rfl,z51:=fun w=>by kernel_rfl,v51:=fun w=>by kernel_rfl,t53:=by kernel_rfl,a53:=fun w=>by kernel_rfl,z53:=fun w=>by kernel_rfl,v53:=fun w=>by kernel_rfl,t171:=by kernel_rfl,a171:=fun w=>by kernel_rfl,z171:=fun w=>by kernel_rfl,v171:=fun w=>by kernel_rfl,t173:=by kernel_rfl,a173:=fun w=>by kernel_rfl,z173:=fun w=>by kernel_rfl,v173:=fun w=>by kernel_rfl,t212:=by kernel_rfl,a212:=fun w=>by kernel_rfl,z212:=fun w=>by kernel_rfl,v212:=fun w=>by kernel_rfl,t213:=by kernel_rfl,a213:=fun w=>by kernel_rfl,z213:=fun w=>by kernel_rfl,t232:=by kernel_rfl,a232:=fun w=>by kernel_rfl,z232:=fun w=>by kernel_rfl,v232:=fun w=>by kernel_rfl,t233:=by kernel_rfl,a233:=fun w=>by kernel_rfl,z233:=fun w=>by kernel_rfl,v233:=fun w=>by kernel_rfl,g17:=by kernel_rfl,g18:=by kernel_rfl,g19:=by kernel_rfl,i0:=by kernel_rfl,i2:=by kernel_rfl,i3:=by kernel_rfl,i4:=by kernel_rfl,i5:=by kernel_rfl,i9:=by kernel_rfl,i20:=by kernel_rfl,i37:=by kernel_rfl,i46:=by kernel_rfl,i51:=by kernel_rfl,i53:=by kernel_rfl,i171:=by kernel_rfl,i173:=by kernel_rfl,i212:=by kernel_rfl,i232:=by kernel_rfl,i233:=by kernel_rfl,m17:=by kernel_rfl,m18:=by kernel_rfl,m19:=by kernel_rfl }
noncomputable def sg_S43:List AK:=[.v (.int .i64) .k]
noncomputable def F_S43 (N:Nat) (x:AVals sg_S43) (kf:Ret→Option Ret):Option Ret:=S43 N x.1 (fun r0=>kf ⟨[⟨.str,.k,r0⟩],[]⟩)
noncomputable def run_S43 (N:Nat):=runOf sg_S43 (F_S43 N)
theorem sd_S43 {Γ : Gl} (hΓ : TabΓ Γ) (N:Nat):Sound Γ Tryd.prog 43 (run_S43 N):=sound_itoa lays_S43 hΓ
noncomputable def h_I24:Hint:={ tab,hn:=[],loops:=[],outs:=[],ords:=[] }
noncomputable def sg_I24:List AK:=[.v (.int .i64) .k]
noncomputable def F_I24 (N:Nat) (x:AVals sg_I24) (kf:Ret→Option Ret):Option Ret:=I24 N x.1 (fun r0=>kf ⟨[⟨.str,.k,r0⟩],[]⟩)
noncomputable def run_I24 (N:Nat):=runOf sg_I24 (F_I24 N)
noncomputable def es_I24 (N:Nat):List Entry:=[⟨43,[.val],(run_S43 N)⟩]
noncomputable def body_I24:Code:=match Tryd.f24.body with | some c=>c | none=>.skip
theorem ls_I24:loopsIn body_I24=[]:=by kernel_rfl
theorem fn_I24 (N:Nat) (x:AVals sg_I24) (kf:Ret→Option Ret):F_I24 N x kf=peFunc h_I24 (Orc.of (es_I24 N)) (noL N N) Tryd.f24 (ashape sg_I24 x) kf:=by kernel_rfl
theorem sd_I24 {Γ : Gl} (hΓ : TabΓ Γ) (N:Nat):Sound Γ Tryd.prog 24 (run_I24 N):=fun_ok2 (hh:=h_I24) mixed tab_ok (es:=es_I24 N) ⟨sd_S43 hΓ N,trivial⟩ (fn:=Tryd.f24) (body:=body_I24) (by kernel_rfl) (by kernel_rfl) (by kernel_rfl) (by kernel_rfl) (by kernel_rfl) (Lf:=noL N) (noL0 N) ls_I24 trivial (N:=N) (by kernel_rfl) (fn_I24 N) (.inl (by kernel_rfl))
noncomputable def ks_I7_l5:List Kd:=[dK,dK,dK,.v .str .k,dK,dK,dK,dK,dK,dK,dK,dK,dK,.v (.sl (.sl (.int .i64))) .k,.v (.int .i64) .k,.v (.int .i64) .k,dK,dK,dK,dK,dK,dK,dK,dK,dK,dK,dK,dK,dK,dK,dK,dK,dK,dK]
noncomputable def ko_I7_l5_0:List Kd:=[dK,dK,dK,.v .str .k,dK,dK,dK,dK,dK,dK,dK,dK,dK,dK,dK,dK,dK,dK,dK,dK,dK,dK,dK,dK,dK,dK,dK,dK,dK,dK,dK,dK,dK,dK]
noncomputable def h_I7:Hint:={ tab,hn:=[],loops:=[(5,ks_I7_l5)],outs:=[(5,2,ko_I7_l5_0)],ords:=[(7,(OT.seq [0,1,2,3,7,8,9,4,5,6,10,11,12,13] .done))] }
noncomputable def sg_I7:List AK:=[.v tQILLIE .k]
noncomputable def F_I7 (N:Nat) (x:AVals sg_I7) (kf:Ret→Option Ret):Option Ret:=I7 N x.1 (fun r0=>kf ⟨[⟨.str,.k,r0⟩],[]⟩)
noncomputable def run_I7 (N:Nat):=runOf sg_I7 (F_I7 N)
noncomputable def es_I7 (N:Nat):List Entry:=[⟨8,[.val],(run_I8 N)⟩,⟨24,[.val],(run_I24 N)⟩]
noncomputable def body_I7:Code:=match Tryd.f7.body with | some c=>c | none=>.skip
noncomputable def L_I7 (N n:Nat) (key:Nat) (S:St) (K:Ks):Option Ret:=bif Nat.beq key 5 then withVals ks_I7_l5 S (fun x=>I7_l5 N x.2.1 x.2.2.1 n (fun z0=>K (.x 0) (shape ko_I7_l5_0 (z0,()))) x.1 x.2.2.2.1) else none
theorem L0_I7 (N key:Nat) (S:St) (K:Ks):L_I7 N 0 key S K=none:=(bif0 (withVals0 fun _=>rfl) rfl)
noncomputable def c_I7_0:Code:=(loopsIn body_I7).getD 0 .skip
theorem ls_I7:loopsIn body_I7=[c_I7_0]:=by kernel_rfl
theorem rd_I7_5 (N n:Nat) (x:Vals ks_I7_l5) (K:Ks):L_I7 N (n + 1) 5 (shape ks_I7_l5 x) (h_I7.onOut 5 K)=peRound h_I7 (Orc.of (es_I7 N)) (mixL (L_I7 N) N n 5) c_I7_0 (shape ks_I7_l5 x) (h_I7.onOut 5 K):=by kernel_rfl
theorem fn_I7 (N:Nat) (x:AVals sg_I7) (kf:Ret→Option Ret):F_I7 N x kf=peFunc h_I7 (Orc.of (es_I7 N)) (L_I7 N N) Tryd.f7 (ashape sg_I7 x) kf:=by kernel_rfl
theorem sd_I7 {Γ : Gl} (hΓ : TabΓ Γ) (N:Nat):Sound Γ Tryd.prog 7 (run_I7 N):=fun_ok2 (hh:=h_I7) mixed tab_ok (es:=es_I7 N) ⟨sd_I8 hΓ N,⟨sd_I24 hΓ N,trivial⟩⟩ (fn:=Tryd.f7) (body:=body_I7) (by kernel_rfl) (by kernel_rfl) (by kernel_rfl) (by kernel_rfl) (by kernel_rfl) (Lf:=L_I7 N) (L0_I7 N) ls_I7 (round_cons (key:=5) (ks:=ks_I7_l5) (by kernel_rfl) (by kernel_rfl) (rd_I7_5 N) trivial) (N:=N) (by kernel_rfl) (fn_I7 N) (.inl (by kernel_rfl))
def ren_S21:Go.Shelf.Ren:=⟨fun n=>bif Nat.beq n 138 then 61 else bif Nat.beq n 143 then 62 else bif Nat.beq n 146 then 21 else bif Nat.beq n 195 then 76 else bif Nat.beq n 197 then 77 else bif Nat.beq n 217 then 69 else bif Nat.beq n 218 then 78 else bif Nat.beq n 219 then 63 else bif Nat.beq n 221 then 41 else bif Nat.beq n 224 then 80 else bif Nat.beq n 225 then 79 else bif Nat.beq n 260 then 88 else bif Nat.beq n 266 then 84 else bif Nat.beq n 267 then 81 else bif Nat.beq n 268 then 60 else bif Nat.beq n 314 then 89 else n,fun n=>bif Nat.beq n 0 then 0 else bif Nat.beq n 3 then 3 else bif Nat.beq n 4 then 4 else bif Nat.beq n 5 then 5 else bif Nat.beq n 9 then 9 else bif Nat.beq n 21 then 21 else bif Nat.beq n 31 then 46 else bif Nat.beq n 46 then 105 else bif Nat.beq n 51 then 112 else bif Nat.beq n 105 then 102 else bif Nat.beq n 119 then 120 else bif Nat.beq n 138 then 122 else bif Nat.beq n 139 then 123 else bif Nat.beq n 146 then 113 else n,fun n=>bif Nat.beq n 1 then 0 else bif Nat.beq n 3 then 1 else bif Nat.beq n 4 then 2 else n⟩
theorem lays_S21:Lays.n146 Tryd.prog ren_S21:={ mixed:=by kernel_rfl,f138:=by kernel_rfl,f143:=by kernel_rfl,f146:=by kernel_rfl,f195:=by kernel_rfl,f197:=by kernel_rfl,f217:=by kernel_rfl,f218:=by kernel_rfl,f219:=by kernel_rfl,f221:=by kernel_rfl,f224:=by kernel_rfl,f225:=by kernel_rfl,f260:=by kernel_rfl,f266:=by kernel_rfl,f267:=by kernel_rfl,f268:=by kernel_rfl,f314:=by kernel_rfl,t0:=by kernel_rfl,a0:=fun w=>by kernel_rfl,z0:=fun w=>by kernel_rfl,v0:=fun w=>by kernel_rfl,t3:=by kernel_rfl,a3:=fun w=>by kernel_rfl,z3:=fun w=>by kernel_rfl,v3:=fun w=>by kernel_rfl,t4:=by kernel_rfl,a4:=fun w=>by kernel_rfl,z4:=fun w=>by kernel_rfl,v4:=fun w=>by kernel_rfl,t5:=by kernel_rfl,a5:=fun w=>by kernel_rfl,z5:=fun w=>by kernel_rfl,v5:=fun w=>by kernel_rfl,t9:=by kernel_rfl,a9:=fun w=>by kernel_rfl,z9:=fun w=>by kernel_rfl,v9:=fun w=>by kernel_rfl,t21:=by kernel_rfl,a21:=fun w=>by kernel_rfl,z21:=fun w=>by kernel_rfl,v21:=fun w=>by kernel_rfl,t31:=by kernel_rfl,a31:=fun w=>by kernel_rfl,z31:=fun w=>by kernel_rfl,v31:=fun w=>by kernel_rfl,t46:=by kernel_rfl,a46:=fun w=>by kernel_rfl,z46:=fun w=>by kernel_rfl,v46:=fun w=>by kernel_rfl,t51:=by kernel_rfl,a51:=fun w=>by kernel_rfl,z51:=fun w=>by kernel_rfl,v51:=fun w=>by kernel_rfl,t105:=by kernel_rfl,a105:=fun w=>by kernel_rfl,z105:=fun w=>by kernel_rfl,v105:=fun w=>by kernel_rfl,t119:=by kernel_rfl,a119:=fun w=>by kernel_rfl,z119:=fun w=>by kernel_rfl,t138:=by kernel_rfl,a138:=fun w=>by kernel_rfl,z138:=fun w=>by kernel_rfl,v138:=fun w=>by kernel_rfl,t139:=by kernel_rfl,a139:=fun w=>by kernel_rfl,z139:=fun w=>by kernel_rfl,v139:=fun w=>by kernel_rfl,t146:=by kernel_rfl,a146:=fun w=>by kernel_rfl,z146:=fun w=>by kernel_rfl,v146:=fun w=>by kernel_rfl,g1:=by kernel_rfl,g3:=by kernel_rfl,g4:=by kernel_rfl }
noncomputable def sg_S21:List AK:=[.v .str .k,.v .str .k]
noncomputable def F_S21 (N:Nat) (x:AVals sg_S21) (kf:Ret→Option Ret):Option Ret:=S21 N x.1 x.2.1 (fun r0=>kf ⟨[⟨(.sl .str),.k,r0⟩],[]⟩)
noncomputable def run_S21 (N:Nat):=runOf sg_S21 (F_S21 N)
theorem sd_S21 {Γ : Gl} (hΓ : TabΓ Γ) (N:Nat):Sound Γ Tryd.prog 21 (run_S21 N):=sound_split lays_S21 (by kernel_rfl)
noncomputable def ks_I22_l5:List Kd:=[.v .str .k,dK,dK,dK,.v (.int .i64) .k,dK,dK,dK,dK,dK,dK,dK,dK,dK,dK,dK,dK,dK,dK,dK,dK,dK,dK,dK,dK,.v (.int .i64) .k,.v (.int .i64) .k,dK,dK,dK,dK,dK,dK,dK,dK,dK,dK,dK,dK,dK,dK,dK,dK,dK,dK,dK,dK,dK,dK,dK,dK]
noncomputable def ko_I22_l5_0:List Kd:=[dK,dK,dK,dK,.v (.int .i64) .k,dK,dK,dK,dK,dK,dK,dK,dK,dK,dK,dK,dK,dK,dK,dK,dK,dK,dK,dK,dK,dK,dK,dK,dK,dK,dK,dK,dK,dK,dK,dK,dK,dK,dK,dK,dK,dK,dK,dK,dK,dK,dK,dK,dK,dK,dK]
noncomputable def ko_I22_l5_1:List Kd:=[dK,dK,.v (.int .i64) .k,.v .bool .k,dK,dK,dK,dK,dK,dK,dK,dK,dK,dK,dK,dK,dK,dK,dK,dK,dK,dK,dK,dK,dK,dK,dK,dK,dK,dK,dK,dK,dK,dK,dK,dK,dK,dK,dK,dK,dK,dK,dK,dK,dK,dK,dK,dK,dK,dK,dK]
noncomputable def h_I22:Hint:={ tab,hn:=[],loops:=[(5,ks_I22_l5)],outs:=[(5,2,ko_I22_l5_0),(5,1,ko_I22_l5_1)],ords:=[] }
noncomputable def sg_I22:List AK:=[.v .str .k]
noncomputable def F_I22 (N:Nat) (x:AVals sg_I22) (kf:Ret→Option Ret):Option Ret:=I22 N x.1 (fun r0 r1=>kf ⟨[⟨(.int .i64),.k,r0⟩,⟨.bool,.k,r1⟩],[]⟩)
noncomputable def run_I22 (N:Nat):=runOf sg_I22 (F_I22 N)
noncomputable def es_I22 (N:Nat):List Entry:=[]
noncomputable def body_I22:Code:=match Tryd.f22.body with | some c=>c | none=>.skip
noncomputable def L_I22 (N n:Nat) (key:Nat) (S:St) (K:Ks):Option Ret:=bif Nat.beq key 5 then withVals ks_I22_l5 S (fun x=>I22_l5 x.1 x.2.2.1 n (fun z0=>K (.x 0) (shape ko_I22_l5_0 (z0,()))) (fun z0 z1=>K .r (shape ko_I22_l5_1 (z0,z1,()))) x.2.1 x.2.2.2.1) else none
theorem L0_I22 (N key:Nat) (S:St) (K:Ks):L_I22 N 0 key S K=none:=(bif0 (withVals0 fun _=>rfl) rfl)
noncomputable def c_I22_0:Code:=(loopsIn body_I22).getD 0 .skip
theorem ls_I22:loopsIn body_I22=[c_I22_0]:=by kernel_rfl
theorem rd_I22_5 (N n:Nat) (x:Vals ks_I22_l5) (K:Ks):L_I22 N (n + 1) 5 (shape ks_I22_l5 x) (h_I22.onOut 5 K)=peRound h_I22 (Orc.of (es_I22 N)) (mixL (L_I22 N) N n 5) c_I22_0 (shape ks_I22_l5 x) (h_I22.onOut 5 K):=by kernel_rfl
theorem fn_I22 (N:Nat) (x:AVals sg_I22) (kf:Ret→Option Ret):F_I22 N x kf=peFunc h_I22 (Orc.of (es_I22 N)) (L_I22 N N) Tryd.f22 (ashape sg_I22 x) kf:=by kernel_rfl
theorem sd_I22 {Γ : Gl} (hΓ : TabΓ Γ) (N:Nat):Sound Γ Tryd.prog 22 (run_I22 N):=fun_ok2 (hh:=h_I22) mixed tab_ok (es:=es_I22 N) trivial (fn:=Tryd.f22) (body:=body_I22) (by kernel_rfl) (by kernel_rfl) (by kernel_rfl) (by kernel_rfl) (by kernel_rfl) (Lf:=L_I22 N) (L0_I22 N) ls_I22 (round_cons (key:=5) (ks:=ks_I22_l5) (by kernel_rfl) (by kernel_rfl) (rd_I22_5 N) trivial) (N:=N) (by kernel_rfl) (fn_I22 N) (.inl (by kernel_rfl))
def ren_S23:Go.Shelf.Ren:=⟨fun n=>bif Nat.beq n 145 then 23 else bif Nat.beq n 217 then 69 else bif Nat.beq n 219 then 63 else bif Nat.beq n 220 then 42 else bif Nat.beq n 224 then 80 else bif Nat.beq n 225 then 79 else bif Nat.beq n 266 then 84 else bif Nat.beq n 267 then 81 else bif Nat.beq n 314 then 89 else n,fun n=>bif Nat.beq n 3 then 3 else bif Nat.beq n 4 then 4 else bif Nat.beq n 5 then 5 else bif Nat.beq n 9 then 9 else bif Nat.beq n 46 then 105 else bif Nat.beq n 51 then 112 else bif Nat.beq n 59 then 50 else bif Nat.beq n 146 then 113 else n,fun n=>bif Nat.beq n 1 then 0 else n⟩
theorem lays_S23:Lays.n145 Tryd.prog ren_S23:={ mixed:=by kernel_rfl,f145:=by kernel_rfl,f217:=by kernel_rfl,f219:=by kernel_rfl,f220:=by kernel_rfl,f224:=by kernel_rfl,f225:=by kernel_rfl,f266:=by kernel_rfl,f267:=by kernel_rfl,f314:=by kernel_rfl,t3:=by kernel_rfl,a3:=fun w=>by kernel_rfl,z3:=fun w=>by kernel_rfl,v3:=fun w=>by kernel_rfl,t4:=by kernel_rfl,a4:=fun w=>by kernel_rfl,z4:=fun w=>by kernel_rfl,v4:=fun w=>by kernel_rfl,t5:=by kernel_rfl,a5:=fun w=>by kernel_rfl,z5:=fun w=>by kernel_rfl,v5:=fun w=>by kernel_rfl,t9:=by kernel_rfl,a9:=fun w=>by kernel_rfl,z9:=fun w=>by kernel_rfl,v9:=fun w=>by kernel_rfl,t46:=by kernel_rfl,a46:=fun w=>by kernel_rfl,z46:=fun w=>by kernel_rfl,v46:=fun w=>by kernel_rfl,t51:=by kernel_rfl,a51:=fun w=>by kernel_rfl,z51:=fun w=>by kernel_rfl,v51:=fun w=>by kernel_rfl,t59:=by kernel_rfl,a59:=fun w=>by kernel_rfl,z59:=fun w=>by kernel_rfl,v59:=fun w=>by kernel_rfl,t146:=by kernel_rfl,a146:=fun w=>by kernel_rfl,z146:=fun w=>by kernel_rfl,v146:=fun w=>by kernel_rfl,g1:=by kernel_rfl }
noncomputable def sg_S23:List AK:=[.v .str .k,.v .str .k]
noncomputable def F_S23 (N:Nat) (x:AVals sg_S23) (kf:Ret→Option Ret):Option Ret:=S23 N x.1 x.2.1 (fun r0 r1 r2=>kf ⟨[⟨.str,.k,r0⟩,⟨.str,.k,r1⟩,⟨.bool,.k,r2⟩],[]⟩)
noncomputable def run_S23 (N:Nat):=runOf sg_S23 (F_S23 N)
theorem sd_S23 {Γ : Gl} (hΓ : TabΓ Γ) (N:Nat):Sound Γ Tryd.prog 23 (run_S23 N):=sound_cut lays_S23
noncomputable def ks_I6_l5:List Kd:=[.v .str .k,dK,.v (.ptr tQILLIE) (.o 26 none (.p .k (.o 34 none (.o 3 none .k)))),dK,dK,dK,.v .bool .k,.v (.ptr tQILLIE) (.o 26 none (.p .k (.o 34 none (.o 3 none .k)))),dK,dK,dK,dK,dK,dK,dK,dK,dK,dK,dK,dK,dK,dK,dK,dK,dK,dK,dK,dK,dK,dK,.v (.sl .str) .k,.v (.int .i64) .k,.v (.int .i64) .k,dK,dK,dK,dK,dK,dK,dK,dK,dK,dK,dK,dK,dK,dK,dK,dK,dK,dK,dK,dK,dK,dK,dK,dK,dK,dK,dK,dK,dK,dK,dK,dK,dK,dK,dK,dK,dK,dK,dK,dK,dK,dK,dK,dK,dK]
noncomputable def ko_I6_l5_0:List Kd:=[.v .str .k,dK,.v (.ptr tQILLIE) (.o 26 none (.p .k (.o 34 none (.o 3 none .k)))),dK,dK,dK,.v .bool .k,.v (.ptr tQILLIE) (.o 26 none (.p .k (.o 34 none (.o 3 none .k)))),dK,dK,dK,dK,dK,dK,dK,dK,dK,dK,dK,dK,dK,dK,dK,dK,dK,dK,dK,dK,dK,dK,dK,dK,dK,dK,dK,dK,dK,dK,dK,dK,dK,dK,dK,dK,dK,dK,dK,dK,dK,dK,dK,dK,dK,dK,dK,dK,dK,dK,dK,dK,dK,dK,dK,dK,dK,dK,dK,dK,dK,dK,dK,dK,dK,dK,dK,dK,dK,dK]
noncomputable def h_I6:Hint:={ tab,hn:=[(27,(.o 3 none .k))],loops:=[(5,ks_I6_l5)],outs:=[(5,2,ko_I6_l5_0)],ords:=[] }
noncomputable def sg_I6:List AK:=[.v .str .k]
noncomputable def F_I6 (N:Nat) (x:AVals sg_I6) (kf:Ret→Option Ret):Option Ret:=I6 N x.1 (fun r0 r1=>kf ⟨[⟨tQILLIE,(.p .k (.o 34 none (.o 3 none .k))),r0⟩,⟨.bool,.k,r1⟩],[]⟩)
noncomputable def run_I6 (N:Nat):=runOf sg_I6 (F_I6 N)
noncomputable def es_I6 (N:Nat):List Entry:=[⟨21,[.val,.val],(run_S21 N)⟩,⟨22,[.val],(run_I22 N)⟩,⟨23,[.val,.val],(run_S23 N)⟩,⟨7,[.val],(run_I7 N)⟩]
noncomputable def body_I6:Code:=match Tryd.f6.body with | some c=>c | none=>.skip
noncomputable def L_I6 (N n:Nat) (key:Nat) (S:St) (K:Ks):Option Ret:=bif Nat.beq key 5 then withVals ks_I6_l5 S (fun x=>I6_l5 N x.1 x.2.1 x.2.2.2.2.1 x.2.2.2.2.2.1 n (fun z0 z1=>K (.x 0) (shape ko_I6_l5_0 (x.1,x.2.1,z0,z1,()))) x.2.2.1 x.2.2.2.1 x.2.2.2.2.2.2.1) else none
theorem L0_I6 (N key:Nat) (S:St) (K:Ks):L_I6 N 0 key S K=none:=(bif0 (withVals0 fun _=>rfl) rfl)
noncomputable def c_I6_0:Code:=(loopsIn body_I6).getD 0 .skip
theorem ls_I6:loopsIn body_I6=[c_I6_0]:=by kernel_rfl
theorem rd_I6_5 (N n:Nat) (x:Vals ks_I6_l5) (K:Ks):L_I6 N (n + 1) 5 (shape ks_I6_l5 x) (h_I6.onOut 5 K)=peRound h_I6 (Orc.of (es_I6 N)) (mixL (L_I6 N) N n 5) c_I6_0 (shape ks_I6_l5 x) (h_I6.onOut 5 K):=by kernel_rfl
theorem fn_I6 (N:Nat) (x:AVals sg_I6) (kf:Ret→Option Ret):F_I6 N x kf=peFunc h_I6 (Orc.of (es_I6 N)) (L_I6 N N) Tryd.f6 (ashape sg_I6 x) kf:=by kernel_rfl
theorem sd_I6 {Γ : Gl} (hΓ : TabΓ Γ) (N:Nat):Sound Γ Tryd.prog 6 (run_I6 N):=fun_ok2 (hh:=h_I6) mixed tab_ok (es:=es_I6 N) ⟨sd_S21 hΓ N,⟨sd_I22 hΓ N,⟨sd_S23 hΓ N,⟨sd_I7 hΓ N,trivial⟩⟩⟩⟩ (fn:=Tryd.f6) (body:=body_I6) (by kernel_rfl) (by kernel_rfl) (by kernel_rfl) (by kernel_rfl) (by kernel_rfl) (Lf:=L_I6 N) (L0_I6 N) ls_I6 (round_cons (key:=5) (ks:=ks_I6_l5) (by kernel_rfl) (by kernel_rfl) (rd_I6_5 N) trivial) (N:=N) (by kernel_rfl) (fn_I6 N) (.inl (by kernel_rfl))
noncomputable def ks_S29_l4:List Kd:=[.v (.sl (.int .i64)) .k,.v (.sl (.int .i64)) .k,dK,dK,dK,dK,dK,dK,dK,dK,dK,dK,.v (.int .i64) .k,.v (.int .i64) .k,dK,dK,dK,dK,dK,dK,dK,dK,dK,dK,dK,dK]
noncomputable def ko_S29_l4_0:List Kd:=[dK,dK,dK,dK,dK,dK,dK,dK,dK,dK,dK,dK,dK,dK,dK,dK,dK,dK,dK,dK,dK,dK,dK,dK,dK,dK]
noncomputable def ko_S29_l4_1:List Kd:=[dK,dK,dK,dK,.v .bool .k,dK,dK,dK,dK,dK,dK,dK,dK,dK,dK,dK,dK,dK,dK,dK,dK,dK,dK,dK,dK,dK]
noncomputable def h_S29:Hint:={ tab,hn:=[],loops:=[(4,ks_S29_l4)],outs:=[(4,2,ko_S29_l4_0),(4,1,ko_S29_l4_1)],ords:=[(6,(OT.seq [0,1,2,3,4,5,6,7,8] .done))] }
noncomputable def sg_S29:List AK:=[.v (.sl (.int .i64)) .k,.v (.sl (.int .i64)) .k]
noncomputable def F_S29 (N:Nat) (x:AVals sg_S29) (kf:Ret→Option Ret):Option Ret:=S29 N x.1 x.2.1 (fun r0=>kf ⟨[⟨.bool,.k,r0⟩],[]⟩)
noncomputable def run_S29 (N:Nat):=runOf sg_S29 (F_S29 N)
noncomputable def es_S29 (N:Nat):List Entry:=[]
noncomputable def body_S29:Code:=match Tryd.f29.body with | some c=>c | none=>.skip
noncomputable def L_S29 (N n:Nat) (key:Nat) (S:St) (K:Ks):Option Ret:=bif Nat.beq key 4 then withVals ks_S29_l4 S (fun x=>S29_l4 x.1 x.2.1 x.2.2.1 n (K (.x 0) (shape ko_S29_l4_0 ())) (fun z0=>K .r (shape ko_S29_l4_1 (z0,()))) x.2.2.2.1) else none
theorem L0_S29 (N key:Nat) (S:St) (K:Ks):L_S29 N 0 key S K=none:=(bif0 (withVals0 fun _=>rfl) rfl)
noncomputable def c_S29_0:Code:=(loopsIn body_S29).getD 0 .skip
theorem ls_S29:loopsIn body_S29=[c_S29_0]:=by kernel_rfl
theorem rd_S29_4 (N n:Nat) (x:Vals ks_S29_l4) (K:Ks):L_S29 N (n + 1) 4 (shape ks_S29_l4 x) (h_S29.onOut 4 K)=peRound h_S29 (Orc.of (es_S29 N)) (mixL (L_S29 N) N n 4) c_S29_0 (shape ks_S29_l4 x) (h_S29.onOut 4 K):=by kernel_rfl
theorem fn_S29 (N:Nat) (x:AVals sg_S29) (kf:Ret→Option Ret):F_S29 N x kf=peFunc h_S29 (Orc.of (es_S29 N)) (L_S29 N N) Tryd.f29 (ashape sg_S29 x) kf:=by kernel_rfl
theorem sd_S29 {Γ : Gl} (hΓ : TabΓ Γ) (N:Nat):Sound Γ Tryd.prog 29 (run_S29 N):=fun_ok2 (hh:=h_S29) mixed tab_ok (es:=es_S29 N) trivial (fn:=Tryd.f29) (body:=body_S29) (by kernel_rfl) (by kernel_rfl) (by kernel_rfl) (by kernel_rfl) (by kernel_rfl) (Lf:=L_S29 N) (L0_S29 N) ls_S29 (round_cons (key:=4) (ks:=ks_S29_l4) (by kernel_rfl) (by kernel_rfl) (rd_S29_4 N) trivial) (N:=N) (by kernel_rfl) (fn_S29 N) (.inl (by kernel_rfl))
noncomputable def ks_S28_l4:List Kd:=[dK,.v (.sl (.sl (.int .i64))) .k,.clo 29 [],dK,dK,dK,dK,dK,dK,dK,dK,dK,dK,dK,dK,.v (.sl (.sl (.int .i64))) .k,.v (.int .i64) .k,.v (.int .i64) .k,dK,dK,dK,dK,dK,dK,dK,dK,dK,dK,dK,dK,dK,dK]
noncomputable def ko_S28_l4_0:List Kd:=[dK,dK,dK,dK,dK,dK,dK,dK,dK,dK,dK,dK,dK,dK,dK,dK,dK,dK,dK,dK,dK,dK,dK,dK,dK,dK,dK,dK,dK,dK,dK,dK]
noncomputable def ko_S28_l4_1:List Kd:=[dK,dK,dK,dK,dK,dK,.v .bool .k,dK,dK,dK,dK,dK,dK,dK,dK,dK,dK,dK,dK,dK,dK,dK,dK,dK,dK,dK,dK,dK,dK,dK,dK,dK]
noncomputable def h_S28:Hint:={ tab,hn:=[],loops:=[(4,ks_S28_l4)],outs:=[(4,2,ko_S28_l4_0),(4,1,ko_S28_l4_1)],ords:=[] }
noncomputable def sg_S28:List AK:=[.v (.sl (.sl (.int .i64))) .k,.v (.sl (.sl (.int .i64))) .k,.fn 29 []]
noncomputable def F_S28 (N:Nat) (x:AVals sg_S28) (kf:Ret→Option Ret):Option Ret:=S28 N x.1 x.2.1 (fun r0=>kf ⟨[⟨.bool,.k,r0⟩],[]⟩)
noncomputable def run_S28 (N:Nat):=runOf sg_S28 (F_S28 N)
noncomputable def es_S28 (N:Nat):List Entry:=[⟨29,[.val,.val],(run_S29 N)⟩]
noncomputable def body_S28:Code:=match Tryd.f28.body with | some c=>c | none=>.skip
noncomputable def L_S28 (N n:Nat) (key:Nat) (S:St) (K:Ks):Option Ret:=bif Nat.beq key 4 then withVals ks_S28_l4 S (fun x=>S28_l4 N x.1 x.2.2.1 x.2.2.2.1 n (K (.x 0) (shape ko_S28_l4_0 ())) (fun z0=>K .r (shape ko_S28_l4_1 (z0,()))) x.2.2.2.2.1) else none
theorem L0_S28 (N key:Nat) (S:St) (K:Ks):L_S28 N 0 key S K=none:=(bif0 (withVals0 fun _=>rfl) rfl)
noncomputable def c_S28_0:Code:=(loopsIn body_S28).getD 0 .skip
theorem ls_S28:loopsIn body_S28=[c_S28_0]:=by kernel_rfl
theorem rd_S28_4 (N n:Nat) (x:Vals ks_S28_l4) (K:Ks):L_S28 N (n + 1) 4 (shape ks_S28_l4 x) (h_S28.onOut 4 K)=peRound h_S28 (Orc.of (es_S28 N)) (mixL (L_S28 N) N n 4) c_S28_0 (shape ks_S28_l4 x) (h_S28.onOut 4 K):=by kernel_rfl
theorem fn_S28 (N:Nat) (x:AVals sg_S28) (kf:Ret→Option Ret):F_S28 N x kf=peFunc h_S28 (Orc.of (es_S28 N)) (L_S28 N N) Tryd.f28 (ashape sg_S28 x) kf:=by kernel_rfl
theorem sd_S28 {Γ : Gl} (hΓ : TabΓ Γ) (N:Nat):Sound Γ Tryd.prog 28 (run_S28 N):=fun_ok2 (hh:=h_S28) mixed tab_ok (es:=es_S28 N) ⟨sd_S29 hΓ N,trivial⟩ (fn:=Tryd.f28) (body:=body_S28) (by kernel_rfl) (by kernel_rfl) (by kernel_rfl) (by kernel_rfl) (by kernel_rfl) (Lf:=L_S28 N) (L0_S28 N) ls_S28 (round_cons (key:=4) (ks:=ks_S28_l4) (by kernel_rfl) (by kernel_rfl) (rd_S28_4 N) trivial) (N:=N) (by kernel_rfl) (fn_S28 N) (.inl (by kernel_rfl))
noncomputable def ks_I9_l5:List Kd:=[dK,dK,.v (.ptr tQILLIE) (.o 26 none .k),dK,dK,.v (.sl (.sl (.int .i64))) (.o 34 none .k),dK,dK,dK,dK,dK,dK,dK,dK,dK,dK,dK,dK,dK,dK,dK,dK,dK,dK,dK,.v (.sl (.sl (.int .i64))) .k,.v (.int .i64) .k,.v (.int .i64) .k,dK,dK,dK,dK,dK,dK,dK,dK,dK,dK,dK,dK,dK,dK,dK,dK,dK,dK,dK,dK,dK,dK,dK,dK,dK,dK]
noncomputable def ko_I9_l5_0:List Kd:=[dK,dK,.v (.ptr tQILLIE) (.o 26 none .k),dK,dK,.v (.sl (.sl (.int .i64))) (.o 34 none .k),dK,dK,dK,dK,dK,dK,dK,dK,dK,dK,dK,dK,dK,dK,dK,dK,dK,dK,dK,dK,dK,dK,dK,dK,dK,dK,dK,dK,dK,dK,dK,dK,dK,dK,dK,dK,dK,dK,dK,dK,dK,dK,dK,dK,dK,dK,dK,dK]
noncomputable def h_I9:Hint:={ tab,hn:=[],loops:=[(5,ks_I9_l5)],outs:=[(5,2,ko_I9_l5_0)],ords:=[(7,(OT.seq [0,1,2,3,4,5,6,7,8,9,10,11,12,13] .done))] }
noncomputable def sg_I9:List AK:=[.v tQILLIE .k,.v tQILLIE .k]
noncomputable def F_I9 (N:Nat) (x:AVals sg_I9) (kf:Ret→Option Ret):Option Ret:=I9 N x.1 x.2.1 (fun r0=>kf ⟨[⟨.bool,.k,r0⟩],[]⟩)
noncomputable def run_I9 (N:Nat):=runOf sg_I9 (F_I9 N)
noncomputable def es_I9 (N:Nat):List Entry:=[⟨8,[.val],(run_I8 N)⟩,⟨28,[.val,.val,.val],(run_S28 N)⟩]
noncomputable def body_I9:Code:=match Tryd.f9.body with | some c=>c | none=>.skip
noncomputable def L_I9 (N n:Nat) (key:Nat) (S:St) (K:Ks):Option Ret:=bif Nat.beq key 5 then withVals ks_I9_l5 S (fun x=>I9_l5 x.1 x.2.2.1 x.2.2.2.1 n (fun z0=>K (.x 0) (shape ko_I9_l5_0 (x.1,z0,()))) x.2.1 x.2.2.2.2.1) else none
theorem L0_I9 (N key:Nat) (S:St) (K:Ks):L_I9 N 0 key S K=none:=(bif0 (withVals0 fun _=>rfl) rfl)
noncomputable def c_I9_0:Code:=(loopsIn body_I9).getD 0 .skip
theorem ls_I9:loopsIn body_I9=[c_I9_0]:=by kernel_rfl
theorem rd_I9_5 (N n:Nat) (x:Vals ks_I9_l5) (K:Ks):L_I9 N (n + 1) 5 (shape ks_I9_l5 x) (h_I9.onOut 5 K)=peRound h_I9 (Orc.of (es_I9 N)) (mixL (L_I9 N) N n 5) c_I9_0 (shape ks_I9_l5 x) (h_I9.onOut 5 K):=by kernel_rfl
theorem fn_I9 (N:Nat) (x:AVals sg_I9) (kf:Ret→Option Ret):F_I9 N x kf=peFunc h_I9 (Orc.of (es_I9 N)) (L_I9 N N) Tryd.f9 (ashape sg_I9 x) kf:=by kernel_rfl
theorem sd_I9 {Γ : Gl} (hΓ : TabΓ Γ) (N:Nat):Sound Γ Tryd.prog 9 (run_I9 N):=fun_ok2 (hh:=h_I9) mixed tab_ok (es:=es_I9 N) ⟨sd_I8 hΓ N,⟨sd_S28 hΓ N,trivial⟩⟩ (fn:=Tryd.f9) (body:=body_I9) (by kernel_rfl) (by kernel_rfl) (by kernel_rfl) (by kernel_rfl) (by kernel_rfl) (Lf:=L_I9 N) (L0_I9 N) ls_I9 (round_cons (key:=5) (ks:=ks_I9_l5) (by kernel_rfl) (by kernel_rfl) (rd_I9_5 N) trivial) (N:=N) (by kernel_rfl) (fn_I9 N) (.inl (by kernel_rfl))
noncomputable def ks_S46_l5:List Kd:=[.v (.int .i64) .k,dK,dK,.v .str .k,.v (.int .i64) .k,dK,dK,dK,dK,dK,dK,dK,dK,dK,dK,dK,dK,dK,dK,dK,dK,dK,dK,dK,dK,dK,dK,dK,dK,dK,dK]
noncomputable def ko_S46_l5_0:List Kd:=[.v (.int .i64) .k,dK,dK,.v .str .k,dK,dK,dK,dK,dK,dK,dK,dK,dK,dK,dK,dK,dK,dK,dK,dK,dK,dK,dK,dK,dK,dK,dK,dK,dK,dK,dK]
noncomputable def h_S46:Hint:={ tab,hn:=[],loops:=[(5,ks_S46_l5)],outs:=[(5,2,ko_S46_l5_0)],ords:=[] }
noncomputable def sg_S46:List AK:=[.v (.int .i64) .k]
noncomputable def F_S46 (N:Nat) (x:AVals sg_S46) (kf:Ret→Option Ret):Option Ret:=S46 N x.1 (fun r0=>kf ⟨[⟨.str,.k,r0⟩],[]⟩)
noncomputable def run_S46 (N:Nat):=runOf sg_S46 (F_S46 N)
noncomputable def es_S46 (N:Nat):List Entry:=[]
noncomputable def body_S46:Code:=match Tryd.f46.body with | some c=>c | none=>.skip
noncomputable def L_S46 (N n:Nat) (key:Nat) (S:St) (K:Ks):Option Ret:=bif Nat.beq key 5 then withVals ks_S46_l5 S (fun x=>S46_l5 x.1 n (fun z0=>K (.x 0) (shape ko_S46_l5_0 (x.1,z0,()))) x.2.1 x.2.2.1) else none
theorem L0_S46 (N key:Nat) (S:St) (K:Ks):L_S46 N 0 key S K=none:=(bif0 (withVals0 fun _=>rfl) rfl)
noncomputable def c_S46_0:Code:=(loopsIn body_S46).getD 0 .skip
theorem ls_S46:loopsIn body_S46=[c_S46_0]:=by kernel_rfl
theorem rd_S46_5 (N n:Nat) (x:Vals ks_S46_l5) (K:Ks):L_S46 N (n + 1) 5 (shape ks_S46_l5 x) (h_S46.onOut 5 K)=peRound h_S46 (Orc.of (es_S46 N)) (mixL (L_S46 N) N n 5) c_S46_0 (shape ks_S46_l5 x) (h_S46.onOut 5 K):=by kernel_rfl
theorem fn_S46 (N:Nat) (x:AVals sg_S46) (kf:Ret→Option Ret):F_S46 N x kf=peFunc h_S46 (Orc.of (es_S46 N)) (L_S46 N N) Tryd.f46 (ashape sg_S46 x) kf:=by kernel_rfl
theorem sd_S46 {Γ : Gl} (hΓ : TabΓ Γ) (N:Nat):Sound Γ Tryd.prog 46 (run_S46 N):=fun_ok2 (hh:=h_S46) mixed tab_ok (es:=es_S46 N) trivial (fn:=Tryd.f46) (body:=body_S46) (by kernel_rfl) (by kernel_rfl) (by kernel_rfl) (by kernel_rfl) (by kernel_rfl) (Lf:=L_S46 N) (L0_S46 N) ls_S46 (round_cons (key:=5) (ks:=ks_S46_l5) (by kernel_rfl) (by kernel_rfl) (rd_S46_5 N) trivial) (N:=N) (by kernel_rfl) (fn_S46 N) (.inl (by kernel_rfl))
noncomputable def ks_S31_l5:List Kd:=[dK,.v (.ptr tQILLIE) (.o 26 none .k),dK,.v .str .k,.v (.int .i64) .k,dK,dK,dK,dK,dK,dK,dK,dK,dK,dK,dK,dK,dK,dK,dK,dK,dK,dK,dK,dK,dK,dK,dK,dK,dK,dK,dK,dK,dK,dK,dK,dK,dK,dK,dK]
noncomputable def ko_S31_l5_0:List Kd:=[dK,dK,dK,.v .str .k,dK,dK,dK,dK,dK,dK,dK,dK,dK,dK,dK,dK,dK,dK,dK,dK,dK,dK,dK,dK,dK,dK,dK,dK,dK,dK,dK,dK,dK,dK,dK,dK,dK,dK,dK,dK]
noncomputable def h_S31:Hint:={ tab,hn:=[],loops:=[(5,ks_S31_l5)],outs:=[(5,2,ko_S31_l5_0)],ords:=[(7,(OT.seq [0,1,2,3,4,5,6,7,8,12,13,14,15,16,17,18,9,10,11,19,20,21] .done))] }
noncomputable def sg_S31:List AK:=[.v tQILLIE .k]
noncomputable def F_S31 (N:Nat) (x:AVals sg_S31) (kf:Ret→Option Ret):Option Ret:=S31 N x.1 (fun r0=>kf ⟨[⟨.str,.k,r0⟩],[]⟩)
noncomputable def run_S31 (N:Nat):=runOf sg_S31 (F_S31 N)
noncomputable def es_S31 (N:Nat):List Entry:=[⟨45,[.val],(run_S45 N)⟩,⟨46,[.val],(run_S46 N)⟩]
noncomputable def body_S31:Code:=match Tryd.f31.body with | some c=>c | none=>.skip
noncomputable def L_S31 (N n:Nat) (key:Nat) (S:St) (K:Ks):Option Ret:=bif Nat.beq key 5 then withVals ks_S31_l5 S (fun x=>S31_l5 N x.1 n (fun z0=>K (.x 0) (shape ko_S31_l5_0 (z0,()))) x.2.1 x.2.2.1) else none
theorem L0_S31 (N key:Nat) (S:St) (K:Ks):L_S31 N 0 key S K=none:=(bif0 (withVals0 fun _=>rfl) rfl)
noncomputable def c_S31_0:Code:=(loopsIn body_S31).getD 0 .skip
theorem ls_S31:loopsIn body_S31=[c_S31_0]:=by kernel_rfl
theorem rd_S31_5 (N n:Nat) (x:Vals ks_S31_l5) (K:Ks):L_S31 N (n + 1) 5 (shape ks_S31_l5 x) (h_S31.onOut 5 K)=peRound h_S31 (Orc.of (es_S31 N)) (mixL (L_S31 N) N n 5) c_S31_0 (shape ks_S31_l5 x) (h_S31.onOut 5 K):=by kernel_rfl
theorem fn_S31 (N:Nat) (x:AVals sg_S31) (kf:Ret→Option Ret):F_S31 N x kf=peFunc h_S31 (Orc.of (es_S31 N)) (L_S31 N N) Tryd.f31 (ashape sg_S31 x) kf:=by kernel_rfl
theorem sd_S31 {Γ : Gl} (hΓ : TabΓ Γ) (N:Nat):Sound Γ Tryd.prog 31 (run_S31 N):=fun_ok2 (hh:=h_S31) mixed tab_ok (es:=es_S31 N) ⟨sd_S45 hΓ N,⟨sd_S46 hΓ N,trivial⟩⟩ (fn:=Tryd.f31) (body:=body_S31) (by kernel_rfl) (by kernel_rfl) (by kernel_rfl) (by kernel_rfl) (by kernel_rfl) (Lf:=L_S31 N) (L0_S31 N) ls_S31 (round_cons (key:=5) (ks:=ks_S31_l5) (by kernel_rfl) (by kernel_rfl) (rd_S31_5 N) trivial) (N:=N) (by kernel_rfl) (fn_S31 N) (.inl (by kernel_rfl))
noncomputable def h_S33:Hint:={ tab,hn:=[],loops:=[],outs:=[],ords:=[],lent:=some (0,false) }
noncomputable def sg_S33:List AK:=[.v (.ptr tQLIIIE) (.o 73 (some 0) .k),.v (.sl .str) .k]
noncomputable def F_S33 (N:Nat) (x:AVals sg_S33) (kf:Ret→Option Ret):Option Ret:=S33 N x.1 x.2.1 (fun r0 z=>kf ⟨[⟨.str,.k,r0⟩],[⟨(.ptr tQLIIIE),(.o 73 (some 0) .k),z⟩]⟩)
noncomputable def run_S33 (N:Nat):=runOf sg_S33 (F_S33 N)
noncomputable def es_S33 (N:Nat):List Entry:=[⟨48,[.lend,.val],(run_S48 N)⟩]
noncomputable def body_S33:Code:=match Tryd.f33.body with | some c=>c | none=>.skip
theorem ls_S33:loopsIn body_S33=[]:=by kernel_rfl
theorem fn_S33 (N:Nat) (x:AVals sg_S33) (kf:Ret→Option Ret):F_S33 N x kf=peFunc h_S33 (Orc.of (es_S33 N)) (noL N N) Tryd.f33 (ashape sg_S33 x) kf:=by kernel_rfl
theorem sd_S33 {Γ : Gl} (hΓ : TabΓ Γ) (N:Nat):Sound Γ Tryd.prog 33 (run_S33 N):=fun_ok2 (hh:=h_S33) mixed tab_ok (es:=es_S33 N) ⟨sd_S48 hΓ N,trivial⟩ (fn:=Tryd.f33) (body:=body_S33) (by kernel_rfl) (by kernel_rfl) (by kernel_rfl) (by kernel_rfl) (by kernel_rfl) (Lf:=noL N) (noL0 N) ls_S33 trivial (N:=N) (by kernel_rfl) (fn_S33 N) (.inl (by kernel_rfl))
noncomputable def h_S10:Hint:={ tab,hn:=[(16,.k)],loops:=[],outs:=[],ords:=[] }
noncomputable def sg_S10:List AK:=[.v (.sl (.int .u8)) .k]
noncomputable def F_S10 (N:Nat) (x:AVals sg_S10) (kf:Ret→Option Ret):Option Ret:=S10 N x.1 (fun r0=>kf ⟨[⟨.str,.k,r0⟩],[]⟩)
noncomputable def run_S10 (N:Nat):=runOf sg_S10 (F_S10 N)
noncomputable def es_S10 (N:Nat):List Entry:=[⟨30,[.val],(run_S30 N)⟩,⟨32,[.lend],(run_S32 N)⟩,⟨31,[.val],(run_S31 N)⟩,⟨33,[.lend,.val],(run_S33 N)⟩]
noncomputable def body_S10:Code:=match Tryd.f10.body with | some c=>c | none=>.skip
theorem ls_S10:loopsIn body_S10=[]:=by kernel_rfl
theorem fn_S10 (N:Nat) (x:AVals sg_S10) (kf:Ret→Option Ret):F_S10 N x kf=peFunc h_S10 (Orc.of (es_S10 N)) (noL N N) Tryd.f10 (ashape sg_S10 x) kf:=by kernel_rfl
theorem sd_S10 {Γ : Gl} (hΓ : TabΓ Γ) (N:Nat):Sound Γ Tryd.prog 10 (run_S10 N):=fun_ok2 (hh:=h_S10) mixed tab_ok (es:=es_S10 N) ⟨sd_S30 hΓ N,⟨sd_S32 hΓ N,⟨sd_S31 hΓ N,⟨sd_S33 hΓ N,trivial⟩⟩⟩⟩ (fn:=Tryd.f10) (body:=body_S10) (by kernel_rfl) (by kernel_rfl) (by kernel_rfl) (by kernel_rfl) (by kernel_rfl) (Lf:=noL N) (noL0 N) ls_S10 trivial (N:=N) (by kernel_rfl) (fn_S10 N) (.inl (by kernel_rfl))
noncomputable def h_S71:Hint:={ tab,hn:=[],loops:=[],outs:=[],ords:=[],lent:=some (0,false) }
noncomputable def sg_S71:List AK:=[.v (.ptr tQLIIIE) (.o 73 (some 0) .k),.v (.int .i64) .k]
noncomputable def F_S71 (N:Nat) (x:AVals sg_S71) (kf:Ret→Option Ret):Option Ret:=S71 N x.1 x.2.1 (fun r0 z=>kf ⟨[⟨.bool,.k,r0⟩],[⟨(.ptr tQLIIIE),(.o 73 (some 0) .k),z⟩]⟩)
noncomputable def run_S71 (N:Nat):=runOf sg_S71 (F_S71 N)
noncomputable def es_S71 (N:Nat):List Entry:=[⟨48,[.lend,.val],(run_S48 N)⟩]
noncomputable def body_S71:Code:=match Tryd.f71.body with | some c=>c | none=>.skip
theorem ls_S71:loopsIn body_S71=[]:=by kernel_rfl
theorem fn_S71 (N:Nat) (x:AVals sg_S71) (kf:Ret→Option Ret):F_S71 N x kf=peFunc h_S71 (Orc.of (es_S71 N)) (noL N N) Tryd.f71 (ashape sg_S71 x) kf:=by kernel_rfl
theorem sd_S71 {Γ : Gl} (hΓ : TabΓ Γ) (N:Nat):Sound Γ Tryd.prog 71 (run_S71 N):=fun_ok2 (hh:=h_S71) mixed tab_ok (es:=es_S71 N) ⟨sd_S48 hΓ N,trivial⟩ (fn:=Tryd.f71) (body:=body_S71) (by kernel_rfl) (by kernel_rfl) (by kernel_rfl) (by kernel_rfl) (by kernel_rfl) (Lf:=noL N) (noL0 N) ls_S71 trivial (N:=N) (by kernel_rfl) (fn_S71 N) (.inl (by kernel_rfl))
noncomputable def h_S54:Hint:={ tab,hn:=[],loops:=[],outs:=[],ords:=[],lent:=some (0,false) }
noncomputable def sg_S54:List AK:=[.v (.ptr tQLIIIE) (.o 73 (some 0) .k),.v (.int .i64) .k]
noncomputable def F_S54 (N:Nat) (x:AVals sg_S54) (kf:Ret→Option Ret):Option Ret:=S54 N x.1 x.2.1 (fun r0 z=>kf ⟨[⟨(.sl (.int .i64)),(.o 3 none .k),r0⟩],[⟨(.ptr tQLIIIE),(.o 73 (some 0) .k),z⟩]⟩)
noncomputable def run_S54 (N:Nat):=runOf sg_S54 (F_S54 N)
noncomputable def es_S54 (N:Nat):List Entry:=[⟨71,[.lend,.val],(run_S71 N)⟩,⟨48,[.lend,.val],(run_S48 N)⟩,⟨54,[.lend,.val],(run_S54 N)⟩]
noncomputable def body_S54:Code:=match Tryd.f54.body with | some c=>c | none=>.skip
theorem ls_S54:loopsIn body_S54=[]:=by kernel_rfl
theorem fn_S54 (N:Nat) (x:AVals sg_S54) (kf:Ret→Option Ret):F_S54 (N + 1) x kf=peFunc h_S54 (Orc.of (es_S54 N)) (noL N N) Tryd.f54 (ashape sg_S54 x) kf:=by kernel_rfl
theorem sd_S54 {Γ : Gl} (hΓ : TabΓ Γ) : ∀ N:Nat,Sound Γ Tryd.prog 54 (run_S54 N)
 | 0=>sound_zero fun al kf=>by
  unfold run_S54 runOf
  split <;> rfl
 | N + 1=>fun_ok2 (hh:=h_S54) mixed tab_ok (es:=es_S54 N) ⟨sd_S71 hΓ N,⟨sd_S48 hΓ N,⟨sd_S54 hΓ N,trivial⟩⟩⟩ (fn:=Tryd.f54) (body:=body_S54) (by kernel_rfl) (by kernel_rfl) (by kernel_rfl) (by kernel_rfl) (by kernel_rfl) (Lf:=noL N) (noL0 N) ls_S54 trivial (N:=N) (by kernel_rfl) (fn_S54 N) (.inl (by kernel_rfl))
noncomputable def h_S38:Hint:={ tab,hn:=[(16,.k)],loops:=[],outs:=[],ords:=[],lent:=some (0,false),frz:=[(4,[(3,[])]),(5,[(3,[])])] }
noncomputable def sg_S38:List AK:=[.v (.ptr tQLIIIE) (.o 73 (some 0) .k)]
noncomputable def F_S38 (N:Nat) (x:AVals sg_S38) (kf:Ret→Option Ret):Option Ret:=S38 N x.1 (fun r0 z=>kf ⟨[⟨(.sl (.int .i64)),.k,r0⟩],[⟨(.ptr tQLIIIE),(.o 73 (some 0) .k),z⟩]⟩)
noncomputable def run_S38 (N:Nat):=runOf sg_S38 (F_S38 N)
noncomputable def es_S38 (N:Nat):List Entry:=[⟨54,[.lend,.val],(run_S54 N)⟩,⟨48,[.lend,.val],(run_S48 N)⟩,⟨55,[.lend,.val],(run_S55 N)⟩]
noncomputable def body_S38:Code:=match Tryd.f38.body with | some c=>c | none=>.skip
theorem ls_S38:loopsIn body_S38=[]:=by kernel_rfl
theorem fn_S38 (N:Nat) (x:AVals sg_S38) (kf:Ret→Option Ret):F_S38 N x kf=peFunc h_S38 (Orc.of (es_S38 N)) (noL N N) Tryd.f38 (ashape sg_S38 x) kf:=by kernel_rfl
theorem sd_S38 {Γ : Gl} (hΓ : TabΓ Γ) (N:Nat):Sound Γ Tryd.prog 38 (run_S38 N):=fun_ok2 (hh:=h_S38) mixed tab_ok (es:=es_S38 N) ⟨sd_S54 hΓ N,⟨sd_S48 hΓ N,⟨sd_S55 hΓ N,trivial⟩⟩⟩ (fn:=Tryd.f38) (body:=body_S38) (by kernel_rfl) (by kernel_rfl) (by kernel_rfl) (by kernel_rfl) (by kernel_rfl) (Lf:=noL N) (noL0 N) ls_S38 trivial (N:=N) (by kernel_rfl) (fn_S38 N) (.inl (by kernel_rfl))
noncomputable def h_S34:Hint:={ tab,hn:=[],loops:=[],outs:=[],ords:=[] }
noncomputable def sg_S34:List AK:=[.v (.sl (.int .u8)) .k]
noncomputable def F_S34 (N:Nat) (x:AVals sg_S34) (kf:Ret→Option Ret):Option Ret:=S34 N x.1 (fun r0=>kf ⟨[⟨(.sl (.int .i64)),.k,r0⟩],[]⟩)
noncomputable def run_S34 (N:Nat):=runOf sg_S34 (F_S34 N)
noncomputable def es_S34 (N:Nat):List Entry:=[⟨30,[.val],(run_S30 N)⟩,⟨38,[.lend],(run_S38 N)⟩]
noncomputable def body_S34:Code:=match Tryd.f34.body with | some c=>c | none=>.skip
theorem ls_S34:loopsIn body_S34=[]:=by kernel_rfl
theorem fn_S34 (N:Nat) (x:AVals sg_S34) (kf:Ret→Option Ret):F_S34 N x kf=peFunc h_S34 (Orc.of (es_S34 N)) (noL N N) Tryd.f34 (ashape sg_S34 x) kf:=by kernel_rfl
theorem sd_S34 {Γ : Gl} (hΓ : TabΓ Γ) (N:Nat):Sound Γ Tryd.prog 34 (run_S34 N):=fun_ok2 (hh:=h_S34) mixed tab_ok (es:=es_S34 N) ⟨sd_S30 hΓ N,⟨sd_S38 hΓ N,trivial⟩⟩ (fn:=Tryd.f34) (body:=body_S34) (by kernel_rfl) (by kernel_rfl) (by kernel_rfl) (by kernel_rfl) (by kernel_rfl) (Lf:=noL N) (noL0 N) ls_S34 trivial (N:=N) (by kernel_rfl) (fn_S34 N) (.inl (by kernel_rfl))
noncomputable def h_S11:Hint:={ tab,hn:=[],loops:=[],outs:=[],ords:=[] }
noncomputable def sg_S11:List AK:=[.v (.sl (.int .u8)) .k]
noncomputable def F_S11 (N:Nat) (x:AVals sg_S11) (kf:Ret→Option Ret):Option Ret:=S11 N x.1 (fun r0=>kf ⟨[⟨(.sl (.int .i64)),.k,r0⟩],[]⟩)
noncomputable def run_S11 (N:Nat):=runOf sg_S11 (F_S11 N)
noncomputable def es_S11 (N:Nat):List Entry:=[⟨34,[.val],(run_S34 N)⟩]
noncomputable def body_S11:Code:=match Tryd.f11.body with | some c=>c | none=>.skip
theorem ls_S11:loopsIn body_S11=[]:=by kernel_rfl
theorem fn_S11 (N:Nat) (x:AVals sg_S11) (kf:Ret→Option Ret):F_S11 N x kf=peFunc h_S11 (Orc.of (es_S11 N)) (noL N N) Tryd.f11 (ashape sg_S11 x) kf:=by kernel_rfl
theorem sd_S11 {Γ : Gl} (hΓ : TabΓ Γ) (N:Nat):Sound Γ Tryd.prog 11 (run_S11 N):=fun_ok2 (hh:=h_S11) mixed tab_ok (es:=es_S11 N) ⟨sd_S34 hΓ N,trivial⟩ (fn:=Tryd.f11) (body:=body_S11) (by kernel_rfl) (by kernel_rfl) (by kernel_rfl) (by kernel_rfl) (by kernel_rfl) (Lf:=noL N) (noL0 N) ls_S11 trivial (N:=N) (by kernel_rfl) (fn_S11 N) (.inl (by kernel_rfl))
noncomputable def ks_I52_l3:List Kd:=[.v (.int .i64) .k,dK,dK,.v (.int .u64) .k,dK,.v (.int .i64) .k,dK,dK,dK,dK,dK,dK,dK,dK,dK,dK,dK,dK,dK]
noncomputable def ko_I52_l3_0:List Kd:=[dK,dK,dK,.v (.int .u64) .k,dK,dK,dK,dK,dK,dK,dK,dK,dK,dK,dK,dK,dK,dK,dK]
noncomputable def h_I52:Hint:={ tab,hn:=[],loops:=[(3,ks_I52_l3)],outs:=[(3,2,ko_I52_l3_0)],ords:=[] }
noncomputable def sg_I52:List AK:=[.v (.int .i64) .k]
noncomputable def F_I52 (N:Nat) (x:AVals sg_I52) (kf:Ret→Option Ret):Option Ret:=I52 N x.1 (fun r0=>kf ⟨[⟨(.int .u64),.k,r0⟩],[]⟩)
noncomputable def run_I52 (N:Nat):=runOf sg_I52 (F_I52 N)
noncomputable def es_I52 (N:Nat):List Entry:=[]
noncomputable def body_I52:Code:=match Tryd.f52.body with | some c=>c | none=>.skip
noncomputable def L_I52 (N n:Nat) (key:Nat) (S:St) (K:Ks):Option Ret:=bif Nat.beq key 3 then withVals ks_I52_l3 S (fun x=>I52_l3 x.1 n (fun z0=>K (.x 0) (shape ko_I52_l3_0 (z0,()))) x.2.1 x.2.2.1) else none
theorem L0_I52 (N key:Nat) (S:St) (K:Ks):L_I52 N 0 key S K=none:=(bif0 (withVals0 fun _=>rfl) rfl)
noncomputable def c_I52_0:Code:=(loopsIn body_I52).getD 0 .skip
theorem ls_I52:loopsIn body_I52=[c_I52_0]:=by kernel_rfl
theorem rd_I52_3 (N n:Nat) (x:Vals ks_I52_l3) (K:Ks):L_I52 N (n + 1) 3 (shape ks_I52_l3 x) (h_I52.onOut 3 K)=peRound h_I52 (Orc.of (es_I52 N)) (mixL (L_I52 N) N n 3) c_I52_0 (shape ks_I52_l3 x) (h_I52.onOut 3 K):=by kernel_rfl
theorem fn_I52 (N:Nat) (x:AVals sg_I52) (kf:Ret→Option Ret):F_I52 N x kf=peFunc h_I52 (Orc.of (es_I52 N)) (L_I52 N N) Tryd.f52 (ashape sg_I52 x) kf:=by kernel_rfl
theorem sd_I52 {Γ : Gl} (hΓ : TabΓ Γ) (N:Nat):Sound Γ Tryd.prog 52 (run_I52 N):=fun_ok2 (hh:=h_I52) mixed tab_ok (es:=es_I52 N) trivial (fn:=Tryd.f52) (body:=body_I52) (by kernel_rfl) (by kernel_rfl) (by kernel_rfl) (by kernel_rfl) (by kernel_rfl) (Lf:=L_I52 N) (L0_I52 N) ls_I52 (round_cons (key:=3) (ks:=ks_I52_l3) (by kernel_rfl) (by kernel_rfl) (rd_I52_3 N) trivial) (N:=N) (by kernel_rfl) (fn_I52 N) (.inl (by kernel_rfl))
noncomputable def ks_I36_l5:List Kd:=[dK,dK,dK,dK,.v (.sl (.int .u64)) (.o 63 none .k),dK,dK,dK,dK,dK,dK,dK,dK,dK,dK,.v (.sl (.int .i64)) .k,.v (.int .i64) .k,.v (.int .i64) .k,dK,dK,dK,dK,dK,dK,dK,dK,dK,dK,dK,dK,dK,dK,dK,dK,dK,dK,dK,dK,dK,dK,dK,dK,dK,dK,dK,dK,dK,dK,dK,dK,dK,dK,dK,dK,dK,dK,dK,dK,dK,dK,dK,dK,dK,dK,dK,dK,dK,dK,dK,dK,dK,dK,dK,dK,dK,dK,dK,dK,dK,dK,dK,dK,dK,dK,dK,dK,dK,dK,dK,dK,dK,dK,dK,dK,dK,dK,dK,dK,dK,dK,dK,dK,dK]
noncomputable def ko_I36_l5_0:List Kd:=[dK,dK,dK,dK,.v (.sl (.int .u64)) (.o 63 none .k),dK,dK,dK,dK,dK,dK,dK,dK,dK,dK,dK,dK,dK,dK,dK,dK,dK,dK,dK,dK,dK,dK,dK,dK,dK,dK,dK,dK,dK,dK,dK,dK,dK,dK,dK,dK,dK,dK,dK,dK,dK,dK,dK,dK,dK,dK,dK,dK,dK,dK,dK,dK,dK,dK,dK,dK,dK,dK,dK,dK,dK,dK,dK,dK,dK,dK,dK,dK,dK,dK,dK,dK,dK,dK,dK,dK,dK,dK,dK,dK,dK,dK,dK,dK,dK,dK,dK,dK,dK,dK,dK,dK,dK,dK,dK,dK,dK,dK]
noncomputable def ko_I36_l5_1:List Kd:=[dK,dK,.v (.int .u64) .k,.v .bool .k,dK,dK,dK,dK,dK,dK,dK,dK,dK,dK,dK,dK,dK,dK,dK,dK,dK,dK,dK,dK,dK,dK,dK,dK,dK,dK,dK,dK,dK,dK,dK,dK,dK,dK,dK,dK,dK,dK,dK,dK,dK,dK,dK,dK,dK,dK,dK,dK,dK,dK,dK,dK,dK,dK,dK,dK,dK,dK,dK,dK,dK,dK,dK,dK,dK,dK,dK,dK,dK,dK,dK,dK,dK,dK,dK,dK,dK,dK,dK,dK,dK,dK,dK,dK,dK,dK,dK,dK,dK,dK,dK,dK,dK,dK,dK,dK,dK,dK,dK]
noncomputable def h_I36:Hint:={ tab,hn:=[],loops:=[(5,ks_I36_l5)],outs:=[(5,2,ko_I36_l5_0),(5,1,ko_I36_l5_1)],ords:=[(14,(OT.seq [0,1,2,3,4,5,6,7,8,9,10,11] .done))] }
noncomputable def sg_I36:List AK:=[.v (.sl (.int .i64)) .k]
noncomputable def F_I36 (N:Nat) (x:AVals sg_I36) (kf:Ret→Option Ret):Option Ret:=I36 N x.1 (fun r0 r1=>kf ⟨[⟨(.int .u64),.k,r0⟩,⟨.bool,.k,r1⟩],[]⟩)
noncomputable def run_I36 (N:Nat):=runOf sg_I36 (F_I36 N)
noncomputable def es_I36 (N:Nat):List Entry:=[⟨25,[.val,.val,.val],(run_I25 N)⟩,⟨52,[.val],(run_I52 N)⟩]
noncomputable def body_I36:Code:=match Tryd.f36.body with | some c=>c | none=>.skip
noncomputable def L_I36 (N n:Nat) (key:Nat) (S:St) (K:Ks):Option Ret:=bif Nat.beq key 5 then withVals ks_I36_l5 S (fun x=>I36_l5 N x.2.1 x.2.2.1 n (fun z0=>K (.x 0) (shape ko_I36_l5_0 (z0,()))) (fun z0 z1=>K .r (shape ko_I36_l5_1 (z0,z1,()))) x.1 x.2.2.2.1) else none
theorem L0_I36 (N key:Nat) (S:St) (K:Ks):L_I36 N 0 key S K=none:=(bif0 (withVals0 fun _=>rfl) rfl)
noncomputable def c_I36_0:Code:=(loopsIn body_I36).getD 0 .skip
theorem ls_I36:loopsIn body_I36=[c_I36_0]:=by kernel_rfl
theorem rd_I36_5 (N n:Nat) (x:Vals ks_I36_l5) (K:Ks):L_I36 N (n + 1) 5 (shape ks_I36_l5 x) (h_I36.onOut 5 K)=peRound h_I36 (Orc.of (es_I36 N)) (mixL (L_I36 N) N n 5) c_I36_0 (shape ks_I36_l5 x) (h_I36.onOut 5 K):=by kernel_rfl
theorem fn_I36 (N:Nat) (x:AVals sg_I36) (kf:Ret→Option Ret):F_I36 N x kf=peFunc h_I36 (Orc.of (es_I36 N)) (L_I36 N N) Tryd.f36 (ashape sg_I36 x) kf:=by kernel_rfl
theorem sd_I36 {Γ : Gl} (hΓ : TabΓ Γ) (N:Nat):Sound Γ Tryd.prog 36 (run_I36 N):=fun_ok2 (hh:=h_I36) mixed tab_ok (es:=es_I36 N) ⟨sd_I25 hΓ N,⟨sd_I52 hΓ N,trivial⟩⟩ (fn:=Tryd.f36) (body:=body_I36) (by kernel_rfl) (by kernel_rfl) (by kernel_rfl) (by kernel_rfl) (by kernel_rfl) (Lf:=L_I36 N) (L0_I36 N) ls_I36 (round_cons (key:=5) (ks:=ks_I36_l5) (by kernel_rfl) (by kernel_rfl) (rd_I36_5 N) trivial) (N:=N) (by kernel_rfl) (fn_I36 N) (.inl (by kernel_rfl))
noncomputable def h_I14:Hint:={ tab,hn:=[],loops:=[],outs:=[],ords:=[] }
noncomputable def sg_I14:List AK:=[.v (.sl (.int .i64)) .k]
noncomputable def F_I14 (N:Nat) (x:AVals sg_I14) (kf:Ret→Option Ret):Option Ret:=I14 N x.1 (fun r0=>kf ⟨[⟨.bool,.k,r0⟩],[]⟩)
noncomputable def run_I14 (N:Nat):=runOf sg_I14 (F_I14 N)
noncomputable def es_I14 (N:Nat):List Entry:=[⟨36,[.val],(run_I36 N)⟩]
noncomputable def body_I14:Code:=match Tryd.f14.body with | some c=>c | none=>.skip
theorem ls_I14:loopsIn body_I14=[]:=by kernel_rfl
theorem fn_I14 (N:Nat) (x:AVals sg_I14) (kf:Ret→Option Ret):F_I14 N x kf=peFunc h_I14 (Orc.of (es_I14 N)) (noL N N) Tryd.f14 (ashape sg_I14 x) kf:=by kernel_rfl
theorem sd_I14 {Γ : Gl} (hΓ : TabΓ Γ) (N:Nat):Sound Γ Tryd.prog 14 (run_I14 N):=fun_ok2 (hh:=h_I14) mixed tab_ok (es:=es_I14 N) ⟨sd_I36 hΓ N,trivial⟩ (fn:=Tryd.f14) (body:=body_I14) (by kernel_rfl) (by kernel_rfl) (by kernel_rfl) (by kernel_rfl) (by kernel_rfl) (Lf:=noL N) (noL0 N) ls_I14 trivial (N:=N) (by kernel_rfl) (fn_I14 N) (.inl (by kernel_rfl))
noncomputable def ks_I13_l5:List Kd:=[dK,dK,dK,.v (.sl .str) (.o 9 none .k),dK,dK,dK,dK,dK,dK,dK,dK,.v (.sl (.int .i64)) .k,.v (.int .i64) .k,.v (.int .i64) .k,dK,dK,dK,dK,dK,dK,dK,dK,dK,dK,dK,dK,dK,dK,dK,dK,dK,dK,dK,dK,dK,dK,dK,dK,dK,dK,dK,dK,dK,dK,dK,dK,dK,dK,dK,dK,dK,dK,dK,dK,dK,dK,dK,dK,dK,dK,dK,dK,dK,dK,dK,dK,dK,dK,dK,dK,dK,dK,dK,dK]
noncomputable def ko_I13_l5_0:List Kd:=[dK,dK,dK,.v (.sl .str) (.o 9 none .k),dK,dK,dK,dK,dK,dK,dK,dK,dK,dK,dK,dK,dK,dK,dK,dK,dK,dK,dK,dK,dK,dK,dK,dK,dK,dK,dK,dK,dK,dK,dK,dK,dK,dK,dK,dK,dK,dK,dK,dK,dK,dK,dK,dK,dK,dK,dK,dK,dK,dK,dK,dK,dK,dK,dK,dK,dK,dK,dK,dK,dK,dK,dK,dK,dK,dK,dK,dK,dK,dK,dK]
noncomputable def h_I13:Hint:={ tab,hn:=[],loops:=[(5,ks_I13_l5)],outs:=[(5,2,ko_I13_l5_0)],ords:=[(9,(OT.seq [0,1,2,3,4,5,6,7,8,9,10,11,12,13,14,15,16,17,18,19,20,21,22] .done))] }
noncomputable def sg_I13:List AK:=[.v (.sl (.int .i64)) .k]
noncomputable def F_I13 (N:Nat) (x:AVals sg_I13) (kf:Ret→Option Ret):Option Ret:=I13 N x.1 (fun r0=>kf ⟨[⟨.str,.k,r0⟩],[]⟩)
noncomputable def run_I13 (N:Nat):=runOf sg_I13 (F_I13 N)
noncomputable def es_I13 (N:Nat):List Entry:=[⟨14,[.val],(run_I14 N)⟩]
noncomputable def body_I13:Code:=match Tryd.f13.body with | some c=>c | none=>.skip
noncomputable def L_I13 (N n:Nat) (key:Nat) (S:St) (K:Ks):Option Ret:=bif Nat.beq key 5 then withVals ks_I13_l5 S (fun x=>I13_l5 x.2.1 x.2.2.1 n (fun z0=>K (.x 0) (shape ko_I13_l5_0 (z0,()))) x.1 x.2.2.2.1) else none
theorem L0_I13 (N key:Nat) (S:St) (K:Ks):L_I13 N 0 key S K=none:=(bif0 (withVals0 fun _=>rfl) rfl)
noncomputable def c_I13_0:Code:=(loopsIn body_I13).getD 0 .skip
theorem ls_I13:loopsIn body_I13=[c_I13_0]:=by kernel_rfl
theorem rd_I13_5 (N n:Nat) (x:Vals ks_I13_l5) (K:Ks):L_I13 N (n + 1) 5 (shape ks_I13_l5 x) (h_I13.onOut 5 K)=peRound h_I13 (Orc.of (es_I13 N)) (mixL (L_I13 N) N n 5) c_I13_0 (shape ks_I13_l5 x) (h_I13.onOut 5 K):=by kernel_rfl
theorem fn_I13 (N:Nat) (x:AVals sg_I13) (kf:Ret→Option Ret):F_I13 N x kf=peFunc h_I13 (Orc.of (es_I13 N)) (L_I13 N N) Tryd.f13 (ashape sg_I13 x) kf:=by kernel_rfl
theorem sd_I13 {Γ : Gl} (hΓ : TabΓ Γ) (N:Nat):Sound Γ Tryd.prog 13 (run_I13 N):=fun_ok2 (hh:=h_I13) mixed tab_ok (es:=es_I13 N) ⟨sd_I14 hΓ N,trivial⟩ (fn:=Tryd.f13) (body:=body_I13) (by kernel_rfl) (by kernel_rfl) (by kernel_rfl) (by kernel_rfl) (by kernel_rfl) (Lf:=L_I13 N) (L0_I13 N) ls_I13 (round_cons (key:=5) (ks:=ks_I13_l5) (by kernel_rfl) (by kernel_rfl) (rd_I13_5 N) trivial) (N:=N) (by kernel_rfl) (fn_I13 N) (.inl (by kernel_rfl))
def ren_S50:Go.Shelf.Ren:=⟨fun n=>bif Nat.beq n 137 then 50 else bif Nat.beq n 217 then 69 else bif Nat.beq n 266 then 84 else n,fun n=>bif Nat.beq n 3 then 3 else bif Nat.beq n 5 then 5 else bif Nat.beq n 9 then 9 else n,fun n=>n⟩
theorem lays_S50:Lays.n137 Tryd.prog ren_S50:={ mixed:=by kernel_rfl,f137:=by kernel_rfl,f217:=by kernel_rfl,f266:=by kernel_rfl,t3:=by kernel_rfl,a3:=fun w=>by kernel_rfl,z3:=fun w=>by kernel_rfl,v3:=fun w=>by kernel_rfl,t5:=by kernel_rfl,a5:=fun w=>by kernel_rfl,z5:=fun w=>by kernel_rfl,v5:=fun w=>by kernel_rfl,t9:=by kernel_rfl,a9:=fun w=>by kernel_rfl,z9:=fun w=>by kernel_rfl,v9:=fun w=>by kernel_rfl }
noncomputable def sg_S50:List AK:=[.v .str .k,.v (.int .u8) .k]
noncomputable def F_S50 (N:Nat) (x:AVals sg_S50) (kf:Ret→Option Ret):Option Ret:=S50 N x.1 x.2.1 (fun r0=>kf ⟨[⟨(.int .i64),.k,r0⟩],[]⟩)
noncomputable def run_S50 (N:Nat):=runOf sg_S50 (F_S50 N)
theorem sd_S50 {Γ : Gl} (hΓ : TabΓ Γ) (N:Nat):Sound Γ Tryd.prog 50 (run_S50 N):=sound_index lays_S50
def ren_S70:Go.Shelf.Ren:=⟨fun n=>bif Nat.beq n 4 then 70 else n,fun n=>bif Nat.beq n 0 then 0 else bif Nat.beq n 3 then 3 else bif Nat.beq n 4 then 4 else bif Nat.beq n 9 then 9 else bif Nat.beq n 20 then 20 else bif Nat.beq n 22 then 34 else bif Nat.beq n 25 then 3 else n,fun n=>n⟩
theorem lays_S70:Go.Proofs.Lays8.n4 Tryd.prog ren_S70:={ f4:=⟨Tryd.f70.name,by kernel_rfl,by kernel_rfl⟩,mixed:=by kernel_rfl,t0:=by kernel_rfl,a0:=fun w=>by kernel_rfl,z0:=fun w=>by kernel_rfl,v0:=fun w=>by kernel_rfl,t3:=by kernel_rfl,a3:=fun w=>by kernel_rfl,z3:=fun w=>by kernel_rfl,v3:=fun w=>by kernel_rfl,t4:=by kernel_rfl,a4:=fun w=>by kernel_rfl,z4:=fun w=>by kernel_rfl,v4:=fun w=>by kernel_rfl,t9:=by kernel_rfl,a9:=fun w=>by kernel_rfl,z9:=fun w=>by kernel_rfl,v9:=fun w=>by kernel_rfl,t20:=by kernel_rfl,a20:=fun w=>by kernel_rfl,z20:=fun w=>by kernel_rfl,v20:=fun w=>by kernel_rfl,t22:=by kernel_rfl,a22:=fun w=>by kernel_rfl,z22:=fun w=>by kernel_rfl,v22:=fun w=>by kernel_rfl }
noncomputable def ti_S70:TypeInfo:=(Tryd.prog.info? 3).get (by kernel_rfl)
noncomputable def sg_S70:List AK:=[.v (.sl (.int .i64)) (.o 3 none .k),.v (.int .i64) .k]
noncomputable def F_S70 (N:Nat) (x:AVals sg_S70) (kf:Ret→Option Ret):Option Ret:=S70 N x.1 x.2.1 (fun r0=>kf ⟨[⟨(.sl (.int .i64)),(.o 3 none .k),r0⟩],[]⟩)
noncomputable def run_S70 (N:Nat):=runOf sg_S70 (F_S70 N)
theorem sd_S70 {Γ : Gl} (hΓ : TabΓ Γ) (N:Nat):Sound Γ Tryd.prog 70 (run_S70 N):=sound_grow (ρ:=ren_S70) (i0:=ti_S70) (z:=.int .i64 0) lays_S70 (by kernel_rfl) (by kernel_rfl) (by kernel_rfl) (by kernel_rfl) (by kernel_rfl)
end Go.Pv.R
