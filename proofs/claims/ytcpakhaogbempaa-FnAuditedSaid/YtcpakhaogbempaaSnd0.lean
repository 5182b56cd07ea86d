/- Each function of the program that the law reaches computes its plain function, part 0. -/
import Derived.Test.YtcpakhaogbempaaPlRes
import Derived.Test.YtcpakhaogbempaaProg
namespace Go.Pv.R
open Go.Proofs
set_option linter.unusedVariables false
set_option maxRecDepth 100000
noncomputable abbrev dK:Kd:=.dead
noncomputable def tab:Tab:=[⟨2,(.int .i64),0,[]⟩,⟨3,(.int .i64),0,[]⟩,⟨4,.bool,0,[]⟩,⟨5,(.int .u8),0,[]⟩,⟨9,.str,0,[]⟩,⟨12,(.int .u64),0,[]⟩,⟨21,(.int .i32),0,[]⟩,⟨22,(.sl (.int .u8)),5,[]⟩,⟨25,(.sl tQIIIIILIE),54,[]⟩,⟨26,(.sl tQIILIE),85,[]⟩,⟨27,(.sl tQIIE),89,[]⟩,⟨28,(.sl (.int .i64)),3,[]⟩,⟨29,(.sl tQIIIE),70,[]⟩,⟨30,(.sl tQIIIIE),79,[]⟩,⟨31,tQLQIIIIILIELQIILIELQIIELILQIIIELQIIIIEIE,0,[25,26,27,28,29,30,3]⟩,⟨32,tQLQIIIIILIELQIILIELQIIELILQIIIELQIIIIEIE,0,[25,26,27,28,29,30,3]⟩,⟨40,(.sl (.sl (.int .i64))),28,[]⟩,⟨41,tQILLIE,0,[3,40]⟩,⟨42,tQILLIE,0,[3,40]⟩,⟨45,tQILLIE,0,[3,40]⟩,⟨53,tQIIIIILIE,0,[3,3,3,3,3,28]⟩,⟨54,tQIIIIILIE,0,[3,3,3,3,3,28]⟩,⟨69,tQIIIE,0,[3,3,3]⟩,⟨70,tQIIIE,0,[3,3,3]⟩,⟨78,tQIIIIE,0,[3,3,3,3]⟩,⟨79,tQIIIIE,0,[3,3,3,3]⟩,⟨84,tQIILIE,0,[3,3,28]⟩,⟨85,tQIILIE,0,[3,3,28]⟩,⟨88,tQIIE,0,[3,3]⟩,⟨89,tQIIE,0,[3,3]⟩,⟨107,tQLIIIE,0,[22,3,3]⟩,⟨108,tQLIIIE,0,[22,3,3]⟩,⟨118,(.sl .str),9,[]⟩,⟨123,(.sl tQIIIIE),146,[]⟩,⟨139,(.int .u64),0,[]⟩,⟨145,tQIIIIE,0,[3,3,3,3]⟩,⟨146,tQIIIIE,0,[3,3,3,3]⟩,⟨169,(.int .i64),0,[]⟩,⟨178,(.int .u32),0,[]⟩,⟨180,(.int .u64),0,[]⟩,⟨184,(.int .u64),0,[]⟩]
theorem mixed:Try.prog.follows .mixedOrders=true:=by kernel_rfl
theorem tab_ok:tabB Try.prog tab=true:=by kernel_rfl
noncomputable def noL (N n:Nat) (key:Nat) (S:St) (K:Ks):Option Ret:=none
theorem noL0 (N key:Nat) (S:St) (K:Ks):noL N 0 key S K=none:=rfl
noncomputable def h_L7:Hint:={ tab,hn:=[],loops:=[],outs:=[],ords:=[] }
noncomputable def sg_L7:List AK:=[.v (.sl (.int .u8)) .k]
noncomputable def F_L7 (N:Nat) (x:AVals sg_L7) (kf:Ret→Option Ret):Option Ret:=L7 N x.1 (fun r0=>kf ⟨[⟨.bool,.k,r0⟩],[]⟩)
noncomputable def run_L7 (N:Nat):=runOf sg_L7 (F_L7 N)
noncomputable def es_L7 (N:Nat):List Entry:=[]
noncomputable def body_L7:Code:=match Try.f7.body with | some c=>c | none=>.skip
theorem ls_L7:loopsIn body_L7=[]:=by kernel_rfl
theorem fn_L7 (N:Nat) (x:AVals sg_L7) (kf:Ret→Option Ret):F_L7 N x kf=peFunc h_L7 (Orc.of (es_L7 N)) (noL N N) Try.f7 (ashape sg_L7 x) kf:=by kernel_rfl
theorem sd_L7 {Γ : Gl} (N:Nat):Sound Γ Try.prog 7 (run_L7 N):=fun_ok2 (hh:=h_L7) mixed tab_ok (es:=es_L7 N) trivial (fn:=Try.f7) (body:=body_L7) (by kernel_rfl) (by kernel_rfl) (by kernel_rfl) (by kernel_rfl) (by kernel_rfl) (Lf:=noL N) (noL0 N) ls_L7 trivial (N:=N) (by kernel_rfl) (fn_L7 N) (.inl (by kernel_rfl))
noncomputable def h_I45:Hint:={ tab,hn:=[],loops:=[],outs:=[],ords:=[] }
noncomputable def sg_I45:List AK:=[.v (.int .i64) .k,.v (.int .i64) .k,.v (.int .i64) .k]
noncomputable def F_I45 (N:Nat) (x:AVals sg_I45) (kf:Ret→Option Ret):Option Ret:=I45 N x.1 x.2.1 x.2.2.1 (fun r0=>kf ⟨[⟨.bool,.k,r0⟩],[]⟩)
noncomputable def run_I45 (N:Nat):=runOf sg_I45 (F_I45 N)
noncomputable def es_I45 (N:Nat):List Entry:=[]
noncomputable def body_I45:Code:=match Try.f45.body with | some c=>c | none=>.skip
theorem ls_I45:loopsIn body_I45=[]:=by kernel_rfl
theorem fn_I45 (N:Nat) (x:AVals sg_I45) (kf:Ret→Option Ret):F_I45 N x kf=peFunc h_I45 (Orc.of (es_I45 N)) (noL N N) Try.f45 (ashape sg_I45 x) kf:=by kernel_rfl
theorem sd_I45 {Γ : Gl} (N:Nat):Sound Γ Try.prog 45 (run_I45 N):=fun_ok2 (hh:=h_I45) mixed tab_ok (es:=es_I45 N) trivial (fn:=Try.f45) (body:=body_I45) (by kernel_rfl) (by kernel_rfl) (by kernel_rfl) (by kernel_rfl) (by kernel_rfl) (Lf:=noL N) (noL0 N) ls_I45 trivial (N:=N) (by kernel_rfl) (fn_I45 N) (.inl (by kernel_rfl))
noncomputable def h_I106:Hint:={ tab,hn:=[],loops:=[],outs:=[],ords:=[] }
noncomputable def sg_I106:List AK:=[.v tQIIIIILIE .k,.v (.ptr (.int .i64)) .k]
noncomputable def F_I106 (N:Nat) (x:AVals sg_I106) (kf:Ret→Option Ret):Option Ret:=I106 N x.1 x.2.1 (fun r0=>kf ⟨[⟨.bool,.k,r0⟩],[]⟩)
noncomputable def run_I106 (N:Nat):=runOf sg_I106 (F_I106 N)
noncomputable def es_I106 (N:Nat):List Entry:=[]
noncomputable def body_I106:Code:=match Try.f106.body with | some c=>c | none=>.skip
theorem ls_I106:loopsIn body_I106=[]:=by kernel_rfl
theorem fn_I106 (N:Nat) (x:AVals sg_I106) (kf:Ret→Option Ret):F_I106 N x kf=peFunc h_I106 (Orc.of (es_I106 N)) (noL N N) Try.f106 (ashape sg_I106 x) kf:=by kernel_rfl
theorem sd_I106 {Γ : Gl} (N:Nat):Sound Γ Try.prog 106 (run_I106 N):=fun_ok2 (hh:=h_I106) mixed tab_ok (es:=es_I106 N) trivial (fn:=Try.f106) (body:=body_I106) (by kernel_rfl) (by kernel_rfl) (by kernel_rfl) (by kernel_rfl) (by kernel_rfl) (Lf:=noL N) (noL0 N) ls_I106 trivial (N:=N) (by kernel_rfl) (fn_I106 N) (.inl (by kernel_rfl))
noncomputable def ks_S105_l2:List Kd:=[.v (.sl tQIIIIILIE) .k,.clo 106 [.kv (.ptr (.int .i64))],dK,dK,dK,dK,dK,.v (.int .i64) .k,.v (.int .i64) .k,dK,dK,dK,dK,dK,dK,dK,dK,dK,dK]
noncomputable def ko_S105_l2_0:List Kd:=[dK,dK,dK,dK,dK,dK,dK,dK,dK,dK,dK,dK,dK,dK,dK,dK,dK,dK,dK]
noncomputable def ko_S105_l2_1:List Kd:=[dK,dK,dK,dK,.v (.int .i64) .k,dK,dK,dK,dK,dK,dK,dK,dK,dK,dK,dK,dK,dK,dK]
noncomputable def h_S105:Hint:={ tab,hn:=[],loops:=[(2,ks_S105_l2)],outs:=[(2,2,ko_S105_l2_0),(2,1,ko_S105_l2_1)],ords:=[] }
noncomputable def sg_S105:List AK:=[.v (.sl tQIIIIILIE) .k,.fn 106 [(.ptr (.int .i64))]]
noncomputable def F_S105 (N:Nat) (x:AVals sg_S105) (kf:Ret→Option Ret):Option Ret:=S105 N x.1 x.2.1.1 (fun r0=>kf ⟨[⟨(.int .i64),.k,r0⟩],[]⟩)
noncomputable def run_S105 (N:Nat):=runOf sg_S105 (F_S105 N)
noncomputable def es_S105 (N:Nat):List Entry:=[⟨106,[.val],(run_I106 N)⟩]
noncomputable def body_S105:Code:=match Try.f105.body with | some c=>c | none=>.skip
noncomputable def L_S105 (N n:Nat) (key:Nat) (S:St) (K:Ks):Option Ret:=bif Nat.beq key 2 then withVals ks_S105_l2 S (fun x=>S105_l2 N x.1 x.2.1.1 x.2.2.1 n (K (.x 0) (shape ko_S105_l2_0 ())) (fun z0=>K .r (shape ko_S105_l2_1 (z0,()))) x.2.2.2.1) else none
theorem L0_S105 (N key:Nat) (S:St) (K:Ks):L_S105 N 0 key S K=none:=(bif0 (withVals0 fun _=>rfl) rfl)
noncomputable def c_S105_0:Code:=(loopsIn body_S105).getD 0 .skip
theorem ls_S105:loopsIn body_S105=[c_S105_0]:=by kernel_rfl
theorem rd_S105_2 (N n:Nat) (x:Vals ks_S105_l2) (K:Ks):L_S105 N (n + 1) 2 (shape ks_S105_l2 x) (h_S105.onOut 2 K)=peRound h_S105 (Orc.of (es_S105 N)) (mixL (L_S105 N) N n 2) c_S105_0 (shape ks_S105_l2 x) (h_S105.onOut 2 K):=by kernel_rfl
theorem fn_S105 (N:Nat) (x:AVals sg_S105) (kf:Ret→Option Ret):F_S105 N x kf=peFunc h_S105 (Orc.of (es_S105 N)) (L_S105 N N) Try.f105 (ashape sg_S105 x) kf:=by kernel_rfl
theorem sd_S105 {Γ : Gl} (N:Nat):Sound Γ Try.prog 105 (run_S105 N):=fun_ok2 (hh:=h_S105) mixed tab_ok (es:=es_S105 N) ⟨sd_I106 N,trivial⟩ (fn:=Try.f105) (body:=body_S105) (by kernel_rfl) (by kernel_rfl) (by kernel_rfl) (by kernel_rfl) (by kernel_rfl) (Lf:=L_S105 N) (L0_S105 N) ls_S105 (round_cons (key:=2) (ks:=ks_S105_l2) (by kernel_rfl) (by kernel_rfl) (rd_S105_2 N) trivial) (N:=N) (by kernel_rfl) (fn_S105 N) (.inl (by kernel_rfl))
noncomputable def h_I76:Hint:={ tab,hn:=[],loops:=[],outs:=[],ords:=[] }
noncomputable def sg_I76:List AK:=[.v (.sl tQIIIIILIE) .k,.v (.int .i64) .k]
noncomputable def F_I76 (N:Nat) (x:AVals sg_I76) (kf:Ret→Option Ret):Option Ret:=I76 N x.1 x.2.1 (fun r0=>kf ⟨[⟨(.int .i64),.k,r0⟩],[]⟩)
noncomputable def run_I76 (N:Nat):=runOf sg_I76 (F_I76 N)
noncomputable def es_I76 (N:Nat):List Entry:=[⟨105,[.val,.val],(run_S105 N)⟩]
noncomputable def body_I76:Code:=match Try.f76.body with | some c=>c | none=>.skip
theorem ls_I76:loopsIn body_I76=[]:=by kernel_rfl
theorem fn_I76 (N:Nat) (x:AVals sg_I76) (kf:Ret→Option Ret):F_I76 N x kf=peFunc h_I76 (Orc.of (es_I76 N)) (noL N N) Try.f76 (ashape sg_I76 x) kf:=by kernel_rfl
theorem sd_I76 {Γ : Gl} (N:Nat):Sound Γ Try.prog 76 (run_I76 N):=fun_ok2 (hh:=h_I76) mixed tab_ok (es:=es_I76 N) ⟨sd_S105 N,trivial⟩ (fn:=Try.f76) (body:=body_I76) (by kernel_rfl) (by kernel_rfl) (by kernel_rfl) (by kernel_rfl) (by kernel_rfl) (Lf:=noL N) (noL0 N) ls_I76 trivial (N:=N) (by kernel_rfl) (fn_I76 N) (.inl (by kernel_rfl))
noncomputable def ks_I67_l3:List Kd:=[dK,.v (.int .i64) .k,dK,dK,dK,.v (.int .i64) .k,dK,dK,.v (.sl (.int .i64)) .k,.v (.int .i64) .k,.v (.int .i64) .k,dK,dK,dK,dK,dK,dK,dK,dK,dK,dK]
noncomputable def ko_I67_l3_0:List Kd:=[dK,dK,dK,dK,dK,.v (.int .i64) .k,dK,dK,dK,dK,dK,dK,dK,dK,dK,dK,dK,dK,dK,dK,dK]
noncomputable def h_I67:Hint:={ tab,hn:=[],loops:=[(3,ks_I67_l3)],outs:=[(3,2,ko_I67_l3_0)],ords:=[] }
noncomputable def sg_I67:List AK:=[.v (.sl (.int .i64)) .k,.v (.int .i64) .k]
noncomputable def F_I67 (N:Nat) (x:AVals sg_I67) (kf:Ret→Option Ret):Option Ret:=I67 N x.1 x.2.1 (fun r0=>kf ⟨[⟨(.int .i64),.k,r0⟩],[]⟩)
noncomputable def run_I67 (N:Nat):=runOf sg_I67 (F_I67 N)
noncomputable def es_I67 (N:Nat):List Entry:=[]
noncomputable def body_I67:Code:=match Try.f67.body with | some c=>c | none=>.skip
noncomputable def L_I67 (N n:Nat) (key:Nat) (S:St) (K:Ks):Option Ret:=bif Nat.beq key 3 then withVals ks_I67_l3 S (fun x=>I67_l3 x.1 x.2.2.1 x.2.2.2.1 n (fun z0=>K (.x 0) (shape ko_I67_l3_0 (z0,()))) x.2.1 x.2.2.2.2.1) else none
theorem L0_I67 (N key:Nat) (S:St) (K:Ks):L_I67 N 0 key S K=none:=(bif0 (withVals0 fun _=>rfl) rfl)
noncomputable def c_I67_0:Code:=(loopsIn body_I67).getD 0 .skip
theorem ls_I67:loopsIn body_I67=[c_I67_0]:=by kernel_rfl
theorem rd_I67_3 (N n:Nat) (x:Vals ks_I67_l3) (K:Ks):L_I67 N (n + 1) 3 (shape ks_I67_l3 x) (h_I67.onOut 3 K)=peRound h_I67 (Orc.of (es_I67 N)) (mixL (L_I67 N) N n 3) c_I67_0 (shape ks_I67_l3 x) (h_I67.onOut 3 K):=by kernel_rfl
theorem fn_I67 (N:Nat) (x:AVals sg_I67) (kf:Ret→Option Ret):F_I67 N x kf=peFunc h_I67 (Orc.of (es_I67 N)) (L_I67 N N) Try.f67 (ashape sg_I67 x) kf:=by kernel_rfl
theorem sd_I67 {Γ : Gl} (N:Nat):Sound Γ Try.prog 67 (run_I67 N):=fun_ok2 (hh:=h_I67) mixed tab_ok (es:=es_I67 N) trivial (fn:=Try.f67) (body:=body_I67) (by kernel_rfl) (by kernel_rfl) (by kernel_rfl) (by kernel_rfl) (by kernel_rfl) (Lf:=L_I67 N) (L0_I67 N) ls_I67 (round_cons (key:=3) (ks:=ks_I67_l3) (by kernel_rfl) (by kernel_rfl) (rd_I67_3 N) trivial) (N:=N) (by kernel_rfl) (fn_I67 N) (.inl (by kernel_rfl))
noncomputable def ks_I39_l10:List Kd:=[.v (.sl tQIIIIILIE) .k,dK,dK,dK,.v (.ptr tQIIIIILIE) (.o 54 none .k),dK,dK,dK,dK,dK,dK,dK,.v (.sl tQIIIIILIE) .k,.v (.int .i64) .k,.v (.int .i64) .k,dK,dK,dK,dK,dK,dK,dK,dK,dK,dK,dK,dK,dK,dK,dK,dK,dK,dK,dK,dK,dK,dK,dK,dK,dK,dK,dK,dK,dK,dK,dK,dK,dK,dK,dK,dK,dK,dK,dK,dK,dK,dK,dK,dK,dK,dK,dK,dK,dK,dK,dK,dK,dK,dK,dK,dK,dK,.v (.sl (.int .i64)) .k,.v (.int .i64) .k,.v (.int .i64) .k,dK,dK,dK,dK,dK,dK,dK,dK,dK,dK,dK,dK,dK,dK,dK,dK,dK,dK,dK,dK,dK,dK,dK,dK,dK,dK,dK,dK,dK,dK,dK]
noncomputable def ko_I39_l10_0:List Kd:=[.v (.sl tQIIIIILIE) .k,dK,dK,dK,dK,dK,dK,dK,dK,dK,dK,dK,.v (.sl tQIIIIILIE) .k,.v (.int .i64) .k,.v (.int .i64) .k,dK,dK,dK,dK,dK,dK,dK,dK,dK,dK,dK,dK,dK,dK,dK,dK,dK,dK,dK,dK,dK,dK,dK,dK,dK,dK,dK,dK,dK,dK,dK,dK,dK,dK,dK,dK,dK,dK,dK,dK,dK,dK,dK,dK,dK,dK,dK,dK,dK,dK,dK,dK,dK,dK,dK,dK,dK,dK,dK,dK,dK,dK,dK,dK,dK,dK,dK,dK,dK,dK,dK,dK,dK,dK,dK,dK,dK,dK,dK,dK,dK,dK,dK,dK,dK,dK,dK,dK,dK,dK,dK]
noncomputable def ko_I39_l10_1:List Kd:=[dK,dK,.v .bool .k,dK,dK,dK,dK,dK,dK,dK,dK,dK,dK,dK,dK,dK,dK,dK,dK,dK,dK,dK,dK,dK,dK,dK,dK,dK,dK,dK,dK,dK,dK,dK,dK,dK,dK,dK,dK,dK,dK,dK,dK,dK,dK,dK,dK,dK,dK,dK,dK,dK,dK,dK,dK,dK,dK,dK,dK,dK,dK,dK,dK,dK,dK,dK,dK,dK,dK,dK,dK,dK,dK,dK,dK,dK,dK,dK,dK,dK,dK,dK,dK,dK,dK,dK,dK,dK,dK,dK,dK,dK,dK,dK,dK,dK,dK,dK,dK,dK,dK,dK,dK,dK,dK,dK]
noncomputable def ks_I39_l4:List Kd:=[.v (.sl tQIIIIILIE) .k,dK,dK,dK,dK,dK,dK,dK,dK,dK,dK,dK,.v (.sl tQIIIIILIE) .k,.v (.int .i64) .k,.v (.int .i64) .k,dK,dK,dK,dK,dK,dK,dK,dK,dK,dK,dK,dK,dK,dK,dK,dK,dK,dK,dK,dK,dK,dK,dK,dK,dK,dK,dK,dK,dK,dK,dK,dK,dK,dK,dK,dK,dK,dK,dK,dK,dK,dK,dK,dK,dK,dK,dK,dK,dK,dK,dK,dK,dK,dK,dK,dK,dK,dK,dK,dK,dK,dK,dK,dK,dK,dK,dK,dK,dK,dK,dK,dK,dK,dK,dK,dK,dK,dK,dK,dK,dK,dK,dK,dK,dK,dK,dK,dK,dK,dK,dK]
noncomputable def ko_I39_l4_0:List Kd:=[dK,dK,dK,dK,dK,dK,dK,dK,dK,dK,dK,dK,dK,dK,dK,dK,dK,dK,dK,dK,dK,dK,dK,dK,dK,dK,dK,dK,dK,dK,dK,dK,dK,dK,dK,dK,dK,dK,dK,dK,dK,dK,dK,dK,dK,dK,dK,dK,dK,dK,dK,dK,dK,dK,dK,dK,dK,dK,dK,dK,dK,dK,dK,dK,dK,dK,dK,dK,dK,dK,dK,dK,dK,dK,dK,dK,dK,dK,dK,dK,dK,dK,dK,dK,dK,dK,dK,dK,dK,dK,dK,dK,dK,dK,dK,dK,dK,dK,dK,dK,dK,dK,dK,dK,dK,dK]
noncomputable def ko_I39_l4_1:List Kd:=[dK,dK,.v .bool .k,dK,dK,dK,dK,dK,dK,dK,dK,dK,dK,dK,dK,dK,dK,dK,dK,dK,dK,dK,dK,dK,dK,dK,dK,dK,dK,dK,dK,dK,dK,dK,dK,dK,dK,dK,dK,dK,dK,dK,dK,dK,dK,dK,dK,dK,dK,dK,dK,dK,dK,dK,dK,dK,dK,dK,dK,dK,dK,dK,dK,dK,dK,dK,dK,dK,dK,dK,dK,dK,dK,dK,dK,dK,dK,dK,dK,dK,dK,dK,dK,dK,dK,dK,dK,dK,dK,dK,dK,dK,dK,dK,dK,dK,dK,dK,dK,dK,dK,dK,dK,dK,dK,dK]
noncomputable def h_I39:Hint:={ tab,hn:=[],loops:=[(10,ks_I39_l10),(4,ks_I39_l4)],outs:=[(10,4,ko_I39_l10_0),(10,1,ko_I39_l10_1),(4,2,ko_I39_l4_0),(4,1,ko_I39_l4_1)],ords:=[(7,(OT.seq [0,1,2,3,4,5,6,7,8,9,10,11,12,13,14,15,16,17,18,19,20,21,22,23,24,25,26,27,28,29,30,31,32,33,34,35,36,37,38,39,40,41,42,43,44,45,46,47,48] .done)),(13,(OT.seq [0,1,2,3,4,5,6,7,8,9,10,11,13,14,15,16,17,18,19,12,20,21,22] .done))] }
noncomputable def sg_I39:List AK:=[.v (.sl tQIIIIILIE) .k]
noncomputable def F_I39 (N:Nat) (x:AVals sg_I39) (kf:Ret→Option Ret):Option Ret:=I39 N x.1 (fun r0=>kf ⟨[⟨.bool,.k,r0⟩],[]⟩)
noncomputable def run_I39 (N:Nat):=runOf sg_I39 (F_I39 N)
noncomputable def es_I39 (N:Nat):List Entry:=[⟨45,[.val,.val,.val],(run_I45 N)⟩,⟨76,[.val,.val],(run_I76 N)⟩,⟨67,[.val,.val],(run_I67 N)⟩]
noncomputable def body_I39:Code:=match Try.f39.body with | some c=>c | none=>.skip
noncomputable def L_I39 (N n:Nat) (key:Nat) (S:St) (K:Ks):Option Ret:=bif Nat.beq key 4 then withVals ks_I39_l4 S (fun x=>I39_l4 N x.1 x.2.1 x.2.2.1 n (K (.x 0) (shape ko_I39_l4_0 ())) (fun z0=>K .r (shape ko_I39_l4_1 (z0,()))) x.2.2.2.1) else bif Nat.beq key 10 then withVals ks_I39_l10 S (fun x=>I39_l10 N x.1 x.2.1 x.2.2.1 x.2.2.2.1 x.2.2.2.2.1 x.2.2.2.2.2.1 x.2.2.2.2.2.2.1 n (K (.x 2) (shape ko_I39_l10_0 (x.1,x.2.2.1,x.2.2.2.1,x.2.2.2.2.1,()))) (fun z0=>K .r (shape ko_I39_l10_1 (z0,()))) x.2.2.2.2.2.2.2.1) else none
theorem L0_I39 (N key:Nat) (S:St) (K:Ks):L_I39 N 0 key S K=none:=(bif0 (withVals0 fun _=>rfl) (bif0 (withVals0 fun _=>rfl) rfl))
noncomputable def c_I39_0:Code:=(loopsIn body_I39).getD 0 .skip
noncomputable def c_I39_1:Code:=(loopsIn body_I39).getD 1 .skip
theorem ls_I39:loopsIn body_I39=[c_I39_0,c_I39_1]:=by kernel_rfl
theorem rd_I39_10 (N n:Nat) (x:Vals ks_I39_l10) (K:Ks):L_I39 N (n + 1) 10 (shape ks_I39_l10 x) (h_I39.onOut 10 K)=peRound h_I39 (Orc.of (es_I39 N)) (mixL (L_I39 N) N n 10) c_I39_1 (shape ks_I39_l10 x) (h_I39.onOut 10 K):=by kernel_rfl
theorem rd_I39_4 (N n:Nat) (x:Vals ks_I39_l4) (K:Ks):L_I39 N (n + 1) 4 (shape ks_I39_l4 x) (h_I39.onOut 4 K)=peRound h_I39 (Orc.of (es_I39 N)) (mixL (L_I39 N) N n 4) c_I39_0 (shape ks_I39_l4 x) (h_I39.onOut 4 K):=by kernel_rfl
theorem fn_I39 (N:Nat) (x:AVals sg_I39) (kf:Ret→Option Ret):F_I39 N x kf=peFunc h_I39 (Orc.of (es_I39 N)) (L_I39 N N) Try.f39 (ashape sg_I39 x) kf:=by kernel_rfl
theorem sd_I39 {Γ : Gl} (N:Nat):Sound Γ Try.prog 39 (run_I39 N):=fun_ok2 (hh:=h_I39) mixed tab_ok (es:=es_I39 N) ⟨sd_I45 N,⟨sd_I76 N,⟨sd_I67 N,trivial⟩⟩⟩ (fn:=Try.f39) (body:=body_I39) (by kernel_rfl) (by kernel_rfl) (by kernel_rfl) (by kernel_rfl) (by kernel_rfl) (Lf:=L_I39 N) (L0_I39 N) ls_I39 (round_cons (key:=4) (ks:=ks_I39_l4) (by kernel_rfl) (by kernel_rfl) (rd_I39_4 N) (round_cons (key:=10) (ks:=ks_I39_l10) (by kernel_rfl) (by kernel_rfl) (rd_I39_10 N) trivial)) (N:=N) (by kernel_rfl) (fn_I39 N) (.inl (by kernel_rfl))
noncomputable def ks_I40_l9:List Kd:=[.v (.sl tQIILIE) .k,dK,dK,dK,.v (.ptr tQIILIE) (.o 85 none .k),dK,dK,dK,dK,dK,.v (.sl tQIILIE) .k,.v (.int .i64) .k,.v (.int .i64) .k,dK,dK,dK,dK,dK,dK,dK,dK,dK,dK,dK,dK,dK,dK,dK,dK,dK,dK,dK,dK,dK,dK,dK,dK,dK,dK,dK,dK,dK,dK,.v (.sl (.int .i64)) .k,.v (.int .i64) .k,.v (.int .i64) .k,dK,dK,dK,dK,dK,dK,dK,dK,dK,dK,dK,dK,dK,dK,dK,dK,dK,dK,dK,dK,dK,dK,dK]
noncomputable def ko_I40_l9_0:List Kd:=[.v (.sl tQIILIE) .k,dK,dK,dK,dK,dK,dK,dK,dK,dK,.v (.sl tQIILIE) .k,.v (.int .i64) .k,.v (.int .i64) .k,dK,dK,dK,dK,dK,dK,dK,dK,dK,dK,dK,dK,dK,dK,dK,dK,dK,dK,dK,dK,dK,dK,dK,dK,dK,dK,dK,dK,dK,dK,dK,dK,dK,dK,dK,dK,dK,dK,dK,dK,dK,dK,dK,dK,dK,dK,dK,dK,dK,dK,dK,dK,dK,dK,dK,dK]
noncomputable def ko_I40_l9_1:List Kd:=[dK,dK,.v .bool .k,dK,dK,dK,dK,dK,dK,dK,dK,dK,dK,dK,dK,dK,dK,dK,dK,dK,dK,dK,dK,dK,dK,dK,dK,dK,dK,dK,dK,dK,dK,dK,dK,dK,dK,dK,dK,dK,dK,dK,dK,dK,dK,dK,dK,dK,dK,dK,dK,dK,dK,dK,dK,dK,dK,dK,dK,dK,dK,dK,dK,dK,dK,dK,dK,dK,dK]
noncomputable def ks_I40_l4:List Kd:=[.v (.sl tQIILIE) .k,dK,dK,dK,dK,dK,dK,dK,dK,dK,.v (.sl tQIILIE) .k,.v (.int .i64) .k,.v (.int .i64) .k,dK,dK,dK,dK,dK,dK,dK,dK,dK,dK,dK,dK,dK,dK,dK,dK,dK,dK,dK,dK,dK,dK,dK,dK,dK,dK,dK,dK,dK,dK,dK,dK,dK,dK,dK,dK,dK,dK,dK,dK,dK,dK,dK,dK,dK,dK,dK,dK,dK,dK,dK,dK,dK,dK,dK,dK]
noncomputable def ko_I40_l4_0:List Kd:=[dK,dK,dK,dK,dK,dK,dK,dK,dK,dK,dK,dK,dK,dK,dK,dK,dK,dK,dK,dK,dK,dK,dK,dK,dK,dK,dK,dK,dK,dK,dK,dK,dK,dK,dK,dK,dK,dK,dK,dK,dK,dK,dK,dK,dK,dK,dK,dK,dK,dK,dK,dK,dK,dK,dK,dK,dK,dK,dK,dK,dK,dK,dK,dK,dK,dK,dK,dK,dK]
noncomputable def ko_I40_l4_1:List Kd:=[dK,dK,.v .bool .k,dK,dK,dK,dK,dK,dK,dK,dK,dK,dK,dK,dK,dK,dK,dK,dK,dK,dK,dK,dK,dK,dK,dK,dK,dK,dK,dK,dK,dK,dK,dK,dK,dK,dK,dK,dK,dK,dK,dK,dK,dK,dK,dK,dK,dK,dK,dK,dK,dK,dK,dK,dK,dK,dK,dK,dK,dK,dK,dK,dK,dK,dK,dK,dK,dK,dK]
noncomputable def h_I40:Hint:={ tab,hn:=[],loops:=[(9,ks_I40_l9),(4,ks_I40_l4)],outs:=[(9,4,ko_I40_l9_0),(9,1,ko_I40_l9_1),(4,2,ko_I40_l4_0),(4,1,ko_I40_l4_1)],ords:=[(6,(OT.seq [0,1,2,3,4,5,6,7,8,9,10,11,12,13,14,15,16,17,18,19,20,21,22,23,24] .done))] }
noncomputable def sg_I40:List AK:=[.v (.sl tQIILIE) .k]
noncomputable def F_I40 (N:Nat) (x:AVals sg_I40) (kf:Ret→Option Ret):Option Ret:=I40 N x.1 (fun r0=>kf ⟨[⟨.bool,.k,r0⟩],[]⟩)
noncomputable def run_I40 (N:Nat):=runOf sg_I40 (F_I40 N)
noncomputable def es_I40 (N:Nat):List Entry:=[⟨45,[.val,.val,.val],(run_I45 N)⟩]
noncomputable def body_I40:Code:=match Try.f40.body with | some c=>c | none=>.skip
noncomputable def L_I40 (N n:Nat) (key:Nat) (S:St) (K:Ks):Option Ret:=bif Nat.beq key 4 then withVals ks_I40_l4 S (fun x=>I40_l4 N x.1 x.2.1 x.2.2.1 n (K (.x 0) (shape ko_I40_l4_0 ())) (fun z0=>K .r (shape ko_I40_l4_1 (z0,()))) x.2.2.2.1) else bif Nat.beq key 9 then withVals ks_I40_l9 S (fun x=>I40_l9 N x.1 x.2.1 x.2.2.1 x.2.2.2.1 x.2.2.2.2.1 x.2.2.2.2.2.1 x.2.2.2.2.2.2.1 n (K (.x 2) (shape ko_I40_l9_0 (x.1,x.2.2.1,x.2.2.2.1,x.2.2.2.2.1,()))) (fun z0=>K .r (shape ko_I40_l9_1 (z0,()))) x.2.2.2.2.2.2.2.1) else none
theorem L0_I40 (N key:Nat) (S:St) (K:Ks):L_I40 N 0 key S K=none:=(bif0 (withVals0 fun _=>rfl) (bif0 (withVals0 fun _=>rfl) rfl))
noncomputable def c_I40_0:Code:=(loopsIn body_I40).getD 0 .skip
noncomputable def c_I40_1:Code:=(loopsIn body_I40).getD 1 .skip
theorem ls_I40:loopsIn body_I40=[c_I40_0,c_I40_1]:=by kernel_rfl
theorem rd_I40_9 (N n:Nat) (x:Vals ks_I40_l9) (K:Ks):L_I40 N (n + 1) 9 (shape ks_I40_l9 x) (h_I40.onOut 9 K)=peRound h_I40 (Orc.of (es_I40 N)) (mixL (L_I40 N) N n 9) c_I40_1 (shape ks_I40_l9 x) (h_I40.onOut 9 K):=by kernel_rfl
theorem rd_I40_4 (N n:Nat) (x:Vals ks_I40_l4) (K:Ks):L_I40 N (n + 1) 4 (shape ks_I40_l4 x) (h_I40.onOut 4 K)=peRound h_I40 (Orc.of (es_I40 N)) (mixL (L_I40 N) N n 4) c_I40_0 (shape ks_I40_l4 x) (h_I40.onOut 4 K):=by kernel_rfl
theorem fn_I40 (N:Nat) (x:AVals sg_I40) (kf:Ret→Option Ret):F_I40 N x kf=peFunc h_I40 (Orc.of (es_I40 N)) (L_I40 N N) Try.f40 (ashape sg_I40 x) kf:=by kernel_rfl
theorem sd_I40 {Γ : Gl} (N:Nat):Sound Γ Try.prog 40 (run_I40 N):=fun_ok2 (hh:=h_I40) mixed tab_ok (es:=es_I40 N) ⟨sd_I45 N,trivial⟩ (fn:=Try.f40) (body:=body_I40) (by kernel_rfl) (by kernel_rfl) (by kernel_rfl) (by kernel_rfl) (by kernel_rfl) (Lf:=L_I40 N) (L0_I40 N) ls_I40 (round_cons (key:=4) (ks:=ks_I40_l4) (by kernel_rfl) (by kernel_rfl) (rd_I40_4 N) (round_cons (key:=9) (ks:=ks_I40_l9) (by kernel_rfl) (by kernel_rfl) (rd_I40_9 N) trivial)) (N:=N) (by kernel_rfl) (fn_I40 N) (.inl (by kernel_rfl))
noncomputable def h_I153:Hint:={ tab,hn:=[],loops:=[],outs:=[],ords:=[] }
noncomputable def sg_I153:List AK:=[.v (.int .i64) .k,.v (.int .i64) .k]
noncomputable def F_I153 (N:Nat) (x:AVals sg_I153) (kf:Ret→Option Ret):Option Ret:=I153 N x.1 x.2.1 (fun r0=>kf ⟨[⟨(.int .i64),.k,r0⟩],[]⟩)
noncomputable def run_I153 (N:Nat):=runOf sg_I153 (F_I153 N)
noncomputable def es_I153 (N:Nat):List Entry:=[⟨45,[.val,.val,.val],(run_I45 N)⟩]
noncomputable def body_I153:Code:=match Try.f153.body with | some c=>c | none=>.skip
theorem ls_I153:loopsIn body_I153=[]:=by kernel_rfl
theorem fn_I153 (N:Nat) (x:AVals sg_I153) (kf:Ret→Option Ret):F_I153 N x kf=peFunc h_I153 (Orc.of (es_I153 N)) (noL N N) Try.f153 (ashape sg_I153 x) kf:=by kernel_rfl
theorem sd_I153 {Γ : Gl} (N:Nat):Sound Γ Try.prog 153 (run_I153 N):=fun_ok2 (hh:=h_I153) mixed tab_ok (es:=es_I153 N) ⟨sd_I45 N,trivial⟩ (fn:=Try.f153) (body:=body_I153) (by kernel_rfl) (by kernel_rfl) (by kernel_rfl) (by kernel_rfl) (by kernel_rfl) (Lf:=noL N) (noL0 N) ls_I153 trivial (N:=N) (by kernel_rfl) (fn_I153 N) (.inl (by kernel_rfl))
noncomputable def h_I130:Hint:={ tab,hn:=[],loops:=[],outs:=[],ords:=[] }
noncomputable def sg_I130:List AK:=[.v (.int .i64) .k,.v (.int .i64) .k]
noncomputable def F_I130 (N:Nat) (x:AVals sg_I130) (kf:Ret→Option Ret):Option Ret:=I130 N x.1 x.2.1 (fun r0=>kf ⟨[⟨(.int .i64),.k,r0⟩],[]⟩)
noncomputable def run_I130 (N:Nat):=runOf sg_I130 (F_I130 N)
noncomputable def es_I130 (N:Nat):List Entry:=[⟨153,[.val,.val],(run_I153 N)⟩]
noncomputable def body_I130:Code:=match Try.f130.body with | some c=>c | none=>.skip
theorem ls_I130:loopsIn body_I130=[]:=by kernel_rfl
theorem fn_I130 (N:Nat) (x:AVals sg_I130) (kf:Ret→Option Ret):F_I130 N x kf=peFunc h_I130 (Orc.of (es_I130 N)) (noL N N) Try.f130 (ashape sg_I130 x) kf:=by kernel_rfl
theorem sd_I130 {Γ : Gl} (N:Nat):Sound Γ Try.prog 130 (run_I130 N):=fun_ok2 (hh:=h_I130) mixed tab_ok (es:=es_I130 N) ⟨sd_I153 N,trivial⟩ (fn:=Try.f130) (body:=body_I130) (by kernel_rfl) (by kernel_rfl) (by kernel_rfl) (by kernel_rfl) (by kernel_rfl) (Lf:=noL N) (noL0 N) ls_I130 trivial (N:=N) (by kernel_rfl) (fn_I130 N) (.inl (by kernel_rfl))
noncomputable def ks_I107_l3:List Kd:=[dK,dK,dK,.v (.int .i64) .k,dK,dK,.v (.sl (.int .i64)) .k,.v (.int .i64) .k,.v (.int .i64) .k,dK,dK,dK,dK,dK,dK,dK,dK]
noncomputable def ko_I107_l3_0:List Kd:=[dK,dK,dK,.v (.int .i64) .k,dK,dK,dK,dK,dK,dK,dK,dK,dK,dK,dK,dK,dK]
noncomputable def h_I107:Hint:={ tab,hn:=[],loops:=[(3,ks_I107_l3)],outs:=[(3,2,ko_I107_l3_0)],ords:=[] }
noncomputable def sg_I107:List AK:=[.v (.sl (.int .i64)) .k]
noncomputable def F_I107 (N:Nat) (x:AVals sg_I107) (kf:Ret→Option Ret):Option Ret:=I107 N x.1 (fun r0=>kf ⟨[⟨(.int .i64),.k,r0⟩],[]⟩)
noncomputable def run_I107 (N:Nat):=runOf sg_I107 (F_I107 N)
noncomputable def es_I107 (N:Nat):List Entry:=[⟨130,[.val,.val],(run_I130 N)⟩]
noncomputable def body_I107:Code:=match Try.f107.body with | some c=>c | none=>.skip
noncomputable def L_I107 (N n:Nat) (key:Nat) (S:St) (K:Ks):Option Ret:=bif Nat.beq key 3 then withVals ks_I107_l3 S (fun x=>I107_l3 N x.2.1 x.2.2.1 n (fun z0=>K (.x 0) (shape ko_I107_l3_0 (z0,()))) x.1 x.2.2.2.1) else none
theorem L0_I107 (N key:Nat) (S:St) (K:Ks):L_I107 N 0 key S K=none:=(bif0 (withVals0 fun _=>rfl) rfl)
noncomputable def c_I107_0:Code:=(loopsIn body_I107).getD 0 .skip
theorem ls_I107:loopsIn body_I107=[c_I107_0]:=by kernel_rfl
theorem rd_I107_3 (N n:Nat) (x:Vals ks_I107_l3) (K:Ks):L_I107 N (n + 1) 3 (shape ks_I107_l3 x) (h_I107.onOut 3 K)=peRound h_I107 (Orc.of (es_I107 N)) (mixL (L_I107 N) N n 3) c_I107_0 (shape ks_I107_l3 x) (h_I107.onOut 3 K):=by kernel_rfl
theorem fn_I107 (N:Nat) (x:AVals sg_I107) (kf:Ret→Option Ret):F_I107 N x kf=peFunc h_I107 (Orc.of (es_I107 N)) (L_I107 N N) Try.f107 (ashape sg_I107 x) kf:=by kernel_rfl
theorem sd_I107 {Γ : Gl} (N:Nat):Sound Γ Try.prog 107 (run_I107 N):=fun_ok2 (hh:=h_I107) mixed tab_ok (es:=es_I107 N) ⟨sd_I130 N,trivial⟩ (fn:=Try.f107) (body:=body_I107) (by kernel_rfl) (by kernel_rfl) (by kernel_rfl) (by kernel_rfl) (by kernel_rfl) (Lf:=L_I107 N) (L0_I107 N) ls_I107 (round_cons (key:=3) (ks:=ks_I107_l3) (by kernel_rfl) (by kernel_rfl) (rd_I107_3 N) trivial) (N:=N) (by kernel_rfl) (fn_I107 N) (.inl (by kernel_rfl))
noncomputable def h_I77:Hint:={ tab,hn:=[],loops:=[],outs:=[],ords:=[] }
noncomputable def sg_I77:List AK:=[.v (.int .i64) .k,.v tQIIIIE .k]
noncomputable def F_I77 (N:Nat) (x:AVals sg_I77) (kf:Ret→Option Ret):Option Ret:=I77 N x.1 x.2.1 (fun r0=>kf ⟨[⟨(.int .i64),.k,r0⟩],[]⟩)
noncomputable def run_I77 (N:Nat):=runOf sg_I77 (F_I77 N)
noncomputable def es_I77 (N:Nat):List Entry:=[⟨107,[.val],(run_I107 N)⟩]
noncomputable def body_I77:Code:=match Try.f77.body with | some c=>c | none=>.skip
theorem ls_I77:loopsIn body_I77=[]:=by kernel_rfl
theorem fn_I77 (N:Nat) (x:AVals sg_I77) (kf:Ret→Option Ret):F_I77 N x kf=peFunc h_I77 (Orc.of (es_I77 N)) (noL N N) Try.f77 (ashape sg_I77 x) kf:=by kernel_rfl
theorem sd_I77 {Γ : Gl} (N:Nat):Sound Γ Try.prog 77 (run_I77 N):=fun_ok2 (hh:=h_I77) mixed tab_ok (es:=es_I77 N) ⟨sd_I107 N,trivial⟩ (fn:=Try.f77) (body:=body_I77) (by kernel_rfl) (by kernel_rfl) (by kernel_rfl) (by kernel_rfl) (by kernel_rfl) (Lf:=noL N) (noL0 N) ls_I77 trivial (N:=N) (by kernel_rfl) (fn_I77 N) (.inl (by kernel_rfl))
noncomputable def ks_I41_l5:List Kd:=[dK,dK,dK,.v (.int .i64) .k,dK,dK,dK,dK,dK,.v (.sl tQIIIIE) .k,.v (.int .i64) .k,.v (.int .i64) .k,dK,dK,dK,dK,dK,dK,dK,dK,dK,dK,dK,dK,dK,dK,dK,dK,dK,dK,dK,dK,dK,dK,dK,dK,dK,dK,dK,dK,dK,dK,dK,dK]
noncomputable def ko_I41_l5_0:List Kd:=[dK,dK,dK,dK,dK,dK,dK,dK,dK,dK,dK,dK,dK,dK,dK,dK,dK,dK,dK,dK,dK,dK,dK,dK,dK,dK,dK,dK,dK,dK,dK,dK,dK,dK,dK,dK,dK,dK,dK,dK,dK,dK,dK,dK]
noncomputable def ko_I41_l5_1:List Kd:=[dK,dK,.v .bool .k,dK,dK,dK,dK,dK,dK,dK,dK,dK,dK,dK,dK,dK,dK,dK,dK,dK,dK,dK,dK,dK,dK,dK,dK,dK,dK,dK,dK,dK,dK,dK,dK,dK,dK,dK,dK,dK,dK,dK,dK,dK]
noncomputable def h_I41:Hint:={ tab,hn:=[],loops:=[(5,ks_I41_l5)],outs:=[(5,2,ko_I41_l5_0),(5,1,ko_I41_l5_1)],ords:=[(7,(OT.seq [0,1,2,3,4,5,6,7,8,9,10,11,12,13,14,15,16,17,18,19,20,21,22,23,24] .done))] }
noncomputable def sg_I41:List AK:=[.v (.sl tQIIIIE) .k]
noncomputable def F_I41 (N:Nat) (x:AVals sg_I41) (kf:Ret→Option Ret):Option Ret:=I41 N x.1 (fun r0=>kf ⟨[⟨.bool,.k,r0⟩],[]⟩)
noncomputable def run_I41 (N:Nat):=runOf sg_I41 (F_I41 N)
noncomputable def es_I41 (N:Nat):List Entry:=[⟨45,[.val,.val,.val],(run_I45 N)⟩,⟨77,[.val,.val],(run_I77 N)⟩]
noncomputable def body_I41:Code:=match Try.f41.body with | some c=>c | none=>.skip
noncomputable def L_I41 (N n:Nat) (key:Nat) (S:St) (K:Ks):Option Ret:=bif Nat.beq key 5 then withVals ks_I41_l5 S (fun x=>I41_l5 N x.2.1 x.2.2.1 n (K (.x 0) (shape ko_I41_l5_0 ())) (fun z0=>K .r (shape ko_I41_l5_1 (z0,()))) x.1 x.2.2.2.1) else none
theorem L0_I41 (N key:Nat) (S:St) (K:Ks):L_I41 N 0 key S K=none:=(bif0 (withVals0 fun _=>rfl) rfl)
noncomputable def c_I41_0:Code:=(loopsIn body_I41).getD 0 .skip
theorem ls_I41:loopsIn body_I41=[c_I41_0]:=by kernel_rfl
theorem rd_I41_5 (N n:Nat) (x:Vals ks_I41_l5) (K:Ks):L_I41 N (n + 1) 5 (shape ks_I41_l5 x) (h_I41.onOut 5 K)=peRound h_I41 (Orc.of (es_I41 N)) (mixL (L_I41 N) N n 5) c_I41_0 (shape ks_I41_l5 x) (h_I41.onOut 5 K):=by kernel_rfl
theorem fn_I41 (N:Nat) (x:AVals sg_I41) (kf:Ret→Option Ret):F_I41 N x kf=peFunc h_I41 (Orc.of (es_I41 N)) (L_I41 N N) Try.f41 (ashape sg_I41 x) kf:=by kernel_rfl
theorem sd_I41 {Γ : Gl} (N:Nat):Sound Γ Try.prog 41 (run_I41 N):=fun_ok2 (hh:=h_I41) mixed tab_ok (es:=es_I41 N) ⟨sd_I45 N,⟨sd_I77 N,trivial⟩⟩ (fn:=Try.f41) (body:=body_I41) (by kernel_rfl) (by kernel_rfl) (by kernel_rfl) (by kernel_rfl) (by kernel_rfl) (Lf:=L_I41 N) (L0_I41 N) ls_I41 (round_cons (key:=5) (ks:=ks_I41_l5) (by kernel_rfl) (by kernel_rfl) (rd_I41_5 N) trivial) (N:=N) (by kernel_rfl) (fn_I41 N) (.inl (by kernel_rfl))
noncomputable def h_I10:Hint:={ tab,hn:=[],loops:=[],outs:=[],ords:=[] }
noncomputable def sg_I10:List AK:=[.v tQLQIIIIILIELQIILIELQIIELILQIIIELQIIIIEIE .k]
noncomputable def F_I10 (N:Nat) (x:AVals sg_I10) (kf:Ret→Option Ret):Option Ret:=I10 N x.1 (fun r0=>kf ⟨[⟨.bool,.k,r0⟩],[]⟩)
noncomputable def run_I10 (N:Nat):=runOf sg_I10 (F_I10 N)
noncomputable def es_I10 (N:Nat):List Entry:=[]
noncomputable def body_I10:Code:=match Try.f10.body with | some c=>c | none=>.skip
theorem ls_I10:loopsIn body_I10=[]:=by kernel_rfl
theorem fn_I10 (N:Nat) (x:AVals sg_I10) (kf:Ret→Option Ret):F_I10 N x kf=peFunc h_I10 (Orc.of (es_I10 N)) (noL N N) Try.f10 (ashape sg_I10 x) kf:=by kernel_rfl
theorem sd_I10 {Γ : Gl} (N:Nat):Sound Γ Try.prog 10 (run_I10 N):=fun_ok2 (hh:=h_I10) mixed tab_ok (es:=es_I10 N) trivial (fn:=Try.f10) (body:=body_I10) (by kernel_rfl) (by kernel_rfl) (by kernel_rfl) (by kernel_rfl) (by kernel_rfl) (Lf:=noL N) (noL0 N) ls_I10 trivial (N:=N) (by kernel_rfl) (fn_I10 N) (.inl (by kernel_rfl))
noncomputable def ks_S109_l2:List Kd:=[.v (.sl (.int .i64)) .k,.v (.int .i64) .k,dK,dK,dK,dK,dK,.v (.int .i64) .k,.v (.int .i64) .k,dK,dK,dK,dK,dK,dK,dK,dK,dK,dK]
noncomputable def ko_S109_l2_0:List Kd:=[dK,dK,dK,dK,dK,dK,dK,dK,dK,dK,dK,dK,dK,dK,dK,dK,dK,dK,dK]
noncomputable def ko_S109_l2_1:List Kd:=[dK,dK,dK,dK,.v (.int .i64) .k,dK,dK,dK,dK,dK,dK,dK,dK,dK,dK,dK,dK,dK,dK]
noncomputable def h_S109:Hint:={ tab,hn:=[],loops:=[(2,ks_S109_l2)],outs:=[(2,2,ko_S109_l2_0),(2,1,ko_S109_l2_1)],ords:=[] }
noncomputable def sg_S109:List AK:=[.v (.sl (.int .i64)) .k,.v (.int .i64) .k]
noncomputable def F_S109 (N:Nat) (x:AVals sg_S109) (kf:Ret→Option Ret):Option Ret:=S109 N x.1 x.2.1 (fun r0=>kf ⟨[⟨(.int .i64),.k,r0⟩],[]⟩)
noncomputable def run_S109 (N:Nat):=runOf sg_S109 (F_S109 N)
noncomputable def es_S109 (N:Nat):List Entry:=[]
noncomputable def body_S109:Code:=match Try.f109.body with | some c=>c | none=>.skip
noncomputable def L_S109 (N n:Nat) (key:Nat) (S:St) (K:Ks):Option Ret:=bif Nat.beq key 2 then withVals ks_S109_l2 S (fun x=>S109_l2 x.1 x.2.1 x.2.2.1 n (K (.x 0) (shape ko_S109_l2_0 ())) (fun z0=>K .r (shape ko_S109_l2_1 (z0,()))) x.2.2.2.1) else none
theorem L0_S109 (N key:Nat) (S:St) (K:Ks):L_S109 N 0 key S K=none:=(bif0 (withVals0 fun _=>rfl) rfl)
noncomputable def c_S109_0:Code:=(loopsIn body_S109).getD 0 .skip
theorem ls_S109:loopsIn body_S109=[c_S109_0]:=by kernel_rfl
theorem rd_S109_2 (N n:Nat) (x:Vals ks_S109_l2) (K:Ks):L_S109 N (n + 1) 2 (shape ks_S109_l2 x) (h_S109.onOut 2 K)=peRound h_S109 (Orc.of (es_S109 N)) (mixL (L_S109 N) N n 2) c_S109_0 (shape ks_S109_l2 x) (h_S109.onOut 2 K):=by kernel_rfl
theorem fn_S109 (N:Nat) (x:AVals sg_S109) (kf:Ret→Option Ret):F_S109 N x kf=peFunc h_S109 (Orc.of (es_S109 N)) (L_S109 N N) Try.f109 (ashape sg_S109 x) kf:=by kernel_rfl
theorem sd_S109 {Γ : Gl} (N:Nat):Sound Γ Try.prog 109 (run_S109 N):=fun_ok2 (hh:=h_S109) mixed tab_ok (es:=es_S109 N) trivial (fn:=Try.f109) (body:=body_S109) (by kernel_rfl) (by kernel_rfl) (by kernel_rfl) (by kernel_rfl) (by kernel_rfl) (Lf:=L_S109 N) (L0_S109 N) ls_S109 (round_cons (key:=2) (ks:=ks_S109_l2) (by kernel_rfl) (by kernel_rfl) (rd_S109_2 N) trivial) (N:=N) (by kernel_rfl) (fn_S109 N) (.inl (by kernel_rfl))
noncomputable def h_S81:Hint:={ tab,hn:=[],loops:=[],outs:=[],ords:=[] }
noncomputable def sg_S81:List AK:=[.v (.sl (.int .i64)) .k,.v (.int .i64) .k]
noncomputable def F_S81 (N:Nat) (x:AVals sg_S81) (kf:Ret→Option Ret):Option Ret:=S81 N x.1 x.2.1 (fun r0=>kf ⟨[⟨.bool,.k,r0⟩],[]⟩)
noncomputable def run_S81 (N:Nat):=runOf sg_S81 (F_S81 N)
noncomputable def es_S81 (N:Nat):List Entry:=[⟨109,[.val,.val],(run_S109 N)⟩]
noncomputable def body_S81:Code:=match Try.f81.body with | some c=>c | none=>.skip
theorem ls_S81:loopsIn body_S81=[]:=by kernel_rfl
theorem fn_S81 (N:Nat) (x:AVals sg_S81) (kf:Ret→Option Ret):F_S81 N x kf=peFunc h_S81 (Orc.of (es_S81 N)) (noL N N) Try.f81 (ashape sg_S81 x) kf:=by kernel_rfl
theorem sd_S81 {Γ : Gl} (N:Nat):Sound Γ Try.prog 81 (run_S81 N):=fun_ok2 (hh:=h_S81) mixed tab_ok (es:=es_S81 N) ⟨sd_S109 N,trivial⟩ (fn:=Try.f81) (body:=body_S81) (by kernel_rfl) (by kernel_rfl) (by kernel_rfl) (by kernel_rfl) (by kernel_rfl) (Lf:=noL N) (noL0 N) ls_S81 trivial (N:=N) (by kernel_rfl) (fn_S81 N) (.inl (by kernel_rfl))
noncomputable def h_I108:Hint:={ tab,hn:=[],loops:=[],outs:=[],ords:=[] }
noncomputable def sg_I108:List AK:=[.v (.sl tQIIIIILIE) .k,.v (.int .i64) .k,.v (.int .i64) .k]
noncomputable def F_I108 (N:Nat) (x:AVals sg_I108) (kf:Ret→Option Ret):Option Ret:=I108 N x.1 x.2.1 x.2.2.1 (fun r0=>kf ⟨[⟨.bool,.k,r0⟩],[]⟩)
noncomputable def run_I108 (N:Nat):=runOf sg_I108 (F_I108 N)
noncomputable def es_I108 (N:Nat):List Entry:=[⟨76,[.val,.val],(run_I76 N)⟩,⟨81,[.val,.val],(run_S81 N)⟩]
noncomputable def body_I108:Code:=match Try.f108.body with | some c=>c | none=>.skip
theorem ls_I108:loopsIn body_I108=[]:=by kernel_rfl
theorem fn_I108 (N:Nat) (x:AVals sg_I108) (kf:Ret→Option Ret):F_I108 N x kf=peFunc h_I108 (Orc.of (es_I108 N)) (noL N N) Try.f108 (ashape sg_I108 x) kf:=by kernel_rfl
theorem sd_I108 {Γ : Gl} (N:Nat):Sound Γ Try.prog 108 (run_I108 N):=fun_ok2 (hh:=h_I108) mixed tab_ok (es:=es_I108 N) ⟨sd_I76 N,⟨sd_S81 N,trivial⟩⟩ (fn:=Try.f108) (body:=body_I108) (by kernel_rfl) (by kernel_rfl) (by kernel_rfl) (by kernel_rfl) (by kernel_rfl) (Lf:=noL N) (noL0 N) ls_I108 trivial (N:=N) (by kernel_rfl) (fn_I108 N) (.inl (by kernel_rfl))
noncomputable def h_I78:Hint:={ tab,hn:=[],loops:=[],outs:=[],ords:=[(2,(OT.seq [0,1,2,3,4,5,6,7,8,9,10,11,12,13,14,15,16,17,18,19,20,21,22,23,24,25,26,27,28,29,30,31,32,33,34,35] .done))] }
noncomputable def sg_I78:List AK:=[.v (.sl tQIIIIILIE) .k,.v (.int .i64) .k,.v (.int .i64) .k]
noncomputable def F_I78 (N:Nat) (x:AVals sg_I78) (kf:Ret→Option Ret):Option Ret:=I78 N x.1 x.2.1 x.2.2.1 (fun r0=>kf ⟨[⟨.bool,.k,r0⟩],[]⟩)
noncomputable def run_I78 (N:Nat):=runOf sg_I78 (F_I78 N)
noncomputable def es_I78 (N:Nat):List Entry:=[⟨76,[.val,.val],(run_I76 N)⟩,⟨39,[.val],(run_I39 N)⟩,⟨108,[.val,.val,.val],(run_I108 N)⟩]
noncomputable def body_I78:Code:=match Try.f78.body with | some c=>c | none=>.skip
theorem ls_I78:loopsIn body_I78=[]:=by kernel_rfl
theorem fn_I78 (N:Nat) (x:AVals sg_I78) (kf:Ret→Option Ret):F_I78 N x kf=peFunc h_I78 (Orc.of (es_I78 N)) (noL N N) Try.f78 (ashape sg_I78 x) kf:=by kernel_rfl
theorem sd_I78 {Γ : Gl} (N:Nat):Sound Γ Try.prog 78 (run_I78 N):=fun_ok2 (hh:=h_I78) mixed tab_ok (es:=es_I78 N) ⟨sd_I76 N,⟨sd_I39 N,⟨sd_I108 N,trivial⟩⟩⟩ (fn:=Try.f78) (body:=body_I78) (by kernel_rfl) (by kernel_rfl) (by kernel_rfl) (by kernel_rfl) (by kernel_rfl) (Lf:=noL N) (noL0 N) ls_I78 trivial (N:=N) (by kernel_rfl) (fn_I78 N) (.inl (by kernel_rfl))
noncomputable def ks_I42_l3:List Kd:=[.v (.sl tQIIIIILIE) .k,dK,dK,dK,dK,.v (.sl (.int .i64)) (.o 3 none .k),dK,dK,dK,dK,dK,.v (.sl tQIIE) .k,.v (.int .i64) .k,.v (.int .i64) .k,dK,dK,dK,dK,dK,dK,dK,dK,dK,dK,dK,dK,dK,dK,dK,dK,dK,dK,dK,dK,dK,dK,dK,dK,dK,dK,dK,dK,dK,dK]
noncomputable def ko_I42_l3_0:List Kd:=[.v (.sl tQIIIIILIE) .k,dK,dK,dK,dK,.v (.sl (.int .i64)) (.o 3 none .k),dK,dK,dK,dK,dK,dK,dK,dK,dK,dK,dK,dK,dK,dK,dK,dK,dK,dK,dK,dK,dK,dK,dK,dK,dK,dK,dK,dK,dK,dK,dK,dK,dK,dK,dK,dK,dK,dK]
noncomputable def ko_I42_l3_1:List Kd:=[dK,dK,dK,dK,.v .bool .k,dK,dK,dK,dK,dK,dK,dK,dK,dK,dK,dK,dK,dK,dK,dK,dK,dK,dK,dK,dK,dK,dK,dK,dK,dK,dK,dK,dK,dK,dK,dK,dK,dK,dK,dK,dK,dK,dK,dK]
noncomputable def ks_I42_l10:List Kd:=[dK,dK,dK,dK,dK,.v (.sl (.int .i64)) (.o 3 none .k),dK,dK,dK,dK,dK,dK,dK,dK,dK,dK,dK,dK,dK,dK,dK,dK,dK,dK,dK,dK,dK,dK,dK,dK,dK,dK,.v (.sl tQIIIIILIE) .k,.v (.int .i64) .k,.v (.int .i64) .k,dK,dK,dK,dK,dK,dK,dK,dK,dK]
noncomputable def ko_I42_l10_0:List Kd:=[dK,dK,dK,dK,dK,dK,dK,dK,dK,dK,dK,dK,dK,dK,dK,dK,dK,dK,dK,dK,dK,dK,dK,dK,dK,dK,dK,dK,dK,dK,dK,dK,dK,dK,dK,dK,dK,dK,dK,dK,dK,dK,dK,dK]
noncomputable def ko_I42_l10_1:List Kd:=[dK,dK,dK,dK,.v .bool .k,dK,dK,dK,dK,dK,dK,dK,dK,dK,dK,dK,dK,dK,dK,dK,dK,dK,dK,dK,dK,dK,dK,dK,dK,dK,dK,dK,dK,dK,dK,dK,dK,dK,dK,dK,dK,dK,dK,dK]
noncomputable def h_I42:Hint:={ tab,hn:=[],loops:=[(3,ks_I42_l3),(10,ks_I42_l10)],outs:=[(3,2,ko_I42_l3_0),(3,1,ko_I42_l3_1),(10,4,ko_I42_l10_0),(10,1,ko_I42_l10_1)],ords:=[] }
noncomputable def sg_I42:List AK:=[.v (.sl tQIIIIILIE) .k,.v (.sl tQIIE) .k]
noncomputable def F_I42 (N:Nat) (x:AVals sg_I42) (kf:Ret→Option Ret):Option Ret:=I42 N x.1 x.2.1 (fun r0=>kf ⟨[⟨.bool,.k,r0⟩],[]⟩)
noncomputable def run_I42 (N:Nat):=runOf sg_I42 (F_I42 N)
noncomputable def es_I42 (N:Nat):List Entry:=[⟨78,[.val,.val,.val],(run_I78 N)⟩,⟨67,[.val,.val],(run_I67 N)⟩]
noncomputable def body_I42:Code:=match Try.f42.body with | some c=>c | none=>.skip
noncomputable def L_I42 (N n:Nat) (key:Nat) (S:St) (K:Ks):Option Ret:=bif Nat.beq key 3 then withVals ks_I42_l3 S (fun x=>I42_l3 N x.1 x.2.2.1 x.2.2.2.1 n (fun z0=>K (.x 0) (shape ko_I42_l3_0 (x.1,z0,()))) (fun z0=>K .r (shape ko_I42_l3_1 (z0,()))) x.2.1 x.2.2.2.2.1) else bif Nat.beq key 10 then withVals ks_I42_l10 S (fun x=>I42_l10 N x.1 x.2.1 x.2.2.1 n (K (.x 2) (shape ko_I42_l10_0 ())) (fun z0=>K .r (shape ko_I42_l10_1 (z0,()))) x.2.2.2.1) else none
theorem L0_I42 (N key:Nat) (S:St) (K:Ks):L_I42 N 0 key S K=none:=(bif0 (withVals0 fun _=>rfl) (bif0 (withVals0 fun _=>rfl) rfl))
noncomputable def c_I42_0:Code:=(loopsIn body_I42).getD 0 .skip
noncomputable def c_I42_1:Code:=(loopsIn body_I42).getD 1 .skip
theorem ls_I42:loopsIn body_I42=[c_I42_0,c_I42_1]:=by kernel_rfl
theorem rd_I42_10 (N n:Nat) (x:Vals ks_I42_l10) (K:Ks):L_I42 N (n + 1) 10 (shape ks_I42_l10 x) (h_I42.onOut 10 K)=peRound h_I42 (Orc.of (es_I42 N)) (mixL (L_I42 N) N n 10) c_I42_1 (shape ks_I42_l10 x) (h_I42.onOut 10 K):=by kernel_rfl
theorem rd_I42_3 (N n:Nat) (x:Vals ks_I42_l3) (K:Ks):L_I42 N (n + 1) 3 (shape ks_I42_l3 x) (h_I42.onOut 3 K)=peRound h_I42 (Orc.of (es_I42 N)) (mixL (L_I42 N) N n 3) c_I42_0 (shape ks_I42_l3 x) (h_I42.onOut 3 K):=by kernel_rfl
theorem fn_I42 (N:Nat) (x:AVals sg_I42) (kf:Ret→Option Ret):F_I42 N x kf=peFunc h_I42 (Orc.of (es_I42 N)) (L_I42 N N) Try.f42 (ashape sg_I42 x) kf:=by kernel_rfl
theorem sd_I42 {Γ : Gl} (N:Nat):Sound Γ Try.prog 42 (run_I42 N):=fun_ok2 (hh:=h_I42) mixed tab_ok (es:=es_I42 N) ⟨sd_I78 N,⟨sd_I67 N,trivial⟩⟩ (fn:=Try.f42) (body:=body_I42) (by kernel_rfl) (by kernel_rfl) (by kernel_rfl) (by kernel_rfl) (by kernel_rfl) (Lf:=L_I42 N) (L0_I42 N) ls_I42 (round_cons (key:=3) (ks:=ks_I42_l3) (by kernel_rfl) (by kernel_rfl) (rd_I42_3 N) (round_cons (key:=10) (ks:=ks_I42_l10) (by kernel_rfl) (by kernel_rfl) (rd_I42_10 N) trivial)) (N:=N) (by kernel_rfl) (fn_I42 N) (.inl (by kernel_rfl))
noncomputable def h_I80:Hint:={ tab,hn:=[],loops:=[],outs:=[],ords:=[] }
noncomputable def sg_I80:List AK:=[.v tQIILIE .k,.v (.ptr (.int .i64)) .k]
noncomputable def F_I80 (N:Nat) (x:AVals sg_I80) (kf:Ret→Option Ret):Option Ret:=I80 N x.1 x.2.1 (fun r0=>kf ⟨[⟨.bool,.k,r0⟩],[]⟩)
noncomputable def run_I80 (N:Nat):=runOf sg_I80 (F_I80 N)
noncomputable def es_I80 (N:Nat):List Entry:=[]
noncomputable def body_I80:Code:=match Try.f80.body with | some c=>c | none=>.skip
theorem ls_I80:loopsIn body_I80=[]:=by kernel_rfl
theorem fn_I80 (N:Nat) (x:AVals sg_I80) (kf:Ret→Option Ret):F_I80 N x kf=peFunc h_I80 (Orc.of (es_I80 N)) (noL N N) Try.f80 (ashape sg_I80 x) kf:=by kernel_rfl
theorem sd_I80 {Γ : Gl} (N:Nat):Sound Γ Try.prog 80 (run_I80 N):=fun_ok2 (hh:=h_I80) mixed tab_ok (es:=es_I80 N) trivial (fn:=Try.f80) (body:=body_I80) (by kernel_rfl) (by kernel_rfl) (by kernel_rfl) (by kernel_rfl) (by kernel_rfl) (Lf:=noL N) (noL0 N) ls_I80 trivial (N:=N) (by kernel_rfl) (fn_I80 N) (.inl (by kernel_rfl))
noncomputable def ks_S79_l2:List Kd:=[.v (.sl tQIILIE) .k,.clo 80 [.kv (.ptr (.int .i64))],dK,dK,dK,dK,dK,.v (.int .i64) .k,.v (.int .i64) .k,dK,dK,dK,dK,dK,dK,dK,dK,dK,dK]
noncomputable def ko_S79_l2_0:List Kd:=[dK,dK,dK,dK,dK,dK,dK,dK,dK,dK,dK,dK,dK,dK,dK,dK,dK,dK,dK]
noncomputable def ko_S79_l2_1:List Kd:=[dK,dK,dK,dK,.v (.int .i64) .k,dK,dK,dK,dK,dK,dK,dK,dK,dK,dK,dK,dK,dK,dK]
noncomputable def h_S79:Hint:={ tab,hn:=[],loops:=[(2,ks_S79_l2)],outs:=[(2,2,ko_S79_l2_0),(2,1,ko_S79_l2_1)],ords:=[] }
noncomputable def sg_S79:List AK:=[.v (.sl tQIILIE) .k,.fn 80 [(.ptr (.int .i64))]]
noncomputable def F_S79 (N:Nat) (x:AVals sg_S79) (kf:Ret→Option Ret):Option Ret:=S79 N x.1 x.2.1.1 (fun r0=>kf ⟨[⟨(.int .i64),.k,r0⟩],[]⟩)
noncomputable def run_S79 (N:Nat):=runOf sg_S79 (F_S79 N)
noncomputable def es_S79 (N:Nat):List Entry:=[⟨80,[.val],(run_I80 N)⟩]
noncomputable def body_S79:Code:=match Try.f79.body with | some c=>c | none=>.skip
noncomputable def L_S79 (N n:Nat) (key:Nat) (S:St) (K:Ks):Option Ret:=bif Nat.beq key 2 then withVals ks_S79_l2 S (fun x=>S79_l2 N x.1 x.2.1.1 x.2.2.1 n (K (.x 0) (shape ko_S79_l2_0 ())) (fun z0=>K .r (shape ko_S79_l2_1 (z0,()))) x.2.2.2.1) else none
theorem L0_S79 (N key:Nat) (S:St) (K:Ks):L_S79 N 0 key S K=none:=(bif0 (withVals0 fun _=>rfl) rfl)
noncomputable def c_S79_0:Code:=(loopsIn body_S79).getD 0 .skip
theorem ls_S79:loopsIn body_S79=[c_S79_0]:=by kernel_rfl
theorem rd_S79_2 (N n:Nat) (x:Vals ks_S79_l2) (K:Ks):L_S79 N (n + 1) 2 (shape ks_S79_l2 x) (h_S79.onOut 2 K)=peRound h_S79 (Orc.of (es_S79 N)) (mixL (L_S79 N) N n 2) c_S79_0 (shape ks_S79_l2 x) (h_S79.onOut 2 K):=by kernel_rfl
theorem fn_S79 (N:Nat) (x:AVals sg_S79) (kf:Ret→Option Ret):F_S79 N x kf=peFunc h_S79 (Orc.of (es_S79 N)) (L_S79 N N) Try.f79 (ashape sg_S79 x) kf:=by kernel_rfl
theorem sd_S79 {Γ : Gl} (N:Nat):Sound Γ Try.prog 79 (run_S79 N):=fun_ok2 (hh:=h_S79) mixed tab_ok (es:=es_S79 N) ⟨sd_I80 N,trivial⟩ (fn:=Try.f79) (body:=body_S79) (by kernel_rfl) (by kernel_rfl) (by kernel_rfl) (by kernel_rfl) (by kernel_rfl) (Lf:=L_S79 N) (L0_S79 N) ls_S79 (round_cons (key:=2) (ks:=ks_S79_l2) (by kernel_rfl) (by kernel_rfl) (rd_S79_2 N) trivial) (N:=N) (by kernel_rfl) (fn_S79 N) (.inl (by kernel_rfl))
noncomputable def ks_I69_l2:List Kd:=[.v (.sl tQIIIIILIE) .k,dK,dK,dK,.v (.ptr tQIILIE) (.o 85 none .k),dK,dK,dK,dK,dK,dK,dK,dK,dK,.v (.sl (.int .i64)) (.o 3 none .k),.v (.int .i64) .k,.v (.int .i64) .k,dK,dK,dK,dK,dK,dK,dK,dK,dK,dK,dK,dK,dK,dK,dK,dK,dK,dK,dK,dK,dK,dK,dK,dK,dK]
noncomputable def ko_I69_l2_0:List Kd:=[dK,dK,dK,dK,dK,dK,dK,dK,dK,dK,dK,dK,dK,dK,dK,dK,dK,dK,dK,dK,dK,dK,dK,dK,dK,dK,dK,dK,dK,dK,dK,dK,dK,dK,dK,dK,dK,dK,dK,dK,dK,dK]
noncomputable def ko_I69_l2_1:List Kd:=[dK,dK,dK,dK,dK,dK,.v .bool .k,dK,dK,dK,dK,dK,dK,dK,dK,dK,dK,dK,dK,dK,dK,dK,dK,dK,dK,dK,dK,dK,dK,dK,dK,dK,dK,dK,dK,dK,dK,dK,dK,dK,dK,dK]
noncomputable def h_I69:Hint:={ tab,hn:=[],loops:=[(2,ks_I69_l2)],outs:=[(2,2,ko_I69_l2_0),(2,1,ko_I69_l2_1)],ords:=[(5,(OT.seq [0,1,2,3,4,5,6,7,8,9,10,11,12,13,14,15,16,17] .done))] }
noncomputable def sg_I69:List AK:=[.v (.sl tQIIIIILIE) .k,.v tQIILIE .k,.v tQIIE .k]
noncomputable def F_I69 (N:Nat) (x:AVals sg_I69) (kf:Ret→Option Ret):Option Ret:=I69 N x.1 x.2.1 x.2.2.1 (fun r0=>kf ⟨[⟨.bool,.k,r0⟩],[]⟩)
noncomputable def run_I69 (N:Nat):=runOf sg_I69 (F_I69 N)
noncomputable def es_I69 (N:Nat):List Entry:=[⟨76,[.val,.val],(run_I76 N)⟩,⟨81,[.val,.val],(run_S81 N)⟩]
noncomputable def body_I69:Code:=match Try.f69.body with | some c=>c | none=>.skip
noncomputable def L_I69 (N n:Nat) (key:Nat) (S:St) (K:Ks):Option Ret:=bif Nat.beq key 2 then withVals ks_I69_l2 S (fun x=>I69_l2 N x.1 x.2.1 x.2.2.1 x.2.2.2.1 n (K (.x 0) (shape ko_I69_l2_0 ())) (fun z0=>K .r (shape ko_I69_l2_1 (z0,()))) x.2.2.2.2.1) else none
theorem L0_I69 (N key:Nat) (S:St) (K:Ks):L_I69 N 0 key S K=none:=(bif0 (withVals0 fun _=>rfl) rfl)
noncomputable def c_I69_0:Code:=(loopsIn body_I69).getD 0 .skip
theorem ls_I69:loopsIn body_I69=[c_I69_0]:=by kernel_rfl
theorem rd_I69_2 (N n:Nat) (x:Vals ks_I69_l2) (K:Ks):L_I69 N (n + 1) 2 (shape ks_I69_l2 x) (h_I69.onOut 2 K)=peRound h_I69 (Orc.of (es_I69 N)) (mixL (L_I69 N) N n 2) c_I69_0 (shape ks_I69_l2 x) (h_I69.onOut 2 K):=by kernel_rfl
theorem fn_I69 (N:Nat) (x:AVals sg_I69) (kf:Ret→Option Ret):F_I69 N x kf=peFunc h_I69 (Orc.of (es_I69 N)) (L_I69 N N) Try.f69 (ashape sg_I69 x) kf:=by kernel_rfl
theorem sd_I69 {Γ : Gl} (N:Nat):Sound Γ Try.prog 69 (run_I69 N):=fun_ok2 (hh:=h_I69) mixed tab_ok (es:=es_I69 N) ⟨sd_I76 N,⟨sd_S81 N,trivial⟩⟩ (fn:=Try.f69) (body:=body_I69) (by kernel_rfl) (by kernel_rfl) (by kernel_rfl) (by kernel_rfl) (by kernel_rfl) (Lf:=L_I69 N) (L0_I69 N) ls_I69 (round_cons (key:=2) (ks:=ks_I69_l2) (by kernel_rfl) (by kernel_rfl) (rd_I69_2 N) trivial) (N:=N) (by kernel_rfl) (fn_I69 N) (.inl (by kernel_rfl))
noncomputable def ks_I43_l4:List Kd:=[.v (.sl tQIIIIILIE) .k,.v (.sl tQIILIE) .k,.v (.sl tQIIE) .k,.v (.sl (.int .i64)) .k,dK,dK,dK,dK,dK,dK,dK,dK,dK,dK,dK,dK,dK,dK,dK,dK,dK,dK,.v (.sl (.int .i64)) .k,.v (.int .i64) .k,.v (.int .i64) .k,dK,dK,dK,dK,dK,dK,dK,dK,dK,dK,dK,dK,dK,dK,dK,dK,dK,dK,dK,dK,dK,dK,dK,dK,dK,dK,dK,dK,dK,dK]
noncomputable def ko_I43_l4_0:List Kd:=[dK,dK,dK,dK,dK,dK,dK,dK,dK,dK,dK,dK,dK,dK,dK,dK,dK,dK,dK,dK,dK,dK,dK,dK,dK,dK,dK,dK,dK,dK,dK,dK,dK,dK,dK,dK,dK,dK,dK,dK,dK,dK,dK,dK,dK,dK,dK,dK,dK,dK,dK,dK,dK,dK,dK]
noncomputable def ko_I43_l4_1:List Kd:=[dK,dK,dK,dK,dK,dK,dK,dK,.v .bool .k,dK,dK,dK,dK,dK,dK,dK,dK,dK,dK,dK,dK,dK,dK,dK,dK,dK,dK,dK,dK,dK,dK,dK,dK,dK,dK,dK,dK,dK,dK,dK,dK,dK,dK,dK,dK,dK,dK,dK,dK,dK,dK,dK,dK,dK,dK]
noncomputable def h_I43:Hint:={ tab,hn:=[],loops:=[(4,ks_I43_l4)],outs:=[(4,2,ko_I43_l4_0),(4,1,ko_I43_l4_1)],ords:=[(7,(OT.seq [0,1,2,3,4,5,6,7,8,9,10,11,12,13,14,15,16,17,18,19,20,21] .done))] }
noncomputable def sg_I43:List AK:=[.v (.sl tQIIIIILIE) .k,.v (.sl tQIILIE) .k,.v (.sl tQIIE) .k,.v (.sl (.int .i64)) .k]
noncomputable def F_I43 (N:Nat) (x:AVals sg_I43) (kf:Ret→Option Ret):Option Ret:=I43 N x.1 x.2.1 x.2.2.1 x.2.2.2.1 (fun r0=>kf ⟨[⟨.bool,.k,r0⟩],[]⟩)
noncomputable def run_I43 (N:Nat):=runOf sg_I43 (F_I43 N)
noncomputable def es_I43 (N:Nat):List Entry:=[⟨40,[.val],(run_I40 N)⟩,⟨79,[.val,.val],(run_S79 N)⟩,⟨81,[.val,.val],(run_S81 N)⟩,⟨69,[.val,.val,.val],(run_I69 N)⟩]
noncomputable def body_I43:Code:=match Try.f43.body with | some c=>c | none=>.skip
noncomputable def L_I43 (N n:Nat) (key:Nat) (S:St) (K:Ks):Option Ret:=bif Nat.beq key 4 then withVals ks_I43_l4 S (fun x=>I43_l4 N x.1 x.2.1 x.2.2.1 x.2.2.2.1 x.2.2.2.2.1 x.2.2.2.2.2.1 n (K (.x 0) (shape ko_I43_l4_0 ())) (fun z0=>K .r (shape ko_I43_l4_1 (z0,()))) x.2.2.2.2.2.2.1) else none
theorem L0_I43 (N key:Nat) (S:St) (K:Ks):L_I43 N 0 key S K=none:=(bif0 (withVals0 fun _=>rfl) rfl)
noncomputable def c_I43_0:Code:=(loopsIn body_I43).getD 0 .skip
theorem ls_I43:loopsIn body_I43=[c_I43_0]:=by kernel_rfl
theorem rd_I43_4 (N n:Nat) (x:Vals ks_I43_l4) (K:Ks):L_I43 N (n + 1) 4 (shape ks_I43_l4 x) (h_I43.onOut 4 K)=peRound h_I43 (Orc.of (es_I43 N)) (mixL (L_I43 N) N n 4) c_I43_0 (shape ks_I43_l4 x) (h_I43.onOut 4 K):=by kernel_rfl
theorem fn_I43 (N:Nat) (x:AVals sg_I43) (kf:Ret→Option Ret):F_I43 N x kf=peFunc h_I43 (Orc.of (es_I43 N)) (L_I43 N N) Try.f43 (ashape sg_I43 x) kf:=by kernel_rfl
theorem sd_I43 {Γ : Gl} (N:Nat):Sound Γ Try.prog 43 (run_I43 N):=fun_ok2 (hh:=h_I43) mixed tab_ok (es:=es_I43 N) ⟨sd_I40 N,⟨sd_S79 N,⟨sd_S81 N,⟨sd_I69 N,trivial⟩⟩⟩⟩ (fn:=Try.f43) (body:=body_I43) (by kernel_rfl) (by kernel_rfl) (by kernel_rfl) (by kernel_rfl) (by kernel_rfl) (Lf:=L_I43 N) (L0_I43 N) ls_I43 (round_cons (key:=4) (ks:=ks_I43_l4) (by kernel_rfl) (by kernel_rfl) (rd_I43_4 N) trivial) (N:=N) (by kernel_rfl) (fn_I43 N) (.inl (by kernel_rfl))
noncomputable def h_I44:Hint:={ tab,hn:=[],loops:=[],outs:=[],ords:=[] }
noncomputable def sg_I44:List AK:=[.v tQIIIE .k]
noncomputable def F_I44 (N:Nat) (x:AVals sg_I44) (kf:Ret→Option Ret):Option Ret:=I44 N x.1 (fun r0=>kf ⟨[⟨.bool,.k,r0⟩],[]⟩)
noncomputable def run_I44 (N:Nat):=runOf sg_I44 (F_I44 N)
noncomputable def es_I44 (N:Nat):List Entry:=[⟨45,[.val,.val,.val],(run_I45 N)⟩]
noncomputable def body_I44:Code:=match Try.f44.body with | some c=>c | none=>.skip
theorem ls_I44:loopsIn body_I44=[]:=by kernel_rfl
theorem fn_I44 (N:Nat) (x:AVals sg_I44) (kf:Ret→Option Ret):F_I44 N x kf=peFunc h_I44 (Orc.of (es_I44 N)) (noL N N) Try.f44 (ashape sg_I44 x) kf:=by kernel_rfl
theorem sd_I44 {Γ : Gl} (N:Nat):Sound Γ Try.prog 44 (run_I44 N):=fun_ok2 (hh:=h_I44) mixed tab_ok (es:=es_I44 N) ⟨sd_I45 N,trivial⟩ (fn:=Try.f44) (body:=body_I44) (by kernel_rfl) (by kernel_rfl) (by kernel_rfl) (by kernel_rfl) (by kernel_rfl) (Lf:=noL N) (noL0 N) ls_I44 trivial (N:=N) (by kernel_rfl) (fn_I44 N) (.inl (by kernel_rfl))
noncomputable def ks_I36_l5:List Kd:=[dK,dK,dK,.v (.int .i64) .k,dK,dK,dK,dK,dK,dK,.v (.sl tQIIIIILIE) .k,.v (.int .i64) .k,.v (.int .i64) .k,dK,dK,dK,dK,dK,dK,dK,dK,dK]
noncomputable def ko_I36_l5_0:List Kd:=[dK,dK,dK,.v (.int .i64) .k,dK,dK,dK,dK,dK,dK,dK,dK,dK,dK,dK,dK,dK,dK,dK,dK,dK,dK]
noncomputable def h_I36:Hint:={ tab,hn:=[],loops:=[(5,ks_I36_l5)],outs:=[(5,2,ko_I36_l5_0)],ords:=[] }
noncomputable def sg_I36:List AK:=[.v (.sl tQIIIIILIE) .k]
noncomputable def F_I36 (N:Nat) (x:AVals sg_I36) (kf:Ret→Option Ret):Option Ret:=I36 N x.1 (fun r0=>kf ⟨[⟨(.int .i64),.k,r0⟩],[]⟩)
noncomputable def run_I36 (N:Nat):=runOf sg_I36 (F_I36 N)
noncomputable def es_I36 (N:Nat):List Entry:=[⟨39,[.val],(run_I39 N)⟩]
noncomputable def body_I36:Code:=match Try.f36.body with | some c=>c | none=>.skip
noncomputable def L_I36 (N n:Nat) (key:Nat) (S:St) (K:Ks):Option Ret:=bif Nat.beq key 5 then withVals ks_I36_l5 S (fun x=>I36_l5 x.2.1 x.2.2.1 n (fun z0=>K (.x 0) (shape ko_I36_l5_0 (z0,()))) x.1 x.2.2.2.1) else none
theorem L0_I36 (N key:Nat) (S:St) (K:Ks):L_I36 N 0 key S K=none:=(bif0 (withVals0 fun _=>rfl) rfl)
noncomputable def c_I36_0:Code:=(loopsIn body_I36).getD 0 .skip
theorem ls_I36:loopsIn body_I36=[c_I36_0]:=by kernel_rfl
theorem rd_I36_5 (N n:Nat) (x:Vals ks_I36_l5) (K:Ks):L_I36 N (n + 1) 5 (shape ks_I36_l5 x) (h_I36.onOut 5 K)=peRound h_I36 (Orc.of (es_I36 N)) (mixL (L_I36 N) N n 5) c_I36_0 (shape ks_I36_l5 x) (h_I36.onOut 5 K):=by kernel_rfl
theorem fn_I36 (N:Nat) (x:AVals sg_I36) (kf:Ret→Option Ret):F_I36 N x kf=peFunc h_I36 (Orc.of (es_I36 N)) (L_I36 N N) Try.f36 (ashape sg_I36 x) kf:=by kernel_rfl
theorem sd_I36 {Γ : Gl} (N:Nat):Sound Γ Try.prog 36 (run_I36 N):=fun_ok2 (hh:=h_I36) mixed tab_ok (es:=es_I36 N) ⟨sd_I39 N,trivial⟩ (fn:=Try.f36) (body:=body_I36) (by kernel_rfl) (by kernel_rfl) (by kernel_rfl) (by kernel_rfl) (by kernel_rfl) (Lf:=L_I36 N) (L0_I36 N) ls_I36 (round_cons (key:=5) (ks:=ks_I36_l5) (by kernel_rfl) (by kernel_rfl) (rd_I36_5 N) trivial) (N:=N) (by kernel_rfl) (fn_I36 N) (.inl (by kernel_rfl))
noncomputable def ks_I8_l6:List Kd:=[dK,.v (.ptr tQLQIIIIILIELQIILIELQIIELILQIIIELQIIIIEIE) (.o 32 none .k),dK,dK,dK,dK,dK,dK,dK,dK,dK,dK,dK,dK,dK,dK,dK,dK,dK,dK,dK,dK,dK,dK,dK,dK,dK,dK,dK,dK,dK,dK,dK,dK,dK,dK,dK,dK,dK,dK,dK,dK,dK,dK,dK,dK,dK,dK,dK,dK,dK,dK,dK,dK,dK,dK,dK,dK,dK,dK,dK,dK,.v (.sl tQIIIE) .k,.v (.int .i64) .k,.v (.int .i64) .k,dK,dK,dK,dK,dK,dK,dK,dK,dK,dK,dK,dK,dK,dK,dK,dK,dK,dK,dK,dK,dK,dK,dK,dK,dK,dK,dK,dK,dK,dK,dK,dK,dK,dK]
noncomputable def ko_I8_l6_0:List Kd:=[dK,.v (.ptr tQLQIIIIILIELQIILIELQIIELILQIIIELQIIIIEIE) (.o 32 none .k),dK,dK,dK,dK,dK,dK,dK,dK,dK,dK,dK,dK,dK,dK,dK,dK,dK,dK,dK,dK,dK,dK,dK,dK,dK,dK,dK,dK,dK,dK,dK,dK,dK,dK,dK,dK,dK,dK,dK,dK,dK,dK,dK,dK,dK,dK,dK,dK,dK,dK,dK,dK,dK,dK,dK,dK,dK,dK,dK,dK,dK,dK,dK,dK,dK,dK,dK,dK,dK,dK,dK,dK,dK,dK,dK,dK,dK,dK,dK,dK,dK,dK,dK,dK,dK,dK,dK,dK,dK,dK,dK,dK,dK,dK,dK,dK,dK]
noncomputable def ko_I8_l6_1:List Kd:=[dK,dK,.v .bool .k,dK,dK,dK,dK,dK,dK,dK,dK,dK,dK,dK,dK,dK,dK,dK,dK,dK,dK,dK,dK,dK,dK,dK,dK,dK,dK,dK,dK,dK,dK,dK,dK,dK,dK,dK,dK,dK,dK,dK,dK,dK,dK,dK,dK,dK,dK,dK,dK,dK,dK,dK,dK,dK,dK,dK,dK,dK,dK,dK,dK,dK,dK,dK,dK,dK,dK,dK,dK,dK,dK,dK,dK,dK,dK,dK,dK,dK,dK,dK,dK,dK,dK,dK,dK,dK,dK,dK,dK,dK,dK,dK,dK,dK,dK,dK,dK]
noncomputable def h_I8:Hint:={ tab,hn:=[],loops:=[(6,ks_I8_l6)],outs:=[(6,2,ko_I8_l6_0),(6,1,ko_I8_l6_1)],ords:=[(8,(OT.seq [0,1,2,3,4,5,6,7,8,9,10,11,12,13,14,15,16,17] .done)),(11,(OT.seq [0,1,2,3,4,5,7,8,6,9,10,11] .done))] }
noncomputable def sg_I8:List AK:=[.v tQLQIIIIILIELQIILIELQIIELILQIIIELQIIIIEIE .k]
noncomputable def F_I8 (N:Nat) (x:AVals sg_I8) (kf:Ret→Option Ret):Option Ret:=I8 N x.1 (fun r0=>kf ⟨[⟨.bool,.k,r0⟩],[]⟩)
noncomputable def run_I8 (N:Nat):=runOf sg_I8 (F_I8 N)
noncomputable def es_I8 (N:Nat):List Entry:=[⟨39,[.val],(run_I39 N)⟩,⟨40,[.val],(run_I40 N)⟩,⟨41,[.val],(run_I41 N)⟩,⟨10,[.val],(run_I10 N)⟩,⟨42,[.val,.val],(run_I42 N)⟩,⟨43,[.val,.val,.val,.val],(run_I43 N)⟩,⟨44,[.val],(run_I44 N)⟩,⟨45,[.val,.val,.val],(run_I45 N)⟩,⟨36,[.val],(run_I36 N)⟩]
noncomputable def body_I8:Code:=match Try.f8.body with | some c=>c | none=>.skip
noncomputable def L_I8 (N n:Nat) (key:Nat) (S:St) (K:Ks):Option Ret:=bif Nat.beq key 6 then withVals ks_I8_l6 S (fun x=>I8_l6 N x.1 x.2.1 x.2.2.1 n (K (.x 0) (shape ko_I8_l6_0 (x.1,()))) (fun z0=>K .r (shape ko_I8_l6_1 (z0,()))) x.2.2.2.1) else none
theorem L0_I8 (N key:Nat) (S:St) (K:Ks):L_I8 N 0 key S K=none:=(bif0 (withVals0 fun _=>rfl) rfl)
noncomputable def c_I8_0:Code:=(loopsIn body_I8).getD 0 .skip
theorem ls_I8:loopsIn body_I8=[c_I8_0]:=by kernel_rfl
theorem rd_I8_6 (N n:Nat) (x:Vals ks_I8_l6) (K:Ks):L_I8 N (n + 1) 6 (shape ks_I8_l6 x) (h_I8.onOut 6 K)=peRound h_I8 (Orc.of (es_I8 N)) (mixL (L_I8 N) N n 6) c_I8_0 (shape ks_I8_l6 x) (h_I8.onOut 6 K):=by kernel_rfl
theorem fn_I8 (N:Nat) (x:AVals sg_I8) (kf:Ret→Option Ret):F_I8 N x kf=peFunc h_I8 (Orc.of (es_I8 N)) (L_I8 N N) Try.f8 (ashape sg_I8 x) kf:=by kernel_rfl
theorem sd_I8 {Γ : Gl} (N:Nat):Sound Γ Try.prog 8 (run_I8 N):=fun_ok2 (hh:=h_I8) mixed tab_ok (es:=es_I8 N) ⟨sd_I39 N,⟨sd_I40 N,⟨sd_I41 N,⟨sd_I10 N,⟨sd_I42 N,⟨sd_I43 N,⟨sd_I44 N,⟨sd_I45 N,⟨sd_I36 N,trivial⟩⟩⟩⟩⟩⟩⟩⟩⟩ (fn:=Try.f8) (body:=body_I8) (by kernel_rfl) (by kernel_rfl) (by kernel_rfl) (by kernel_rfl) (by kernel_rfl) (Lf:=L_I8 N) (L0_I8 N) ls_I8 (round_cons (key:=6) (ks:=ks_I8_l6) (by kernel_rfl) (by kernel_rfl) (rd_I8_6 N) trivial) (N:=N) (by kernel_rfl) (fn_I8 N) (.inl (by kernel_rfl))
noncomputable def ks_S47_l3:List Kd:=[.v (.sl (.int .u8)) .k,dK,dK,.v (.int .i64) .k,.v (.int .i64) .k,dK,dK,dK,dK,dK,dK,dK,dK,dK,dK,dK,dK,dK,dK,dK,dK,dK,dK,dK,dK,dK,dK,dK,dK,dK,dK,dK]
noncomputable def ko_S47_l3_0:List Kd:=[.v (.sl (.int .u8)) .k,dK,dK,.v (.int .i64) .k,dK,dK,dK,dK,dK,dK,dK,dK,dK,dK,dK,dK,dK,dK,dK,dK,dK,dK,dK,dK,dK,dK,dK,dK,dK,dK,dK,dK]
noncomputable def h_S47:Hint:={ tab,hn:=[],loops:=[(3,ks_S47_l3)],outs:=[(3,2,ko_S47_l3_0)],ords:=[] }
noncomputable def sg_S47:List AK:=[.v (.sl (.int .u8)) .k]
noncomputable def F_S47 (N:Nat) (x:AVals sg_S47) (kf:Ret→Option Ret):Option Ret:=S47 N x.1 (fun r0=>kf ⟨[⟨(.ptr tQLIIIE),(.o 108 none .k),r0⟩],[]⟩)
noncomputable def run_S47 (N:Nat):=runOf sg_S47 (F_S47 N)
noncomputable def es_S47 (N:Nat):List Entry:=[]
noncomputable def body_S47:Code:=match Try.f47.body with | some c=>c | none=>.skip
noncomputable def L_S47 (N n:Nat) (key:Nat) (S:St) (K:Ks):Option Ret:=bif Nat.beq key 3 then withVals ks_S47_l3 S (fun x=>S47_l3 x.1 n (fun z0=>K (.x 0) (shape ko_S47_l3_0 (x.1,z0,()))) x.2.1 x.2.2.1) else none
theorem L0_S47 (N key:Nat) (S:St) (K:Ks):L_S47 N 0 key S K=none:=(bif0 (withVals0 fun _=>rfl) rfl)
noncomputable def c_S47_0:Code:=(loopsIn body_S47).getD 0 .skip
theorem ls_S47:loopsIn body_S47=[c_S47_0]:=by kernel_rfl
theorem rd_S47_3 (N n:Nat) (x:Vals ks_S47_l3) (K:Ks):L_S47 N (n + 1) 3 (shape ks_S47_l3 x) (h_S47.onOut 3 K)=peRound h_S47 (Orc.of (es_S47 N)) (mixL (L_S47 N) N n 3) c_S47_0 (shape ks_S47_l3 x) (h_S47.onOut 3 K):=by kernel_rfl
theorem fn_S47 (N:Nat) (x:AVals sg_S47) (kf:Ret→Option Ret):F_S47 N x kf=peFunc h_S47 (Orc.of (es_S47 N)) (L_S47 N N) Try.f47 (ashape sg_S47 x) kf:=by kernel_rfl
theorem sd_S47 {Γ : Gl} (N:Nat):Sound Γ Try.prog 47 (run_S47 N):=fun_ok2 (hh:=h_S47) mixed tab_ok (es:=es_S47 N) trivial (fn:=Try.f47) (body:=body_S47) (by kernel_rfl) (by kernel_rfl) (by kernel_rfl) (by kernel_rfl) (by kernel_rfl) (Lf:=L_S47 N) (L0_S47 N) ls_S47 (round_cons (key:=3) (ks:=ks_S47_l3) (by kernel_rfl) (by kernel_rfl) (rd_S47_3 N) trivial) (N:=N) (by kernel_rfl) (fn_S47 N) (.inl (by kernel_rfl))
noncomputable def h_S91:Hint:={ tab,hn:=[],loops:=[],outs:=[],ords:=[(2,(OT.seq [0,1,2,3,4,5,6,7,8,9,10,11,12] .done)),(3,(OT.seq [0,1,2,3,4,5,6,7,8,9] .done)),(4,(OT.seq [0,1,2,3,4,5,6,7,8,9,10,11,12,13,14] .done))],lent:=some (0,false) }
noncomputable def sg_S91:List AK:=[.v (.ptr tQLIIIE) (.o 108 (some 0) .k)]
noncomputable def F_S91 (N:Nat) (x:AVals sg_S91) (kf:Ret→Option Ret):Option Ret:=S91 N x.1 (fun r0 z=>kf ⟨[⟨(.int .i64),.k,r0⟩],[⟨(.ptr tQLIIIE),(.o 108 (some 0) .k),z⟩]⟩)
noncomputable def run_S91 (N:Nat):=runOf sg_S91 (F_S91 N)
noncomputable def es_S91 (N:Nat):List Entry:=[]
noncomputable def body_S91:Code:=match Try.f91.body with | some c=>c | none=>.skip
theorem ls_S91:loopsIn body_S91=[]:=by kernel_rfl
theorem fn_S91 (N:Nat) (x:AVals sg_S91) (kf:Ret→Option Ret):F_S91 N x kf=peFunc h_S91 (Orc.of (es_S91 N)) (noL N N) Try.f91 (ashape sg_S91 x) kf:=by kernel_rfl
theorem sd_S91 {Γ : Gl} (N:Nat):Sound Γ Try.prog 91 (run_S91 N):=fun_ok2 (hh:=h_S91) mixed tab_ok (es:=es_S91 N) trivial (fn:=Try.f91) (body:=body_S91) (by kernel_rfl) (by kernel_rfl) (by kernel_rfl) (by kernel_rfl) (by kernel_rfl) (Lf:=noL N) (noL0 N) ls_S91 trivial (N:=N) (by kernel_rfl) (fn_S91 N) (.inl (by kernel_rfl))
noncomputable def h_S50:Hint:={ tab,hn:=[],loops:=[],outs:=[],ords:=[],lent:=some (0,false) }
noncomputable def sg_S50:List AK:=[.v (.ptr tQLIIIE) (.o 108 (some 0) .k),.v (.int .i64) .k]
noncomputable def F_S50 (N:Nat) (x:AVals sg_S50) (kf:Ret→Option Ret):Option Ret:=S50 N x.1 x.2.1 (fun r0 z=>kf ⟨[⟨(.int .i64),.k,r0⟩],[⟨(.ptr tQLIIIE),(.o 108 (some 0) .k),z⟩]⟩)
noncomputable def run_S50 (N:Nat):=runOf sg_S50 (F_S50 N)
noncomputable def es_S50 (N:Nat):List Entry:=[⟨91,[.lend],(run_S91 N)⟩]
noncomputable def body_S50:Code:=match Try.f50.body with | some c=>c | none=>.skip
theorem ls_S50:loopsIn body_S50=[]:=by kernel_rfl
theorem fn_S50 (N:Nat) (x:AVals sg_S50) (kf:Ret→Option Ret):F_S50 N x kf=peFunc h_S50 (Orc.of (es_S50 N)) (noL N N) Try.f50 (ashape sg_S50 x) kf:=by kernel_rfl
theorem sd_S50 {Γ : Gl} (N:Nat):Sound Γ Try.prog 50 (run_S50 N):=fun_ok2 (hh:=h_S50) mixed tab_ok (es:=es_S50 N) ⟨sd_S91 N,trivial⟩ (fn:=Try.f50) (body:=body_S50) (by kernel_rfl) (by kernel_rfl) (by kernel_rfl) (by kernel_rfl) (by kernel_rfl) (Lf:=noL N) (noL0 N) ls_S50 trivial (N:=N) (by kernel_rfl) (fn_S50 N) (.inl (by kernel_rfl))
noncomputable def ks_S89_l3:List Kd:=[.v (.sl tQIIIIILIE) .k,dK,dK,.v (.sl tQIIIIILIE) (.o 54 none (.p .k (.p .k (.p .k (.p .k (.p .k (.o 3 none .k))))))),.v (.int .i64) .k,dK,dK,dK,dK,dK,dK,dK,dK,dK,dK,dK,dK,dK,dK,dK,dK,dK,dK,dK,dK,dK,dK]
noncomputable def ko_S89_l3_0:List Kd:=[dK,dK,dK,.v (.sl tQIIIIILIE) (.o 54 none (.p .k (.p .k (.p .k (.p .k (.p .k (.o 3 none .k))))))),dK,dK,dK,dK,dK,dK,dK,dK,dK,dK,dK,dK,dK,dK,dK,dK,dK,dK,dK,dK,dK,dK,dK]
noncomputable def h_S89:Hint:={ tab,hn:=[(6,(.p .k (.p .k (.p .k (.p .k (.p .k (.o 3 none .k)))))))],loops:=[(3,ks_S89_l3)],outs:=[(3,2,ko_S89_l3_0)],ords:=[] }
noncomputable def sg_S89:List AK:=[.v (.sl tQIIIIILIE) .k]
noncomputable def F_S89 (N:Nat) (x:AVals sg_S89) (kf:Ret→Option Ret):Option Ret:=S89 N x.1 (fun r0=>kf ⟨[⟨(.sl tQIIIIILIE),(.o 54 none (.p .k (.p .k (.p .k (.p .k (.p .k (.o 3 none .k))))))),r0⟩],[]⟩)
noncomputable def run_S89 (N:Nat):=runOf sg_S89 (F_S89 N)
noncomputable def es_S89 (N:Nat):List Entry:=[]
noncomputable def body_S89:Code:=match Try.f89.body with | some c=>c | none=>.skip
noncomputable def L_S89 (N n:Nat) (key:Nat) (S:St) (K:Ks):Option Ret:=bif Nat.beq key 3 then withVals ks_S89_l3 S (fun x=>S89_l3 x.1 n (fun z0=>K (.x 0) (shape ko_S89_l3_0 (z0,()))) x.2.1 x.2.2.1) else none
theorem L0_S89 (N key:Nat) (S:St) (K:Ks):L_S89 N 0 key S K=none:=(bif0 (withVals0 fun _=>rfl) rfl)
noncomputable def c_S89_0:Code:=(loopsIn body_S89).getD 0 .skip
theorem ls_S89:loopsIn body_S89=[c_S89_0]:=by kernel_rfl
theorem rd_S89_3 (N n:Nat) (x:Vals ks_S89_l3) (K:Ks):L_S89 N (n + 1) 3 (shape ks_S89_l3 x) (h_S89.onOut 3 K)=peRound h_S89 (Orc.of (es_S89 N)) (mixL (L_S89 N) N n 3) c_S89_0 (shape ks_S89_l3 x) (h_S89.onOut 3 K):=by kernel_rfl
theorem fn_S89 (N:Nat) (x:AVals sg_S89) (kf:Ret→Option Ret):F_S89 N x kf=peFunc h_S89 (Orc.of (es_S89 N)) (L_S89 N N) Try.f89 (ashape sg_S89 x) kf:=by kernel_rfl
theorem sd_S89 {Γ : Gl} (N:Nat):Sound Γ Try.prog 89 (run_S89 N):=fun_ok2 (hh:=h_S89) mixed tab_ok (es:=es_S89 N) trivial (fn:=Try.f89) (body:=body_S89) (by kernel_rfl) (by kernel_rfl) (by kernel_rfl) (by kernel_rfl) (by kernel_rfl) (Lf:=L_S89 N) (L0_S89 N) ls_S89 (round_cons (key:=3) (ks:=ks_S89_l3) (by kernel_rfl) (by kernel_rfl) (rd_S89_3 N) trivial) (N:=N) (by kernel_rfl) (fn_S89 N) (.inl (by kernel_rfl))
noncomputable def ks_S131_l2:List Kd:=[.v (.sl tQIIIIILIE) .k,.v (.int .i64) .k,dK,dK,dK,.v (.int .i64) .k,dK,dK,dK,dK,dK,dK,dK,dK,dK,dK,dK,dK,dK,dK]
noncomputable def ko_S131_l2_0:List Kd:=[dK,dK,dK,dK,dK,dK,dK,dK,dK,dK,dK,dK,dK,dK,dK,dK,dK,dK,dK,dK]
noncomputable def ko_S131_l2_1:List Kd:=[dK,dK,dK,dK,.v (.int .i64) .k,dK,dK,dK,dK,dK,dK,dK,dK,dK,dK,dK,dK,dK,dK,dK]
noncomputable def h_S131:Hint:={ tab,hn:=[],loops:=[(2,ks_S131_l2)],outs:=[(2,2,ko_S131_l2_0),(2,1,ko_S131_l2_1)],ords:=[] }
noncomputable def sg_S131:List AK:=[.v (.sl tQIIIIILIE) .k,.v (.int .i64) .k]
noncomputable def F_S131 (N:Nat) (x:AVals sg_S131) (kf:Ret→Option Ret):Option Ret:=S131 N x.1 x.2.1 (fun r0=>kf ⟨[⟨(.int .i64),.k,r0⟩],[]⟩)
noncomputable def run_S131 (N:Nat):=runOf sg_S131 (F_S131 N)
noncomputable def es_S131 (N:Nat):List Entry:=[]
noncomputable def body_S131:Code:=match Try.f131.body with | some c=>c | none=>.skip
noncomputable def L_S131 (N n:Nat) (key:Nat) (S:St) (K:Ks):Option Ret:=bif Nat.beq key 2 then withVals ks_S131_l2 S (fun x=>S131_l2 x.1 x.2.1 n (K (.x 0) (shape ko_S131_l2_0 ())) (fun z0=>K .r (shape ko_S131_l2_1 (z0,()))) x.2.2.1) else none
theorem L0_S131 (N key:Nat) (S:St) (K:Ks):L_S131 N 0 key S K=none:=(bif0 (withVals0 fun _=>rfl) rfl)
noncomputable def c_S131_0:Code:=(loopsIn body_S131).getD 0 .skip
theorem ls_S131:loopsIn body_S131=[c_S131_0]:=by kernel_rfl
theorem rd_S131_2 (N n:Nat) (x:Vals ks_S131_l2) (K:Ks):L_S131 N (n + 1) 2 (shape ks_S131_l2 x) (h_S131.onOut 2 K)=peRound h_S131 (Orc.of (es_S131 N)) (mixL (L_S131 N) N n 2) c_S131_0 (shape ks_S131_l2 x) (h_S131.onOut 2 K):=by kernel_rfl
theorem fn_S131 (N:Nat) (x:AVals sg_S131) (kf:Ret→Option Ret):F_S131 N x kf=peFunc h_S131 (Orc.of (es_S131 N)) (L_S131 N N) Try.f131 (ashape sg_S131 x) kf:=by kernel_rfl
theorem sd_S131 {Γ : Gl} (N:Nat):Sound Γ Try.prog 131 (run_S131 N):=fun_ok2 (hh:=h_S131) mixed tab_ok (es:=es_S131 N) trivial (fn:=Try.f131) (body:=body_S131) (by kernel_rfl) (by kernel_rfl) (by kernel_rfl) (by kernel_rfl) (by kernel_rfl) (Lf:=L_S131 N) (L0_S131 N) ls_S131 (round_cons (key:=2) (ks:=ks_S131_l2) (by kernel_rfl) (by kernel_rfl) (rd_S131_2 N) trivial) (N:=N) (by kernel_rfl) (fn_S131 N) (.inl (by kernel_rfl))
noncomputable def h_S72:Hint:={ tab,hn:=[],loops:=[],outs:=[],ords:=[] }
noncomputable def sg_S72:List AK:=[.v (.int .i64) .k,.v (.int .i64) .k,.v (.int .i64) .k]
noncomputable def F_S72 (N:Nat) (x:AVals sg_S72) (kf:Ret→Option Ret):Option Ret:=S72 N x.1 x.2.1 x.2.2.1 (fun r0=>kf ⟨[⟨.bool,.k,r0⟩],[]⟩)
noncomputable def run_S72 (N:Nat):=runOf sg_S72 (F_S72 N)
noncomputable def es_S72 (N:Nat):List Entry:=[]
noncomputable def body_S72:Code:=match Try.f72.body with | some c=>c | none=>.skip
theorem ls_S72:loopsIn body_S72=[]:=by kernel_rfl
theorem fn_S72 (N:Nat) (x:AVals sg_S72) (kf:Ret→Option Ret):F_S72 N x kf=peFunc h_S72 (Orc.of (es_S72 N)) (noL N N) Try.f72 (ashape sg_S72 x) kf:=by kernel_rfl
theorem sd_S72 {Γ : Gl} (N:Nat):Sound Γ Try.prog 72 (run_S72 N):=fun_ok2 (hh:=h_S72) mixed tab_ok (es:=es_S72 N) trivial (fn:=Try.f72) (body:=body_S72) (by kernel_rfl) (by kernel_rfl) (by kernel_rfl) (by kernel_rfl) (by kernel_rfl) (Lf:=noL N) (noL0 N) ls_S72 trivial (N:=N) (by kernel_rfl) (fn_S72 N) (.inl (by kernel_rfl))
noncomputable def ks_S132_l3:List Kd:=[.v (.sl (.int .i64)) .k,.v (.int .i64) .k,dK,dK,dK,.v (.int .i64) .k,.v (.int .i64) .k,dK,dK,dK,dK,dK,dK,dK,dK,dK,dK,dK,dK,dK,dK,dK]
noncomputable def ko_S132_l3_0:List Kd:=[dK,dK,dK,dK,dK,.v (.int .i64) .k,dK,dK,dK,dK,dK,dK,dK,dK,dK,dK,dK,dK,dK,dK,dK,dK]
noncomputable def h_S132:Hint:={ tab,hn:=[],loops:=[(3,ks_S132_l3)],outs:=[(3,2,ko_S132_l3_0)],ords:=[] }
noncomputable def sg_S132:List AK:=[.v (.sl (.int .i64)) .k,.v (.int .i64) .k]
noncomputable def F_S132 (N:Nat) (x:AVals sg_S132) (kf:Ret→Option Ret):Option Ret:=S132 N x.1 x.2.1 (fun r0=>kf ⟨[⟨(.int .i64),.k,r0⟩],[]⟩)
noncomputable def run_S132 (N:Nat):=runOf sg_S132 (F_S132 N)
noncomputable def es_S132 (N:Nat):List Entry:=[]
noncomputable def body_S132:Code:=match Try.f132.body with | some c=>c | none=>.skip
noncomputable def L_S132 (N n:Nat) (key:Nat) (S:St) (K:Ks):Option Ret:=bif Nat.beq key 3 then withVals ks_S132_l3 S (fun x=>S132_l3 x.1 x.2.1 n (fun z0=>K (.x 0) (shape ko_S132_l3_0 (z0,()))) x.2.2.1 x.2.2.2.1) else none
theorem L0_S132 (N key:Nat) (S:St) (K:Ks):L_S132 N 0 key S K=none:=(bif0 (withVals0 fun _=>rfl) rfl)
noncomputable def c_S132_0:Code:=(loopsIn body_S132).getD 0 .skip
theorem ls_S132:loopsIn body_S132=[c_S132_0]:=by kernel_rfl
theorem rd_S132_3 (N n:Nat) (x:Vals ks_S132_l3) (K:Ks):L_S132 N (n + 1) 3 (shape ks_S132_l3 x) (h_S132.onOut 3 K)=peRound h_S132 (Orc.of (es_S132 N)) (mixL (L_S132 N) N n 3) c_S132_0 (shape ks_S132_l3 x) (h_S132.onOut 3 K):=by kernel_rfl
theorem fn_S132 (N:Nat) (x:AVals sg_S132) (kf:Ret→Option Ret):F_S132 N x kf=peFunc h_S132 (Orc.of (es_S132 N)) (L_S132 N N) Try.f132 (ashape sg_S132 x) kf:=by kernel_rfl
theorem sd_S132 {Γ : Gl} (N:Nat):Sound Γ Try.prog 132 (run_S132 N):=fun_ok2 (hh:=h_S132) mixed tab_ok (es:=es_S132 N) trivial (fn:=Try.f132) (body:=body_S132) (by kernel_rfl) (by kernel_rfl) (by kernel_rfl) (by kernel_rfl) (by kernel_rfl) (Lf:=L_S132 N) (L0_S132 N) ls_S132 (round_cons (key:=3) (ks:=ks_S132_l3) (by kernel_rfl) (by kernel_rfl) (rd_S132_3 N) trivial) (N:=N) (by kernel_rfl) (fn_S132 N) (.inl (by kernel_rfl))
noncomputable def ks_S111_l8:List Kd:=[.v (.sl tQIIIIILIE) .k,dK,dK,.v (.int .i64) .k,.v (.ptr tQIIIIILIE) (.o 54 none .k),.v (.int .i64) .k,dK,dK,dK,dK,dK,dK,dK,dK,dK,dK,dK,dK,dK,dK,dK,dK,dK,dK,dK,dK,dK,dK,dK,dK,dK,dK,dK,dK,dK,dK,dK,dK,dK,dK,dK,dK,dK,dK,dK,dK,dK,dK,dK,dK,dK,dK,dK,dK,dK,dK,dK,dK,dK,dK,dK,dK,dK,dK,dK,dK,dK,dK,dK,dK,dK,dK,dK,dK,dK,dK,dK,dK,dK,dK,dK,dK,dK,dK,dK,dK,dK,dK,dK,dK,dK,dK,dK,dK,dK,dK,dK,dK,dK,dK,dK,dK,dK,dK,dK,dK,dK,dK,dK,dK,dK,dK,dK,dK,dK]
noncomputable def ko_S111_l8_0:List Kd:=[.v (.sl tQIIIIILIE) .k,dK,dK,.v (.int .i64) .k,dK,dK,dK,dK,dK,dK,dK,dK,dK,dK,dK,dK,dK,dK,dK,dK,dK,dK,dK,dK,dK,dK,dK,dK,dK,dK,dK,dK,dK,dK,dK,dK,dK,dK,dK,dK,dK,dK,dK,dK,dK,dK,dK,dK,dK,dK,dK,dK,dK,dK,dK,dK,dK,dK,dK,dK,dK,dK,dK,dK,dK,dK,dK,dK,dK,dK,dK,dK,dK,dK,dK,dK,dK,dK,dK,dK,dK,dK,dK,dK,dK,dK,dK,dK,dK,dK,dK,dK,dK,dK,dK,dK,dK,dK,dK,dK,dK,dK,dK,dK,dK,dK,dK,dK,dK,dK,dK,dK,dK,dK,dK]
noncomputable def ko_S111_l8_1:List Kd:=[dK,dK,.v .bool .k,dK,dK,dK,dK,dK,dK,dK,dK,dK,dK,dK,dK,dK,dK,dK,dK,dK,dK,dK,dK,dK,dK,dK,dK,dK,dK,dK,dK,dK,dK,dK,dK,dK,dK,dK,dK,dK,dK,dK,dK,dK,dK,dK,dK,dK,dK,dK,dK,dK,dK,dK,dK,dK,dK,dK,dK,dK,dK,dK,dK,dK,dK,dK,dK,dK,dK,dK,dK,dK,dK,dK,dK,dK,dK,dK,dK,dK,dK,dK,dK,dK,dK,dK,dK,dK,dK,dK,dK,dK,dK,dK,dK,dK,dK,dK,dK,dK,dK,dK,dK,dK,dK,dK,dK,dK,dK,dK,dK,dK,dK,dK,dK]
noncomputable def ks_S111_l2:List Kd:=[.v (.sl tQIIIIILIE) .k,dK,dK,.v (.int .i64) .k,dK,dK,dK,dK,dK,dK,dK,dK,dK,dK,dK,dK,dK,dK,dK,dK,dK,dK,dK,dK,dK,dK,dK,dK,dK,dK,dK,dK,dK,dK,dK,dK,dK,dK,dK,dK,dK,dK,dK,dK,dK,dK,dK,dK,dK,dK,dK,dK,dK,dK,dK,dK,dK,dK,dK,dK,dK,dK,dK,dK,dK,dK,dK,dK,dK,dK,dK,dK,dK,dK,dK,dK,dK,dK,dK,dK,dK,dK,dK,dK,dK,dK,dK,dK,dK,dK,dK,dK,dK,dK,dK,dK,dK,dK,dK,dK,dK,dK,dK,dK,dK,dK,dK,dK,dK,dK,dK,dK,dK,dK,dK]
noncomputable def ko_S111_l2_0:List Kd:=[.v (.sl tQIIIIILIE) .k,dK,dK,dK,dK,dK,dK,dK,dK,dK,dK,dK,dK,dK,dK,dK,dK,dK,dK,dK,dK,dK,dK,dK,dK,dK,dK,dK,dK,dK,dK,dK,dK,dK,dK,dK,dK,dK,dK,dK,dK,dK,dK,dK,dK,dK,dK,dK,dK,dK,dK,dK,dK,dK,dK,dK,dK,dK,dK,dK,dK,dK,dK,dK,dK,dK,dK,dK,dK,dK,dK,dK,dK,dK,dK,dK,dK,dK,dK,dK,dK,dK,dK,dK,dK,dK,dK,dK,dK,dK,dK,dK,dK,dK,dK,dK,dK,dK,dK,dK,dK,dK,dK,dK,dK,dK,dK,dK,dK,dK,dK,dK,dK,dK,dK]
noncomputable def ko_S111_l2_1:List Kd:=[dK,dK,.v .bool .k,dK,dK,dK,dK,dK,dK,dK,dK,dK,dK,dK,dK,dK,dK,dK,dK,dK,dK,dK,dK,dK,dK,dK,dK,dK,dK,dK,dK,dK,dK,dK,dK,dK,dK,dK,dK,dK,dK,dK,dK,dK,dK,dK,dK,dK,dK,dK,dK,dK,dK,dK,dK,dK,dK,dK,dK,dK,dK,dK,dK,dK,dK,dK,dK,dK,dK,dK,dK,dK,dK,dK,dK,dK,dK,dK,dK,dK,dK,dK,dK,dK,dK,dK,dK,dK,dK,dK,dK,dK,dK,dK,dK,dK,dK,dK,dK,dK,dK,dK,dK,dK,dK,dK,dK,dK,dK,dK,dK,dK,dK,dK,dK]
noncomputable def h_S111:Hint:={ tab,hn:=[],loops:=[(8,ks_S111_l8),(2,ks_S111_l2)],outs:=[(8,4,ko_S111_l8_0),(8,1,ko_S111_l8_1),(2,2,ko_S111_l2_0),(2,1,ko_S111_l2_1)],ords:=[(5,(OT.seq [0,1,2,3,4,5,6,7,8,9,10,11,12,13,14,15,16,17,18,19,20,21,22,23,24,25,26,27,28,29,30,31,32,33,34,35,36,37,38,39,40,41,42,43,44,45,46,47,48,49,50,51,52,53,54] .done)),(11,(OT.seq [0,1,2,3,4,5,6,7,8,9,10,11,12,13,14,16,17,18,19,20,21,22,15,23,24,25] .done))] }
noncomputable def sg_S111:List AK:=[.v (.sl tQIIIIILIE) .k]
noncomputable def F_S111 (N:Nat) (x:AVals sg_S111) (kf:Ret→Option Ret):Option Ret:=S111 N x.1 (fun r0=>kf ⟨[⟨.bool,.k,r0⟩],[]⟩)
noncomputable def run_S111 (N:Nat):=runOf sg_S111 (F_S111 N)
noncomputable def es_S111 (N:Nat):List Entry:=[⟨72,[.val,.val,.val],(run_S72 N)⟩,⟨131,[.val,.val],(run_S131 N)⟩,⟨132,[.val,.val],(run_S132 N)⟩]
noncomputable def body_S111:Code:=match Try.f111.body with | some c=>c | none=>.skip
noncomputable def L_S111 (N n:Nat) (key:Nat) (S:St) (K:Ks):Option Ret:=bif Nat.beq key 2 then withVals ks_S111_l2 S (fun x=>S111_l2 N x.1 n (K (.x 0) (shape ko_S111_l2_0 (x.1,()))) (fun z0=>K .r (shape ko_S111_l2_1 (z0,()))) x.2.1) else bif Nat.beq key 8 then withVals ks_S111_l8 S (fun x=>S111_l8 N x.1 x.2.1 x.2.2.1 n (K (.x 2) (shape ko_S111_l8_0 (x.1,x.2.1,()))) (fun z0=>K .r (shape ko_S111_l8_1 (z0,()))) x.2.2.2.1) else none
theorem L0_S111 (N key:Nat) (S:St) (K:Ks):L_S111 N 0 key S K=none:=(bif0 (withVals0 fun _=>rfl) (bif0 (withVals0 fun _=>rfl) rfl))
noncomputable def c_S111_0:Code:=(loopsIn body_S111).getD 0 .skip
noncomputable def c_S111_1:Code:=(loopsIn body_S111).getD 1 .skip
theorem ls_S111:loopsIn body_S111=[c_S111_0,c_S111_1]:=by kernel_rfl
theorem rd_S111_8 (N n:Nat) (x:Vals ks_S111_l8) (K:Ks):L_S111 N (n + 1) 8 (shape ks_S111_l8 x) (h_S111.onOut 8 K)=peRound h_S111 (Orc.of (es_S111 N)) (mixL (L_S111 N) N n 8) c_S111_1 (shape ks_S111_l8 x) (h_S111.onOut 8 K):=by kernel_rfl
theorem rd_S111_2 (N n:Nat) (x:Vals ks_S111_l2) (K:Ks):L_S111 N (n + 1) 2 (shape ks_S111_l2 x) (h_S111.onOut 2 K)=peRound h_S111 (Orc.of (es_S111 N)) (mixL (L_S111 N) N n 2) c_S111_0 (shape ks_S111_l2 x) (h_S111.onOut 2 K):=by kernel_rfl
theorem fn_S111 (N:Nat) (x:AVals sg_S111) (kf:Ret→Option Ret):F_S111 N x kf=peFunc h_S111 (Orc.of (es_S111 N)) (L_S111 N N) Try.f111 (ashape sg_S111 x) kf:=by kernel_rfl
theorem sd_S111 {Γ : Gl} (N:Nat):Sound Γ Try.prog 111 (run_S111 N):=fun_ok2 (hh:=h_S111) mixed tab_ok (es:=es_S111 N) ⟨sd_S72 N,⟨sd_S131 N,⟨sd_S132 N,trivial⟩⟩⟩ (fn:=Try.f111) (body:=body_S111) (by kernel_rfl) (by kernel_rfl) (by kernel_rfl) (by kernel_rfl) (by kernel_rfl) (Lf:=L_S111 N) (L0_S111 N) ls_S111 (round_cons (key:=2) (ks:=ks_S111_l2) (by kernel_rfl) (by kernel_rfl) (rd_S111_2 N) (round_cons (key:=8) (ks:=ks_S111_l8) (by kernel_rfl) (by kernel_rfl) (rd_S111_8 N) trivial)) (N:=N) (by kernel_rfl) (fn_S111 N) (.inl (by kernel_rfl))
noncomputable def h_S110:Hint:={ tab,hn:=[],loops:=[],outs:=[],ords:=[] }
noncomputable def sg_S110:List AK:=[.v (.sl tQIIIIILIE) .k,.v (.int .i64) .k,.v (.int .i64) .k,.v (.int .i64) .k,.v (.int .i64) .k,.v (.int .i64) .k]
noncomputable def F_S110 (N:Nat) (x:AVals sg_S110) (kf:Ret→Option Ret):Option Ret:=S110 N x.1 x.2.1 x.2.2.1 x.2.2.2.1 x.2.2.2.2.1 x.2.2.2.2.2.1 (fun r0 r1=>kf ⟨[⟨(.sl tQIIIIILIE),(.o 54 none (.p .k (.p .k (.p .k (.p .k (.p .k (.o 3 none .k))))))),r0⟩,⟨.bool,.k,r1⟩],[]⟩)
noncomputable def run_S110 (N:Nat):=runOf sg_S110 (F_S110 N)
noncomputable def es_S110 (N:Nat):List Entry:=[⟨89,[.val],(run_S89 N)⟩,⟨131,[.val,.val],(run_S131 N)⟩,⟨111,[.val],(run_S111 N)⟩,⟨72,[.val,.val,.val],(run_S72 N)⟩]
noncomputable def body_S110:Code:=match Try.f110.body with | some c=>c | none=>.skip
theorem ls_S110:loopsIn body_S110=[]:=by kernel_rfl
theorem fn_S110 (N:Nat) (x:AVals sg_S110) (kf:Ret→Option Ret):F_S110 N x kf=peFunc h_S110 (Orc.of (es_S110 N)) (noL N N) Try.f110 (ashape sg_S110 x) kf:=by kernel_rfl
theorem sd_S110 {Γ : Gl} (N:Nat):Sound Γ Try.prog 110 (run_S110 N):=fun_ok2 (hh:=h_S110) mixed tab_ok (es:=es_S110 N) ⟨sd_S89 N,⟨sd_S131 N,⟨sd_S111 N,⟨sd_S72 N,trivial⟩⟩⟩⟩ (fn:=Try.f110) (body:=body_S110) (by kernel_rfl) (by kernel_rfl) (by kernel_rfl) (by kernel_rfl) (by kernel_rfl) (Lf:=noL N) (noL0 N) ls_S110 trivial (N:=N) (by kernel_rfl) (fn_S110 N) (.inl (by kernel_rfl))
noncomputable def ks_S82_l3:List Kd:=[.v (.ptr tQLIIIE) (.o 108 (some 0) .k),dK,dK,.v (.sl tQIIIIILIE) (.o 54 none (.p .k (.p .k (.p .k (.p .k (.p .k (.o 3 none .k))))))),.v (.int .i64) .k,dK,dK,dK,dK,dK,dK,dK,dK,dK,dK,dK,dK,dK,dK,dK,dK,dK,dK,dK,dK,dK,dK,dK,dK,dK,dK,dK,dK,dK,dK,dK,dK,dK,dK,dK,dK,dK,dK,dK,dK,dK,dK,dK,dK,dK,dK,dK]
noncomputable def ko_S82_l3_0:List Kd:=[.v (.ptr tQLIIIE) (.o 108 (some 0) .k),dK,dK,.v (.sl tQIIIIILIE) (.o 54 none (.p .k (.p .k (.p .k (.p .k (.p .k (.o 3 none .k))))))),dK,dK,dK,dK,dK,dK,dK,dK,dK,dK,dK,dK,dK,dK,dK,dK,dK,dK,dK,dK,dK,dK,dK,dK,dK,dK,dK,dK,dK,dK,dK,dK,dK,dK,dK,dK,dK,dK,dK,dK,dK,dK,dK,dK,dK,dK,dK,dK]
noncomputable def ks_S82_l7:List Kd:=[.v (.ptr tQLIIIE) (.o 108 (some 0) .k),dK,dK,.v (.sl tQIIIIILIE) (.o 54 none (.p .k (.p .k (.p .k (.p .k (.p .k (.o 3 none .k))))))),dK,.v (.int .i64) .k,dK,dK,dK,dK,dK,dK,dK,dK,dK,dK,dK,dK,dK,dK,dK,dK,dK,dK,dK,dK,dK,dK,dK,dK,dK,dK,dK,dK,dK,dK,dK,dK,dK,dK,dK,dK,dK,dK,dK,dK,dK,dK,dK,dK,dK,dK]
noncomputable def ko_S82_l7_0:List Kd:=[.v (.ptr tQLIIIE) (.o 108 (some 0) .k),dK,dK,.v (.sl tQIIIIILIE) (.o 54 none (.p .k (.p .k (.p .k (.p .k (.p .k (.o 3 none .k))))))),dK,dK,dK,dK,dK,dK,dK,dK,dK,dK,dK,dK,dK,dK,dK,dK,dK,dK,dK,dK,dK,dK,dK,dK,dK,dK,dK,dK,dK,dK,dK,dK,dK,dK,dK,dK,dK,dK,dK,dK,dK,dK,dK,dK,dK,dK,dK,dK]
noncomputable def h_S82:Hint:={ tab,hn:=[(6,(.p .k (.p .k (.p .k (.p .k (.p .k (.o 3 none .k)))))))],loops:=[(3,ks_S82_l3),(7,ks_S82_l7)],outs:=[(3,2,ko_S82_l3_0),(7,4,ko_S82_l7_0)],ords:=[],lent:=some (0,false) }
noncomputable def sg_S82:List AK:=[.v (.ptr tQLIIIE) (.o 108 (some 0) .k)]
noncomputable def F_S82 (N:Nat) (x:AVals sg_S82) (kf:Ret→Option Ret):Option Ret:=S82 N x.1 (fun r0 z=>kf ⟨[⟨(.sl tQIIIIILIE),(.o 54 none (.p .k (.p .k (.p .k (.p .k (.p .k (.o 3 none .k))))))),r0⟩],[⟨(.ptr tQLIIIE),(.o 108 (some 0) .k),z⟩]⟩)
noncomputable def run_S82 (N:Nat):=runOf sg_S82 (F_S82 N)
noncomputable def es_S82 (N:Nat):List Entry:=[⟨50,[.lend,.val],(run_S50 N)⟩,⟨110,[.val,.val,.val,.val,.val,.val],(run_S110 N)⟩]
noncomputable def body_S82:Code:=match Try.f82.body with | some c=>c | none=>.skip
noncomputable def L_S82 (N n:Nat) (key:Nat) (S:St) (K:Ks):Option Ret:=bif Nat.beq key 3 then withVals ks_S82_l3 S (fun x=>S82_l3 N n (fun z0 z1=>K (.x 0) (shape ko_S82_l3_0 (z0,z1,()))) x.1 x.2.1 x.2.2.1) else bif Nat.beq key 7 then withVals ks_S82_l7 S (fun x=>S82_l7 N n (fun z0 z1=>K (.x 2) (shape ko_S82_l7_0 (z0,z1,()))) x.1 x.2.1 x.2.2.1) else none
theorem L0_S82 (N key:Nat) (S:St) (K:Ks):L_S82 N 0 key S K=none:=(bif0 (withVals0 fun _=>rfl) (bif0 (withVals0 fun _=>rfl) rfl))
noncomputable def c_S82_0:Code:=(loopsIn body_S82).getD 0 .skip
noncomputable def c_S82_1:Code:=(loopsIn body_S82).getD 1 .skip
theorem ls_S82:loopsIn body_S82=[c_S82_0,c_S82_1]:=by kernel_rfl
theorem rd_S82_7 (N n:Nat) (x:Vals ks_S82_l7) (K:Ks):L_S82 N (n + 1) 7 (shape ks_S82_l7 x) (h_S82.onOut 7 K)=peRound h_S82 (Orc.of (es_S82 N)) (mixL (L_S82 N) N n 7) c_S82_1 (shape ks_S82_l7 x) (h_S82.onOut 7 K):=by kernel_rfl
theorem rd_S82_3 (N n:Nat) (x:Vals ks_S82_l3) (K:Ks):L_S82 N (n + 1) 3 (shape ks_S82_l3 x) (h_S82.onOut 3 K)=peRound h_S82 (Orc.of (es_S82 N)) (mixL (L_S82 N) N n 3) c_S82_0 (shape ks_S82_l3 x) (h_S82.onOut 3 K):=by kernel_rfl
theorem fn_S82 (N:Nat) (x:AVals sg_S82) (kf:Ret→Option Ret):F_S82 N x kf=peFunc h_S82 (Orc.of (es_S82 N)) (L_S82 N N) Try.f82 (ashape sg_S82 x) kf:=by kernel_rfl
theorem sd_S82 {Γ : Gl} (N:Nat):Sound Γ Try.prog 82 (run_S82 N):=fun_ok2 (hh:=h_S82) mixed tab_ok (es:=es_S82 N) ⟨sd_S50 N,⟨sd_S110 N,trivial⟩⟩ (fn:=Try.f82) (body:=body_S82) (by kernel_rfl) (by kernel_rfl) (by kernel_rfl) (by kernel_rfl) (by kernel_rfl) (Lf:=L_S82 N) (L0_S82 N) ls_S82 (round_cons (key:=3) (ks:=ks_S82_l3) (by kernel_rfl) (by kernel_rfl) (rd_S82_3 N) (round_cons (key:=7) (ks:=ks_S82_l7) (by kernel_rfl) (by kernel_rfl) (rd_S82_7 N) trivial)) (N:=N) (by kernel_rfl) (fn_S82 N) (.inl (by kernel_rfl))
noncomputable def h_S87:Hint:={ tab,hn:=[],loops:=[],outs:=[],ords:=[],lent:=some (0,false) }
noncomputable def sg_S87:List AK:=[.v (.ptr tQLIIIE) (.o 108 (some 0) .k),.v (.int .i64) .k]
noncomputable def F_S87 (N:Nat) (x:AVals sg_S87) (kf:Ret→Option Ret):Option Ret:=S87 N x.1 x.2.1 (fun r0 z=>kf ⟨[⟨.bool,.k,r0⟩],[⟨(.ptr tQLIIIE),(.o 108 (some 0) .k),z⟩]⟩)
noncomputable def run_S87 (N:Nat):=runOf sg_S87 (F_S87 N)
noncomputable def es_S87 (N:Nat):List Entry:=[⟨50,[.lend,.val],(run_S50 N)⟩]
noncomputable def body_S87:Code:=match Try.f87.body with | some c=>c | none=>.skip
theorem ls_S87:loopsIn body_S87=[]:=by kernel_rfl
theorem fn_S87 (N:Nat) (x:AVals sg_S87) (kf:Ret→Option Ret):F_S87 N x kf=peFunc h_S87 (Orc.of (es_S87 N)) (noL N N) Try.f87 (ashape sg_S87 x) kf:=by kernel_rfl
theorem sd_S87 {Γ : Gl} (N:Nat):Sound Γ Try.prog 87 (run_S87 N):=fun_ok2 (hh:=h_S87) mixed tab_ok (es:=es_S87 N) ⟨sd_S50 N,trivial⟩ (fn:=Try.f87) (body:=body_S87) (by kernel_rfl) (by kernel_rfl) (by kernel_rfl) (by kernel_rfl) (by kernel_rfl) (Lf:=noL N) (noL0 N) ls_S87 trivial (N:=N) (by kernel_rfl) (fn_S87 N) (.inl (by kernel_rfl))
noncomputable def ks_S83_l3:List Kd:=[.v (.ptr tQLIIIE) (.o 108 (some 0) .k),dK,dK,.v (.sl tQIILIE) (.o 85 none (.p .k (.p .k (.o 3 none .k)))),.v (.int .i64) .k,dK,dK,dK,dK,dK,dK,dK,dK,dK,dK,dK,dK,dK,dK,dK,dK,dK,dK,dK,dK,dK,dK,dK,dK,dK,dK,dK,dK]
noncomputable def ko_S83_l3_0:List Kd:=[.v (.ptr tQLIIIE) (.o 108 (some 0) .k),dK,dK,.v (.sl tQIILIE) (.o 85 none (.p .k (.p .k (.o 3 none .k)))),dK,dK,dK,dK,dK,dK,dK,dK,dK,dK,dK,dK,dK,dK,dK,dK,dK,dK,dK,dK,dK,dK,dK,dK,dK,dK,dK,dK,dK]
noncomputable def h_S83:Hint:={ tab,hn:=[(6,(.p .k (.p .k (.o 3 none .k))))],loops:=[(3,ks_S83_l3)],outs:=[(3,2,ko_S83_l3_0)],ords:=[],lent:=some (0,false) }
noncomputable def sg_S83:List AK:=[.v (.ptr tQLIIIE) (.o 108 (some 0) .k)]
noncomputable def F_S83 (N:Nat) (x:AVals sg_S83) (kf:Ret→Option Ret):Option Ret:=S83 N x.1 (fun r0 z=>kf ⟨[⟨(.sl tQIILIE),(.o 85 none (.p .k (.p .k (.o 3 none .k)))),r0⟩],[⟨(.ptr tQLIIIE),(.o 108 (some 0) .k),z⟩]⟩)
noncomputable def run_S83 (N:Nat):=runOf sg_S83 (F_S83 N)
noncomputable def es_S83 (N:Nat):List Entry:=[⟨50,[.lend,.val],(run_S50 N)⟩,⟨87,[.lend,.val],(run_S87 N)⟩]
noncomputable def body_S83:Code:=match Try.f83.body with | some c=>c | none=>.skip
noncomputable def L_S83 (N n:Nat) (key:Nat) (S:St) (K:Ks):Option Ret:=bif Nat.beq key 3 then withVals ks_S83_l3 S (fun x=>S83_l3 N n (fun z0 z1=>K (.x 0) (shape ko_S83_l3_0 (z0,z1,()))) x.1 x.2.1 x.2.2.1) else none
theorem L0_S83 (N key:Nat) (S:St) (K:Ks):L_S83 N 0 key S K=none:=(bif0 (withVals0 fun _=>rfl) rfl)
noncomputable def c_S83_0:Code:=(loopsIn body_S83).getD 0 .skip
theorem ls_S83:loopsIn body_S83=[c_S83_0]:=by kernel_rfl
theorem rd_S83_3 (N n:Nat) (x:Vals ks_S83_l3) (K:Ks):L_S83 N (n + 1) 3 (shape ks_S83_l3 x) (h_S83.onOut 3 K)=peRound h_S83 (Orc.of (es_S83 N)) (mixL (L_S83 N) N n 3) c_S83_0 (shape ks_S83_l3 x) (h_S83.onOut 3 K):=by kernel_rfl
theorem fn_S83 (N:Nat) (x:AVals sg_S83) (kf:Ret→Option Ret):F_S83 N x kf=peFunc h_S83 (Orc.of (es_S83 N)) (L_S83 N N) Try.f83 (ashape sg_S83 x) kf:=by kernel_rfl
theorem sd_S83 {Γ : Gl} (N:Nat):Sound Γ Try.prog 83 (run_S83 N):=fun_ok2 (hh:=h_S83) mixed tab_ok (es:=es_S83 N) ⟨sd_S50 N,⟨sd_S87 N,trivial⟩⟩ (fn:=Try.f83) (body:=body_S83) (by kernel_rfl) (by kernel_rfl) (by kernel_rfl) (by kernel_rfl) (by kernel_rfl) (Lf:=L_S83 N) (L0_S83 N) ls_S83 (round_cons (key:=3) (ks:=ks_S83_l3) (by kernel_rfl) (by kernel_rfl) (rd_S83_3 N) trivial) (N:=N) (by kernel_rfl) (fn_S83 N) (.inl (by kernel_rfl))
noncomputable def ks_S84_l3:List Kd:=[.v (.sl tQIIIIILIE) .k,dK,dK,.v (.int .i64) .k,.v (.int .i64) .k,dK,dK,dK,dK,dK,dK,dK,dK,dK,dK,dK,dK,dK,dK,dK,dK,dK,dK]
noncomputable def ko_S84_l3_0:List Kd:=[dK,dK,dK,.v (.int .i64) .k,dK,dK,dK,dK,dK,dK,dK,dK,dK,dK,dK,dK,dK,dK,dK,dK,dK,dK,dK]
noncomputable def h_S84:Hint:={ tab,hn:=[],loops:=[(3,ks_S84_l3)],outs:=[(3,2,ko_S84_l3_0)],ords:=[] }
noncomputable def sg_S84:List AK:=[.v (.sl tQIIIIILIE) .k]
noncomputable def F_S84 (N:Nat) (x:AVals sg_S84) (kf:Ret→Option Ret):Option Ret:=S84 N x.1 (fun r0=>kf ⟨[⟨(.int .i64),.k,r0⟩],[]⟩)
noncomputable def run_S84 (N:Nat):=runOf sg_S84 (F_S84 N)
noncomputable def es_S84 (N:Nat):List Entry:=[⟨111,[.val],(run_S111 N)⟩]
noncomputable def body_S84:Code:=match Try.f84.body with | some c=>c | none=>.skip
noncomputable def L_S84 (N n:Nat) (key:Nat) (S:St) (K:Ks):Option Ret:=bif Nat.beq key 3 then withVals ks_S84_l3 S (fun x=>S84_l3 N x.1 n (fun z0=>K (.x 0) (shape ko_S84_l3_0 (z0,()))) x.2.1 x.2.2.1) else none
theorem L0_S84 (N key:Nat) (S:St) (K:Ks):L_S84 N 0 key S K=none:=(bif0 (withVals0 fun _=>rfl) rfl)
noncomputable def c_S84_0:Code:=(loopsIn body_S84).getD 0 .skip
theorem ls_S84:loopsIn body_S84=[c_S84_0]:=by kernel_rfl
theorem rd_S84_3 (N n:Nat) (x:Vals ks_S84_l3) (K:Ks):L_S84 N (n + 1) 3 (shape ks_S84_l3 x) (h_S84.onOut 3 K)=peRound h_S84 (Orc.of (es_S84 N)) (mixL (L_S84 N) N n 3) c_S84_0 (shape ks_S84_l3 x) (h_S84.onOut 3 K):=by kernel_rfl
theorem fn_S84 (N:Nat) (x:AVals sg_S84) (kf:Ret→Option Ret):F_S84 N x kf=peFunc h_S84 (Orc.of (es_S84 N)) (L_S84 N N) Try.f84 (ashape sg_S84 x) kf:=by kernel_rfl
theorem sd_S84 {Γ : Gl} (N:Nat):Sound Γ Try.prog 84 (run_S84 N):=fun_ok2 (hh:=h_S84) mixed tab_ok (es:=es_S84 N) ⟨sd_S111 N,trivial⟩ (fn:=Try.f84) (body:=body_S84) (by kernel_rfl) (by kernel_rfl) (by kernel_rfl) (by kernel_rfl) (by kernel_rfl) (Lf:=L_S84 N) (L0_S84 N) ls_S84 (round_cons (key:=3) (ks:=ks_S84_l3) (by kernel_rfl) (by kernel_rfl) (rd_S84_3 N) trivial) (N:=N) (by kernel_rfl) (fn_S84 N) (.inl (by kernel_rfl))
noncomputable def h_S135:Hint:={ tab,hn:=[],loops:=[],outs:=[],ords:=[] }
noncomputable def sg_S135:List AK:=[.v tQIIIIILIE .k,.v tQIIIIILIE .k]
noncomputable def F_S135 (N:Nat) (x:AVals sg_S135) (kf:Ret→Option Ret):Option Ret:=S135 N x.1 x.2.1 (fun r0=>kf ⟨[⟨.bool,.k,r0⟩],[]⟩)
noncomputable def run_S135 (N:Nat):=runOf sg_S135 (F_S135 N)
noncomputable def es_S135 (N:Nat):List Entry:=[]
noncomputable def body_S135:Code:=match Try.f135.body with | some c=>c | none=>.skip
theorem ls_S135:loopsIn body_S135=[]:=by kernel_rfl
theorem fn_S135 (N:Nat) (x:AVals sg_S135) (kf:Ret→Option Ret):F_S135 N x kf=peFunc h_S135 (Orc.of (es_S135 N)) (noL N N) Try.f135 (ashape sg_S135 x) kf:=by kernel_rfl
theorem sd_S135 {Γ : Gl} (N:Nat):Sound Γ Try.prog 135 (run_S135 N):=fun_ok2 (hh:=h_S135) mixed tab_ok (es:=es_S135 N) trivial (fn:=Try.f135) (body:=body_S135) (by kernel_rfl) (by kernel_rfl) (by kernel_rfl) (by kernel_rfl) (by kernel_rfl) (Lf:=noL N) (noL0 N) ls_S135 trivial (N:=N) (by kernel_rfl) (fn_S135 N) (.inl (by kernel_rfl))
end Go.Pv.R
