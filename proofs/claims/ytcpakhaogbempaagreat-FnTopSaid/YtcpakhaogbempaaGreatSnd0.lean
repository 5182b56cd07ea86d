/- Each function of the program that the law reaches computes its plain function, part 0. -/
import Derived.Test.YtcpakhaogbempaaGreatPlRes
import Derived.Test.YtcpakhaogbempaaGreatGro
import Derived.Test.YtcpakhaogbempaaGreatProg
namespace Go.Pv.R
open Go.Proofs
set_option linter.unusedVariables false
set_option maxRecDepth 100000
noncomputable abbrev dK:Kd:=.dead
noncomputable def tab:Tab:=[⟨2,(.int .i64),0,[]⟩,⟨3,(.int .i64),0,[]⟩,⟨4,.bool,0,[]⟩,⟨5,(.int .u8),0,[]⟩,⟨9,.str,0,[]⟩,⟨12,(.int .u64),0,[]⟩,⟨21,(.int .i32),0,[]⟩,⟨22,(.sl (.int .u8)),5,[]⟩,⟨24,(.sl tQIIIIILIE),46,[]⟩,⟨25,(.sl tQIILIE),80,[]⟩,⟨26,(.sl tQIIE),104,[]⟩,⟨27,(.sl (.int .i64)),3,[]⟩,⟨28,(.sl tQIIIE),136,[]⟩,⟨29,(.sl tQIIIIE),102,[]⟩,⟨30,tQLQIIIIILIELQIILIELQIIELILQIIIELQIIIIEIE,0,[24,25,26,27,28,29,3]⟩,⟨31,tQLQIIIIILIELQIILIELQIIELILQIIIELQIIIIEIE,0,[24,25,26,27,28,29,3]⟩,⟨32,(.sl tQIIIIE),38,[]⟩,⟨37,tQIIIIE,0,[3,3,3,3]⟩,⟨38,tQIIIIE,0,[3,3,3,3]⟩,⟨45,tQIIIIILIE,0,[3,3,3,3,3,27]⟩,⟨46,tQIIIIILIE,0,[3,3,3,3,3,27]⟩,⟨47,(.sl tQIIIIILIE),171,[]⟩,⟨48,(.sl tQIILIE),173,[]⟩,⟨49,(.sl tQIIE),182,[]⟩,⟨50,(.sl tQIIIE),184,[]⟩,⟨51,(.sl tQIIIIE),186,[]⟩,⟨52,tQLQIIIIILIELQIILIELQIIELILQIIIELQIIIIEIE,0,[47,48,49,27,50,51,3]⟩,⟨53,tQLQIIIIILIELQIILIELQIIELILQIIIELQIIIIEIE,0,[47,48,49,27,50,51,3]⟩,⟨79,tQIILIE,0,[3,3,27]⟩,⟨80,tQIILIE,0,[3,3,27]⟩,⟨88,tQIIIIE,0,[3,3,3,3]⟩,⟨91,(.sl tQIIIIE),88,[]⟩,⟨101,tQIIIIE,0,[3,3,3,3]⟩,⟨102,tQIIIIE,0,[3,3,3,3]⟩,⟨103,tQIIE,0,[3,3]⟩,⟨104,tQIIE,0,[3,3]⟩,⟨135,tQIIIE,0,[3,3,3]⟩,⟨136,tQIIIE,0,[3,3,3]⟩,⟨162,tQLIIIE,0,[22,3,3]⟩,⟨163,tQLIIIE,0,[22,3,3]⟩,⟨171,tQIIIIILIE,0,[3,3,3,3,3,27]⟩,⟨173,tQIILIE,0,[3,3,27]⟩,⟨182,tQIIE,0,[3,3]⟩,⟨184,tQIIIE,0,[3,3,3]⟩,⟨186,tQIIIIE,0,[3,3,3,3]⟩,⟨194,(.int .u64),0,[]⟩,⟨207,(.int .i64),0,[]⟩,⟨216,(.int .u32),0,[]⟩,⟨218,(.int .u64),0,[]⟩,⟨219,(.sl (.sl (.int .i64))),27,[]⟩,⟨222,(.int .u64),0,[]⟩]
theorem mixed:Tryz.prog.follows .mixedOrders=true:=by kernel_rfl
theorem tab_ok:tabB Tryz.prog tab=true:=by kernel_rfl
noncomputable def noL (N n:Nat) (key:Nat) (S:St) (K:Ks):Option Ret:=none
theorem noL0 (N key:Nat) (S:St) (K:Ks):noL N 0 key S K=none:=rfl
noncomputable def h_L11:Hint:={ tab,hn:=[],loops:=[],outs:=[],ords:=[] }
noncomputable def sg_L11:List AK:=[.v (.sl (.int .u8)) .k]
noncomputable def F_L11 (N:Nat) (x:AVals sg_L11) (kf:Ret→Option Ret):Option Ret:=L11 N x.1 (fun r0=>kf ⟨[⟨.bool,.k,r0⟩],[]⟩)
noncomputable def run_L11 (N:Nat):=runOf sg_L11 (F_L11 N)
noncomputable def es_L11 (N:Nat):List Entry:=[]
noncomputable def body_L11:Code:=match Tryz.f11.body with | some c=>c | none=>.skip
theorem ls_L11:loopsIn body_L11=[]:=by kernel_rfl
theorem fn_L11 (N:Nat) (x:AVals sg_L11) (kf:Ret→Option Ret):F_L11 N x kf=peFunc h_L11 (Orc.of (es_L11 N)) (noL N N) Tryz.f11 (ashape sg_L11 x) kf:=by kernel_rfl
theorem sd_L11 {Γ : Gl} (N:Nat):Sound Γ Tryz.prog 11 (run_L11 N):=fun_ok2 (hh:=h_L11) mixed tab_ok (es:=es_L11 N) trivial (fn:=Tryz.f11) (body:=body_L11) (by kernel_rfl) (by kernel_rfl) (by kernel_rfl) (by kernel_rfl) (by kernel_rfl) (Lf:=noL N) (noL0 N) ls_L11 trivial (N:=N) (by kernel_rfl) (fn_L11 N) (.inl (by kernel_rfl))
noncomputable def ks_S67_l3:List Kd:=[.v (.sl (.int .u8)) .k,dK,dK,.v (.int .i64) .k,.v (.int .i64) .k,dK,dK,dK,dK,dK,dK,dK,dK,dK,dK,dK,dK,dK,dK,dK,dK,dK,dK,dK,dK,dK,dK,dK,dK,dK,dK,dK]
noncomputable def ko_S67_l3_0:List Kd:=[.v (.sl (.int .u8)) .k,dK,dK,.v (.int .i64) .k,dK,dK,dK,dK,dK,dK,dK,dK,dK,dK,dK,dK,dK,dK,dK,dK,dK,dK,dK,dK,dK,dK,dK,dK,dK,dK,dK,dK]
noncomputable def h_S67:Hint:={ tab,hn:=[],loops:=[(3,ks_S67_l3)],outs:=[(3,2,ko_S67_l3_0)],ords:=[] }
noncomputable def sg_S67:List AK:=[.v (.sl (.int .u8)) .k]
noncomputable def F_S67 (N:Nat) (x:AVals sg_S67) (kf:Ret→Option Ret):Option Ret:=S67 N x.1 (fun r0=>kf ⟨[⟨(.ptr tQLIIIE),(.o 163 none .k),r0⟩],[]⟩)
noncomputable def run_S67 (N:Nat):=runOf sg_S67 (F_S67 N)
noncomputable def es_S67 (N:Nat):List Entry:=[]
noncomputable def body_S67:Code:=match Tryz.f67.body with | some c=>c | none=>.skip
noncomputable def L_S67 (N n:Nat) (key:Nat) (S:St) (K:Ks):Option Ret:=bif Nat.beq key 3 then withVals ks_S67_l3 S (fun x=>S67_l3 x.1 n (fun z0=>K (.x 0) (shape ko_S67_l3_0 (x.1,z0,()))) x.2.1 x.2.2.1) else none
theorem L0_S67 (N key:Nat) (S:St) (K:Ks):L_S67 N 0 key S K=none:=(bif0 (withVals0 fun _=>rfl) rfl)
noncomputable def c_S67_0:Code:=(loopsIn body_S67).getD 0 .skip
theorem ls_S67:loopsIn body_S67=[c_S67_0]:=by kernel_rfl
theorem rd_S67_3 (N n:Nat) (x:Vals ks_S67_l3) (K:Ks):L_S67 N (n + 1) 3 (shape ks_S67_l3 x) (h_S67.onOut 3 K)=peRound h_S67 (Orc.of (es_S67 N)) (mixL (L_S67 N) N n 3) c_S67_0 (shape ks_S67_l3 x) (h_S67.onOut 3 K):=by kernel_rfl
theorem fn_S67 (N:Nat) (x:AVals sg_S67) (kf:Ret→Option Ret):F_S67 N x kf=peFunc h_S67 (Orc.of (es_S67 N)) (L_S67 N N) Tryz.f67 (ashape sg_S67 x) kf:=by kernel_rfl
theorem sd_S67 {Γ : Gl} (N:Nat):Sound Γ Tryz.prog 67 (run_S67 N):=fun_ok2 (hh:=h_S67) mixed tab_ok (es:=es_S67 N) trivial (fn:=Tryz.f67) (body:=body_S67) (by kernel_rfl) (by kernel_rfl) (by kernel_rfl) (by kernel_rfl) (by kernel_rfl) (Lf:=L_S67 N) (L0_S67 N) ls_S67 (round_cons (key:=3) (ks:=ks_S67_l3) (by kernel_rfl) (by kernel_rfl) (rd_S67_3 N) trivial) (N:=N) (by kernel_rfl) (fn_S67 N) (.inl (by kernel_rfl))
noncomputable def h_S68:Hint:={ tab,hn:=[],loops:=[],outs:=[],ords:=[] }
noncomputable def sg_S68:List AK:=[]
noncomputable def F_S68 (N:Nat) (x:AVals sg_S68) (kf:Ret→Option Ret):Option Ret:=S68 N (fun r0=>kf ⟨[⟨tQLQIIIIILIELQIILIELQIIELILQIIIELQIIIIEIE,(.p (.o 46 none (.p .k (.p .k (.p .k (.p .k (.p .k (.o 3 none .k))))))) (.p (.o 80 none (.p .k (.p .k (.o 3 none .k)))) (.p (.o 104 none .k) (.p (.o 3 none .k) (.p (.o 136 none .k) (.p (.o 102 none .k) .k)))))),r0⟩],[]⟩)
noncomputable def run_S68 (N:Nat):=runOf sg_S68 (F_S68 N)
noncomputable def es_S68 (N:Nat):List Entry:=[]
noncomputable def body_S68:Code:=match Tryz.f68.body with | some c=>c | none=>.skip
theorem ls_S68:loopsIn body_S68=[]:=by kernel_rfl
theorem fn_S68 (N:Nat) (x:AVals sg_S68) (kf:Ret→Option Ret):F_S68 N x kf=peFunc h_S68 (Orc.of (es_S68 N)) (noL N N) Tryz.f68 (ashape sg_S68 x) kf:=by kernel_rfl
theorem sd_S68 {Γ : Gl} (N:Nat):Sound Γ Tryz.prog 68 (run_S68 N):=fun_ok2 (hh:=h_S68) mixed tab_ok (es:=es_S68 N) trivial (fn:=Tryz.f68) (body:=body_S68) (by kernel_rfl) (by kernel_rfl) (by kernel_rfl) (by kernel_rfl) (by kernel_rfl) (Lf:=noL N) (noL0 N) ls_S68 trivial (N:=N) (by kernel_rfl) (fn_S68 N) (.inl (by kernel_rfl))
noncomputable def h_S216:Hint:={ tab,hn:=[],loops:=[],outs:=[],ords:=[(2,(OT.seq [0,1,2,3,4,5,6,7,8,9,10,11,12] .done)),(3,(OT.seq [0,1,2,3,4,5,6,7,8,9] .done)),(4,(OT.seq [0,1,2,3,4,5,6,7,8,9,10,11,12,13,14] .done))],lent:=some (0,false) }
noncomputable def sg_S216:List AK:=[.v (.ptr tQLIIIE) (.o 163 (some 0) .k)]
noncomputable def F_S216 (N:Nat) (x:AVals sg_S216) (kf:Ret→Option Ret):Option Ret:=S216 N x.1 (fun r0 z=>kf ⟨[⟨(.int .i64),.k,r0⟩],[⟨(.ptr tQLIIIE),(.o 163 (some 0) .k),z⟩]⟩)
noncomputable def run_S216 (N:Nat):=runOf sg_S216 (F_S216 N)
noncomputable def es_S216 (N:Nat):List Entry:=[]
noncomputable def body_S216:Code:=match Tryz.f216.body with | some c=>c | none=>.skip
theorem ls_S216:loopsIn body_S216=[]:=by kernel_rfl
theorem fn_S216 (N:Nat) (x:AVals sg_S216) (kf:Ret→Option Ret):F_S216 N x kf=peFunc h_S216 (Orc.of (es_S216 N)) (noL N N) Tryz.f216 (ashape sg_S216 x) kf:=by kernel_rfl
theorem sd_S216 {Γ : Gl} (N:Nat):Sound Γ Tryz.prog 216 (run_S216 N):=fun_ok2 (hh:=h_S216) mixed tab_ok (es:=es_S216 N) trivial (fn:=Tryz.f216) (body:=body_S216) (by kernel_rfl) (by kernel_rfl) (by kernel_rfl) (by kernel_rfl) (by kernel_rfl) (Lf:=noL N) (noL0 N) ls_S216 trivial (N:=N) (by kernel_rfl) (fn_S216 N) (.inl (by kernel_rfl))
noncomputable def h_S137:Hint:={ tab,hn:=[],loops:=[],outs:=[],ords:=[],lent:=some (0,false) }
noncomputable def sg_S137:List AK:=[.v (.ptr tQLIIIE) (.o 163 (some 0) .k),.v (.int .i64) .k]
noncomputable def F_S137 (N:Nat) (x:AVals sg_S137) (kf:Ret→Option Ret):Option Ret:=S137 N x.1 x.2.1 (fun r0 z=>kf ⟨[⟨(.int .i64),.k,r0⟩],[⟨(.ptr tQLIIIE),(.o 163 (some 0) .k),z⟩]⟩)
noncomputable def run_S137 (N:Nat):=runOf sg_S137 (F_S137 N)
noncomputable def es_S137 (N:Nat):List Entry:=[⟨216,[.lend],(run_S216 N)⟩]
noncomputable def body_S137:Code:=match Tryz.f137.body with | some c=>c | none=>.skip
theorem ls_S137:loopsIn body_S137=[]:=by kernel_rfl
theorem fn_S137 (N:Nat) (x:AVals sg_S137) (kf:Ret→Option Ret):F_S137 N x kf=peFunc h_S137 (Orc.of (es_S137 N)) (noL N N) Tryz.f137 (ashape sg_S137 x) kf:=by kernel_rfl
theorem sd_S137 {Γ : Gl} (N:Nat):Sound Γ Tryz.prog 137 (run_S137 N):=fun_ok2 (hh:=h_S137) mixed tab_ok (es:=es_S137 N) ⟨sd_S216 N,trivial⟩ (fn:=Tryz.f137) (body:=body_S137) (by kernel_rfl) (by kernel_rfl) (by kernel_rfl) (by kernel_rfl) (by kernel_rfl) (Lf:=noL N) (noL0 N) ls_S137 trivial (N:=N) (by kernel_rfl) (fn_S137 N) (.inl (by kernel_rfl))
noncomputable def h_S140:Hint:={ tab,hn:=[],loops:=[],outs:=[],ords:=[],lent:=some (0,false) }
noncomputable def sg_S140:List AK:=[.v (.ptr tQLIIIE) (.o 163 (some 0) .k),.v (.int .i64) .k]
noncomputable def F_S140 (N:Nat) (x:AVals sg_S140) (kf:Ret→Option Ret):Option Ret:=S140 N x.1 x.2.1 (fun r0 z=>kf ⟨[⟨.bool,.k,r0⟩],[⟨(.ptr tQLIIIE),(.o 163 (some 0) .k),z⟩]⟩)
noncomputable def run_S140 (N:Nat):=runOf sg_S140 (F_S140 N)
noncomputable def es_S140 (N:Nat):List Entry:=[⟨137,[.lend,.val],(run_S137 N)⟩]
noncomputable def body_S140:Code:=match Tryz.f140.body with | some c=>c | none=>.skip
theorem ls_S140:loopsIn body_S140=[]:=by kernel_rfl
theorem fn_S140 (N:Nat) (x:AVals sg_S140) (kf:Ret→Option Ret):F_S140 N x kf=peFunc h_S140 (Orc.of (es_S140 N)) (noL N N) Tryz.f140 (ashape sg_S140 x) kf:=by kernel_rfl
theorem sd_S140 {Γ : Gl} (N:Nat):Sound Γ Tryz.prog 140 (run_S140 N):=fun_ok2 (hh:=h_S140) mixed tab_ok (es:=es_S140 N) ⟨sd_S137 N,trivial⟩ (fn:=Tryz.f140) (body:=body_S140) (by kernel_rfl) (by kernel_rfl) (by kernel_rfl) (by kernel_rfl) (by kernel_rfl) (Lf:=noL N) (noL0 N) ls_S140 trivial (N:=N) (by kernel_rfl) (fn_S140 N) (.inl (by kernel_rfl))
noncomputable def h_S134:Hint:={ tab,hn:=[],loops:=[],outs:=[],ords:=[],lent:=some (0,false) }
noncomputable def sg_S134:List AK:=[.v (.ptr tQLIIIE) (.o 163 (some 0) .k),.v (.sl (.int .i64)) .k]
noncomputable def F_S134 (N:Nat) (x:AVals sg_S134) (kf:Ret→Option Ret):Option Ret:=S134 N x.1 x.2.1 (fun r0 z=>kf ⟨[⟨(.int .i64),.k,r0⟩],[⟨(.ptr tQLIIIE),(.o 163 (some 0) .k),z⟩]⟩)
noncomputable def run_S134 (N:Nat):=runOf sg_S134 (F_S134 N)
noncomputable def es_S134 (N:Nat):List Entry:=[⟨137,[.lend,.val],(run_S137 N)⟩]
noncomputable def body_S134:Code:=match Tryz.f134.body with | some c=>c | none=>.skip
theorem ls_S134:loopsIn body_S134=[]:=by kernel_rfl
theorem fn_S134 (N:Nat) (x:AVals sg_S134) (kf:Ret→Option Ret):F_S134 N x kf=peFunc h_S134 (Orc.of (es_S134 N)) (noL N N) Tryz.f134 (ashape sg_S134 x) kf:=by kernel_rfl
theorem sd_S134 {Γ : Gl} (N:Nat):Sound Γ Tryz.prog 134 (run_S134 N):=fun_ok2 (hh:=h_S134) mixed tab_ok (es:=es_S134 N) ⟨sd_S137 N,trivial⟩ (fn:=Tryz.f134) (body:=body_S134) (by kernel_rfl) (by kernel_rfl) (by kernel_rfl) (by kernel_rfl) (by kernel_rfl) (Lf:=noL N) (noL0 N) ls_S134 trivial (N:=N) (by kernel_rfl) (fn_S134 N) (.inl (by kernel_rfl))
noncomputable def h_S155:Hint:={ tab,hn:=[(5,.k)],loops:=[],outs:=[],ords:=[],lent:=some (0,false) }
noncomputable def sg_S155:List AK:=[.v (.ptr tQLIIIE) (.o 163 (some 0) .k)]
noncomputable def F_S155 (N:Nat) (x:AVals sg_S155) (kf:Ret→Option Ret):Option Ret:=S155 N x.1 (fun r0 z=>kf ⟨[⟨tQIIIIE,.k,r0⟩],[⟨(.ptr tQLIIIE),(.o 163 (some 0) .k),z⟩]⟩)
noncomputable def run_S155 (N:Nat):=runOf sg_S155 (F_S155 N)
noncomputable def es_S155 (N:Nat):List Entry:=[⟨134,[.lend,.val],(run_S134 N)⟩,⟨137,[.lend,.val],(run_S137 N)⟩]
noncomputable def body_S155:Code:=match Tryz.f155.body with | some c=>c | none=>.skip
theorem ls_S155:loopsIn body_S155=[]:=by kernel_rfl
theorem fn_S155 (N:Nat) (x:AVals sg_S155) (kf:Ret→Option Ret):F_S155 N x kf=peFunc h_S155 (Orc.of (es_S155 N)) (noL N N) Tryz.f155 (ashape sg_S155 x) kf:=by kernel_rfl
theorem sd_S155 {Γ : Gl} (N:Nat):Sound Γ Tryz.prog 155 (run_S155 N):=fun_ok2 (hh:=h_S155) mixed tab_ok (es:=es_S155 N) ⟨sd_S134 N,⟨sd_S137 N,trivial⟩⟩ (fn:=Tryz.f155) (body:=body_S155) (by kernel_rfl) (by kernel_rfl) (by kernel_rfl) (by kernel_rfl) (by kernel_rfl) (Lf:=noL N) (noL0 N) ls_S155 trivial (N:=N) (by kernel_rfl) (fn_S155 N) (.inl (by kernel_rfl))
noncomputable def ks_S69_l5:List Kd:=[.v (.ptr tQLIIIE) (.o 163 (some 0) .k),dK,dK,.v (.sl tQIIIIE) (.o 38 none .k),.v (.int .i64) .k,dK,dK,dK,dK,dK,dK,dK,dK,dK,dK,dK,dK,dK,dK,dK,dK,dK,dK,dK,dK,dK,dK,dK,dK]
noncomputable def ko_S69_l5_0:List Kd:=[.v (.ptr tQLIIIE) (.o 163 (some 0) .k),dK,dK,.v (.sl tQIIIIE) (.o 38 none .k),dK,dK,dK,dK,dK,dK,dK,dK,dK,dK,dK,dK,dK,dK,dK,dK,dK,dK,dK,dK,dK,dK,dK,dK,dK]
noncomputable def h_S69:Hint:={ tab,hn:=[],loops:=[(5,ks_S69_l5)],outs:=[(5,2,ko_S69_l5_0)],ords:=[],lent:=some (0,false) }
noncomputable def sg_S69:List AK:=[.v (.ptr tQLIIIE) (.o 163 (some 0) .k)]
noncomputable def F_S69 (N:Nat) (x:AVals sg_S69) (kf:Ret→Option Ret):Option Ret:=S69 N x.1 (fun r0 z=>kf ⟨[⟨(.sl tQIIIIE),(.o 38 none .k),r0⟩],[⟨(.ptr tQLIIIE),(.o 163 (some 0) .k),z⟩]⟩)
noncomputable def run_S69 (N:Nat):=runOf sg_S69 (F_S69 N)
noncomputable def es_S69 (N:Nat):List Entry:=[⟨140,[.lend,.val],(run_S140 N)⟩,⟨137,[.lend,.val],(run_S137 N)⟩,⟨155,[.lend],(run_S155 N)⟩]
noncomputable def body_S69:Code:=match Tryz.f69.body with | some c=>c | none=>.skip
noncomputable def L_S69 (N n:Nat) (key:Nat) (S:St) (K:Ks):Option Ret:=bif Nat.beq key 5 then withVals ks_S69_l5 S (fun x=>S69_l5 N n (fun z0 z1=>K (.x 0) (shape ko_S69_l5_0 (z0,z1,()))) x.1 x.2.1 x.2.2.1) else none
theorem L0_S69 (N key:Nat) (S:St) (K:Ks):L_S69 N 0 key S K=none:=(bif0 (withVals0 fun _=>rfl) rfl)
noncomputable def c_S69_0:Code:=(loopsIn body_S69).getD 0 .skip
theorem ls_S69:loopsIn body_S69=[c_S69_0]:=by kernel_rfl
theorem rd_S69_5 (N n:Nat) (x:Vals ks_S69_l5) (K:Ks):L_S69 N (n + 1) 5 (shape ks_S69_l5 x) (h_S69.onOut 5 K)=peRound h_S69 (Orc.of (es_S69 N)) (mixL (L_S69 N) N n 5) c_S69_0 (shape ks_S69_l5 x) (h_S69.onOut 5 K):=by kernel_rfl
theorem fn_S69 (N:Nat) (x:AVals sg_S69) (kf:Ret→Option Ret):F_S69 N x kf=peFunc h_S69 (Orc.of (es_S69 N)) (L_S69 N N) Tryz.f69 (ashape sg_S69 x) kf:=by kernel_rfl
theorem sd_S69 {Γ : Gl} (N:Nat):Sound Γ Tryz.prog 69 (run_S69 N):=fun_ok2 (hh:=h_S69) mixed tab_ok (es:=es_S69 N) ⟨sd_S140 N,⟨sd_S137 N,⟨sd_S155 N,trivial⟩⟩⟩ (fn:=Tryz.f69) (body:=body_S69) (by kernel_rfl) (by kernel_rfl) (by kernel_rfl) (by kernel_rfl) (by kernel_rfl) (Lf:=L_S69 N) (L0_S69 N) ls_S69 (round_cons (key:=5) (ks:=ks_S69_l5) (by kernel_rfl) (by kernel_rfl) (rd_S69_5 N) trivial) (N:=N) (by kernel_rfl) (fn_S69 N) (.inl (by kernel_rfl))
noncomputable def h_S12:Hint:={ tab,hn:=[],loops:=[],outs:=[],ords:=[] }
noncomputable def sg_S12:List AK:=[.v (.sl (.int .u8)) .k]
noncomputable def F_S12 (N:Nat) (x:AVals sg_S12) (kf:Ret→Option Ret):Option Ret:=S12 N x.1 (fun r0 r1=>kf ⟨[⟨tQLQIIIIILIELQIILIELQIIELILQIIIELQIIIIEIE,(.p (.o 46 none (.p .k (.p .k (.p .k (.p .k (.p .k (.o 3 none .k))))))) (.p (.o 80 none (.p .k (.p .k (.o 3 none .k)))) (.p (.o 104 none .k) (.p (.o 3 none .k) (.p (.o 136 none .k) (.p (.o 102 none .k) .k)))))),r0⟩,⟨(.sl tQIIIIE),(.o 38 none .k),r1⟩],[]⟩)
noncomputable def run_S12 (N:Nat):=runOf sg_S12 (F_S12 N)
noncomputable def es_S12 (N:Nat):List Entry:=[⟨67,[.val],(run_S67 N)⟩,⟨68,[],(run_S68 N)⟩,⟨69,[.lend],(run_S69 N)⟩]
noncomputable def body_S12:Code:=match Tryz.f12.body with | some c=>c | none=>.skip
theorem ls_S12:loopsIn body_S12=[]:=by kernel_rfl
theorem fn_S12 (N:Nat) (x:AVals sg_S12) (kf:Ret→Option Ret):F_S12 N x kf=peFunc h_S12 (Orc.of (es_S12 N)) (noL N N) Tryz.f12 (ashape sg_S12 x) kf:=by kernel_rfl
theorem sd_S12 {Γ : Gl} (N:Nat):Sound Γ Tryz.prog 12 (run_S12 N):=fun_ok2 (hh:=h_S12) mixed tab_ok (es:=es_S12 N) ⟨sd_S67 N,⟨sd_S68 N,⟨sd_S69 N,trivial⟩⟩⟩ (fn:=Tryz.f12) (body:=body_S12) (by kernel_rfl) (by kernel_rfl) (by kernel_rfl) (by kernel_rfl) (by kernel_rfl) (Lf:=noL N) (noL0 N) ls_S12 trivial (N:=N) (by kernel_rfl) (fn_S12 N) (.inl (by kernel_rfl))
noncomputable def h_S166:Hint:={ tab,hn:=[],loops:=[],outs:=[],ords:=[] }
noncomputable def sg_S166:List AK:=[.v (.sl (.int .i64)) .k]
noncomputable def F_S166 (N:Nat) (x:AVals sg_S166) (kf:Ret→Option Ret):Option Ret:=S166 N x.1 (fun r0=>kf ⟨[⟨(.sl (.int .i64)),(.o 3 none .k),r0⟩],[]⟩)
noncomputable def run_S166 (N:Nat):=runOf sg_S166 (F_S166 N)
noncomputable def es_S166 (N:Nat):List Entry:=[]
noncomputable def body_S166:Code:=match Tryz.f166.body with | some c=>c | none=>.skip
theorem ls_S166:loopsIn body_S166=[]:=by kernel_rfl
theorem fn_S166 (N:Nat) (x:AVals sg_S166) (kf:Ret→Option Ret):F_S166 N x kf=peFunc h_S166 (Orc.of (es_S166 N)) (noL N N) Tryz.f166 (ashape sg_S166 x) kf:=by kernel_rfl
theorem det_S166 (N:Nat) (x:AVals sg_S166):Det (F_S166 N x):=by
 obtain ⟨l,u⟩:=x
 unfold F_S166 S166
 cases l with
 | nil=>exact ⟨some _,fun K=>both_self _⟩
 | cons a l =>
  simp only [List.isEmpty_cons,cond_false]
  exact Det.bif _ (Det.pure _) Det.none
theorem sd_S166 {Γ : Gl} (N:Nat):Sound Γ Tryz.prog 166 (run_S166 N):=fun_ok2 (hh:=h_S166) mixed tab_ok (es:=es_S166 N) trivial (fn:=Tryz.f166) (body:=body_S166) (by kernel_rfl) (by kernel_rfl) (by kernel_rfl) (by kernel_rfl) (by kernel_rfl) (Lf:=noL N) (noL0 N) ls_S166 trivial (N:=N) (by kernel_rfl) (fn_S166 N) (.inr (det_S166 N))
noncomputable def ks_I163_l3:List Kd:=[dK,dK,dK,.v (.sl tQIIIIILIE) (.o 46 none (.p .k (.p .k (.p .k (.p .k (.p .k (.o 3 none .k))))))),dK,dK,dK,.v (.sl tQIIIIILIE) .k,.v (.int .i64) .k,.v (.int .i64) .k,dK,dK,dK,dK,dK,dK,dK,dK,dK,dK,dK,dK,dK]
noncomputable def ko_I163_l3_0:List Kd:=[dK,dK,dK,.v (.sl tQIIIIILIE) (.o 46 none (.p .k (.p .k (.p .k (.p .k (.p .k (.o 3 none .k))))))),dK,dK,dK,dK,dK,dK,dK,dK,dK,dK,dK,dK,dK,dK,dK,dK,dK,dK,dK]
noncomputable def h_I163:Hint:={ tab,hn:=[(6,(.p .k (.p .k (.p .k (.p .k (.p .k (.o 3 none .k)))))))],loops:=[(3,ks_I163_l3)],outs:=[(3,2,ko_I163_l3_0)],ords:=[] }
noncomputable def sg_I163:List AK:=[.v (.sl tQIIIIILIE) .k]
noncomputable def F_I163 (N:Nat) (x:AVals sg_I163) (kf:Ret→Option Ret):Option Ret:=I163 N x.1 (fun r0=>kf ⟨[⟨(.sl tQIIIIILIE),(.o 46 none (.p .k (.p .k (.p .k (.p .k (.p .k (.o 3 none .k))))))),r0⟩],[]⟩)
noncomputable def run_I163 (N:Nat):=runOf sg_I163 (F_I163 N)
noncomputable def es_I163 (N:Nat):List Entry:=[⟨166,[.val],(run_S166 N)⟩]
noncomputable def body_I163:Code:=match Tryz.f163.body with | some c=>c | none=>.skip
noncomputable def L_I163 (N n:Nat) (key:Nat) (S:St) (K:Ks):Option Ret:=bif Nat.beq key 3 then withVals ks_I163_l3 S (fun x=>I163_l3 N x.2.1 x.2.2.1 n (fun z0=>K (.x 0) (shape ko_I163_l3_0 (z0,()))) x.1 x.2.2.2.1) else none
theorem L0_I163 (N key:Nat) (S:St) (K:Ks):L_I163 N 0 key S K=none:=(bif0 (withVals0 fun _=>rfl) rfl)
noncomputable def c_I163_0:Code:=(loopsIn body_I163).getD 0 .skip
theorem ls_I163:loopsIn body_I163=[c_I163_0]:=by kernel_rfl
theorem rd_I163_3 (N n:Nat) (x:Vals ks_I163_l3) (K:Ks):L_I163 N (n + 1) 3 (shape ks_I163_l3 x) (h_I163.onOut 3 K)=peRound h_I163 (Orc.of (es_I163 N)) (mixL (L_I163 N) N n 3) c_I163_0 (shape ks_I163_l3 x) (h_I163.onOut 3 K):=by kernel_rfl
theorem fn_I163 (N:Nat) (x:AVals sg_I163) (kf:Ret→Option Ret):F_I163 N x kf=peFunc h_I163 (Orc.of (es_I163 N)) (L_I163 N N) Tryz.f163 (ashape sg_I163 x) kf:=by kernel_rfl
theorem sd_I163 {Γ : Gl} (N:Nat):Sound Γ Tryz.prog 163 (run_I163 N):=fun_ok2 (hh:=h_I163) mixed tab_ok (es:=es_I163 N) ⟨sd_S166 N,trivial⟩ (fn:=Tryz.f163) (body:=body_I163) (by kernel_rfl) (by kernel_rfl) (by kernel_rfl) (by kernel_rfl) (by kernel_rfl) (Lf:=L_I163 N) (L0_I163 N) ls_I163 (round_cons (key:=3) (ks:=ks_I163_l3) (by kernel_rfl) (by kernel_rfl) (rd_I163_3 N) trivial) (N:=N) (by kernel_rfl) (fn_I163 N) (.inl (by kernel_rfl))
noncomputable def ks_I164_l3:List Kd:=[dK,dK,dK,.v (.sl tQIILIE) (.o 80 none (.p .k (.p .k (.o 3 none .k)))),dK,dK,dK,.v (.sl tQIILIE) .k,.v (.int .i64) .k,.v (.int .i64) .k,dK,dK,dK,dK,dK,dK,dK,dK,dK,dK,dK,dK,dK]
noncomputable def ko_I164_l3_0:List Kd:=[dK,dK,dK,.v (.sl tQIILIE) (.o 80 none (.p .k (.p .k (.o 3 none .k)))),dK,dK,dK,dK,dK,dK,dK,dK,dK,dK,dK,dK,dK,dK,dK,dK,dK,dK,dK]
noncomputable def h_I164:Hint:={ tab,hn:=[(6,(.p .k (.p .k (.o 3 none .k))))],loops:=[(3,ks_I164_l3)],outs:=[(3,2,ko_I164_l3_0)],ords:=[] }
noncomputable def sg_I164:List AK:=[.v (.sl tQIILIE) .k]
noncomputable def F_I164 (N:Nat) (x:AVals sg_I164) (kf:Ret→Option Ret):Option Ret:=I164 N x.1 (fun r0=>kf ⟨[⟨(.sl tQIILIE),(.o 80 none (.p .k (.p .k (.o 3 none .k)))),r0⟩],[]⟩)
noncomputable def run_I164 (N:Nat):=runOf sg_I164 (F_I164 N)
noncomputable def es_I164 (N:Nat):List Entry:=[⟨166,[.val],(run_S166 N)⟩]
noncomputable def body_I164:Code:=match Tryz.f164.body with | some c=>c | none=>.skip
noncomputable def L_I164 (N n:Nat) (key:Nat) (S:St) (K:Ks):Option Ret:=bif Nat.beq key 3 then withVals ks_I164_l3 S (fun x=>I164_l3 N x.2.1 x.2.2.1 n (fun z0=>K (.x 0) (shape ko_I164_l3_0 (z0,()))) x.1 x.2.2.2.1) else none
theorem L0_I164 (N key:Nat) (S:St) (K:Ks):L_I164 N 0 key S K=none:=(bif0 (withVals0 fun _=>rfl) rfl)
noncomputable def c_I164_0:Code:=(loopsIn body_I164).getD 0 .skip
theorem ls_I164:loopsIn body_I164=[c_I164_0]:=by kernel_rfl
theorem rd_I164_3 (N n:Nat) (x:Vals ks_I164_l3) (K:Ks):L_I164 N (n + 1) 3 (shape ks_I164_l3 x) (h_I164.onOut 3 K)=peRound h_I164 (Orc.of (es_I164 N)) (mixL (L_I164 N) N n 3) c_I164_0 (shape ks_I164_l3 x) (h_I164.onOut 3 K):=by kernel_rfl
theorem fn_I164 (N:Nat) (x:AVals sg_I164) (kf:Ret→Option Ret):F_I164 N x kf=peFunc h_I164 (Orc.of (es_I164 N)) (L_I164 N N) Tryz.f164 (ashape sg_I164 x) kf:=by kernel_rfl
theorem sd_I164 {Γ : Gl} (N:Nat):Sound Γ Tryz.prog 164 (run_I164 N):=fun_ok2 (hh:=h_I164) mixed tab_ok (es:=es_I164 N) ⟨sd_S166 N,trivial⟩ (fn:=Tryz.f164) (body:=body_I164) (by kernel_rfl) (by kernel_rfl) (by kernel_rfl) (by kernel_rfl) (by kernel_rfl) (Lf:=L_I164 N) (L0_I164 N) ls_I164 (round_cons (key:=3) (ks:=ks_I164_l3) (by kernel_rfl) (by kernel_rfl) (rd_I164_3 N) trivial) (N:=N) (by kernel_rfl) (fn_I164 N) (.inl (by kernel_rfl))
noncomputable def h_S165:Hint:={ tab,hn:=[],loops:=[],outs:=[],ords:=[] }
noncomputable def sg_S165:List AK:=[.v (.sl tQIIE) .k]
noncomputable def F_S165 (N:Nat) (x:AVals sg_S165) (kf:Ret→Option Ret):Option Ret:=S165 N x.1 (fun r0=>kf ⟨[⟨(.sl tQIIE),(.o 104 none .k),r0⟩],[]⟩)
noncomputable def run_S165 (N:Nat):=runOf sg_S165 (F_S165 N)
noncomputable def es_S165 (N:Nat):List Entry:=[]
noncomputable def body_S165:Code:=match Tryz.f165.body with | some c=>c | none=>.skip
theorem ls_S165:loopsIn body_S165=[]:=by kernel_rfl
theorem fn_S165 (N:Nat) (x:AVals sg_S165) (kf:Ret→Option Ret):F_S165 N x kf=peFunc h_S165 (Orc.of (es_S165 N)) (noL N N) Tryz.f165 (ashape sg_S165 x) kf:=by kernel_rfl
theorem det_S165 (N:Nat) (x:AVals sg_S165):Det (F_S165 N x):=by
 obtain ⟨l,u⟩:=x
 unfold F_S165 S165
 cases l with
 | nil=>exact ⟨some _,fun K=>both_self _⟩
 | cons a l =>
  simp only [List.isEmpty_cons,cond_false]
  exact Det.bif _ (Det.pure _) Det.none
theorem sd_S165 {Γ : Gl} (N:Nat):Sound Γ Tryz.prog 165 (run_S165 N):=fun_ok2 (hh:=h_S165) mixed tab_ok (es:=es_S165 N) trivial (fn:=Tryz.f165) (body:=body_S165) (by kernel_rfl) (by kernel_rfl) (by kernel_rfl) (by kernel_rfl) (by kernel_rfl) (Lf:=noL N) (noL0 N) ls_S165 trivial (N:=N) (by kernel_rfl) (fn_S165 N) (.inr (det_S165 N))
noncomputable def h_S167:Hint:={ tab,hn:=[],loops:=[],outs:=[],ords:=[] }
noncomputable def sg_S167:List AK:=[.v (.sl tQIIIE) .k]
noncomputable def F_S167 (N:Nat) (x:AVals sg_S167) (kf:Ret→Option Ret):Option Ret:=S167 N x.1 (fun r0=>kf ⟨[⟨(.sl tQIIIE),(.o 136 none .k),r0⟩],[]⟩)
noncomputable def run_S167 (N:Nat):=runOf sg_S167 (F_S167 N)
noncomputable def es_S167 (N:Nat):List Entry:=[]
noncomputable def body_S167:Code:=match Tryz.f167.body with | some c=>c | none=>.skip
theorem ls_S167:loopsIn body_S167=[]:=by kernel_rfl
theorem fn_S167 (N:Nat) (x:AVals sg_S167) (kf:Ret→Option Ret):F_S167 N x kf=peFunc h_S167 (Orc.of (es_S167 N)) (noL N N) Tryz.f167 (ashape sg_S167 x) kf:=by kernel_rfl
theorem det_S167 (N:Nat) (x:AVals sg_S167):Det (F_S167 N x):=by
 obtain ⟨l,u⟩:=x
 unfold F_S167 S167
 cases l with
 | nil=>exact ⟨some _,fun K=>both_self _⟩
 | cons a l =>
  simp only [List.isEmpty_cons,cond_false]
  exact Det.bif _ (Det.pure _) Det.none
theorem sd_S167 {Γ : Gl} (N:Nat):Sound Γ Tryz.prog 167 (run_S167 N):=fun_ok2 (hh:=h_S167) mixed tab_ok (es:=es_S167 N) trivial (fn:=Tryz.f167) (body:=body_S167) (by kernel_rfl) (by kernel_rfl) (by kernel_rfl) (by kernel_rfl) (by kernel_rfl) (Lf:=noL N) (noL0 N) ls_S167 trivial (N:=N) (by kernel_rfl) (fn_S167 N) (.inr (det_S167 N))
noncomputable def h_S168:Hint:={ tab,hn:=[],loops:=[],outs:=[],ords:=[] }
noncomputable def sg_S168:List AK:=[.v (.sl tQIIIIE) .k]
noncomputable def F_S168 (N:Nat) (x:AVals sg_S168) (kf:Ret→Option Ret):Option Ret:=S168 N x.1 (fun r0=>kf ⟨[⟨(.sl tQIIIIE),(.o 102 none .k),r0⟩],[]⟩)
noncomputable def run_S168 (N:Nat):=runOf sg_S168 (F_S168 N)
noncomputable def es_S168 (N:Nat):List Entry:=[]
noncomputable def body_S168:Code:=match Tryz.f168.body with | some c=>c | none=>.skip
theorem ls_S168:loopsIn body_S168=[]:=by kernel_rfl
theorem fn_S168 (N:Nat) (x:AVals sg_S168) (kf:Ret→Option Ret):F_S168 N x kf=peFunc h_S168 (Orc.of (es_S168 N)) (noL N N) Tryz.f168 (ashape sg_S168 x) kf:=by kernel_rfl
theorem det_S168 (N:Nat) (x:AVals sg_S168):Det (F_S168 N x):=by
 obtain ⟨l,u⟩:=x
 unfold F_S168 S168
 cases l with
 | nil=>exact ⟨some _,fun K=>both_self _⟩
 | cons a l =>
  simp only [List.isEmpty_cons,cond_false]
  exact Det.bif _ (Det.pure _) Det.none
theorem sd_S168 {Γ : Gl} (N:Nat):Sound Γ Tryz.prog 168 (run_S168 N):=fun_ok2 (hh:=h_S168) mixed tab_ok (es:=es_S168 N) trivial (fn:=Tryz.f168) (body:=body_S168) (by kernel_rfl) (by kernel_rfl) (by kernel_rfl) (by kernel_rfl) (by kernel_rfl) (Lf:=noL N) (noL0 N) ls_S168 trivial (N:=N) (by kernel_rfl) (fn_S168 N) (.inr (det_S168 N))
noncomputable def h_I70:Hint:={ tab,hn:=[],loops:=[],outs:=[],ords:=[(1,(OT.seq [0,1,3,4,2,6,5,7,8,9] .done)),(2,(OT.seq [0,1,3,4,6,7,9,10,2,12,5,8,11,13,14,15,16,17,18,19] .done))] }
noncomputable def sg_I70:List AK:=[.v tQLQIIIIILIELQIILIELQIIELILQIIIELQIIIIEIE .k]
noncomputable def F_I70 (N:Nat) (x:AVals sg_I70) (kf:Ret→Option Ret):Option Ret:=I70 N x.1 (fun r0=>kf ⟨[⟨tQLQIIIIILIELQIILIELQIIELILQIIIELQIIIIEIE,(.p (.o 46 none (.p .k (.p .k (.p .k (.p .k (.p .k (.o 3 none .k))))))) (.p (.o 80 none (.p .k (.p .k (.o 3 none .k)))) (.p (.o 104 none .k) (.p (.o 3 none .k) (.p (.o 136 none .k) (.p (.o 102 none .k) .k)))))),r0⟩],[]⟩)
noncomputable def run_I70 (N:Nat):=runOf sg_I70 (F_I70 N)
noncomputable def es_I70 (N:Nat):List Entry:=[⟨163,[.val],(run_I163 N)⟩,⟨164,[.val],(run_I164 N)⟩,⟨165,[.val],(run_S165 N)⟩,⟨166,[.val],(run_S166 N)⟩,⟨167,[.val],(run_S167 N)⟩,⟨168,[.val],(run_S168 N)⟩]
noncomputable def body_I70:Code:=match Tryz.f70.body with | some c=>c | none=>.skip
theorem ls_I70:loopsIn body_I70=[]:=by kernel_rfl
theorem fn_I70 (N:Nat) (x:AVals sg_I70) (kf:Ret→Option Ret):F_I70 N x kf=peFunc h_I70 (Orc.of (es_I70 N)) (noL N N) Tryz.f70 (ashape sg_I70 x) kf:=by kernel_rfl
theorem sd_I70 {Γ : Gl} (N:Nat):Sound Γ Tryz.prog 70 (run_I70 N):=fun_ok2 (hh:=h_I70) mixed tab_ok (es:=es_I70 N) ⟨sd_I163 N,⟨sd_I164 N,⟨sd_S165 N,⟨sd_S166 N,⟨sd_S167 N,⟨sd_S168 N,trivial⟩⟩⟩⟩⟩⟩ (fn:=Tryz.f70) (body:=body_I70) (by kernel_rfl) (by kernel_rfl) (by kernel_rfl) (by kernel_rfl) (by kernel_rfl) (Lf:=noL N) (noL0 N) ls_I70 trivial (N:=N) (by kernel_rfl) (fn_I70 N) (.inl (by kernel_rfl))
noncomputable def h_I147:Hint:={ tab,hn:=[],loops:=[],outs:=[],ords:=[] }
noncomputable def sg_I147:List AK:=[.v tQIIIIILIE .k,.v (.ptr (.int .i64)) .k]
noncomputable def F_I147 (N:Nat) (x:AVals sg_I147) (kf:Ret→Option Ret):Option Ret:=I147 N x.1 x.2.1 (fun r0=>kf ⟨[⟨.bool,.k,r0⟩],[]⟩)
noncomputable def run_I147 (N:Nat):=runOf sg_I147 (F_I147 N)
noncomputable def es_I147 (N:Nat):List Entry:=[]
noncomputable def body_I147:Code:=match Tryz.f147.body with | some c=>c | none=>.skip
theorem ls_I147:loopsIn body_I147=[]:=by kernel_rfl
theorem fn_I147 (N:Nat) (x:AVals sg_I147) (kf:Ret→Option Ret):F_I147 N x kf=peFunc h_I147 (Orc.of (es_I147 N)) (noL N N) Tryz.f147 (ashape sg_I147 x) kf:=by kernel_rfl
theorem sd_I147 {Γ : Gl} (N:Nat):Sound Γ Tryz.prog 147 (run_I147 N):=fun_ok2 (hh:=h_I147) mixed tab_ok (es:=es_I147 N) trivial (fn:=Tryz.f147) (body:=body_I147) (by kernel_rfl) (by kernel_rfl) (by kernel_rfl) (by kernel_rfl) (by kernel_rfl) (Lf:=noL N) (noL0 N) ls_I147 trivial (N:=N) (by kernel_rfl) (fn_I147 N) (.inl (by kernel_rfl))
noncomputable def ks_S146_l2:List Kd:=[.v (.sl tQIIIIILIE) .k,.clo 147 [.kv (.ptr (.int .i64))],dK,dK,dK,dK,dK,.v (.int .i64) .k,.v (.int .i64) .k,dK,dK,dK,dK,dK,dK,dK,dK,dK,dK]
noncomputable def ko_S146_l2_0:List Kd:=[dK,dK,dK,dK,dK,dK,dK,dK,dK,dK,dK,dK,dK,dK,dK,dK,dK,dK,dK]
noncomputable def ko_S146_l2_1:List Kd:=[dK,dK,dK,dK,.v (.int .i64) .k,dK,dK,dK,dK,dK,dK,dK,dK,dK,dK,dK,dK,dK,dK]
noncomputable def h_S146:Hint:={ tab,hn:=[],loops:=[(2,ks_S146_l2)],outs:=[(2,2,ko_S146_l2_0),(2,1,ko_S146_l2_1)],ords:=[] }
noncomputable def sg_S146:List AK:=[.v (.sl tQIIIIILIE) .k,.fn 147 [(.ptr (.int .i64))]]
noncomputable def F_S146 (N:Nat) (x:AVals sg_S146) (kf:Ret→Option Ret):Option Ret:=S146 N x.1 x.2.1.1 (fun r0=>kf ⟨[⟨(.int .i64),.k,r0⟩],[]⟩)
noncomputable def run_S146 (N:Nat):=runOf sg_S146 (F_S146 N)
noncomputable def es_S146 (N:Nat):List Entry:=[⟨147,[.val],(run_I147 N)⟩]
noncomputable def body_S146:Code:=match Tryz.f146.body with | some c=>c | none=>.skip
noncomputable def L_S146 (N n:Nat) (key:Nat) (S:St) (K:Ks):Option Ret:=bif Nat.beq key 2 then withVals ks_S146_l2 S (fun x=>S146_l2 N x.1 x.2.1.1 x.2.2.1 n (K (.x 0) (shape ko_S146_l2_0 ())) (fun z0=>K .r (shape ko_S146_l2_1 (z0,()))) x.2.2.2.1) else none
theorem L0_S146 (N key:Nat) (S:St) (K:Ks):L_S146 N 0 key S K=none:=(bif0 (withVals0 fun _=>rfl) rfl)
noncomputable def c_S146_0:Code:=(loopsIn body_S146).getD 0 .skip
theorem ls_S146:loopsIn body_S146=[c_S146_0]:=by kernel_rfl
theorem rd_S146_2 (N n:Nat) (x:Vals ks_S146_l2) (K:Ks):L_S146 N (n + 1) 2 (shape ks_S146_l2 x) (h_S146.onOut 2 K)=peRound h_S146 (Orc.of (es_S146 N)) (mixL (L_S146 N) N n 2) c_S146_0 (shape ks_S146_l2 x) (h_S146.onOut 2 K):=by kernel_rfl
theorem fn_S146 (N:Nat) (x:AVals sg_S146) (kf:Ret→Option Ret):F_S146 N x kf=peFunc h_S146 (Orc.of (es_S146 N)) (L_S146 N N) Tryz.f146 (ashape sg_S146 x) kf:=by kernel_rfl
theorem sd_S146 {Γ : Gl} (N:Nat):Sound Γ Tryz.prog 146 (run_S146 N):=fun_ok2 (hh:=h_S146) mixed tab_ok (es:=es_S146 N) ⟨sd_I147 N,trivial⟩ (fn:=Tryz.f146) (body:=body_S146) (by kernel_rfl) (by kernel_rfl) (by kernel_rfl) (by kernel_rfl) (by kernel_rfl) (Lf:=L_S146 N) (L0_S146 N) ls_S146 (round_cons (key:=2) (ks:=ks_S146_l2) (by kernel_rfl) (by kernel_rfl) (rd_S146_2 N) trivial) (N:=N) (by kernel_rfl) (fn_S146 N) (.inl (by kernel_rfl))
noncomputable def h_I40:Hint:={ tab,hn:=[],loops:=[],outs:=[],ords:=[] }
noncomputable def sg_I40:List AK:=[.v (.sl tQIIIIILIE) .k,.v (.int .i64) .k]
noncomputable def F_I40 (N:Nat) (x:AVals sg_I40) (kf:Ret→Option Ret):Option Ret:=I40 N x.1 x.2.1 (fun r0=>kf ⟨[⟨(.int .i64),.k,r0⟩],[]⟩)
noncomputable def run_I40 (N:Nat):=runOf sg_I40 (F_I40 N)
noncomputable def es_I40 (N:Nat):List Entry:=[⟨146,[.val,.val],(run_S146 N)⟩]
noncomputable def body_I40:Code:=match Tryz.f40.body with | some c=>c | none=>.skip
theorem ls_I40:loopsIn body_I40=[]:=by kernel_rfl
theorem fn_I40 (N:Nat) (x:AVals sg_I40) (kf:Ret→Option Ret):F_I40 N x kf=peFunc h_I40 (Orc.of (es_I40 N)) (noL N N) Tryz.f40 (ashape sg_I40 x) kf:=by kernel_rfl
theorem sd_I40 {Γ : Gl} (N:Nat):Sound Γ Tryz.prog 40 (run_I40 N):=fun_ok2 (hh:=h_I40) mixed tab_ok (es:=es_I40 N) ⟨sd_S146 N,trivial⟩ (fn:=Tryz.f40) (body:=body_I40) (by kernel_rfl) (by kernel_rfl) (by kernel_rfl) (by kernel_rfl) (by kernel_rfl) (Lf:=noL N) (noL0 N) ls_I40 trivial (N:=N) (by kernel_rfl) (fn_I40 N) (.inl (by kernel_rfl))
noncomputable def h_I16:Hint:={ tab,hn:=[],loops:=[],outs:=[],ords:=[] }
noncomputable def sg_I16:List AK:=[.v tQLQIIIIILIELQIILIELQIIELILQIIIELQIIIIEIE .k]
noncomputable def F_I16 (N:Nat) (x:AVals sg_I16) (kf:Ret→Option Ret):Option Ret:=I16 N x.1 (fun r0=>kf ⟨[⟨.bool,.k,r0⟩],[]⟩)
noncomputable def run_I16 (N:Nat):=runOf sg_I16 (F_I16 N)
noncomputable def es_I16 (N:Nat):List Entry:=[]
noncomputable def body_I16:Code:=match Tryz.f16.body with | some c=>c | none=>.skip
theorem ls_I16:loopsIn body_I16=[]:=by kernel_rfl
theorem fn_I16 (N:Nat) (x:AVals sg_I16) (kf:Ret→Option Ret):F_I16 N x kf=peFunc h_I16 (Orc.of (es_I16 N)) (noL N N) Tryz.f16 (ashape sg_I16 x) kf:=by kernel_rfl
theorem sd_I16 {Γ : Gl} (N:Nat):Sound Γ Tryz.prog 16 (run_I16 N):=fun_ok2 (hh:=h_I16) mixed tab_ok (es:=es_I16 N) trivial (fn:=Tryz.f16) (body:=body_I16) (by kernel_rfl) (by kernel_rfl) (by kernel_rfl) (by kernel_rfl) (by kernel_rfl) (Lf:=noL N) (noL0 N) ls_I16 trivial (N:=N) (by kernel_rfl) (fn_I16 N) (.inl (by kernel_rfl))
def ren_S135:Go.Shelf.Ren:=⟨fun n=>bif Nat.beq n 22 then 135 else bif Nat.beq n 29 then 212 else bif Nat.beq n 30 then 213 else n,fun n=>bif Nat.beq n 0 then 0 else bif Nat.beq n 3 then 3 else bif Nat.beq n 4 then 4 else bif Nat.beq n 9 then 46 else bif Nat.beq n 24 then 24 else n,fun n=>n⟩
def zs_S135:Array Value:=#[.int .i64 0,.int .i64 0,.int .i64 0,.int .i64 0,.int .i64 0,.slice none 0 0]
noncomputable def ti_S135:TypeInfo:=(Tryz.prog.info? 46).get (by kernel_rfl)
theorem ins_S135:InsOK Tryz.prog ren_S135 (Ty.size tQIIIIILIE) zs_S135 ti_S135:={ FB:=⟨Tryz.f135.name,by kernel_rfl,by kernel_rfl⟩,FO:=⟨Tryz.f212,by kernel_rfl,by kernel_rfl,by kernel_rfl,by kernel_rfl,by kernel_rfl⟩,mixed:=by kernel_rfl,t0:=by kernel_rfl,a0:=fun w=>by kernel_rfl,z0:=fun w=>by kernel_rfl,v0:=fun w=>by kernel_rfl,t3:=by kernel_rfl,a3:=fun w=>by kernel_rfl,z3:=fun w=>by kernel_rfl,v3:=fun w=>by kernel_rfl,t4:=by kernel_rfl,a4:=fun w=>by kernel_rfl,z4:=fun w=>by kernel_rfl,v4:=fun w=>by kernel_rfl,t24:=by kernel_rfl,a24:=fun w=>by kernel_rfl,z24:=fun w=>by kernel_rfl,v24:=fun w=>by kernel_rfl,z9:=fun w=>by kernel_rfl,hz:=by kernel_rfl,hzo:=by kernel_rfl,hi0:=by kernel_rfl,hz0:=by kernel_rfl,hz1:=by kernel_rfl,hby:=Nat.le_of_ble_eq_true (by kernel_rfl),hpos:=Nat.le_of_ble_eq_true (by kernel_rfl) }
noncomputable def sg_S135:List AK:=[.v (.sl tQIIIIILIE) (.o 46 none (.p .k (.p .k (.p .k (.p .k (.p .k (.o 3 none .k))))))),.v (.int .i64) .k,.v (.sl tQIIIIILIE) (.o 46 none (.p .k (.p .k (.p .k (.p .k (.p .k (.o 3 none .k)))))))]
noncomputable def F_S135 (N:Nat) (x:AVals sg_S135) (kf:Ret→Option Ret):Option Ret:=S135 N x.1 x.2.1 x.2.2.1 (fun r0=>kf ⟨[⟨(.sl tQIIIIILIE),(.o 46 none (.p .k (.p .k (.p .k (.p .k (.p .k (.o 3 none .k))))))),r0⟩],[]⟩)
noncomputable def run_S135 (N:Nat):=runOf sg_S135 (F_S135 N)
theorem sd_S135 {Γ : Gl} (N:Nat):Sound Γ Tryz.prog 135 (run_S135 N):=sound_insert ins_S135 (.p .k (.p .k (.p .k (.p .k (.p .k (.o 3 none .k)))))) (by kernel_rfl)
noncomputable def h_I234:Hint:={ tab,hn:=[],loops:=[],outs:=[],ords:=[] }
noncomputable def sg_I234:List AK:=[.v (.sl tQIIIIE) .k]
noncomputable def F_I234 (N:Nat) (x:AVals sg_I234) (kf:Ret→Option Ret):Option Ret:=I234 N x.1 (fun r0=>kf ⟨[⟨(.int .i64),.k,r0⟩],[]⟩)
noncomputable def run_I234 (N:Nat):=runOf sg_I234 (F_I234 N)
noncomputable def es_I234 (N:Nat):List Entry:=[]
noncomputable def body_I234:Code:=match Tryz.f234.body with | some c=>c | none=>.skip
theorem ls_I234:loopsIn body_I234=[]:=by kernel_rfl
theorem fn_I234 (N:Nat) (x:AVals sg_I234) (kf:Ret→Option Ret):F_I234 N x kf=peFunc h_I234 (Orc.of (es_I234 N)) (noL N N) Tryz.f234 (ashape sg_I234 x) kf:=by kernel_rfl
theorem sd_I234 {Γ : Gl} (N:Nat):Sound Γ Tryz.prog 234 (run_I234 N):=fun_ok2 (hh:=h_I234) mixed tab_ok (es:=es_I234 N) trivial (fn:=Tryz.f234) (body:=body_I234) (by kernel_rfl) (by kernel_rfl) (by kernel_rfl) (by kernel_rfl) (by kernel_rfl) (Lf:=noL N) (noL0 N) ls_I234 trivial (N:=N) (by kernel_rfl) (fn_I234 N) (.inl (by kernel_rfl))
noncomputable def h_I144:Hint:={ tab,hn:=[],loops:=[],outs:=[],ords:=[] }
noncomputable def sg_I144:List AK:=[.v (.int .i64) .k,.v (.int .i64) .k,.v (.int .i64) .k]
noncomputable def F_I144 (N:Nat) (x:AVals sg_I144) (kf:Ret→Option Ret):Option Ret:=I144 N x.1 x.2.1 x.2.2.1 (fun r0=>kf ⟨[⟨.bool,.k,r0⟩],[]⟩)
noncomputable def run_I144 (N:Nat):=runOf sg_I144 (F_I144 N)
noncomputable def es_I144 (N:Nat):List Entry:=[]
noncomputable def body_I144:Code:=match Tryz.f144.body with | some c=>c | none=>.skip
theorem ls_I144:loopsIn body_I144=[]:=by kernel_rfl
theorem fn_I144 (N:Nat) (x:AVals sg_I144) (kf:Ret→Option Ret):F_I144 N x kf=peFunc h_I144 (Orc.of (es_I144 N)) (noL N N) Tryz.f144 (ashape sg_I144 x) kf:=by kernel_rfl
theorem sd_I144 {Γ : Gl} (N:Nat):Sound Γ Tryz.prog 144 (run_I144 N):=fun_ok2 (hh:=h_I144) mixed tab_ok (es:=es_I144 N) trivial (fn:=Tryz.f144) (body:=body_I144) (by kernel_rfl) (by kernel_rfl) (by kernel_rfl) (by kernel_rfl) (by kernel_rfl) (Lf:=noL N) (noL0 N) ls_I144 trivial (N:=N) (by kernel_rfl) (fn_I144 N) (.inl (by kernel_rfl))
noncomputable def h_I262:Hint:={ tab,hn:=[],loops:=[],outs:=[],ords:=[] }
noncomputable def sg_I262:List AK:=[.v (.int .i64) .k,.v (.int .i64) .k]
noncomputable def F_I262 (N:Nat) (x:AVals sg_I262) (kf:Ret→Option Ret):Option Ret:=I262 N x.1 x.2.1 (fun r0=>kf ⟨[⟨(.int .i64),.k,r0⟩],[]⟩)
noncomputable def run_I262 (N:Nat):=runOf sg_I262 (F_I262 N)
noncomputable def es_I262 (N:Nat):List Entry:=[⟨144,[.val,.val,.val],(run_I144 N)⟩]
noncomputable def body_I262:Code:=match Tryz.f262.body with | some c=>c | none=>.skip
theorem ls_I262:loopsIn body_I262=[]:=by kernel_rfl
theorem fn_I262 (N:Nat) (x:AVals sg_I262) (kf:Ret→Option Ret):F_I262 N x kf=peFunc h_I262 (Orc.of (es_I262 N)) (noL N N) Tryz.f262 (ashape sg_I262 x) kf:=by kernel_rfl
theorem sd_I262 {Γ : Gl} (N:Nat):Sound Γ Tryz.prog 262 (run_I262 N):=fun_ok2 (hh:=h_I262) mixed tab_ok (es:=es_I262 N) ⟨sd_I144 N,trivial⟩ (fn:=Tryz.f262) (body:=body_I262) (by kernel_rfl) (by kernel_rfl) (by kernel_rfl) (by kernel_rfl) (by kernel_rfl) (Lf:=noL N) (noL0 N) ls_I262 trivial (N:=N) (by kernel_rfl) (fn_I262 N) (.inl (by kernel_rfl))
noncomputable def h_I249:Hint:={ tab,hn:=[],loops:=[],outs:=[],ords:=[] }
noncomputable def sg_I249:List AK:=[.v (.int .i64) .k,.v (.int .i64) .k]
noncomputable def F_I249 (N:Nat) (x:AVals sg_I249) (kf:Ret→Option Ret):Option Ret:=I249 N x.1 x.2.1 (fun r0=>kf ⟨[⟨(.int .i64),.k,r0⟩],[]⟩)
noncomputable def run_I249 (N:Nat):=runOf sg_I249 (F_I249 N)
noncomputable def es_I249 (N:Nat):List Entry:=[⟨262,[.val,.val],(run_I262 N)⟩]
noncomputable def body_I249:Code:=match Tryz.f249.body with | some c=>c | none=>.skip
theorem ls_I249:loopsIn body_I249=[]:=by kernel_rfl
theorem fn_I249 (N:Nat) (x:AVals sg_I249) (kf:Ret→Option Ret):F_I249 N x kf=peFunc h_I249 (Orc.of (es_I249 N)) (noL N N) Tryz.f249 (ashape sg_I249 x) kf:=by kernel_rfl
theorem sd_I249 {Γ : Gl} (N:Nat):Sound Γ Tryz.prog 249 (run_I249 N):=fun_ok2 (hh:=h_I249) mixed tab_ok (es:=es_I249 N) ⟨sd_I262 N,trivial⟩ (fn:=Tryz.f249) (body:=body_I249) (by kernel_rfl) (by kernel_rfl) (by kernel_rfl) (by kernel_rfl) (by kernel_rfl) (Lf:=noL N) (noL0 N) ls_I249 trivial (N:=N) (by kernel_rfl) (fn_I249 N) (.inl (by kernel_rfl))
noncomputable def ks_I219_l3:List Kd:=[dK,dK,dK,.v (.int .i64) .k,dK,dK,.v (.sl (.int .i64)) .k,.v (.int .i64) .k,.v (.int .i64) .k,dK,dK,dK,dK,dK,dK,dK,dK]
noncomputable def ko_I219_l3_0:List Kd:=[dK,dK,dK,.v (.int .i64) .k,dK,dK,dK,dK,dK,dK,dK,dK,dK,dK,dK,dK,dK]
noncomputable def h_I219:Hint:={ tab,hn:=[],loops:=[(3,ks_I219_l3)],outs:=[(3,2,ko_I219_l3_0)],ords:=[] }
noncomputable def sg_I219:List AK:=[.v (.sl (.int .i64)) .k]
noncomputable def F_I219 (N:Nat) (x:AVals sg_I219) (kf:Ret→Option Ret):Option Ret:=I219 N x.1 (fun r0=>kf ⟨[⟨(.int .i64),.k,r0⟩],[]⟩)
noncomputable def run_I219 (N:Nat):=runOf sg_I219 (F_I219 N)
noncomputable def es_I219 (N:Nat):List Entry:=[⟨249,[.val,.val],(run_I249 N)⟩]
noncomputable def body_I219:Code:=match Tryz.f219.body with | some c=>c | none=>.skip
noncomputable def L_I219 (N n:Nat) (key:Nat) (S:St) (K:Ks):Option Ret:=bif Nat.beq key 3 then withVals ks_I219_l3 S (fun x=>I219_l3 N x.2.1 x.2.2.1 n (fun z0=>K (.x 0) (shape ko_I219_l3_0 (z0,()))) x.1 x.2.2.2.1) else none
theorem L0_I219 (N key:Nat) (S:St) (K:Ks):L_I219 N 0 key S K=none:=(bif0 (withVals0 fun _=>rfl) rfl)
noncomputable def c_I219_0:Code:=(loopsIn body_I219).getD 0 .skip
theorem ls_I219:loopsIn body_I219=[c_I219_0]:=by kernel_rfl
theorem rd_I219_3 (N n:Nat) (x:Vals ks_I219_l3) (K:Ks):L_I219 N (n + 1) 3 (shape ks_I219_l3 x) (h_I219.onOut 3 K)=peRound h_I219 (Orc.of (es_I219 N)) (mixL (L_I219 N) N n 3) c_I219_0 (shape ks_I219_l3 x) (h_I219.onOut 3 K):=by kernel_rfl
theorem fn_I219 (N:Nat) (x:AVals sg_I219) (kf:Ret→Option Ret):F_I219 N x kf=peFunc h_I219 (Orc.of (es_I219 N)) (L_I219 N N) Tryz.f219 (ashape sg_I219 x) kf:=by kernel_rfl
theorem sd_I219 {Γ : Gl} (N:Nat):Sound Γ Tryz.prog 219 (run_I219 N):=fun_ok2 (hh:=h_I219) mixed tab_ok (es:=es_I219 N) ⟨sd_I249 N,trivial⟩ (fn:=Tryz.f219) (body:=body_I219) (by kernel_rfl) (by kernel_rfl) (by kernel_rfl) (by kernel_rfl) (by kernel_rfl) (Lf:=L_I219 N) (L0_I219 N) ls_I219 (round_cons (key:=3) (ks:=ks_I219_l3) (by kernel_rfl) (by kernel_rfl) (rd_I219_3 N) trivial) (N:=N) (by kernel_rfl) (fn_I219 N) (.inl (by kernel_rfl))
noncomputable def h_I169:Hint:={ tab,hn:=[],loops:=[],outs:=[],ords:=[] }
noncomputable def sg_I169:List AK:=[.v (.int .i64) .k,.v tQIIIIE .k]
noncomputable def F_I169 (N:Nat) (x:AVals sg_I169) (kf:Ret→Option Ret):Option Ret:=I169 N x.1 x.2.1 (fun r0=>kf ⟨[⟨(.int .i64),.k,r0⟩],[]⟩)
noncomputable def run_I169 (N:Nat):=runOf sg_I169 (F_I169 N)
noncomputable def es_I169 (N:Nat):List Entry:=[⟨219,[.val],(run_I219 N)⟩]
noncomputable def body_I169:Code:=match Tryz.f169.body with | some c=>c | none=>.skip
theorem ls_I169:loopsIn body_I169=[]:=by kernel_rfl
theorem fn_I169 (N:Nat) (x:AVals sg_I169) (kf:Ret→Option Ret):F_I169 N x kf=peFunc h_I169 (Orc.of (es_I169 N)) (noL N N) Tryz.f169 (ashape sg_I169 x) kf:=by kernel_rfl
theorem sd_I169 {Γ : Gl} (N:Nat):Sound Γ Tryz.prog 169 (run_I169 N):=fun_ok2 (hh:=h_I169) mixed tab_ok (es:=es_I169 N) ⟨sd_I219 N,trivial⟩ (fn:=Tryz.f169) (body:=body_I169) (by kernel_rfl) (by kernel_rfl) (by kernel_rfl) (by kernel_rfl) (by kernel_rfl) (Lf:=noL N) (noL0 N) ls_I169 trivial (N:=N) (by kernel_rfl) (fn_I169 N) (.inl (by kernel_rfl))
noncomputable def ks_I75_l5:List Kd:=[dK,dK,dK,.v (.int .i64) .k,dK,dK,dK,dK,dK,.v (.sl tQIIIIE) .k,.v (.int .i64) .k,.v (.int .i64) .k,dK,dK,dK,dK,dK,dK,dK,dK,dK,dK,dK,dK,dK,dK,dK,dK,dK,dK,dK,dK,dK,dK,dK,dK,dK,dK,dK,dK,dK,dK,dK,dK]
noncomputable def ko_I75_l5_0:List Kd:=[dK,dK,dK,dK,dK,dK,dK,dK,dK,dK,dK,dK,dK,dK,dK,dK,dK,dK,dK,dK,dK,dK,dK,dK,dK,dK,dK,dK,dK,dK,dK,dK,dK,dK,dK,dK,dK,dK,dK,dK,dK,dK,dK,dK]
noncomputable def ko_I75_l5_1:List Kd:=[dK,dK,.v .bool .k,dK,dK,dK,dK,dK,dK,dK,dK,dK,dK,dK,dK,dK,dK,dK,dK,dK,dK,dK,dK,dK,dK,dK,dK,dK,dK,dK,dK,dK,dK,dK,dK,dK,dK,dK,dK,dK,dK,dK,dK,dK]
noncomputable def h_I75:Hint:={ tab,hn:=[],loops:=[(5,ks_I75_l5)],outs:=[(5,2,ko_I75_l5_0),(5,1,ko_I75_l5_1)],ords:=[(7,(OT.seq [0,1,2,3,4,5,6,7,8,9,10,11,12,13,14,15,16,17,18,19,20,21,22,23,24] .done))] }
noncomputable def sg_I75:List AK:=[.v (.sl tQIIIIE) .k]
noncomputable def F_I75 (N:Nat) (x:AVals sg_I75) (kf:Ret→Option Ret):Option Ret:=I75 N x.1 (fun r0=>kf ⟨[⟨.bool,.k,r0⟩],[]⟩)
noncomputable def run_I75 (N:Nat):=runOf sg_I75 (F_I75 N)
noncomputable def es_I75 (N:Nat):List Entry:=[⟨144,[.val,.val,.val],(run_I144 N)⟩,⟨169,[.val,.val],(run_I169 N)⟩]
noncomputable def body_I75:Code:=match Tryz.f75.body with | some c=>c | none=>.skip
noncomputable def L_I75 (N n:Nat) (key:Nat) (S:St) (K:Ks):Option Ret:=bif Nat.beq key 5 then withVals ks_I75_l5 S (fun x=>I75_l5 N x.2.1 x.2.2.1 n (K (.x 0) (shape ko_I75_l5_0 ())) (fun z0=>K .r (shape ko_I75_l5_1 (z0,()))) x.1 x.2.2.2.1) else none
theorem L0_I75 (N key:Nat) (S:St) (K:Ks):L_I75 N 0 key S K=none:=(bif0 (withVals0 fun _=>rfl) rfl)
noncomputable def c_I75_0:Code:=(loopsIn body_I75).getD 0 .skip
theorem ls_I75:loopsIn body_I75=[c_I75_0]:=by kernel_rfl
theorem rd_I75_5 (N n:Nat) (x:Vals ks_I75_l5) (K:Ks):L_I75 N (n + 1) 5 (shape ks_I75_l5 x) (h_I75.onOut 5 K)=peRound h_I75 (Orc.of (es_I75 N)) (mixL (L_I75 N) N n 5) c_I75_0 (shape ks_I75_l5 x) (h_I75.onOut 5 K):=by kernel_rfl
theorem fn_I75 (N:Nat) (x:AVals sg_I75) (kf:Ret→Option Ret):F_I75 N x kf=peFunc h_I75 (Orc.of (es_I75 N)) (L_I75 N N) Tryz.f75 (ashape sg_I75 x) kf:=by kernel_rfl
theorem sd_I75 {Γ : Gl} (N:Nat):Sound Γ Tryz.prog 75 (run_I75 N):=fun_ok2 (hh:=h_I75) mixed tab_ok (es:=es_I75 N) ⟨sd_I144 N,⟨sd_I169 N,trivial⟩⟩ (fn:=Tryz.f75) (body:=body_I75) (by kernel_rfl) (by kernel_rfl) (by kernel_rfl) (by kernel_rfl) (by kernel_rfl) (Lf:=L_I75 N) (L0_I75 N) ls_I75 (round_cons (key:=5) (ks:=ks_I75_l5) (by kernel_rfl) (by kernel_rfl) (rd_I75_5 N) trivial) (N:=N) (by kernel_rfl) (fn_I75 N) (.inl (by kernel_rfl))
noncomputable def h_I189:Hint:={ tab,hn:=[],loops:=[],outs:=[],ords:=[(2,(OT.seq [0,2,1,3,4,5] .done)),(3,(OT.seq [0,2] (.any [1,3] (OT.seq [4,5] .done))))] }
noncomputable def sg_I189:List AK:=[.v (.sl tQIIIIE) .k,.v (.int .i64) .k,.v (.int .i64) .k]
noncomputable def F_I189 (N:Nat) (x:AVals sg_I189) (kf:Ret→Option Ret):Option Ret:=I189 N x.1 x.2.1 x.2.2.1 (fun r0 r1=>kf ⟨[⟨(.sl tQIIIIE),(.o 102 none .k),r0⟩,⟨.bool,.k,r1⟩],[]⟩)
noncomputable def run_I189 (N:Nat):=runOf sg_I189 (F_I189 N)
noncomputable def es_I189 (N:Nat):List Entry:=[⟨234,[.val],(run_I234 N)⟩,⟨169,[.val,.val],(run_I169 N)⟩,⟨168,[.val],(run_S168 N)⟩,⟨75,[.val],(run_I75 N)⟩]
noncomputable def body_I189:Code:=match Tryz.f189.body with | some c=>c | none=>.skip
theorem ls_I189:loopsIn body_I189=[]:=by kernel_rfl
theorem fn_I189 (N:Nat) (x:AVals sg_I189) (kf:Ret→Option Ret):F_I189 N x kf=peFunc h_I189 (Orc.of (es_I189 N)) (noL N N) Tryz.f189 (ashape sg_I189 x) kf:=by kernel_rfl
theorem sd_I189 {Γ : Gl} (N:Nat):Sound Γ Tryz.prog 189 (run_I189 N):=fun_ok2 (hh:=h_I189) mixed tab_ok (es:=es_I189 N) ⟨sd_I234 N,⟨sd_I169 N,⟨sd_S168 N,⟨sd_I75 N,trivial⟩⟩⟩⟩ (fn:=Tryz.f189) (body:=body_I189) (by kernel_rfl) (by kernel_rfl) (by kernel_rfl) (by kernel_rfl) (by kernel_rfl) (Lf:=noL N) (noL0 N) ls_I189 trivial (N:=N) (by kernel_rfl) (fn_I189 N) (.inl (by kernel_rfl))
noncomputable def ks_I78_l3:List Kd:=[dK,.v (.int .i64) .k,dK,dK,dK,.v (.int .i64) .k,dK,dK,.v (.sl (.int .i64)) .k,.v (.int .i64) .k,.v (.int .i64) .k,dK,dK,dK,dK,dK,dK,dK,dK,dK,dK]
noncomputable def ko_I78_l3_0:List Kd:=[dK,dK,dK,dK,dK,.v (.int .i64) .k,dK,dK,dK,dK,dK,dK,dK,dK,dK,dK,dK,dK,dK,dK,dK]
noncomputable def h_I78:Hint:={ tab,hn:=[],loops:=[(3,ks_I78_l3)],outs:=[(3,2,ko_I78_l3_0)],ords:=[] }
noncomputable def sg_I78:List AK:=[.v (.sl (.int .i64)) .k,.v (.int .i64) .k]
noncomputable def F_I78 (N:Nat) (x:AVals sg_I78) (kf:Ret→Option Ret):Option Ret:=I78 N x.1 x.2.1 (fun r0=>kf ⟨[⟨(.int .i64),.k,r0⟩],[]⟩)
noncomputable def run_I78 (N:Nat):=runOf sg_I78 (F_I78 N)
noncomputable def es_I78 (N:Nat):List Entry:=[]
noncomputable def body_I78:Code:=match Tryz.f78.body with | some c=>c | none=>.skip
noncomputable def L_I78 (N n:Nat) (key:Nat) (S:St) (K:Ks):Option Ret:=bif Nat.beq key 3 then withVals ks_I78_l3 S (fun x=>I78_l3 x.1 x.2.2.1 x.2.2.2.1 n (fun z0=>K (.x 0) (shape ko_I78_l3_0 (z0,()))) x.2.1 x.2.2.2.2.1) else none
theorem L0_I78 (N key:Nat) (S:St) (K:Ks):L_I78 N 0 key S K=none:=(bif0 (withVals0 fun _=>rfl) rfl)
noncomputable def c_I78_0:Code:=(loopsIn body_I78).getD 0 .skip
theorem ls_I78:loopsIn body_I78=[c_I78_0]:=by kernel_rfl
theorem rd_I78_3 (N n:Nat) (x:Vals ks_I78_l3) (K:Ks):L_I78 N (n + 1) 3 (shape ks_I78_l3 x) (h_I78.onOut 3 K)=peRound h_I78 (Orc.of (es_I78 N)) (mixL (L_I78 N) N n 3) c_I78_0 (shape ks_I78_l3 x) (h_I78.onOut 3 K):=by kernel_rfl
theorem fn_I78 (N:Nat) (x:AVals sg_I78) (kf:Ret→Option Ret):F_I78 N x kf=peFunc h_I78 (Orc.of (es_I78 N)) (L_I78 N N) Tryz.f78 (ashape sg_I78 x) kf:=by kernel_rfl
theorem sd_I78 {Γ : Gl} (N:Nat):Sound Γ Tryz.prog 78 (run_I78 N):=fun_ok2 (hh:=h_I78) mixed tab_ok (es:=es_I78 N) trivial (fn:=Tryz.f78) (body:=body_I78) (by kernel_rfl) (by kernel_rfl) (by kernel_rfl) (by kernel_rfl) (by kernel_rfl) (Lf:=L_I78 N) (L0_I78 N) ls_I78 (round_cons (key:=3) (ks:=ks_I78_l3) (by kernel_rfl) (by kernel_rfl) (rd_I78_3 N) trivial) (N:=N) (by kernel_rfl) (fn_I78 N) (.inl (by kernel_rfl))
noncomputable def ks_I143_l10:List Kd:=[.v (.sl tQIIIIILIE) .k,dK,dK,dK,.v (.ptr tQIIIIILIE) (.o 46 none .k),dK,dK,dK,dK,dK,dK,dK,.v (.sl tQIIIIILIE) .k,.v (.int .i64) .k,.v (.int .i64) .k,dK,dK,dK,dK,dK,dK,dK,dK,dK,dK,dK,dK,dK,dK,dK,dK,dK,dK,dK,dK,dK,dK,dK,dK,dK,dK,dK,dK,dK,dK,dK,dK,dK,dK,dK,dK,dK,dK,dK,dK,dK,dK,dK,dK,dK,dK,dK,dK,dK,dK,dK,dK,dK,dK,dK,dK,dK,.v (.sl (.int .i64)) .k,.v (.int .i64) .k,.v (.int .i64) .k,dK,dK,dK,dK,dK,dK,dK,dK,dK,dK,dK,dK,dK,dK,dK,dK,dK,dK,dK,dK,dK,dK,dK,dK,dK,dK,dK,dK,dK,dK,dK]
noncomputable def ko_I143_l10_0:List Kd:=[.v (.sl tQIIIIILIE) .k,dK,dK,dK,dK,dK,dK,dK,dK,dK,dK,dK,.v (.sl tQIIIIILIE) .k,.v (.int .i64) .k,.v (.int .i64) .k,dK,dK,dK,dK,dK,dK,dK,dK,dK,dK,dK,dK,dK,dK,dK,dK,dK,dK,dK,dK,dK,dK,dK,dK,dK,dK,dK,dK,dK,dK,dK,dK,dK,dK,dK,dK,dK,dK,dK,dK,dK,dK,dK,dK,dK,dK,dK,dK,dK,dK,dK,dK,dK,dK,dK,dK,dK,dK,dK,dK,dK,dK,dK,dK,dK,dK,dK,dK,dK,dK,dK,dK,dK,dK,dK,dK,dK,dK,dK,dK,dK,dK,dK,dK,dK,dK,dK,dK,dK,dK,dK]
noncomputable def ko_I143_l10_1:List Kd:=[dK,dK,.v .bool .k,dK,dK,dK,dK,dK,dK,dK,dK,dK,dK,dK,dK,dK,dK,dK,dK,dK,dK,dK,dK,dK,dK,dK,dK,dK,dK,dK,dK,dK,dK,dK,dK,dK,dK,dK,dK,dK,dK,dK,dK,dK,dK,dK,dK,dK,dK,dK,dK,dK,dK,dK,dK,dK,dK,dK,dK,dK,dK,dK,dK,dK,dK,dK,dK,dK,dK,dK,dK,dK,dK,dK,dK,dK,dK,dK,dK,dK,dK,dK,dK,dK,dK,dK,dK,dK,dK,dK,dK,dK,dK,dK,dK,dK,dK,dK,dK,dK,dK,dK,dK,dK,dK,dK]
noncomputable def ks_I143_l4:List Kd:=[.v (.sl tQIIIIILIE) .k,dK,dK,dK,dK,dK,dK,dK,dK,dK,dK,dK,.v (.sl tQIIIIILIE) .k,.v (.int .i64) .k,.v (.int .i64) .k,dK,dK,dK,dK,dK,dK,dK,dK,dK,dK,dK,dK,dK,dK,dK,dK,dK,dK,dK,dK,dK,dK,dK,dK,dK,dK,dK,dK,dK,dK,dK,dK,dK,dK,dK,dK,dK,dK,dK,dK,dK,dK,dK,dK,dK,dK,dK,dK,dK,dK,dK,dK,dK,dK,dK,dK,dK,dK,dK,dK,dK,dK,dK,dK,dK,dK,dK,dK,dK,dK,dK,dK,dK,dK,dK,dK,dK,dK,dK,dK,dK,dK,dK,dK,dK,dK,dK,dK,dK,dK,dK]
noncomputable def ko_I143_l4_0:List Kd:=[dK,dK,dK,dK,dK,dK,dK,dK,dK,dK,dK,dK,dK,dK,dK,dK,dK,dK,dK,dK,dK,dK,dK,dK,dK,dK,dK,dK,dK,dK,dK,dK,dK,dK,dK,dK,dK,dK,dK,dK,dK,dK,dK,dK,dK,dK,dK,dK,dK,dK,dK,dK,dK,dK,dK,dK,dK,dK,dK,dK,dK,dK,dK,dK,dK,dK,dK,dK,dK,dK,dK,dK,dK,dK,dK,dK,dK,dK,dK,dK,dK,dK,dK,dK,dK,dK,dK,dK,dK,dK,dK,dK,dK,dK,dK,dK,dK,dK,dK,dK,dK,dK,dK,dK,dK,dK]
noncomputable def ko_I143_l4_1:List Kd:=[dK,dK,.v .bool .k,dK,dK,dK,dK,dK,dK,dK,dK,dK,dK,dK,dK,dK,dK,dK,dK,dK,dK,dK,dK,dK,dK,dK,dK,dK,dK,dK,dK,dK,dK,dK,dK,dK,dK,dK,dK,dK,dK,dK,dK,dK,dK,dK,dK,dK,dK,dK,dK,dK,dK,dK,dK,dK,dK,dK,dK,dK,dK,dK,dK,dK,dK,dK,dK,dK,dK,dK,dK,dK,dK,dK,dK,dK,dK,dK,dK,dK,dK,dK,dK,dK,dK,dK,dK,dK,dK,dK,dK,dK,dK,dK,dK,dK,dK,dK,dK,dK,dK,dK,dK,dK,dK,dK]
noncomputable def h_I143:Hint:={ tab,hn:=[],loops:=[(10,ks_I143_l10),(4,ks_I143_l4)],outs:=[(10,4,ko_I143_l10_0),(10,1,ko_I143_l10_1),(4,2,ko_I143_l4_0),(4,1,ko_I143_l4_1)],ords:=[(7,(OT.seq [0,1,2,3,4,5,6,7,8,9,10,11,12,13,14,15,16,17,18,19,20,21,22,23,24,25,26,27,28,29,30,31,32,33,34,35,36,37,38,39,40,41,42,43,44,45,46,47,48] .done)),(13,(OT.seq [0,1,2,3,4,5,6,7,8,9,10,11,13,14,15,16,17,18,19,12,20,21,22] .done))] }
noncomputable def sg_I143:List AK:=[.v (.sl tQIIIIILIE) .k]
noncomputable def F_I143 (N:Nat) (x:AVals sg_I143) (kf:Ret→Option Ret):Option Ret:=I143 N x.1 (fun r0=>kf ⟨[⟨.bool,.k,r0⟩],[]⟩)
noncomputable def run_I143 (N:Nat):=runOf sg_I143 (F_I143 N)
noncomputable def es_I143 (N:Nat):List Entry:=[⟨144,[.val,.val,.val],(run_I144 N)⟩,⟨40,[.val,.val],(run_I40 N)⟩,⟨78,[.val,.val],(run_I78 N)⟩]
noncomputable def body_I143:Code:=match Tryz.f143.body with | some c=>c | none=>.skip
noncomputable def L_I143 (N n:Nat) (key:Nat) (S:St) (K:Ks):Option Ret:=bif Nat.beq key 4 then withVals ks_I143_l4 S (fun x=>I143_l4 N x.1 x.2.1 x.2.2.1 n (K (.x 0) (shape ko_I143_l4_0 ())) (fun z0=>K .r (shape ko_I143_l4_1 (z0,()))) x.2.2.2.1) else bif Nat.beq key 10 then withVals ks_I143_l10 S (fun x=>I143_l10 N x.1 x.2.1 x.2.2.1 x.2.2.2.1 x.2.2.2.2.1 x.2.2.2.2.2.1 x.2.2.2.2.2.2.1 n (K (.x 2) (shape ko_I143_l10_0 (x.1,x.2.2.1,x.2.2.2.1,x.2.2.2.2.1,()))) (fun z0=>K .r (shape ko_I143_l10_1 (z0,()))) x.2.2.2.2.2.2.2.1) else none
theorem L0_I143 (N key:Nat) (S:St) (K:Ks):L_I143 N 0 key S K=none:=(bif0 (withVals0 fun _=>rfl) (bif0 (withVals0 fun _=>rfl) rfl))
noncomputable def c_I143_0:Code:=(loopsIn body_I143).getD 0 .skip
noncomputable def c_I143_1:Code:=(loopsIn body_I143).getD 1 .skip
theorem ls_I143:loopsIn body_I143=[c_I143_0,c_I143_1]:=by kernel_rfl
theorem rd_I143_10 (N n:Nat) (x:Vals ks_I143_l10) (K:Ks):L_I143 N (n + 1) 10 (shape ks_I143_l10 x) (h_I143.onOut 10 K)=peRound h_I143 (Orc.of (es_I143 N)) (mixL (L_I143 N) N n 10) c_I143_1 (shape ks_I143_l10 x) (h_I143.onOut 10 K):=by kernel_rfl
theorem rd_I143_4 (N n:Nat) (x:Vals ks_I143_l4) (K:Ks):L_I143 N (n + 1) 4 (shape ks_I143_l4 x) (h_I143.onOut 4 K)=peRound h_I143 (Orc.of (es_I143 N)) (mixL (L_I143 N) N n 4) c_I143_0 (shape ks_I143_l4 x) (h_I143.onOut 4 K):=by kernel_rfl
theorem fn_I143 (N:Nat) (x:AVals sg_I143) (kf:Ret→Option Ret):F_I143 N x kf=peFunc h_I143 (Orc.of (es_I143 N)) (L_I143 N N) Tryz.f143 (ashape sg_I143 x) kf:=by kernel_rfl
theorem sd_I143 {Γ : Gl} (N:Nat):Sound Γ Tryz.prog 143 (run_I143 N):=fun_ok2 (hh:=h_I143) mixed tab_ok (es:=es_I143 N) ⟨sd_I144 N,⟨sd_I40 N,⟨sd_I78 N,trivial⟩⟩⟩ (fn:=Tryz.f143) (body:=body_I143) (by kernel_rfl) (by kernel_rfl) (by kernel_rfl) (by kernel_rfl) (by kernel_rfl) (Lf:=L_I143 N) (L0_I143 N) ls_I143 (round_cons (key:=4) (ks:=ks_I143_l4) (by kernel_rfl) (by kernel_rfl) (rd_I143_4 N) (round_cons (key:=10) (ks:=ks_I143_l10) (by kernel_rfl) (by kernel_rfl) (rd_I143_10 N) trivial)) (N:=N) (by kernel_rfl) (fn_I143 N) (.inl (by kernel_rfl))
noncomputable def ks_I79_l9:List Kd:=[.v (.sl tQIILIE) .k,dK,dK,dK,.v (.ptr tQIILIE) (.o 80 none .k),dK,dK,dK,dK,dK,.v (.sl tQIILIE) .k,.v (.int .i64) .k,.v (.int .i64) .k,dK,dK,dK,dK,dK,dK,dK,dK,dK,dK,dK,dK,dK,dK,dK,dK,dK,dK,dK,dK,dK,dK,dK,dK,dK,dK,dK,dK,dK,dK,.v (.sl (.int .i64)) .k,.v (.int .i64) .k,.v (.int .i64) .k,dK,dK,dK,dK,dK,dK,dK,dK,dK,dK,dK,dK,dK,dK,dK,dK,dK,dK,dK,dK,dK,dK,dK]
noncomputable def ko_I79_l9_0:List Kd:=[.v (.sl tQIILIE) .k,dK,dK,dK,dK,dK,dK,dK,dK,dK,.v (.sl tQIILIE) .k,.v (.int .i64) .k,.v (.int .i64) .k,dK,dK,dK,dK,dK,dK,dK,dK,dK,dK,dK,dK,dK,dK,dK,dK,dK,dK,dK,dK,dK,dK,dK,dK,dK,dK,dK,dK,dK,dK,dK,dK,dK,dK,dK,dK,dK,dK,dK,dK,dK,dK,dK,dK,dK,dK,dK,dK,dK,dK,dK,dK,dK,dK,dK,dK]
noncomputable def ko_I79_l9_1:List Kd:=[dK,dK,.v .bool .k,dK,dK,dK,dK,dK,dK,dK,dK,dK,dK,dK,dK,dK,dK,dK,dK,dK,dK,dK,dK,dK,dK,dK,dK,dK,dK,dK,dK,dK,dK,dK,dK,dK,dK,dK,dK,dK,dK,dK,dK,dK,dK,dK,dK,dK,dK,dK,dK,dK,dK,dK,dK,dK,dK,dK,dK,dK,dK,dK,dK,dK,dK,dK,dK,dK,dK]
noncomputable def ks_I79_l4:List Kd:=[.v (.sl tQIILIE) .k,dK,dK,dK,dK,dK,dK,dK,dK,dK,.v (.sl tQIILIE) .k,.v (.int .i64) .k,.v (.int .i64) .k,dK,dK,dK,dK,dK,dK,dK,dK,dK,dK,dK,dK,dK,dK,dK,dK,dK,dK,dK,dK,dK,dK,dK,dK,dK,dK,dK,dK,dK,dK,dK,dK,dK,dK,dK,dK,dK,dK,dK,dK,dK,dK,dK,dK,dK,dK,dK,dK,dK,dK,dK,dK,dK,dK,dK,dK]
noncomputable def ko_I79_l4_0:List Kd:=[dK,dK,dK,dK,dK,dK,dK,dK,dK,dK,dK,dK,dK,dK,dK,dK,dK,dK,dK,dK,dK,dK,dK,dK,dK,dK,dK,dK,dK,dK,dK,dK,dK,dK,dK,dK,dK,dK,dK,dK,dK,dK,dK,dK,dK,dK,dK,dK,dK,dK,dK,dK,dK,dK,dK,dK,dK,dK,dK,dK,dK,dK,dK,dK,dK,dK,dK,dK,dK]
noncomputable def ko_I79_l4_1:List Kd:=[dK,dK,.v .bool .k,dK,dK,dK,dK,dK,dK,dK,dK,dK,dK,dK,dK,dK,dK,dK,dK,dK,dK,dK,dK,dK,dK,dK,dK,dK,dK,dK,dK,dK,dK,dK,dK,dK,dK,dK,dK,dK,dK,dK,dK,dK,dK,dK,dK,dK,dK,dK,dK,dK,dK,dK,dK,dK,dK,dK,dK,dK,dK,dK,dK,dK,dK,dK,dK,dK,dK]
noncomputable def h_I79:Hint:={ tab,hn:=[],loops:=[(9,ks_I79_l9),(4,ks_I79_l4)],outs:=[(9,4,ko_I79_l9_0),(9,1,ko_I79_l9_1),(4,2,ko_I79_l4_0),(4,1,ko_I79_l4_1)],ords:=[(6,(OT.seq [0,1,2,3,4,5,6,7,8,9,10,11,12,13,14,15,16,17,18,19,20,21,22,23,24] .done))] }
noncomputable def sg_I79:List AK:=[.v (.sl tQIILIE) .k]
noncomputable def F_I79 (N:Nat) (x:AVals sg_I79) (kf:Ret→Option Ret):Option Ret:=I79 N x.1 (fun r0=>kf ⟨[⟨.bool,.k,r0⟩],[]⟩)
noncomputable def run_I79 (N:Nat):=runOf sg_I79 (F_I79 N)
noncomputable def es_I79 (N:Nat):List Entry:=[⟨144,[.val,.val,.val],(run_I144 N)⟩]
noncomputable def body_I79:Code:=match Tryz.f79.body with | some c=>c | none=>.skip
noncomputable def L_I79 (N n:Nat) (key:Nat) (S:St) (K:Ks):Option Ret:=bif Nat.beq key 4 then withVals ks_I79_l4 S (fun x=>I79_l4 N x.1 x.2.1 x.2.2.1 n (K (.x 0) (shape ko_I79_l4_0 ())) (fun z0=>K .r (shape ko_I79_l4_1 (z0,()))) x.2.2.2.1) else bif Nat.beq key 9 then withVals ks_I79_l9 S (fun x=>I79_l9 N x.1 x.2.1 x.2.2.1 x.2.2.2.1 x.2.2.2.2.1 x.2.2.2.2.2.1 x.2.2.2.2.2.2.1 n (K (.x 2) (shape ko_I79_l9_0 (x.1,x.2.2.1,x.2.2.2.1,x.2.2.2.2.1,()))) (fun z0=>K .r (shape ko_I79_l9_1 (z0,()))) x.2.2.2.2.2.2.2.1) else none
theorem L0_I79 (N key:Nat) (S:St) (K:Ks):L_I79 N 0 key S K=none:=(bif0 (withVals0 fun _=>rfl) (bif0 (withVals0 fun _=>rfl) rfl))
noncomputable def c_I79_0:Code:=(loopsIn body_I79).getD 0 .skip
noncomputable def c_I79_1:Code:=(loopsIn body_I79).getD 1 .skip
theorem ls_I79:loopsIn body_I79=[c_I79_0,c_I79_1]:=by kernel_rfl
theorem rd_I79_9 (N n:Nat) (x:Vals ks_I79_l9) (K:Ks):L_I79 N (n + 1) 9 (shape ks_I79_l9 x) (h_I79.onOut 9 K)=peRound h_I79 (Orc.of (es_I79 N)) (mixL (L_I79 N) N n 9) c_I79_1 (shape ks_I79_l9 x) (h_I79.onOut 9 K):=by kernel_rfl
theorem rd_I79_4 (N n:Nat) (x:Vals ks_I79_l4) (K:Ks):L_I79 N (n + 1) 4 (shape ks_I79_l4 x) (h_I79.onOut 4 K)=peRound h_I79 (Orc.of (es_I79 N)) (mixL (L_I79 N) N n 4) c_I79_0 (shape ks_I79_l4 x) (h_I79.onOut 4 K):=by kernel_rfl
theorem fn_I79 (N:Nat) (x:AVals sg_I79) (kf:Ret→Option Ret):F_I79 N x kf=peFunc h_I79 (Orc.of (es_I79 N)) (L_I79 N N) Tryz.f79 (ashape sg_I79 x) kf:=by kernel_rfl
theorem sd_I79 {Γ : Gl} (N:Nat):Sound Γ Tryz.prog 79 (run_I79 N):=fun_ok2 (hh:=h_I79) mixed tab_ok (es:=es_I79 N) ⟨sd_I144 N,trivial⟩ (fn:=Tryz.f79) (body:=body_I79) (by kernel_rfl) (by kernel_rfl) (by kernel_rfl) (by kernel_rfl) (by kernel_rfl) (Lf:=L_I79 N) (L0_I79 N) ls_I79 (round_cons (key:=4) (ks:=ks_I79_l4) (by kernel_rfl) (by kernel_rfl) (rd_I79_4 N) (round_cons (key:=9) (ks:=ks_I79_l9) (by kernel_rfl) (by kernel_rfl) (rd_I79_9 N) trivial)) (N:=N) (by kernel_rfl) (fn_I79 N) (.inl (by kernel_rfl))
noncomputable def ks_S170_l2:List Kd:=[.v (.sl (.int .i64)) .k,.v (.int .i64) .k,dK,dK,dK,dK,dK,.v (.int .i64) .k,.v (.int .i64) .k,dK,dK,dK,dK,dK,dK,dK,dK,dK,dK]
noncomputable def ko_S170_l2_0:List Kd:=[dK,dK,dK,dK,dK,dK,dK,dK,dK,dK,dK,dK,dK,dK,dK,dK,dK,dK,dK]
noncomputable def ko_S170_l2_1:List Kd:=[dK,dK,dK,dK,.v (.int .i64) .k,dK,dK,dK,dK,dK,dK,dK,dK,dK,dK,dK,dK,dK,dK]
noncomputable def h_S170:Hint:={ tab,hn:=[],loops:=[(2,ks_S170_l2)],outs:=[(2,2,ko_S170_l2_0),(2,1,ko_S170_l2_1)],ords:=[] }
noncomputable def sg_S170:List AK:=[.v (.sl (.int .i64)) .k,.v (.int .i64) .k]
noncomputable def F_S170 (N:Nat) (x:AVals sg_S170) (kf:Ret→Option Ret):Option Ret:=S170 N x.1 x.2.1 (fun r0=>kf ⟨[⟨(.int .i64),.k,r0⟩],[]⟩)
noncomputable def run_S170 (N:Nat):=runOf sg_S170 (F_S170 N)
noncomputable def es_S170 (N:Nat):List Entry:=[]
noncomputable def body_S170:Code:=match Tryz.f170.body with | some c=>c | none=>.skip
noncomputable def L_S170 (N n:Nat) (key:Nat) (S:St) (K:Ks):Option Ret:=bif Nat.beq key 2 then withVals ks_S170_l2 S (fun x=>S170_l2 x.1 x.2.1 x.2.2.1 n (K (.x 0) (shape ko_S170_l2_0 ())) (fun z0=>K .r (shape ko_S170_l2_1 (z0,()))) x.2.2.2.1) else none
theorem L0_S170 (N key:Nat) (S:St) (K:Ks):L_S170 N 0 key S K=none:=(bif0 (withVals0 fun _=>rfl) rfl)
noncomputable def c_S170_0:Code:=(loopsIn body_S170).getD 0 .skip
theorem ls_S170:loopsIn body_S170=[c_S170_0]:=by kernel_rfl
theorem rd_S170_2 (N n:Nat) (x:Vals ks_S170_l2) (K:Ks):L_S170 N (n + 1) 2 (shape ks_S170_l2 x) (h_S170.onOut 2 K)=peRound h_S170 (Orc.of (es_S170 N)) (mixL (L_S170 N) N n 2) c_S170_0 (shape ks_S170_l2 x) (h_S170.onOut 2 K):=by kernel_rfl
theorem fn_S170 (N:Nat) (x:AVals sg_S170) (kf:Ret→Option Ret):F_S170 N x kf=peFunc h_S170 (Orc.of (es_S170 N)) (L_S170 N N) Tryz.f170 (ashape sg_S170 x) kf:=by kernel_rfl
theorem sd_S170 {Γ : Gl} (N:Nat):Sound Γ Tryz.prog 170 (run_S170 N):=fun_ok2 (hh:=h_S170) mixed tab_ok (es:=es_S170 N) trivial (fn:=Tryz.f170) (body:=body_S170) (by kernel_rfl) (by kernel_rfl) (by kernel_rfl) (by kernel_rfl) (by kernel_rfl) (Lf:=L_S170 N) (L0_S170 N) ls_S170 (round_cons (key:=2) (ks:=ks_S170_l2) (by kernel_rfl) (by kernel_rfl) (rd_S170_2 N) trivial) (N:=N) (by kernel_rfl) (fn_S170 N) (.inl (by kernel_rfl))
noncomputable def h_S82:Hint:={ tab,hn:=[],loops:=[],outs:=[],ords:=[] }
noncomputable def sg_S82:List AK:=[.v (.sl (.int .i64)) .k,.v (.int .i64) .k]
noncomputable def F_S82 (N:Nat) (x:AVals sg_S82) (kf:Ret→Option Ret):Option Ret:=S82 N x.1 x.2.1 (fun r0=>kf ⟨[⟨.bool,.k,r0⟩],[]⟩)
noncomputable def run_S82 (N:Nat):=runOf sg_S82 (F_S82 N)
noncomputable def es_S82 (N:Nat):List Entry:=[⟨170,[.val,.val],(run_S170 N)⟩]
noncomputable def body_S82:Code:=match Tryz.f82.body with | some c=>c | none=>.skip
theorem ls_S82:loopsIn body_S82=[]:=by kernel_rfl
theorem fn_S82 (N:Nat) (x:AVals sg_S82) (kf:Ret→Option Ret):F_S82 N x kf=peFunc h_S82 (Orc.of (es_S82 N)) (noL N N) Tryz.f82 (ashape sg_S82 x) kf:=by kernel_rfl
theorem sd_S82 {Γ : Gl} (N:Nat):Sound Γ Tryz.prog 82 (run_S82 N):=fun_ok2 (hh:=h_S82) mixed tab_ok (es:=es_S82 N) ⟨sd_S170 N,trivial⟩ (fn:=Tryz.f82) (body:=body_S82) (by kernel_rfl) (by kernel_rfl) (by kernel_rfl) (by kernel_rfl) (by kernel_rfl) (Lf:=noL N) (noL0 N) ls_S82 trivial (N:=N) (by kernel_rfl) (fn_S82 N) (.inl (by kernel_rfl))
noncomputable def h_I19:Hint:={ tab,hn:=[],loops:=[],outs:=[],ords:=[] }
noncomputable def sg_I19:List AK:=[.v (.sl tQIIIIILIE) .k,.v (.int .i64) .k,.v (.int .i64) .k]
noncomputable def F_I19 (N:Nat) (x:AVals sg_I19) (kf:Ret→Option Ret):Option Ret:=I19 N x.1 x.2.1 x.2.2.1 (fun r0=>kf ⟨[⟨.bool,.k,r0⟩],[]⟩)
noncomputable def run_I19 (N:Nat):=runOf sg_I19 (F_I19 N)
noncomputable def es_I19 (N:Nat):List Entry:=[⟨40,[.val,.val],(run_I40 N)⟩,⟨82,[.val,.val],(run_S82 N)⟩]
noncomputable def body_I19:Code:=match Tryz.f19.body with | some c=>c | none=>.skip
theorem ls_I19:loopsIn body_I19=[]:=by kernel_rfl
theorem fn_I19 (N:Nat) (x:AVals sg_I19) (kf:Ret→Option Ret):F_I19 N x kf=peFunc h_I19 (Orc.of (es_I19 N)) (noL N N) Tryz.f19 (ashape sg_I19 x) kf:=by kernel_rfl
theorem sd_I19 {Γ : Gl} (N:Nat):Sound Γ Tryz.prog 19 (run_I19 N):=fun_ok2 (hh:=h_I19) mixed tab_ok (es:=es_I19 N) ⟨sd_I40 N,⟨sd_S82 N,trivial⟩⟩ (fn:=Tryz.f19) (body:=body_I19) (by kernel_rfl) (by kernel_rfl) (by kernel_rfl) (by kernel_rfl) (by kernel_rfl) (Lf:=noL N) (noL0 N) ls_I19 trivial (N:=N) (by kernel_rfl) (fn_I19 N) (.inl (by kernel_rfl))
noncomputable def h_I77:Hint:={ tab,hn:=[],loops:=[],outs:=[],ords:=[(2,(OT.seq [0,1,2,3,4,5,6,7,8,9,10,11,12,13,14,15,16,17,18,19,20,21,22,23,24,25,26,27,28,29,30,31,32,33,34,35] .done))] }
noncomputable def sg_I77:List AK:=[.v (.sl tQIIIIILIE) .k,.v (.int .i64) .k,.v (.int .i64) .k]
noncomputable def F_I77 (N:Nat) (x:AVals sg_I77) (kf:Ret→Option Ret):Option Ret:=I77 N x.1 x.2.1 x.2.2.1 (fun r0=>kf ⟨[⟨.bool,.k,r0⟩],[]⟩)
noncomputable def run_I77 (N:Nat):=runOf sg_I77 (F_I77 N)
noncomputable def es_I77 (N:Nat):List Entry:=[⟨40,[.val,.val],(run_I40 N)⟩,⟨143,[.val],(run_I143 N)⟩,⟨19,[.val,.val,.val],(run_I19 N)⟩]
noncomputable def body_I77:Code:=match Tryz.f77.body with | some c=>c | none=>.skip
theorem ls_I77:loopsIn body_I77=[]:=by kernel_rfl
theorem fn_I77 (N:Nat) (x:AVals sg_I77) (kf:Ret→Option Ret):F_I77 N x kf=peFunc h_I77 (Orc.of (es_I77 N)) (noL N N) Tryz.f77 (ashape sg_I77 x) kf:=by kernel_rfl
theorem sd_I77 {Γ : Gl} (N:Nat):Sound Γ Tryz.prog 77 (run_I77 N):=fun_ok2 (hh:=h_I77) mixed tab_ok (es:=es_I77 N) ⟨sd_I40 N,⟨sd_I143 N,⟨sd_I19 N,trivial⟩⟩⟩ (fn:=Tryz.f77) (body:=body_I77) (by kernel_rfl) (by kernel_rfl) (by kernel_rfl) (by kernel_rfl) (by kernel_rfl) (Lf:=noL N) (noL0 N) ls_I77 trivial (N:=N) (by kernel_rfl) (fn_I77 N) (.inl (by kernel_rfl))
noncomputable def ks_I17_l3:List Kd:=[.v (.sl tQIIIIILIE) .k,dK,dK,dK,dK,.v (.sl (.int .i64)) (.o 3 none .k),dK,dK,dK,dK,dK,.v (.sl tQIIE) .k,.v (.int .i64) .k,.v (.int .i64) .k,dK,dK,dK,dK,dK,dK,dK,dK,dK,dK,dK,dK,dK,dK,dK,dK,dK,dK,dK,dK,dK,dK,dK,dK,dK,dK,dK,dK,dK,dK]
noncomputable def ko_I17_l3_0:List Kd:=[.v (.sl tQIIIIILIE) .k,dK,dK,dK,dK,.v (.sl (.int .i64)) (.o 3 none .k),dK,dK,dK,dK,dK,dK,dK,dK,dK,dK,dK,dK,dK,dK,dK,dK,dK,dK,dK,dK,dK,dK,dK,dK,dK,dK,dK,dK,dK,dK,dK,dK,dK,dK,dK,dK,dK,dK]
noncomputable def ko_I17_l3_1:List Kd:=[dK,dK,dK,dK,.v .bool .k,dK,dK,dK,dK,dK,dK,dK,dK,dK,dK,dK,dK,dK,dK,dK,dK,dK,dK,dK,dK,dK,dK,dK,dK,dK,dK,dK,dK,dK,dK,dK,dK,dK,dK,dK,dK,dK,dK,dK]
noncomputable def ks_I17_l10:List Kd:=[dK,dK,dK,dK,dK,.v (.sl (.int .i64)) (.o 3 none .k),dK,dK,dK,dK,dK,dK,dK,dK,dK,dK,dK,dK,dK,dK,dK,dK,dK,dK,dK,dK,dK,dK,dK,dK,dK,dK,.v (.sl tQIIIIILIE) .k,.v (.int .i64) .k,.v (.int .i64) .k,dK,dK,dK,dK,dK,dK,dK,dK,dK]
noncomputable def ko_I17_l10_0:List Kd:=[dK,dK,dK,dK,dK,dK,dK,dK,dK,dK,dK,dK,dK,dK,dK,dK,dK,dK,dK,dK,dK,dK,dK,dK,dK,dK,dK,dK,dK,dK,dK,dK,dK,dK,dK,dK,dK,dK,dK,dK,dK,dK,dK,dK]
noncomputable def ko_I17_l10_1:List Kd:=[dK,dK,dK,dK,.v .bool .k,dK,dK,dK,dK,dK,dK,dK,dK,dK,dK,dK,dK,dK,dK,dK,dK,dK,dK,dK,dK,dK,dK,dK,dK,dK,dK,dK,dK,dK,dK,dK,dK,dK,dK,dK,dK,dK,dK,dK]
noncomputable def h_I17:Hint:={ tab,hn:=[],loops:=[(3,ks_I17_l3),(10,ks_I17_l10)],outs:=[(3,2,ko_I17_l3_0),(3,1,ko_I17_l3_1),(10,4,ko_I17_l10_0),(10,1,ko_I17_l10_1)],ords:=[] }
noncomputable def sg_I17:List AK:=[.v (.sl tQIIIIILIE) .k,.v (.sl tQIIE) .k]
noncomputable def F_I17 (N:Nat) (x:AVals sg_I17) (kf:Ret→Option Ret):Option Ret:=I17 N x.1 x.2.1 (fun r0=>kf ⟨[⟨.bool,.k,r0⟩],[]⟩)
noncomputable def run_I17 (N:Nat):=runOf sg_I17 (F_I17 N)
noncomputable def es_I17 (N:Nat):List Entry:=[⟨77,[.val,.val,.val],(run_I77 N)⟩,⟨78,[.val,.val],(run_I78 N)⟩]
noncomputable def body_I17:Code:=match Tryz.f17.body with | some c=>c | none=>.skip
noncomputable def L_I17 (N n:Nat) (key:Nat) (S:St) (K:Ks):Option Ret:=bif Nat.beq key 3 then withVals ks_I17_l3 S (fun x=>I17_l3 N x.1 x.2.2.1 x.2.2.2.1 n (fun z0=>K (.x 0) (shape ko_I17_l3_0 (x.1,z0,()))) (fun z0=>K .r (shape ko_I17_l3_1 (z0,()))) x.2.1 x.2.2.2.2.1) else bif Nat.beq key 10 then withVals ks_I17_l10 S (fun x=>I17_l10 N x.1 x.2.1 x.2.2.1 n (K (.x 2) (shape ko_I17_l10_0 ())) (fun z0=>K .r (shape ko_I17_l10_1 (z0,()))) x.2.2.2.1) else none
theorem L0_I17 (N key:Nat) (S:St) (K:Ks):L_I17 N 0 key S K=none:=(bif0 (withVals0 fun _=>rfl) (bif0 (withVals0 fun _=>rfl) rfl))
noncomputable def c_I17_0:Code:=(loopsIn body_I17).getD 0 .skip
noncomputable def c_I17_1:Code:=(loopsIn body_I17).getD 1 .skip
theorem ls_I17:loopsIn body_I17=[c_I17_0,c_I17_1]:=by kernel_rfl
theorem rd_I17_10 (N n:Nat) (x:Vals ks_I17_l10) (K:Ks):L_I17 N (n + 1) 10 (shape ks_I17_l10 x) (h_I17.onOut 10 K)=peRound h_I17 (Orc.of (es_I17 N)) (mixL (L_I17 N) N n 10) c_I17_1 (shape ks_I17_l10 x) (h_I17.onOut 10 K):=by kernel_rfl
theorem rd_I17_3 (N n:Nat) (x:Vals ks_I17_l3) (K:Ks):L_I17 N (n + 1) 3 (shape ks_I17_l3 x) (h_I17.onOut 3 K)=peRound h_I17 (Orc.of (es_I17 N)) (mixL (L_I17 N) N n 3) c_I17_0 (shape ks_I17_l3 x) (h_I17.onOut 3 K):=by kernel_rfl
theorem fn_I17 (N:Nat) (x:AVals sg_I17) (kf:Ret→Option Ret):F_I17 N x kf=peFunc h_I17 (Orc.of (es_I17 N)) (L_I17 N N) Tryz.f17 (ashape sg_I17 x) kf:=by kernel_rfl
theorem sd_I17 {Γ : Gl} (N:Nat):Sound Γ Tryz.prog 17 (run_I17 N):=fun_ok2 (hh:=h_I17) mixed tab_ok (es:=es_I17 N) ⟨sd_I77 N,⟨sd_I78 N,trivial⟩⟩ (fn:=Tryz.f17) (body:=body_I17) (by kernel_rfl) (by kernel_rfl) (by kernel_rfl) (by kernel_rfl) (by kernel_rfl) (Lf:=L_I17 N) (L0_I17 N) ls_I17 (round_cons (key:=3) (ks:=ks_I17_l3) (by kernel_rfl) (by kernel_rfl) (rd_I17_3 N) (round_cons (key:=10) (ks:=ks_I17_l10) (by kernel_rfl) (by kernel_rfl) (rd_I17_10 N) trivial)) (N:=N) (by kernel_rfl) (fn_I17 N) (.inl (by kernel_rfl))
noncomputable def h_I81:Hint:={ tab,hn:=[],loops:=[],outs:=[],ords:=[] }
noncomputable def sg_I81:List AK:=[.v tQIILIE .k,.v (.ptr (.int .i64)) .k]
noncomputable def F_I81 (N:Nat) (x:AVals sg_I81) (kf:Ret→Option Ret):Option Ret:=I81 N x.1 x.2.1 (fun r0=>kf ⟨[⟨.bool,.k,r0⟩],[]⟩)
noncomputable def run_I81 (N:Nat):=runOf sg_I81 (F_I81 N)
noncomputable def es_I81 (N:Nat):List Entry:=[]
noncomputable def body_I81:Code:=match Tryz.f81.body with | some c=>c | none=>.skip
theorem ls_I81:loopsIn body_I81=[]:=by kernel_rfl
theorem fn_I81 (N:Nat) (x:AVals sg_I81) (kf:Ret→Option Ret):F_I81 N x kf=peFunc h_I81 (Orc.of (es_I81 N)) (noL N N) Tryz.f81 (ashape sg_I81 x) kf:=by kernel_rfl
theorem sd_I81 {Γ : Gl} (N:Nat):Sound Γ Tryz.prog 81 (run_I81 N):=fun_ok2 (hh:=h_I81) mixed tab_ok (es:=es_I81 N) trivial (fn:=Tryz.f81) (body:=body_I81) (by kernel_rfl) (by kernel_rfl) (by kernel_rfl) (by kernel_rfl) (by kernel_rfl) (Lf:=noL N) (noL0 N) ls_I81 trivial (N:=N) (by kernel_rfl) (fn_I81 N) (.inl (by kernel_rfl))
noncomputable def ks_S80_l2:List Kd:=[.v (.sl tQIILIE) .k,.clo 81 [.kv (.ptr (.int .i64))],dK,dK,dK,dK,dK,.v (.int .i64) .k,.v (.int .i64) .k,dK,dK,dK,dK,dK,dK,dK,dK,dK,dK]
noncomputable def ko_S80_l2_0:List Kd:=[dK,dK,dK,dK,dK,dK,dK,dK,dK,dK,dK,dK,dK,dK,dK,dK,dK,dK,dK]
noncomputable def ko_S80_l2_1:List Kd:=[dK,dK,dK,dK,.v (.int .i64) .k,dK,dK,dK,dK,dK,dK,dK,dK,dK,dK,dK,dK,dK,dK]
noncomputable def h_S80:Hint:={ tab,hn:=[],loops:=[(2,ks_S80_l2)],outs:=[(2,2,ko_S80_l2_0),(2,1,ko_S80_l2_1)],ords:=[] }
noncomputable def sg_S80:List AK:=[.v (.sl tQIILIE) .k,.fn 81 [(.ptr (.int .i64))]]
noncomputable def F_S80 (N:Nat) (x:AVals sg_S80) (kf:Ret→Option Ret):Option Ret:=S80 N x.1 x.2.1.1 (fun r0=>kf ⟨[⟨(.int .i64),.k,r0⟩],[]⟩)
noncomputable def run_S80 (N:Nat):=runOf sg_S80 (F_S80 N)
noncomputable def es_S80 (N:Nat):List Entry:=[⟨81,[.val],(run_I81 N)⟩]
noncomputable def body_S80:Code:=match Tryz.f80.body with | some c=>c | none=>.skip
noncomputable def L_S80 (N n:Nat) (key:Nat) (S:St) (K:Ks):Option Ret:=bif Nat.beq key 2 then withVals ks_S80_l2 S (fun x=>S80_l2 N x.1 x.2.1.1 x.2.2.1 n (K (.x 0) (shape ko_S80_l2_0 ())) (fun z0=>K .r (shape ko_S80_l2_1 (z0,()))) x.2.2.2.1) else none
theorem L0_S80 (N key:Nat) (S:St) (K:Ks):L_S80 N 0 key S K=none:=(bif0 (withVals0 fun _=>rfl) rfl)
noncomputable def c_S80_0:Code:=(loopsIn body_S80).getD 0 .skip
theorem ls_S80:loopsIn body_S80=[c_S80_0]:=by kernel_rfl
theorem rd_S80_2 (N n:Nat) (x:Vals ks_S80_l2) (K:Ks):L_S80 N (n + 1) 2 (shape ks_S80_l2 x) (h_S80.onOut 2 K)=peRound h_S80 (Orc.of (es_S80 N)) (mixL (L_S80 N) N n 2) c_S80_0 (shape ks_S80_l2 x) (h_S80.onOut 2 K):=by kernel_rfl
theorem fn_S80 (N:Nat) (x:AVals sg_S80) (kf:Ret→Option Ret):F_S80 N x kf=peFunc h_S80 (Orc.of (es_S80 N)) (L_S80 N N) Tryz.f80 (ashape sg_S80 x) kf:=by kernel_rfl
theorem sd_S80 {Γ : Gl} (N:Nat):Sound Γ Tryz.prog 80 (run_S80 N):=fun_ok2 (hh:=h_S80) mixed tab_ok (es:=es_S80 N) ⟨sd_I81 N,trivial⟩ (fn:=Tryz.f80) (body:=body_S80) (by kernel_rfl) (by kernel_rfl) (by kernel_rfl) (by kernel_rfl) (by kernel_rfl) (Lf:=L_S80 N) (L0_S80 N) ls_S80 (round_cons (key:=2) (ks:=ks_S80_l2) (by kernel_rfl) (by kernel_rfl) (rd_S80_2 N) trivial) (N:=N) (by kernel_rfl) (fn_S80 N) (.inl (by kernel_rfl))
noncomputable def ks_I83_l2:List Kd:=[.v (.sl tQIIIIILIE) .k,dK,dK,dK,.v (.ptr tQIILIE) (.o 80 none .k),dK,dK,dK,dK,dK,dK,dK,dK,dK,.v (.sl (.int .i64)) (.o 3 none .k),.v (.int .i64) .k,.v (.int .i64) .k,dK,dK,dK,dK,dK,dK,dK,dK,dK,dK,dK,dK,dK,dK,dK,dK,dK,dK,dK,dK,dK,dK,dK,dK,dK]
noncomputable def ko_I83_l2_0:List Kd:=[dK,dK,dK,dK,dK,dK,dK,dK,dK,dK,dK,dK,dK,dK,dK,dK,dK,dK,dK,dK,dK,dK,dK,dK,dK,dK,dK,dK,dK,dK,dK,dK,dK,dK,dK,dK,dK,dK,dK,dK,dK,dK]
noncomputable def ko_I83_l2_1:List Kd:=[dK,dK,dK,dK,dK,dK,.v .bool .k,dK,dK,dK,dK,dK,dK,dK,dK,dK,dK,dK,dK,dK,dK,dK,dK,dK,dK,dK,dK,dK,dK,dK,dK,dK,dK,dK,dK,dK,dK,dK,dK,dK,dK,dK]
noncomputable def h_I83:Hint:={ tab,hn:=[],loops:=[(2,ks_I83_l2)],outs:=[(2,2,ko_I83_l2_0),(2,1,ko_I83_l2_1)],ords:=[(5,(OT.seq [0,1,2,3,4,5,6,7,8,9,10,11,12,13,14,15,16,17] .done))] }
noncomputable def sg_I83:List AK:=[.v (.sl tQIIIIILIE) .k,.v tQIILIE .k,.v tQIIE .k]
noncomputable def F_I83 (N:Nat) (x:AVals sg_I83) (kf:Ret→Option Ret):Option Ret:=I83 N x.1 x.2.1 x.2.2.1 (fun r0=>kf ⟨[⟨.bool,.k,r0⟩],[]⟩)
noncomputable def run_I83 (N:Nat):=runOf sg_I83 (F_I83 N)
noncomputable def es_I83 (N:Nat):List Entry:=[⟨40,[.val,.val],(run_I40 N)⟩,⟨82,[.val,.val],(run_S82 N)⟩]
noncomputable def body_I83:Code:=match Tryz.f83.body with | some c=>c | none=>.skip
noncomputable def L_I83 (N n:Nat) (key:Nat) (S:St) (K:Ks):Option Ret:=bif Nat.beq key 2 then withVals ks_I83_l2 S (fun x=>I83_l2 N x.1 x.2.1 x.2.2.1 x.2.2.2.1 n (K (.x 0) (shape ko_I83_l2_0 ())) (fun z0=>K .r (shape ko_I83_l2_1 (z0,()))) x.2.2.2.2.1) else none
theorem L0_I83 (N key:Nat) (S:St) (K:Ks):L_I83 N 0 key S K=none:=(bif0 (withVals0 fun _=>rfl) rfl)
noncomputable def c_I83_0:Code:=(loopsIn body_I83).getD 0 .skip
theorem ls_I83:loopsIn body_I83=[c_I83_0]:=by kernel_rfl
theorem rd_I83_2 (N n:Nat) (x:Vals ks_I83_l2) (K:Ks):L_I83 N (n + 1) 2 (shape ks_I83_l2 x) (h_I83.onOut 2 K)=peRound h_I83 (Orc.of (es_I83 N)) (mixL (L_I83 N) N n 2) c_I83_0 (shape ks_I83_l2 x) (h_I83.onOut 2 K):=by kernel_rfl
theorem fn_I83 (N:Nat) (x:AVals sg_I83) (kf:Ret→Option Ret):F_I83 N x kf=peFunc h_I83 (Orc.of (es_I83 N)) (L_I83 N N) Tryz.f83 (ashape sg_I83 x) kf:=by kernel_rfl
theorem sd_I83 {Γ : Gl} (N:Nat):Sound Γ Tryz.prog 83 (run_I83 N):=fun_ok2 (hh:=h_I83) mixed tab_ok (es:=es_I83 N) ⟨sd_I40 N,⟨sd_S82 N,trivial⟩⟩ (fn:=Tryz.f83) (body:=body_I83) (by kernel_rfl) (by kernel_rfl) (by kernel_rfl) (by kernel_rfl) (by kernel_rfl) (Lf:=L_I83 N) (L0_I83 N) ls_I83 (round_cons (key:=2) (ks:=ks_I83_l2) (by kernel_rfl) (by kernel_rfl) (rd_I83_2 N) trivial) (N:=N) (by kernel_rfl) (fn_I83 N) (.inl (by kernel_rfl))
noncomputable def ks_I18_l4:List Kd:=[.v (.sl tQIIIIILIE) .k,.v (.sl tQIILIE) .k,.v (.sl tQIIE) .k,.v (.sl (.int .i64)) .k,dK,dK,dK,dK,dK,dK,dK,dK,dK,dK,dK,dK,dK,dK,dK,dK,dK,dK,.v (.sl (.int .i64)) .k,.v (.int .i64) .k,.v (.int .i64) .k,dK,dK,dK,dK,dK,dK,dK,dK,dK,dK,dK,dK,dK,dK,dK,dK,dK,dK,dK,dK,dK,dK,dK,dK,dK,dK,dK,dK,dK,dK]
noncomputable def ko_I18_l4_0:List Kd:=[dK,dK,dK,dK,dK,dK,dK,dK,dK,dK,dK,dK,dK,dK,dK,dK,dK,dK,dK,dK,dK,dK,dK,dK,dK,dK,dK,dK,dK,dK,dK,dK,dK,dK,dK,dK,dK,dK,dK,dK,dK,dK,dK,dK,dK,dK,dK,dK,dK,dK,dK,dK,dK,dK,dK]
noncomputable def ko_I18_l4_1:List Kd:=[dK,dK,dK,dK,dK,dK,dK,dK,.v .bool .k,dK,dK,dK,dK,dK,dK,dK,dK,dK,dK,dK,dK,dK,dK,dK,dK,dK,dK,dK,dK,dK,dK,dK,dK,dK,dK,dK,dK,dK,dK,dK,dK,dK,dK,dK,dK,dK,dK,dK,dK,dK,dK,dK,dK,dK,dK]
noncomputable def h_I18:Hint:={ tab,hn:=[],loops:=[(4,ks_I18_l4)],outs:=[(4,2,ko_I18_l4_0),(4,1,ko_I18_l4_1)],ords:=[(7,(OT.seq [0,1,2,3,4,5,6,7,8,9,10,11,12,13,14,15,16,17,18,19,20,21] .done))] }
noncomputable def sg_I18:List AK:=[.v (.sl tQIIIIILIE) .k,.v (.sl tQIILIE) .k,.v (.sl tQIIE) .k,.v (.sl (.int .i64)) .k]
noncomputable def F_I18 (N:Nat) (x:AVals sg_I18) (kf:Ret→Option Ret):Option Ret:=I18 N x.1 x.2.1 x.2.2.1 x.2.2.2.1 (fun r0=>kf ⟨[⟨.bool,.k,r0⟩],[]⟩)
noncomputable def run_I18 (N:Nat):=runOf sg_I18 (F_I18 N)
noncomputable def es_I18 (N:Nat):List Entry:=[⟨79,[.val],(run_I79 N)⟩,⟨80,[.val,.val],(run_S80 N)⟩,⟨82,[.val,.val],(run_S82 N)⟩,⟨83,[.val,.val,.val],(run_I83 N)⟩]
noncomputable def body_I18:Code:=match Tryz.f18.body with | some c=>c | none=>.skip
noncomputable def L_I18 (N n:Nat) (key:Nat) (S:St) (K:Ks):Option Ret:=bif Nat.beq key 4 then withVals ks_I18_l4 S (fun x=>I18_l4 N x.1 x.2.1 x.2.2.1 x.2.2.2.1 x.2.2.2.2.1 x.2.2.2.2.2.1 n (K (.x 0) (shape ko_I18_l4_0 ())) (fun z0=>K .r (shape ko_I18_l4_1 (z0,()))) x.2.2.2.2.2.2.1) else none
theorem L0_I18 (N key:Nat) (S:St) (K:Ks):L_I18 N 0 key S K=none:=(bif0 (withVals0 fun _=>rfl) rfl)
noncomputable def c_I18_0:Code:=(loopsIn body_I18).getD 0 .skip
theorem ls_I18:loopsIn body_I18=[c_I18_0]:=by kernel_rfl
theorem rd_I18_4 (N n:Nat) (x:Vals ks_I18_l4) (K:Ks):L_I18 N (n + 1) 4 (shape ks_I18_l4 x) (h_I18.onOut 4 K)=peRound h_I18 (Orc.of (es_I18 N)) (mixL (L_I18 N) N n 4) c_I18_0 (shape ks_I18_l4 x) (h_I18.onOut 4 K):=by kernel_rfl
theorem fn_I18 (N:Nat) (x:AVals sg_I18) (kf:Ret→Option Ret):F_I18 N x kf=peFunc h_I18 (Orc.of (es_I18 N)) (L_I18 N N) Tryz.f18 (ashape sg_I18 x) kf:=by kernel_rfl
theorem sd_I18 {Γ : Gl} (N:Nat):Sound Γ Tryz.prog 18 (run_I18 N):=fun_ok2 (hh:=h_I18) mixed tab_ok (es:=es_I18 N) ⟨sd_I79 N,⟨sd_S80 N,⟨sd_S82 N,⟨sd_I83 N,trivial⟩⟩⟩⟩ (fn:=Tryz.f18) (body:=body_I18) (by kernel_rfl) (by kernel_rfl) (by kernel_rfl) (by kernel_rfl) (by kernel_rfl) (Lf:=L_I18 N) (L0_I18 N) ls_I18 (round_cons (key:=4) (ks:=ks_I18_l4) (by kernel_rfl) (by kernel_rfl) (rd_I18_4 N) trivial) (N:=N) (by kernel_rfl) (fn_I18 N) (.inl (by kernel_rfl))
noncomputable def h_I138:Hint:={ tab,hn:=[],loops:=[],outs:=[],ords:=[] }
noncomputable def sg_I138:List AK:=[.v tQIIIE .k]
noncomputable def F_I138 (N:Nat) (x:AVals sg_I138) (kf:Ret→Option Ret):Option Ret:=I138 N x.1 (fun r0=>kf ⟨[⟨.bool,.k,r0⟩],[]⟩)
noncomputable def run_I138 (N:Nat):=runOf sg_I138 (F_I138 N)
noncomputable def es_I138 (N:Nat):List Entry:=[⟨144,[.val,.val,.val],(run_I144 N)⟩]
noncomputable def body_I138:Code:=match Tryz.f138.body with | some c=>c | none=>.skip
theorem ls_I138:loopsIn body_I138=[]:=by kernel_rfl
theorem fn_I138 (N:Nat) (x:AVals sg_I138) (kf:Ret→Option Ret):F_I138 N x kf=peFunc h_I138 (Orc.of (es_I138 N)) (noL N N) Tryz.f138 (ashape sg_I138 x) kf:=by kernel_rfl
theorem sd_I138 {Γ : Gl} (N:Nat):Sound Γ Tryz.prog 138 (run_I138 N):=fun_ok2 (hh:=h_I138) mixed tab_ok (es:=es_I138 N) ⟨sd_I144 N,trivial⟩ (fn:=Tryz.f138) (body:=body_I138) (by kernel_rfl) (by kernel_rfl) (by kernel_rfl) (by kernel_rfl) (by kernel_rfl) (Lf:=noL N) (noL0 N) ls_I138 trivial (N:=N) (by kernel_rfl) (fn_I138 N) (.inl (by kernel_rfl))
noncomputable def ks_I145_l5:List Kd:=[dK,dK,dK,.v (.int .i64) .k,dK,dK,dK,dK,dK,dK,.v (.sl tQIIIIILIE) .k,.v (.int .i64) .k,.v (.int .i64) .k,dK,dK,dK,dK,dK,dK,dK,dK,dK]
noncomputable def ko_I145_l5_0:List Kd:=[dK,dK,dK,.v (.int .i64) .k,dK,dK,dK,dK,dK,dK,dK,dK,dK,dK,dK,dK,dK,dK,dK,dK,dK,dK]
noncomputable def h_I145:Hint:={ tab,hn:=[],loops:=[(5,ks_I145_l5)],outs:=[(5,2,ko_I145_l5_0)],ords:=[] }
noncomputable def sg_I145:List AK:=[.v (.sl tQIIIIILIE) .k]
noncomputable def F_I145 (N:Nat) (x:AVals sg_I145) (kf:Ret→Option Ret):Option Ret:=I145 N x.1 (fun r0=>kf ⟨[⟨(.int .i64),.k,r0⟩],[]⟩)
noncomputable def run_I145 (N:Nat):=runOf sg_I145 (F_I145 N)
noncomputable def es_I145 (N:Nat):List Entry:=[⟨143,[.val],(run_I143 N)⟩]
noncomputable def body_I145:Code:=match Tryz.f145.body with | some c=>c | none=>.skip
noncomputable def L_I145 (N n:Nat) (key:Nat) (S:St) (K:Ks):Option Ret:=bif Nat.beq key 5 then withVals ks_I145_l5 S (fun x=>I145_l5 x.2.1 x.2.2.1 n (fun z0=>K (.x 0) (shape ko_I145_l5_0 (z0,()))) x.1 x.2.2.2.1) else none
theorem L0_I145 (N key:Nat) (S:St) (K:Ks):L_I145 N 0 key S K=none:=(bif0 (withVals0 fun _=>rfl) rfl)
noncomputable def c_I145_0:Code:=(loopsIn body_I145).getD 0 .skip
theorem ls_I145:loopsIn body_I145=[c_I145_0]:=by kernel_rfl
theorem rd_I145_5 (N n:Nat) (x:Vals ks_I145_l5) (K:Ks):L_I145 N (n + 1) 5 (shape ks_I145_l5 x) (h_I145.onOut 5 K)=peRound h_I145 (Orc.of (es_I145 N)) (mixL (L_I145 N) N n 5) c_I145_0 (shape ks_I145_l5 x) (h_I145.onOut 5 K):=by kernel_rfl
theorem fn_I145 (N:Nat) (x:AVals sg_I145) (kf:Ret→Option Ret):F_I145 N x kf=peFunc h_I145 (Orc.of (es_I145 N)) (L_I145 N N) Tryz.f145 (ashape sg_I145 x) kf:=by kernel_rfl
theorem sd_I145 {Γ : Gl} (N:Nat):Sound Γ Tryz.prog 145 (run_I145 N):=fun_ok2 (hh:=h_I145) mixed tab_ok (es:=es_I145 N) ⟨sd_I143 N,trivial⟩ (fn:=Tryz.f145) (body:=body_I145) (by kernel_rfl) (by kernel_rfl) (by kernel_rfl) (by kernel_rfl) (by kernel_rfl) (Lf:=L_I145 N) (L0_I145 N) ls_I145 (round_cons (key:=5) (ks:=ks_I145_l5) (by kernel_rfl) (by kernel_rfl) (rd_I145_5 N) trivial) (N:=N) (by kernel_rfl) (fn_I145 N) (.inl (by kernel_rfl))
noncomputable def ks_I39_l6:List Kd:=[dK,.v (.ptr tQLQIIIIILIELQIILIELQIIELILQIIIELQIIIIEIE) (.o 31 none .k),dK,dK,dK,dK,dK,dK,dK,dK,dK,dK,dK,dK,dK,dK,dK,dK,dK,dK,dK,dK,dK,dK,dK,dK,dK,dK,dK,dK,dK,dK,dK,dK,dK,dK,dK,dK,dK,dK,dK,dK,dK,dK,dK,dK,dK,dK,dK,dK,dK,dK,dK,dK,dK,dK,dK,dK,dK,dK,dK,dK,.v (.sl tQIIIE) .k,.v (.int .i64) .k,.v (.int .i64) .k,dK,dK,dK,dK,dK,dK,dK,dK,dK,dK,dK,dK,dK,dK,dK,dK,dK,dK,dK,dK,dK,dK,dK,dK,dK,dK,dK,dK,dK,dK,dK,dK,dK,dK]
noncomputable def ko_I39_l6_0:List Kd:=[dK,.v (.ptr tQLQIIIIILIELQIILIELQIIELILQIIIELQIIIIEIE) (.o 31 none .k),dK,dK,dK,dK,dK,dK,dK,dK,dK,dK,dK,dK,dK,dK,dK,dK,dK,dK,dK,dK,dK,dK,dK,dK,dK,dK,dK,dK,dK,dK,dK,dK,dK,dK,dK,dK,dK,dK,dK,dK,dK,dK,dK,dK,dK,dK,dK,dK,dK,dK,dK,dK,dK,dK,dK,dK,dK,dK,dK,dK,dK,dK,dK,dK,dK,dK,dK,dK,dK,dK,dK,dK,dK,dK,dK,dK,dK,dK,dK,dK,dK,dK,dK,dK,dK,dK,dK,dK,dK,dK,dK,dK,dK,dK,dK,dK,dK]
noncomputable def ko_I39_l6_1:List Kd:=[dK,dK,.v .bool .k,dK,dK,dK,dK,dK,dK,dK,dK,dK,dK,dK,dK,dK,dK,dK,dK,dK,dK,dK,dK,dK,dK,dK,dK,dK,dK,dK,dK,dK,dK,dK,dK,dK,dK,dK,dK,dK,dK,dK,dK,dK,dK,dK,dK,dK,dK,dK,dK,dK,dK,dK,dK,dK,dK,dK,dK,dK,dK,dK,dK,dK,dK,dK,dK,dK,dK,dK,dK,dK,dK,dK,dK,dK,dK,dK,dK,dK,dK,dK,dK,dK,dK,dK,dK,dK,dK,dK,dK,dK,dK,dK,dK,dK,dK,dK,dK]
noncomputable def h_I39:Hint:={ tab,hn:=[],loops:=[(6,ks_I39_l6)],outs:=[(6,2,ko_I39_l6_0),(6,1,ko_I39_l6_1)],ords:=[(8,(OT.seq [0,1,2,3,4,5,6,7,8,9,10,11,12,13,14,15,16,17] .done)),(11,(OT.seq [0,1,2,3,4,5,7,8,6,9,10,11] .done))] }
noncomputable def sg_I39:List AK:=[.v tQLQIIIIILIELQIILIELQIIELILQIIIELQIIIIEIE .k]
noncomputable def F_I39 (N:Nat) (x:AVals sg_I39) (kf:Ret→Option Ret):Option Ret:=I39 N x.1 (fun r0=>kf ⟨[⟨.bool,.k,r0⟩],[]⟩)
noncomputable def run_I39 (N:Nat):=runOf sg_I39 (F_I39 N)
noncomputable def es_I39 (N:Nat):List Entry:=[⟨143,[.val],(run_I143 N)⟩,⟨79,[.val],(run_I79 N)⟩,⟨75,[.val],(run_I75 N)⟩,⟨16,[.val],(run_I16 N)⟩,⟨17,[.val,.val],(run_I17 N)⟩,⟨18,[.val,.val,.val,.val],(run_I18 N)⟩,⟨138,[.val],(run_I138 N)⟩,⟨144,[.val,.val,.val],(run_I144 N)⟩,⟨145,[.val],(run_I145 N)⟩]
noncomputable def body_I39:Code:=match Tryz.f39.body with | some c=>c | none=>.skip
noncomputable def L_I39 (N n:Nat) (key:Nat) (S:St) (K:Ks):Option Ret:=bif Nat.beq key 6 then withVals ks_I39_l6 S (fun x=>I39_l6 N x.1 x.2.1 x.2.2.1 n (K (.x 0) (shape ko_I39_l6_0 (x.1,()))) (fun z0=>K .r (shape ko_I39_l6_1 (z0,()))) x.2.2.2.1) else none
theorem L0_I39 (N key:Nat) (S:St) (K:Ks):L_I39 N 0 key S K=none:=(bif0 (withVals0 fun _=>rfl) rfl)
noncomputable def c_I39_0:Code:=(loopsIn body_I39).getD 0 .skip
theorem ls_I39:loopsIn body_I39=[c_I39_0]:=by kernel_rfl
theorem rd_I39_6 (N n:Nat) (x:Vals ks_I39_l6) (K:Ks):L_I39 N (n + 1) 6 (shape ks_I39_l6 x) (h_I39.onOut 6 K)=peRound h_I39 (Orc.of (es_I39 N)) (mixL (L_I39 N) N n 6) c_I39_0 (shape ks_I39_l6 x) (h_I39.onOut 6 K):=by kernel_rfl
theorem fn_I39 (N:Nat) (x:AVals sg_I39) (kf:Ret→Option Ret):F_I39 N x kf=peFunc h_I39 (Orc.of (es_I39 N)) (L_I39 N N) Tryz.f39 (ashape sg_I39 x) kf:=by kernel_rfl
theorem sd_I39 {Γ : Gl} (N:Nat):Sound Γ Tryz.prog 39 (run_I39 N):=fun_ok2 (hh:=h_I39) mixed tab_ok (es:=es_I39 N) ⟨sd_I143 N,⟨sd_I79 N,⟨sd_I75 N,⟨sd_I16 N,⟨sd_I17 N,⟨sd_I18 N,⟨sd_I138 N,⟨sd_I144 N,⟨sd_I145 N,trivial⟩⟩⟩⟩⟩⟩⟩⟩⟩ (fn:=Tryz.f39) (body:=body_I39) (by kernel_rfl) (by kernel_rfl) (by kernel_rfl) (by kernel_rfl) (by kernel_rfl) (Lf:=L_I39 N) (L0_I39 N) ls_I39 (round_cons (key:=6) (ks:=ks_I39_l6) (by kernel_rfl) (by kernel_rfl) (rd_I39_6 N) trivial) (N:=N) (by kernel_rfl) (fn_I39 N) (.inl (by kernel_rfl))
end Go.Pv.R
