/- Each function of the program that the law reaches computes its plain function, part 1. -/
import Derived.Test.YtcpakhaogbempaaGreatSnd0
import Derived.Test.YtcpakhaogbempaaGreatProg
namespace Go.Pv.R
open Go.Proofs
set_option linter.unusedVariables false
set_option maxRecDepth 100000
noncomputable def A5:List Kd:=dK::.v (.int .i64) .k::.v (.int .i64) .k::.v (.ptr bY) (.o 31 none .k)::dK::dK::.v (.ptr bY) (.o 31 none (.p (.o 46 none (.p .k (.p .k (.p .k (.p .k (.p .k (.o 3 none .k))))))) (.p (.o 80 none (.p .k (.p .k (.o 3 none .k)))) (.p (.o 104 none .k) (.p (.o 3 none .k) (.p (.o 136 none .k) (.p (.o 102 none .k) .k)))))))::dK::.v (.ptr bY) (.o 31 none (.p (.o 46 none (.p .k (.p .k (.p .k (.p .k (.p .k (.o 3 none .k))))))) (.p (.o 80 none (.p .k (.p .k (.o 3 none .k)))) (.p (.o 104 none .k) (.p (.o 3 none .k) (.p (.o 136 none .k) (.p (.o 102 none .k) .k)))))))::.v (.int .i64) .k::dn 40 ([])
noncomputable def CS:List Kd:=dK::.v (.int .i64) .k::.v (.int .i64) .k::.v (.ptr bY) (.o 31 none .k)::dK::dK::.v (.ptr bY) (.o 31 none (.p (.o 46 none (.p .k (.p .k (.p .k (.p .k (.p .k (.o 3 none .k))))))) (.p (.o 80 none (.p .k (.p .k (.o 3 none .k)))) (.p (.o 104 none .k) (.p (.o 3 none .k) (.p (.o 136 none .k) (.p (.o 102 none .k) .k)))))))::dK::.v (.ptr bY) (.o 31 none (.p (.o 46 none (.p .k (.p .k (.p .k (.p .k (.p .k (.o 3 none .k))))))) (.p (.o 80 none (.p .k (.p .k (.o 3 none .k)))) (.p (.o 104 none .k) (.p (.o 3 none .k) (.p (.o 136 none .k) (.p (.o 102 none .k) .k)))))))::.v (.int .i64) .k::dn 40 ([])
noncomputable def agC:Hint:={ tab,hn:=[],loops:=[(5,A5)],outs:=[(5,2,CS)],bp:=[] }
noncomputable def TF:List AK:=[.v bY .k,.v (.int .i64) .k,.v (.int .i64) .k]
noncomputable def asu (N:Nat) (x:ay TF) (kf:aa→Option aa):Option aa:=I32 N x.1 x.2.1 x.2.2.1 (fun r0 r1=>kf ⟨[⟨bY,(.p (.o 46 none (.p .k (.p .k (.p .k (.p .k (.p .k (.o 3 none .k))))))) (.p (.o 80 none (.p .k (.p .k (.o 3 none .k)))) (.p (.o 104 none .k) (.p (.o 3 none .k) (.p (.o 136 none .k) (.p (.o 102 none .k) .k)))))),r0⟩,⟨.bool,.k,r1⟩],[]⟩)
noncomputable def XN (N:Nat):=ar TF (asu N)
noncomputable def agD (N:Nat):List Entry:=[⟨70,[.val],(lC N)⟩,⟨130,[.val,.val],(F0 N)⟩,⟨136,[.take,.val,.take],(OI N)⟩,⟨103,[.val,.take,.val,.val],(mC N)⟩]
noncomputable def F3:Code:=aI Tryz.f32
noncomputable def agE (N n:Nat) (key:Nat) (S:St) (K:Ks):Option aa:=bif Nat.beq key 5 then az A5 S (fun x=>rC x.1 x.2.1 x.2.2.1 x.2.2.2.1 x.2.2.2.2.1 n (fun z0=>K (.x 0) (shape CS (x.1,x.2.1,x.2.2.1,x.2.2.2.1,x.2.2.2.2.1,z0,()))) x.2.2.2.2.2.1) else none
theorem avV (N key:Nat) (S:St) (K:Ks):agE N 0 key S K=none:=(bE (aq fun _=>rfl) rfl)
noncomputable def XO:Code:=(af F3).getD 0 .skip
theorem avW:af F3=[XO]:=by kernel_rfl
theorem agF (N:Nat):dU agC (agD N) (agE N) N 5 A5 XO:=fun _ _ _=>by kernel_rfl
theorem avX (N:Nat):bQ TF (asu N) agC (agD N) (agE N N) Tryz.f32:=fun _ _=>by kernel_rfl
theorem avY {Γ:Gl} (N:Nat):Sound Γ Tryz.prog 32 (XN N):=fq agC Tryz.f32 F3 (avV N) avW (avX N) (rc (agF N) trivial) ⟨r9 N,⟨XL N,⟨amH N,⟨s8 N,trivial⟩⟩⟩⟩
noncomputable def agG:Hint:={ tab,hn:=[],loops:=[],outs:=[],bp:=[] }
noncomputable def DA:List AK:=[.v (.sl bj) .k]
noncomputable def J5 (N:Nat) (x:ay DA) (kf:aa→Option aa):Option aa:=ajS N x.1 (fun r0=>kf ⟨[⟨(.sl bj),(.o 46 none .k),r0⟩],[]⟩)
noncomputable def OJ (N:Nat):=ar DA (J5 N)
noncomputable def H2:Code:=aI Tryz.f229
theorem amI:af H2=[]:=by kernel_rfl
theorem amJ (N:Nat):bQ DA (J5 N) agG [] (dP N N) Tryz.f229:=fun _ _=>by kernel_rfl
theorem agH (N:Nat) (x:ay DA):cL (J5 N x):=by
 obtain⟨l,u⟩:=x
 unfold J5 ajS
 cases l with
 |nil=>exact⟨some _,fun K=>lH _⟩
 |cons a l=>
  simp only[List.isEmpty_cons,cond_false]
  exact cL.bif _ (cL.pure _) cL.none
theorem amK {Γ:Gl} (N:Nat):Sound Γ Tryz.prog 229 (OJ N):=iU (hh:=agG) mixed kT (es:=[]) trivial (fn:=Tryz.f229) (body:=H2) (by kernel_rfl) (by kernel_rfl) (by kernel_rfl) (by kernel_rfl) (by kernel_rfl) (Lf:=dP N) (S4 N) amI trivial (N:=N) (by kernel_rfl) (amJ N) (.inr (agH N))
noncomputable def J6:List AK:=[.v (.int .u64) .k]
noncomputable def agI (N:Nat) (x:ay J6) (kf:aa→Option aa):Option aa:=atV N x.1 (fun r0=>kf ⟨[⟨(.int .i64),.k,r0⟩],[]⟩)
noncomputable def OK (N:Nat):=ar J6 (agI N)
theorem amL (N:Nat):bQ J6 (agI N) hq [] (dP N N) Tryz.f245:=fun _ _=>by kernel_rfl
theorem amM {Γ:Gl} (N:Nat):Sound Γ Tryz.prog 245 (OK N):=fo hq Tryz.f245 (amL N) trivial
noncomputable def J7:List AK:=[.v (.int .u64) .k]
noncomputable def agJ (N:Nat) (x:ay J7) (kf:aa→Option aa):Option aa:=ajT N x.1 (fun r0=>kf ⟨[⟨(.int .i64),.k,r0⟩],[]⟩)
noncomputable def OL (N:Nat):=ar J7 (agJ N)
noncomputable def amN (N:Nat):List Entry:=[⟨245,[.val],(OK N)⟩]
theorem amO (N:Nat):bQ J7 (agJ N) hq (amN N) (dP N N) Tryz.f211:=fun _ _=>by kernel_rfl
theorem amP {Γ:Gl} (N:Nat):Sound Γ Tryz.prog 211 (OL N):=fo hq Tryz.f211 (amO N) ⟨amM N,trivial⟩
noncomputable def J8:List AK:=[.v (.int .i64) .k]
noncomputable def agK (N:Nat) (x:ay J8) (kf:aa→Option aa):Option aa:=ajU N x.1 (fun r0=>kf ⟨[⟨.bool,.k,r0⟩],[]⟩)
noncomputable def OM (N:Nat):=ar J8 (agK N)
theorem amQ (N:Nat):bQ J8 (agK N) hq [] (dP N N) Tryz.f253:=fun _ _=>by kernel_rfl
theorem amR {Γ:Gl} (N:Nat):Sound Γ Tryz.prog 253 (OM N):=fo hq Tryz.f253 (amQ N) trivial
noncomputable def J9:List AK:=[.v (.int .i64) .k,.v (.int .i64) .k]
noncomputable def agL (N:Nat) (x:ay J9) (kf:aa→Option aa):Option aa:=ZU N x.1 x.2.1 (fun r0=>kf ⟨[⟨(.int .i64),.k,r0⟩],[]⟩)
noncomputable def ON (N:Nat):=ar J9 (agL N)
noncomputable def amS (N:Nat):List Entry:=[⟨253,[.val],(OM N)⟩]
theorem amT (N:Nat):bQ J9 (agL N) hq (amS N) (dP N N) Tryz.f233:=fun _ _=>by kernel_rfl
theorem amU {Γ:Gl} (N:Nat):Sound Γ Tryz.prog 233 (ON N):=fo hq Tryz.f233 (amT N) ⟨amR N,trivial⟩
noncomputable def vu:List Kd:=dn 3 (.v (.int .i64) .k::dK::dK::.v (.sl (.int .i64)) .k::.v (.int .i64) .k::.v (.int .i64) .k::dn 9 ([]))
noncomputable def x4:List Kd:=dn 3 (.v (.int .i64) .k::dn 14 ([]))
noncomputable def x5:List Kd:=dK::dK::.v (.int .i64) .k::dn 15 ([])
noncomputable def TG:Hint:={ tab,hn:=[],loops:=[(3,vu)],outs:=[(3,2,x4),(3,1,x5)],bp:=[] }
noncomputable def J':List AK:=[.v (.sl (.int .i64)) .k]
noncomputable def agM (N:Nat) (x:ay J') (kf:aa→Option aa):Option aa:=ajV N x.1 (fun r0=>kf ⟨[⟨(.int .i64),.k,r0⟩],[]⟩)
noncomputable def OO (N:Nat):=ar J' (agM N)
noncomputable def A6:Code:=aI Tryz.f232
noncomputable def TH (N n:Nat) (key:Nat) (S:St) (K:Ks):Option aa:=bif Nat.beq key 3 then az vu S (fun x=>py x.1 x.2.1 x.2.2.1 n (K (.x 0) (shape x4 (x.1,()))) (fun z0=>K .r (shape x5 (z0,()))) x.2.2.2.1) else none
theorem amV (N key:Nat) (S:St) (K:Ks):TH N 0 key S K=none:=(bE (aq fun _=>rfl) rfl)
noncomputable def OP:Code:=(af A6).getD 0 .skip
theorem amW:af A6=[OP]:=by kernel_rfl
theorem abf (N:Nat):dU TG [] (TH N) N 3 vu OP:=fun _ _ _=>by kernel_rfl
theorem amX (N:Nat):bQ J' (agM N) TG [] (TH N N) Tryz.f232:=fun _ _=>by kernel_rfl
theorem amY {Γ:Gl} (N:Nat):Sound Γ Tryz.prog 232 (OO N):=fq TG Tryz.f232 A6 (amV N) amW (amX N) (rc (abf N) trivial) trivial
noncomputable def agN:Hint:={ tab,hn:=[],loops:=[],outs:=[],bp:=[(1,(OT.seq [0,1,2,3,5,6,7,8,10,11,12,13,4,9,14,15,16,17] .done))] }
noncomputable def Ka:List AK:=[.v bj .k,.v bj .k]
noncomputable def agO (N:Nat) (x:ay Ka) (kf:aa→Option aa):Option aa:=ajW N x.1 x.2.1 (fun r0=>kf ⟨[⟨(.int .i64),.k,r0⟩],[]⟩)
noncomputable def OQ (N:Nat):=ar Ka (agO N)
noncomputable def amZ (N:Nat):List Entry:=[⟨233,[.val,.val],(ON N)⟩,⟨232,[.val],(OO N)⟩]
theorem am0 (N:Nat):bQ Ka (agO N) agN (amZ N) (dP N N) Tryz.f231:=fun _ _=>by kernel_rfl
theorem am1 {Γ:Gl} (N:Nat):Sound Γ Tryz.prog 231 (OQ N):=fo agN Tryz.f231 (am0 N) ⟨amU N,⟨amY N,trivial⟩⟩
noncomputable def vw:List Kd:=.v (.sl bj) (.o 46 (some 0) .k)::.v (.int .i64) .k::.v (.int .i64) .k::.k8 231 []::dn 4 (.v (.int .i64) .k::.v (.int .i64) .k::dn 43 ([]))
noncomputable def x6:List Kd:=.v (.sl bj) (.o 46 (some 0) .k)::.v (.int .i64) .k::.v (.int .i64) .k::.k8 231 []::dn 4 (.v (.int .i64) .k::dn 44 ([]))
noncomputable def vz:List Kd:=.v (.sl bj) (.o 46 (some 0) .k)::.v (.int .i64) .k::.v (.int .i64) .k::.k8 231 []::dn 4 (.v (.int .i64) .k::dn 44 ([]))
noncomputable def x7:List Kd:=.v (.sl bj) (.o 46 (some 0) .k)::dn 52 ([])
noncomputable def Kb:Hint:={ tab,hn:=[],loops:=[(4,vw),(1,vz)],outs:=[(4,4,x6),(1,2,x7)],bp:=[(4,(OT.seq [0,1,2,3,4,5,6,7,8,9,10,11,12,13,14,15,16] .done)),(6,(OT.seq [0,1,5,6,7,8,9,10,11,12,13,14,2,3,4,15,16,17] .done))],wN:=some (0,false) }
noncomputable def Kc:List AK:=[.v (.sl bj) (.o 46 (some 0) .k),.v (.int .i64) .k,.v (.int .i64) .k,.fn 231 []]
noncomputable def agP (N:Nat) (x:ay Kc) (kf:aa→Option aa):Option aa:=atX N x.1 x.2.1 x.2.2.1 (fun z=>kf ⟨[],[⟨(.sl bj),(.o 46 (some 0) .k),z⟩]⟩)
noncomputable def OR (N:Nat):=ar Kc (agP N)
noncomputable def Ke (N:Nat):List Entry:=[⟨231,[.val,.val],(OQ N)⟩]
noncomputable def s9:Code:=aI Tryz.f263
noncomputable def Kf (N n:Nat) (key:Nat) (S:St) (K:Ks):Option aa:=bif Nat.beq key 1 then az vz S (fun x=>pz N x.2.1 x.2.2.1 n (fun z0=>K (.x 0) (shape x7 (z0,()))) x.1 x.2.2.2.2.1) else bif Nat.beq key 4 then az vw S (fun x=>sC N x.2.1 x.2.2.1 x.2.2.2.2.1 n (fun z0=>K (.x 2) (shape x6 (z0,x.2.1,x.2.2.1,(),x.2.2.2.2.1,()))) x.1 x.2.2.2.2.2.1) else none
theorem am2 (N key:Nat) (S:St) (K:Ks):Kf N 0 key S K=none:=(bE (aq fun _=>rfl) (bE (aq fun _=>rfl) rfl))
noncomputable def OS:Code:=(af s9).getD 0 .skip
noncomputable def OU:Code:=(af s9).getD 1 .skip
theorem am3:af s9=[OS,OU]:=by kernel_rfl
theorem abg (N:Nat):dU Kb (Ke N) (Kf N) N 4 vw OU:=fun _ _ _=>by kernel_rfl
theorem abh (N:Nat):dU Kb (Ke N) (Kf N) N 1 vz OS:=fun _ _ _=>by kernel_rfl
theorem am4 (N:Nat):bQ Kc (agP N) Kb (Ke N) (Kf N N) Tryz.f263:=fun _ _=>by kernel_rfl
theorem am5 {Γ:Gl} (N:Nat):Sound Γ Tryz.prog 263 (OR N):=fq Kb Tryz.f263 s9 (am2 N) am3 (am4 N) (rc (abh N) (rc (abg N) trivial)) ⟨am1 N,trivial⟩
noncomputable def vA:List Kd:=.v (.sl bj) (.o 46 (some 0) .k)::.v (.int .i64) .k::.v (.int .i64) .k::.v (.int .i64) .k::.k8 231 []::dn 5 (.v .bool .k::.v .bool .k::dn 136 ([]))
noncomputable def x8:List Kd:=.v (.sl bj) (.o 46 (some 0) .k)::dn 147 ([])
noncomputable def TJ:Hint:={ tab,hn:=[],loops:=[(2,vA)],outs:=[(2,1,x8)],bp:=[],wN:=some (0,false) }
noncomputable def Kg:List AK:=[.v (.sl bj) (.o 46 (some 0) .k),.v (.int .i64) .k,.v (.int .i64) .k,.v (.int .i64) .k,.fn 231 []]
noncomputable def agQ (N:Nat) (x:ay Kg) (kf:aa→Option aa):Option aa:=ajX N x.1 x.2.1 x.2.2.1 x.2.2.2.1 (fun z=>kf ⟨[],[⟨(.sl bj),(.o 46 (some 0) .k),z⟩]⟩)
noncomputable def OV (N:Nat):=ar Kg (agQ N)
noncomputable def XP (N:Nat):List Entry:=[⟨263,[.nH,.val,.val,.val],(OR N)⟩]
noncomputable def A7:Code:=aI Tryz.f252
noncomputable def TK (N n:Nat) (key:Nat) (S:St) (K:Ks):Option aa:=bif Nat.beq key 2 then az vA S (fun x=>IT N x.1 x.2.1 x.2.2.1 x.2.2.2.1 x.2.2.2.2.2.1 x.2.2.2.2.2.2.1 n (fun z0=>K .r (shape x8 (z0,())))) else none
theorem am6 (N key:Nat) (S:St) (K:Ks):TK N 0 key S K=none:=(bE (aq fun _=>rfl) rfl)
noncomputable def OW:Code:=(af A7).getD 0 .skip
theorem am7:af A7=[OW]:=by kernel_rfl
theorem abi (N:Nat):dU TJ (XP N) (TK N) N 2 vA OW:=fun _ _ _=>by kernel_rfl
theorem am8 (N:Nat):bQ Kg (agQ N) TJ (XP N) (TK N N) Tryz.f252:=fun _ _=>by kernel_rfl
theorem am9 {Γ:Gl} (N:Nat):Sound Γ Tryz.prog 252 (OV N):=fq TJ Tryz.f252 A7 (am6 N) am7 (am8 N) (rc (abi N) trivial) ⟨am5 N,trivial⟩
noncomputable def agR:Hint:={ tab,hn:=[],loops:=[],outs:=[],bp:=[],wN:=some (0,false) }
noncomputable def Kh:List AK:=[.v (.sl bj) (.o 46 (some 0) .k),.fn 231 []]
noncomputable def agS (N:Nat) (x:ay Kh) (kf:aa→Option aa):Option aa:=ajY N x.1 (fun z=>kf ⟨[],[⟨(.sl bj),(.o 46 (some 0) .k),z⟩]⟩)
noncomputable def OX (N:Nat):=ar Kh (agS N)
noncomputable def am' (N:Nat):List Entry:=[⟨211,[.val],(OL N)⟩,⟨252,[.nH,.val,.val,.val,.val],(OV N)⟩]
theorem ana (N:Nat):bQ Kh (agS N) agR (am' N) (dP N N) Tryz.f230:=fun _ _=>by kernel_rfl
theorem anb {Γ:Gl} (N:Nat):Sound Γ Tryz.prog 230 (OX N):=fo agR Tryz.f230 (ana N) ⟨amP N,⟨am9 N,trivial⟩⟩
noncomputable def vB:List Kd:=dn 3 (.v (.sl (.int .i64)) (.o 3 none .k)::dn 12 (.v (.sl bj) (.o 46 none .k)::.v (.int .i64) .k::.v (.int .i64) .k::dn 10 ([])))
noncomputable def x9:List Kd:=dn 3 (.v (.sl (.int .i64)) (.o 3 none .k)::dn 25 ([]))
noncomputable def TL:Hint:={ tab,hn:=[],loops:=[(7,vB)],outs:=[(7,2,x9)],bp:=[] }
noncomputable def Ki:List AK:=[.v (.sl bj) .k]
noncomputable def agT (N:Nat) (x:ay Ki) (kf:aa→Option aa):Option aa:=adR N x.1 (fun r0=>kf ⟨[⟨(.sl (.int .i64)),(.o 3 none .k),r0⟩],[]⟩)
noncomputable def F4 (N:Nat):=ar Ki (agT N)
noncomputable def XQ (N:Nat):List Entry:=[⟨143,[.val],(jn N)⟩,⟨229,[.val],(OJ N)⟩,⟨230,[.nH,.val],(OX N)⟩]
noncomputable def A8:Code:=aI Tryz.f187
noncomputable def TM (N n:Nat) (key:Nat) (S:St) (K:Ks):Option aa:=bif Nat.beq key 7 then az vB S (fun x=>pA x.2.1 x.2.2.1 n (fun z0=>K (.x 0) (shape x9 (z0,()))) x.1 x.2.2.2.1) else none
theorem anc (N key:Nat) (S:St) (K:Ks):TM N 0 key S K=none:=(bE (aq fun _=>rfl) rfl)
noncomputable def OY:Code:=(af A8).getD 0 .skip
theorem ane:af A8=[OY]:=by kernel_rfl
theorem abj (N:Nat):dU TL (XQ N) (TM N) N 7 vB OY:=fun _ _ _=>by kernel_rfl
theorem anf (N:Nat):bQ Ki (agT N) TL (XQ N) (TM N N) Tryz.f187:=fun _ _=>by kernel_rfl
theorem XR {Γ:Gl} (N:Nat):Sound Γ Tryz.prog 187 (F4 N):=fq TL Tryz.f187 A8 (anc N) ane (anf N) (rc (abj N) trivial) ⟨nk N,⟨amK N,⟨anb N,trivial⟩⟩⟩
def OZ:Go.Shelf.Ren:=⟨fun n=>bif Nat.beq n 4 then 251 else n,fun n=>bif Nat.beq n 0 then 0 else bif Nat.beq n 3 then 3 else bif Nat.beq n 4 then 4 else bif Nat.beq n 9 then 9 else bif Nat.beq n 20 then 20 else bif Nat.beq n 22 then 27 else bif Nat.beq n 25 then 3 else n,fun n=>n⟩
theorem abk:Go.Proofs.Lays8.n4 Tryz.prog OZ:={ f4:=⟨Tryz.f251.name,by kernel_rfl,by kernel_rfl⟩,mixed:=by kernel_rfl,t0:=by kernel_rfl,a0:=fun w=>by kernel_rfl,z0:=fun w=>by kernel_rfl,v0:=fun w=>by kernel_rfl,t3:=by kernel_rfl,a3:=fun w=>by kernel_rfl,z3:=fun w=>by kernel_rfl,v3:=fun w=>by kernel_rfl,t4:=by kernel_rfl,a4:=fun w=>by kernel_rfl,z4:=fun w=>by kernel_rfl,v4:=fun w=>by kernel_rfl,t9:=by kernel_rfl,a9:=fun w=>by kernel_rfl,z9:=fun w=>by kernel_rfl,v9:=fun w=>by kernel_rfl,t20:=by kernel_rfl,a20:=fun w=>by kernel_rfl,z20:=fun w=>by kernel_rfl,v20:=fun w=>by kernel_rfl,t22:=by kernel_rfl,a22:=fun w=>by kernel_rfl,z22:=fun w=>by kernel_rfl,v22:=fun w=>by kernel_rfl }
noncomputable def ang:TypeInfo:=(Tryz.prog.info? 3).get (by kernel_rfl)
noncomputable def XS:List AK:=[.v (.sl (.int .i64)) (.o 3 none .k),.v (.int .i64) .k]
noncomputable def avZ (N:Nat) (x:ay XS) (kf:aa→Option aa):Option aa:=atY N x.1 x.2.1 (fun r0=>kf ⟨[⟨(.sl (.int .i64)),(.o 3 none .k),r0⟩],[]⟩)
noncomputable def O0 (N:Nat):=ar XS (avZ N)
theorem anh {Γ:Gl} (N:Nat):Sound Γ Tryz.prog 251 (O0 N):=S0 (ρ:=OZ) (i0:=ang) (z:=.int .i64 0) abk (by kernel_rfl) (by kernel_rfl) (by kernel_rfl) (by kernel_rfl) (by kernel_rfl)
noncomputable def vC:List Kd:=.v (.sl (.sl (.int .i64))) .k::dK::dK::.v (.int .i64) .k::dn 5 (.v (.sl (.sl (.int .i64))) .k::.v (.int .i64) .k::.v (.int .i64) .k::dn 24 ([]))
noncomputable def ya:List Kd:=.v (.sl (.sl (.int .i64))) .k::dK::dK::.v (.int .i64) .k::dn 32 ([])
noncomputable def si:List Kd:=dn 6 (.v (.sl (.int .i64)) (.o 3 none .k)::dn 18 (.v (.sl (.sl (.int .i64))) .k::.v (.int .i64) .k::.v (.int .i64) .k::dn 8 ([])))
noncomputable def tX:List Kd:=dn 6 (.v (.sl (.int .i64)) (.o 3 none .k)::dn 29 ([]))
noncomputable def Kj:Hint:={ tab,hn:=[],loops:=[(3,vC),(11,si)],outs:=[(3,2,ya),(11,4,tX)],bp:=[] }
noncomputable def Kk:List AK:=[.v (.sl (.sl (.int .i64))) .k]
noncomputable def agU (N:Nat) (x:ay Kk) (kf:aa→Option aa):Option aa:=ajZ N x.1 (fun r0=>kf ⟨[⟨(.sl (.int .i64)),(.o 3 none .k),r0⟩],[]⟩)
noncomputable def O1 (N:Nat):=ar Kk (agU N)
noncomputable def Kl (N:Nat):List Entry:=[⟨251,[.take,.val],(O0 N)⟩]
noncomputable def ta:Code:=aI Tryz.f227
noncomputable def Km (N n:Nat) (key:Nat) (S:St) (K:Ks):Option aa:=bif Nat.beq key 3 then az vC S (fun x=>pB x.1 x.2.2.1 x.2.2.2.1 n (fun z0=>K (.x 0) (shape ya (x.1,z0,()))) x.2.1 x.2.2.2.2.1) else bif Nat.beq key 11 then az si S (fun x=>ku x.2.1 x.2.2.1 n (fun z0=>K (.x 2) (shape tX (z0,()))) x.1 x.2.2.2.1) else none
theorem ani (N key:Nat) (S:St) (K:Ks):Km N 0 key S K=none:=(bE (aq fun _=>rfl) (bE (aq fun _=>rfl) rfl))
noncomputable def O2:Code:=(af ta).getD 0 .skip
noncomputable def O3:Code:=(af ta).getD 1 .skip
theorem anj:af ta=[O2,O3]:=by kernel_rfl
theorem TN (N:Nat):dU Kj (Kl N) (Km N) N 11 si O3:=fun _ _ _=>by kernel_rfl
theorem abl (N:Nat):dU Kj (Kl N) (Km N) N 3 vC O2:=fun _ _ _=>by kernel_rfl
theorem ank (N:Nat):bQ Kk (agU N) Kj (Kl N) (Km N N) Tryz.f227:=fun _ _=>by kernel_rfl
theorem anl {Γ:Gl} (N:Nat):Sound Γ Tryz.prog 227 (O1 N):=fq Kj Tryz.f227 ta (ani N) anj (ank N) (rc (abl N) (rc (TN N) trivial)) ⟨anh N,trivial⟩
noncomputable def agV:Hint:={ tab,hn:=[],loops:=[],outs:=[],bp:=[(4,(OT.seq [0,1,2,3,4,5,6,7,8,9,10,11] .done))] }
noncomputable def Kn:List AK:=[.v (.sl bj) .k,.v (.int .i64) .k,.v (.int .i64) .k]
noncomputable def agW (N:Nat) (x:ay Kn) (kf:aa→Option aa):Option aa:=aj0 N x.1 x.2.1 x.2.2.1 (fun r0=>kf ⟨[⟨aM,.k,r0⟩],[]⟩)
noncomputable def O4 (N:Nat):=ar Kn (agW N)
noncomputable def anm (N:Nat):List Entry:=[⟨40,[.val,.val],(lD N)⟩,⟨143,[.val],(jn N)⟩,⟨187,[.val],(F4 N)⟩,⟨170,[.val,.val],(FU N)⟩]
theorem ann (N:Nat):bQ Kn (agW N) agV (anm N) (dP N N) Tryz.f228:=fun _ _=>by kernel_rfl
theorem ano {Γ:Gl} (N:Nat):Sound Γ Tryz.prog 228 (O4 N):=fo agV Tryz.f228 (ann N) ⟨se N,⟨nk N,⟨XR N,⟨Xt N,trivial⟩⟩⟩⟩
noncomputable def vD:List Kd:=.v (.sl bj) .k::.v (.sl (.int .i64)) .k::dn 4 (.v (.int .i64) .k::dn 50 ([]))
noncomputable def yb:List Kd:=dn 57 ([])
noncomputable def yc:List Kd:=dn 4 (.v (.sl aM) (.o 104 none .k)::.v .bool .k::dn 51 ([]))
noncomputable def TO:Hint:={ tab,hn:=[],loops:=[(4,vD)],outs:=[(4,2,yb),(4,1,yc)],bp:=[(6,(OT.seq [0,1,2,3,4,5,6,7,8,9] .done)),(7,(OT.seq [0,1,2,3,4,5,6,7,8,9,10,11,12,13,14,15] .done)),(9,(OT.seq [0,1,2,3,4,5,6,7,10,8,9,11,12,13] .done))] }
noncomputable def DB:List AK:=[.v (.sl bj) .k,.v (.sl (.int .i64)) .k]
noncomputable def agX (N:Nat) (x:ay DB) (kf:aa→Option aa):Option aa:=Sg N x.1 x.2.1 (fun r0 r1=>kf ⟨[⟨(.sl aM),(.o 104 none .k),r0⟩,⟨.bool,.k,r1⟩],[]⟩)
noncomputable def yd (N:Nat):=ar DB (agX N)
noncomputable def Ko (N:Nat):List Entry:=[⟨77,[.val,.val,.val],(JV N)⟩,⟨227,[.val],(O1 N)⟩,⟨228,[.val,.val,.val],(O4 N)⟩,⟨186,[.val,.val],(yd N)⟩]
noncomputable def A9:Code:=aI Tryz.f186
noncomputable def Kp (N n:Nat) (key:Nat) (S:St) (K:Ks):Option aa:=bif Nat.beq key 4 then az vD S (fun x=>pC N (Sg N) x.1 x.2.1 n (K (.x 0) (shape yb ())) (fun z0 z1=>K .r (shape yc (z0,z1,()))) x.2.2.1) else none
theorem anp (N key:Nat) (S:St) (K:Ks):Kp N 0 key S K=none:=(bE (aq fun _=>rfl) rfl)
noncomputable def O5:Code:=(af A9).getD 0 .skip
theorem anq:af A9=[O5]:=by kernel_rfl
theorem abm (N:Nat):dU TO (Ko N) (Kp N) N 4 vD O5:=fun _ _ _=>by kernel_rfl
theorem anr (N:Nat) (x:ay DB) (kf:aa→Option aa):agX (N+1) x kf=lQ TO (jr.of (Ko N)) (Kp N N) Tryz.f186 (dR DB x) kf:=by kernel_rfl
theorem XT {Γ:Gl}:∀ N:Nat,Sound Γ Tryz.prog 186 (yd N)
 |0=>o7 fun al kf=>by
  unfold yd ar
  split<;>rfl
 |N+1=>iU (hh:=TO) mixed kT (es:=Ko N) ⟨af7 N,⟨anl N,⟨ano N,⟨XT N,trivial⟩⟩⟩⟩ (fn:=Tryz.f186) (body:=A9) (by kernel_rfl) (by kernel_rfl) (by kernel_rfl) (by kernel_rfl) (by kernel_rfl) (Lf:=Kp N) (anp N) anq (rc (abm N) trivial) (N:=N) (by kernel_rfl) (anr N) (.inl (by kernel_rfl))
noncomputable def Kq:List AK:=[.v (.sl bj) .k]
noncomputable def agY (N:Nat) (x:ay Kq) (kf:aa→Option aa):Option aa:=aj1 N x.1 (fun r0 r1=>kf ⟨[⟨(.sl aM),(.o 104 none .k),r0⟩,⟨.bool,.k,r1⟩],[]⟩)
noncomputable def O6 (N:Nat):=ar Kq (agY N)
noncomputable def ant (N:Nat):List Entry:=[⟨143,[.val],(jn N)⟩,⟨187,[.val],(F4 N)⟩,⟨186,[.val,.val],(yd N)⟩]
theorem anu (N:Nat):bQ Kq (agY N) hq (ant N) (dP N N) Tryz.f101:=fun _ _=>by kernel_rfl
theorem anv {Γ:Gl} (N:Nat):Sound Γ Tryz.prog 101 (O6 N):=fo hq Tryz.f101 (anu N) ⟨nk N,⟨XR N,⟨XT N,trivial⟩⟩⟩
noncomputable def vE:List Kd:=.v (.sl bj) .k::.v (.sl bS) .k::.v (.sl aM) .k::.v (.sl (.int .i64)) .k::dn 14 (.v (.sl bS) .k::.v (.int .i64) .k::.v (.int .i64) .k::dn 38 ([]))
noncomputable def ye:List Kd:=dn 59 ([])
noncomputable def yf:List Kd:=dn 8 (.v (.sl (.int .i64)) (.o 3 none .k)::.v .bool .k::dn 49 ([]))
noncomputable def TP:Hint:={ tab,hn:=[],loops:=[(4,vE)],outs:=[(4,2,ye),(4,1,yf)],bp:=[(6,(OT.seq [0,1,2,3,4,5,6,7,8,9,10,11,12] .done)),(7,(OT.seq [4,6,7,0,1,2,3] (.any [5,8] (OT.seq [9,10,11,12,13,14,15] .done))))] }
noncomputable def DC:List AK:=[.v (.sl bj) .k,.v (.sl bS) .k,.v (.sl aM) .k,.v (.sl (.int .i64)) .k]
noncomputable def agZ (N:Nat) (x:ay DC) (kf:aa→Option aa):Option aa:=Si N x.1 x.2.1 x.2.2.1 x.2.2.2.1 (fun r0 r1=>kf ⟨[⟨(.sl (.int .i64)),(.o 3 none .k),r0⟩,⟨.bool,.k,r1⟩],[]⟩)
noncomputable def yg (N:Nat):=ar DC (agZ N)
noncomputable def Kr (N:Nat):List Entry:=[⟨82,[.val,.val],(xR N)⟩,⟨83,[.val,.val,.val],(JW N)⟩,⟨166,[.val],(rZ N)⟩,⟨188,[.val,.val,.val,.val],(yg N)⟩]
noncomputable def Ba:Code:=aI Tryz.f188
noncomputable def Kt (N n:Nat) (key:Nat) (S:St) (K:Ks):Option aa:=bif Nat.beq key 4 then az vE S (fun x=>mT N (Si N) x.1 x.2.1 x.2.2.1 x.2.2.2.1 x.2.2.2.2.1 x.2.2.2.2.2.1 n (K (.x 0) (shape ye ())) (fun z0 z1=>K .r (shape yf (z0,z1,()))) x.2.2.2.2.2.2.1) else none
theorem anw (N key:Nat) (S:St) (K:Ks):Kt N 0 key S K=none:=(bE (aq fun _=>rfl) rfl)
noncomputable def O7:Code:=(af Ba).getD 0 .skip
theorem anx:af Ba=[O7]:=by kernel_rfl
theorem abn (N:Nat):dU TP (Kr N) (Kt N) N 4 vE O7:=fun _ _ _=>by kernel_rfl
theorem anz (N:Nat) (x:ay DC) (kf:aa→Option aa):agZ (N+1) x kf=lQ TP (jr.of (Kr N)) (Kt N N) Tryz.f188 (dR DC x) kf:=by kernel_rfl
theorem XU {Γ:Gl}:∀ N:Nat,Sound Γ Tryz.prog 188 (yg N)
 |0=>o7 fun al kf=>by
  unfold yg ar
  split<;>rfl
 |N+1=>iU (hh:=TP) mixed kT (es:=Kr N) ⟨JU N,⟨agh N,⟨Dv N,⟨XU N,trivial⟩⟩⟩⟩ (fn:=Tryz.f188) (body:=Ba) (by kernel_rfl) (by kernel_rfl) (by kernel_rfl) (by kernel_rfl) (by kernel_rfl) (Lf:=Kt N) (anw N) anx (rc (abn N) trivial) (N:=N) (by kernel_rfl) (anz N) (.inl (by kernel_rfl))
noncomputable def Ku:List AK:=[.v (.sl bj) .k,.v (.sl bS) .k,.v (.sl aM) .k]
noncomputable def ag0 (N:Nat) (x:ay Ku) (kf:aa→Option aa):Option aa:=aj2 N x.1 x.2.1 x.2.2.1 (fun r0 r1=>kf ⟨[⟨(.sl (.int .i64)),(.o 3 none .k),r0⟩,⟨.bool,.k,r1⟩],[]⟩)
noncomputable def O8 (N:Nat):=ar Ku (ag0 N)
noncomputable def anA (N:Nat):List Entry:=[⟨79,[.val],(Dz N)⟩,⟨143,[.val],(jn N)⟩,⟨188,[.val,.val,.val,.val],(yg N)⟩]
theorem anB (N:Nat):bQ Ku (ag0 N) hq (anA N) (dP N N) Tryz.f102:=fun _ _=>by kernel_rfl
theorem anC {Γ:Gl} (N:Nat):Sound Γ Tryz.prog 102 (O8 N):=fo hq Tryz.f102 (anB N) ⟨Tl N,⟨nk N,⟨XU N,trivial⟩⟩⟩
noncomputable def asv:Hint:={ tab,hn:=[],loops:=[],outs:=[],bp:=[(8,(OT.seq [0,5,1,2,3] (.par [4,6,7,8] [[50,51]] (OT.seq [9,10] .done))))] }
noncomputable def TQ:List AK:=[.v bY .k]
noncomputable def asw (N:Nat) (x:ay TQ) (kf:aa→Option aa):Option aa:=I23 N x.1 (fun r0 r1=>kf ⟨[⟨bY,(.p (.o 46 none (.p .k (.p .k (.p .k (.p .k (.p .k (.o 3 none .k))))))) (.p (.o 80 none (.p .k (.p .k (.o 3 none .k)))) (.p (.o 104 none .k) (.p (.o 3 none .k) (.p (.o 136 none .k) (.p (.o 102 none .k) .k)))))),r0⟩,⟨.bool,.k,r1⟩],[]⟩)
noncomputable def XV (N:Nat):=ar TQ (asw N)
noncomputable def av0 (N:Nat):List Entry:=[⟨70,[.val],(lC N)⟩,⟨39,[.val],(xX N)⟩,⟨16,[.val],(s6 N)⟩,⟨101,[.val],(O6 N)⟩,⟨102,[.val,.val,.val],(O8 N)⟩,⟨103,[.val,.take,.val,.val],(mC N)⟩]
theorem av1 (N:Nat):bQ TQ (asw N) asv (av0 N) (dP N N) Tryz.f23:=fun _ _=>by kernel_rfl
theorem av3 {Γ:Gl} (N:Nat):Sound Γ Tryz.prog 23 (XV N):=fo asv Tryz.f23 (av1 N) ⟨r9 N,⟨J0 N,⟨FP N,⟨anv N,⟨anC N,⟨s8 N,trivial⟩⟩⟩⟩⟩⟩
noncomputable def TR:List AK:=[.v bY .k,.v (.int .i64) .k,.v (.int .i64) .k,.v (.int .i64) .k]
noncomputable def asx (N:Nat) (x:ay TR) (kf:aa→Option aa):Option aa:=I35 N x.1 x.2.1 x.2.2.1 x.2.2.2.1 (fun r0 r1=>kf ⟨[⟨bY,(.p (.o 46 none (.p .k (.p .k (.p .k (.p .k (.p .k (.o 3 none .k))))))) (.p (.o 80 none (.p .k (.p .k (.o 3 none .k)))) (.p (.o 104 none .k) (.p (.o 3 none .k) (.p (.o 136 none .k) (.p (.o 102 none .k) .k)))))),r0⟩,⟨.bool,.k,r1⟩],[]⟩)
noncomputable def XW (N:Nat):=ar TR (asx N)
noncomputable def av4 (N:Nat):List Entry:=[⟨70,[.val],(lC N)⟩,⟨39,[.val],(xX N)⟩,⟨138,[.val],(xV N)⟩,⟨103,[.val,.take,.val,.val],(mC N)⟩]
theorem av5 (N:Nat):bQ TR (asx N) hq (av4 N) (dP N N) Tryz.f35:=fun _ _=>by kernel_rfl
theorem av6 {Γ:Gl} (N:Nat):Sound Γ Tryz.prog 35 (XW N):=fo hq Tryz.f35 (av5 N) ⟨r9 N,⟨J0 N,⟨JY N,⟨s8 N,trivial⟩⟩⟩⟩
noncomputable def Bb:List Kd:=dn 3 (.v (.sl (.int .i64)) (.o 3 none .k)::dn 4 (.v (.sl de) .k::.v (.int .i64) .k::.v (.int .i64) .k::dn 13 ([])))
noncomputable def CT:List Kd:=dn 3 (.v (.sl (.int .i64)) (.o 3 none .k)::dn 20 ([]))
noncomputable def ag3:Hint:={ tab,hn:=[],loops:=[(3,Bb)],outs:=[(3,2,CT)],bp:=[] }
noncomputable def TS:List AK:=[.v bY .k]
noncomputable def asy (N:Nat) (x:ay TS) (kf:aa→Option aa):Option aa:=I41 N x.1 (fun r0=>kf ⟨[⟨(.sl (.int .i64)),(.o 3 none .k),r0⟩],[]⟩)
noncomputable def XX (N:Nat):=ar TS (asy N)
noncomputable def F5:Code:=aI Tryz.f41
noncomputable def ag4 (N n:Nat) (key:Nat) (S:St) (K:Ks):Option aa:=bif Nat.beq key 3 then az Bb S (fun x=>rE x.2.1 x.2.2.1 n (fun z0=>K (.x 0) (shape CT (z0,()))) x.1 x.2.2.2.1) else none
theorem av7 (N key:Nat) (S:St) (K:Ks):ag4 N 0 key S K=none:=(bE (aq fun _=>rfl) rfl)
noncomputable def XY:Code:=(af F5).getD 0 .skip
theorem av8:af F5=[XY]:=by kernel_rfl
theorem ag5 (N:Nat):dU ag3 [] (ag4 N) N 3 Bb XY:=fun _ _ _=>by kernel_rfl
theorem av9 (N:Nat):bQ TS (asy N) ag3 [] (ag4 N N) Tryz.f41:=fun _ _=>by kernel_rfl
theorem av' {Γ:Gl} (N:Nat):Sound Γ Tryz.prog 41 (XX N):=fq ag3 Tryz.f41 F5 (av7 N) av8 (av9 N) (rc (ag5 N) trivial) trivial
noncomputable def vF:List Kd:=.v (.sl de) .k::dn 7 (.v (.sl de) .k::.v (.int .i64) .k::.v (.int .i64) .k::dn 23 ([]))
noncomputable def yh:List Kd:=dn 34 ([])
noncomputable def yi:List Kd:=dK::dK::.v .bool .k::dn 31 ([])
noncomputable def TT:Hint:={ tab,hn:=[],loops:=[(4,vF)],outs:=[(4,2,yh),(4,1,yi)],bp:=[(6,(OT.seq [0,1,2,3,4,5,6,7,8,9,10,11,12,13,14,15,16,17] .done))] }
noncomputable def Kv:List AK:=[.v (.sl de) .k]
noncomputable def ag6 (N:Nat) (x:ay Kv) (kf:aa→Option aa):Option aa:=ZW N x.1 (fun r0=>kf ⟨[⟨.bool,.k,r0⟩],[]⟩)
noncomputable def yj (N:Nat):=ar Kv (ag6 N)
noncomputable def XZ (N:Nat):List Entry:=[⟨138,[.val],(xV N)⟩]
noncomputable def Bc:Code:=aI Tryz.f205
noncomputable def TU (N n:Nat) (key:Nat) (S:St) (K:Ks):Option aa:=bif Nat.beq key 4 then az vF S (fun x=>mU N x.1 x.2.1 x.2.2.1 n (K (.x 0) (shape yh ())) (fun z0=>K .r (shape yi (z0,()))) x.2.2.2.1) else none
theorem anD (N key:Nat) (S:St) (K:Ks):TU N 0 key S K=none:=(bE (aq fun _=>rfl) rfl)
noncomputable def O9:Code:=(af Bc).getD 0 .skip
theorem anE:af Bc=[O9]:=by kernel_rfl
theorem abo (N:Nat):dU TT (XZ N) (TU N) N 4 vF O9:=fun _ _ _=>by kernel_rfl
theorem anF (N:Nat):bQ Kv (ag6 N) TT (XZ N) (TU N N) Tryz.f205:=fun _ _=>by kernel_rfl
theorem Kw {Γ:Gl} (N:Nat):Sound Γ Tryz.prog 205 (yj N):=fq TT Tryz.f205 Bc (anD N) anE (anF N) (rc (abo N) trivial) ⟨JY N,trivial⟩
noncomputable def Kx:List AK:=[.v de .k]
noncomputable def ag7 (N:Nat) (x:ay Kx) (kf:aa→Option aa):Option aa:=ZX N x.1 (fun r0=>kf ⟨[⟨(.int .i64),.k,r0⟩],[]⟩)
noncomputable def F6 (N:Nat):=ar Kx (ag7 N)
theorem anG (N:Nat):bQ Kx (ag7 N) hq [] (dP N N) Tryz.f208:=fun _ _=>by kernel_rfl
theorem X0 {Γ:Gl} (N:Nat):Sound Γ Tryz.prog 208 (F6 N):=fo hq Tryz.f208 (anG N) trivial
noncomputable def vG:List Kd:=dK::.v (.int .i64) .k::dn 3 (.v (.int .i64) .k::dn 6 (.v (.sl de) .k::.v (.int .i64) .k::.v (.int .i64) .k::dn 11 ([])))
noncomputable def yk:List Kd:=dn 5 (.v (.int .i64) .k::dn 20 ([]))
noncomputable def TW:Hint:={ tab,hn:=[],loops:=[(5,vG)],outs:=[(5,2,yk)],bp:=[] }
noncomputable def Ky:List AK:=[.v (.sl de) .k,.v (.int .i64) .k]
noncomputable def ag8 (N:Nat) (x:ay Ky) (kf:aa→Option aa):Option aa:=adY N x.1 x.2.1 (fun r0=>kf ⟨[⟨(.int .i64),.k,r0⟩],[]⟩)
noncomputable def O' (N:Nat):=ar Ky (ag8 N)
noncomputable def X1 (N:Nat):List Entry:=[⟨205,[.val],(yj N)⟩,⟨208,[.val],(F6 N)⟩]
noncomputable def Bd:Code:=aI Tryz.f206
noncomputable def TX (N n:Nat) (key:Nat) (S:St) (K:Ks):Option aa:=bif Nat.beq key 5 then az vG S (fun x=>mV N x.1 x.2.2.1 x.2.2.2.1 n (fun z0=>K (.x 0) (shape yk (z0,()))) x.2.1 x.2.2.2.2.1) else none
theorem anH (N key:Nat) (S:St) (K:Ks):TX N 0 key S K=none:=(bE (aq fun _=>rfl) rfl)
noncomputable def Pb:Code:=(af Bd).getD 0 .skip
theorem anI:af Bd=[Pb]:=by kernel_rfl
theorem abp (N:Nat):dU TW (X1 N) (TX N) N 5 vG Pb:=fun _ _ _=>by kernel_rfl
theorem anJ (N:Nat):bQ Ky (ag8 N) TW (X1 N) (TX N N) Tryz.f206:=fun _ _=>by kernel_rfl
theorem anK {Γ:Gl} (N:Nat):Sound Γ Tryz.prog 206 (O' N):=fq TW Tryz.f206 Bd (anH N) anI (anJ N) (rc (abp N) trivial) ⟨Kw N,⟨X0 N,trivial⟩⟩
noncomputable def vH:List Kd:=dK::.v (.int .i64) .k::dn 3 (.v (.int .i64) .k::dn 6 (.v (.sl de) .k::.v (.int .i64) .k::.v (.int .i64) .k::dn 18 ([])))
noncomputable def yl:List Kd:=dn 5 (.v (.int .i64) .k::dn 27 ([]))
noncomputable def TY:Hint:={ tab,hn:=[],loops:=[(5,vH)],outs:=[(5,2,yl)],bp:=[] }
noncomputable def Kz:List AK:=[.v (.sl de) .k,.v (.int .i64) .k]
noncomputable def ag9 (N:Nat) (x:ay Kz) (kf:aa→Option aa):Option aa:=Sj N x.1 x.2.1 (fun r0=>kf ⟨[⟨(.int .i64),.k,r0⟩],[]⟩)
noncomputable def Pc (N:Nat):=ar Kz (ag9 N)
noncomputable def X4 (N:Nat):List Entry:=[⟨205,[.val],(yj N)⟩]
noncomputable def Be:Code:=aI Tryz.f207
noncomputable def TZ (N n:Nat) (key:Nat) (S:St) (K:Ks):Option aa:=bif Nat.beq key 5 then az vH S (fun x=>lp x.1 x.2.2.1 x.2.2.2.1 n (fun z0=>K (.x 0) (shape yl (z0,()))) x.2.1 x.2.2.2.2.1) else none
theorem anL (N key:Nat) (S:St) (K:Ks):TZ N 0 key S K=none:=(bE (aq fun _=>rfl) rfl)
noncomputable def Pd:Code:=(af Be).getD 0 .skip
theorem anM:af Be=[Pd]:=by kernel_rfl
theorem abq (N:Nat):dU TY (X4 N) (TZ N) N 5 vH Pd:=fun _ _ _=>by kernel_rfl
theorem anN (N:Nat):bQ Kz (ag9 N) TY (X4 N) (TZ N N) Tryz.f207:=fun _ _=>by kernel_rfl
theorem anO {Γ:Gl} (N:Nat):Sound Γ Tryz.prog 207 (Pc N):=fq TY Tryz.f207 Be (anL N) anM (anN N) (rc (abq N) trivial) ⟨Kw N,trivial⟩
noncomputable def KA:List AK:=[.v (.sl de) .k]
noncomputable def ag' (N:Nat) (x:ay KA) (kf:aa→Option aa):Option aa:=ZY N x.1 (fun r0=>kf ⟨[⟨(.int .i64),.k,r0⟩],[]⟩)
noncomputable def Pe (N:Nat):=ar KA (ag' N)
noncomputable def anP (N:Nat):List Entry:=[⟨205,[.val],(yj N)⟩,⟨206,[.val,.val],(O' N)⟩,⟨207,[.val,.val],(Pc N)⟩,⟨208,[.val],(F6 N)⟩]
theorem anQ (N:Nat):bQ KA (ag' N) hq (anP N) (dP N N) Tryz.f129:=fun _ _=>by kernel_rfl
theorem anR {Γ:Gl} (N:Nat):Sound Γ Tryz.prog 129 (Pe N):=fo hq Tryz.f129 (anQ N) ⟨Kw N,⟨anK N,⟨anO N,⟨X0 N,trivial⟩⟩⟩⟩
noncomputable def aha:Hint:={ tab,hn:=[],loops:=[],outs:=[],bp:=[(5,(OT.seq [4,5,6,7,8] (.own 65 (OT.seq [9,0,1,2,3,12,13,14,15,17] (.par [10,11,16,18] [[74,75],[65,66,67,68]] (.own 73 (OT.seq [19,20,21,22,23,24,25] .done)))))))] }
noncomputable def KB:List AK:=[.v (.sl bj) .k,.v (.int .i64) .k,.v (.int .i64) .k,.v (.int .i64) .k,.v (.int .i64) .k,.v (.int .i64) .k]
noncomputable def ahb (N:Nat) (x:ay KB) (kf:aa→Option aa):Option aa:=ZZ N x.1 x.2.1 x.2.2.1 x.2.2.2.1 x.2.2.2.2.1 x.2.2.2.2.2.1 (fun r0 r1=>kf ⟨[⟨(.sl bj),(.o 46 none (.p .k (.p .k (.p .k (.p .k (.p .k (.o 3 none .k))))))),r0⟩,⟨.bool,.k,r1⟩],[]⟩)
noncomputable def Pf (N:Nat):=ar KB (ahb N)
noncomputable def anS (N:Nat):List Entry:=[⟨163,[.val],(FM N)⟩,⟨40,[.val,.val],(lD N)⟩,⟨143,[.val],(jn N)⟩,⟨144,[.val,.val,.val],(kD N)⟩]
theorem anT (N:Nat):bQ KB (ahb N) aha (anS N) (dP N N) Tryz.f128:=fun _ _=>by kernel_rfl
theorem anU {Γ:Gl} (N:Nat):Sound Γ Tryz.prog 128 (Pf N):=fo aha Tryz.f128 (anT N) ⟨Xg N,⟨se N,⟨nk N,⟨qh N,trivial⟩⟩⟩⟩
def ahc:Go.Shelf.Ren:=⟨fun n=>bif Nat.beq n 125 then 211 else bif Nat.beq n 128 then 244 else bif Nat.beq n 129 then 245 else bif Nat.beq n 189 then 131 else bif Nat.beq n 215 then 253 else bif Nat.beq n 216 then 241 else bif Nat.beq n 257 then 210 else bif Nat.beq n 294 then 235 else bif Nat.beq n 295 then 236 else bif Nat.beq n 296 then 237 else bif Nat.beq n 297 then 238 else bif Nat.beq n 298 then 239 else bif Nat.beq n 299 then 240 else bif Nat.beq n 300 then 242 else bif Nat.beq n 301 then 243 else bif Nat.beq n 328 then 254 else bif Nat.beq n 329 then 255 else bif Nat.beq n 330 then 256 else bif Nat.beq n 331 then 257 else bif Nat.beq n 332 then 258 else bif Nat.beq n 343 then 271 else n,fun n=>bif Nat.beq n 0 then 0 else bif Nat.beq n 3 then 3 else bif Nat.beq n 4 then 4 else bif Nat.beq n 5 then 5 else bif Nat.beq n 9 then 9 else bif Nat.beq n 28 then 27 else bif Nat.beq n 46 then 194 else bif Nat.beq n 51 then 216 else bif Nat.beq n 53 then 218 else bif Nat.beq n 131 then 213 else bif Nat.beq n 182 then 207 else bif Nat.beq n 183 then 208 else bif Nat.beq n 218 then 222 else bif Nat.beq n 222 then 226 else bif Nat.beq n 228 then 235 else bif Nat.beq n 229 then 236 else n,fun n=>n⟩
theorem abr:Lays.n189 Tryz.prog ahc:={ mixed:=by kernel_rfl,f125:=by kernel_rfl,f128:=by kernel_rfl,f129:=by kernel_rfl,f189:=by kernel_rfl,f215:=by kernel_rfl,f216:=by kernel_rfl,f257:=by kernel_rfl,f294:=by kernel_rfl,f295:=by kernel_rfl,f296:=by kernel_rfl,f297:=by kernel_rfl,f298:=by kernel_rfl,f299:=by kernel_rfl,f300:=by kernel_rfl,f301:=by kernel_rfl,f328:=by kernel_rfl,f329:=by kernel_rfl,f330:=by kernel_rfl,f331:=by kernel_rfl,f332:=by kernel_rfl,f343:=by kernel_rfl,t0:=by kernel_rfl,a0:=fun w=>by kernel_rfl,z0:=fun w=>by kernel_rfl,v0:=fun w=>by kernel_rfl,t3:=by kernel_rfl,a3:=fun w=>by kernel_rfl,z3:=fun w=>by kernel_rfl,v3:=fun w=>by kernel_rfl,t4:=by kernel_rfl,a4:=fun w=>by kernel_rfl,z4:=fun w=>by kernel_rfl,v4:=fun w=>by kernel_rfl,t5:=by kernel_rfl,a5:=fun w=>by kernel_rfl,z5:=fun w=>by kernel_rfl,v5:=fun w=>by kernel_rfl,t9:=by kernel_rfl,a9:=fun w=>by kernel_rfl,z9:=fun w=>by kernel_rfl,v9:=fun w=>by kernel_rfl,t28:=by kernel_rfl,a28:=fun w=>by kernel_rfl,z28:=fun w=>by kernel_rfl,v28:=fun w=>by kernel_rfl,t46:=by kernel_rfl,a46:=fun w=>by kernel_rfl,z46:=fun w=>by kernel_rfl,v46:=fun w=>by kernel_rfl,t51:=by kernel_rfl,a51:=fun w=>by kernel_rfl,z51:=fun w=>by kernel_rfl,v51:=fun w=>by kernel_rfl,t53:=by kernel_rfl,a53:=fun w=>by kernel_rfl,z53:=fun w=>by kernel_rfl,v53:=fun w=>by kernel_rfl,t131:=by kernel_rfl,a131:=fun w=>by kernel_rfl,z131:=fun w=>by kernel_rfl,v131:=fun w=>by kernel_rfl,t182:=by kernel_rfl,a182:=fun w=>by kernel_rfl,z182:=fun w=>by kernel_rfl,v182:=fun w=>by kernel_rfl,t183:=by kernel_rfl,a183:=fun w=>by kernel_rfl,z183:=fun w=>by kernel_rfl,v183:=fun w=>by kernel_rfl,t218:=by kernel_rfl,a218:=fun w=>by kernel_rfl,z218:=fun w=>by kernel_rfl,v218:=fun w=>by kernel_rfl,t222:=by kernel_rfl,a222:=fun w=>by kernel_rfl,z222:=fun w=>by kernel_rfl,v222:=fun w=>by kernel_rfl,t228:=by kernel_rfl,a228:=fun w=>by kernel_rfl,z228:=fun w=>by kernel_rfl,v228:=fun w=>by kernel_rfl,t229:=by kernel_rfl,a229:=fun w=>by kernel_rfl,z229:=fun w=>by kernel_rfl,v229:=fun w=>by kernel_rfl }
noncomputable def X5:List AK:=[.v (.sl (.int .i64)) (.o 3 (some 0) .k)]
noncomputable def awa (N:Nat) (x:ay X5) (kf:aa→Option aa):Option aa:=Z0 N x.1 (fun z=>kf ⟨[],[⟨(.sl (.int .i64)),(.o 3 (some 0) .k),z⟩]⟩)
noncomputable def Pg (N:Nat):=ar X5 (awa N)
theorem anV {Γ:Gl} (N:Nat):Sound Γ Tryz.prog 131 (Pg N):=SR abr 3
def ahd:Go.Shelf.Ren:=⟨fun n=>bif Nat.beq n 20 then 132 else n,fun n=>bif Nat.beq n 0 then 0 else bif Nat.beq n 3 then 3 else bif Nat.beq n 4 then 4 else bif Nat.beq n 22 then 27 else n,fun n=>n⟩
theorem abt:Lays2.n20 Tryz.prog ahd:={ mixed:=by kernel_rfl,f20:=by kernel_rfl,t0:=by kernel_rfl,a0:=fun w=>by kernel_rfl,z0:=fun w=>by kernel_rfl,v0:=fun w=>by kernel_rfl,t3:=by kernel_rfl,a3:=fun w=>by kernel_rfl,z3:=fun w=>by kernel_rfl,v3:=fun w=>by kernel_rfl,t4:=by kernel_rfl,a4:=fun w=>by kernel_rfl,z4:=fun w=>by kernel_rfl,v4:=fun w=>by kernel_rfl,t22:=by kernel_rfl,a22:=fun w=>by kernel_rfl,z22:=fun w=>by kernel_rfl,v22:=fun w=>by kernel_rfl,i3:=by kernel_rfl }
noncomputable def X6:List AK:=[.v (.sl (.int .i64)) (.o 3 none .k)]
noncomputable def awb (N:Nat) (x:ay X6) (kf:aa→Option aa):Option aa:=ad4 N x.1 (fun r0=>kf ⟨[⟨(.sl (.int .i64)),(.o 3 none .k),r0⟩],[]⟩)
noncomputable def Ph (N:Nat):=ar X6 (awb N)
theorem anW {Γ:Gl} (N:Nat):Sound Γ Tryz.prog 132 (Ph N):=GP abt 3
noncomputable def Bf:List Kd:=dK::.v (.ptr bY) (.o 31 none .k)::.v (.ptr bY) (.o 31 none (.p (.o 46 none (.p .k (.p .k (.p .k (.p .k (.p .k (.o 3 none .k))))))) (.p (.o 80 none (.p .k (.p .k (.o 3 none .k)))) (.p (.o 104 none .k) (.p (.o 3 none .k) (.p (.o 136 none .k) (.p (.o 102 none .k) .k)))))))::dK::.v (.ptr bY) (.o 31 none (.p (.o 46 none (.p .k (.p .k (.p .k (.p .k (.p .k (.o 3 none .k))))))) (.p (.o 80 none (.p .k (.p .k (.o 3 none .k)))) (.p (.o 104 none .k) (.p (.o 3 none .k) (.p (.o 136 none .k) (.p (.o 102 none .k) .k)))))))::dn 25 (.v (.sl aM) .k::.v (.int .i64) .k::.v (.int .i64) .k::dn 76 ([]))
noncomputable def CU:List Kd:=dK::.v (.ptr bY) (.o 31 none .k)::.v (.ptr bY) (.o 31 none (.p (.o 46 none (.p .k (.p .k (.p .k (.p .k (.p .k (.o 3 none .k))))))) (.p (.o 80 none (.p .k (.p .k (.o 3 none .k)))) (.p (.o 104 none .k) (.p (.o 3 none .k) (.p (.o 136 none .k) (.p (.o 102 none .k) .k)))))))::dK::.v (.ptr bY) (.o 31 none (.p (.o 46 none (.p .k (.p .k (.p .k (.p .k (.p .k (.o 3 none .k))))))) (.p (.o 80 none (.p .k (.p .k (.o 3 none .k)))) (.p (.o 104 none .k) (.p (.o 3 none .k) (.p (.o 136 none .k) (.p (.o 102 none .k) .k)))))))::dn 104 ([])
noncomputable def CV:List Kd:=dK::dK::.v (.ptr bY) (.o 31 none (.p (.o 46 none (.p .k (.p .k (.p .k (.p .k (.p .k (.o 3 none .k))))))) (.p (.o 80 none (.p .k (.p .k (.o 3 none .k)))) (.p (.o 104 none .k) (.p (.o 3 none .k) (.p (.o 136 none .k) (.p (.o 102 none .k) .k)))))))::.v .bool .k::dn 105 ([])
noncomputable def ahe:Hint:={ tab,hn:=[],loops:=[(5,Bf)],outs:=[(5,2,CU),(5,1,CV)],bp:=[(8,(OT.seq [0,1,2,3,4,5,6,9,10,11,12,7,8,13,14,15,17,16,18,19] .done)),(11,(OT.seq [0,1,2,3,4,5,6,7,8] .done)),(12,(OT.seq [0,1,2,3,4,5,6,7,8,9,10,11,12] .done)),(14,(OT.seq [3,0,2] (.par [1,4] [[4,86,87]] (OT.seq [5,6,7] .done))))] }
noncomputable def T4:List AK:=[.v bY .k]
noncomputable def asz (N:Nat) (x:ay T4) (kf:aa→Option aa):Option aa:=I28 N x.1 (fun r0 r1=>kf ⟨[⟨bY,(.p (.o 46 none (.p .k (.p .k (.p .k (.p .k (.p .k (.o 3 none .k))))))) (.p (.o 80 none (.p .k (.p .k (.o 3 none .k)))) (.p (.o 104 none .k) (.p (.o 3 none .k) (.p (.o 136 none .k) (.p (.o 102 none .k) .k)))))),r0⟩,⟨.bool,.k,r1⟩],[]⟩)
noncomputable def X7 (N:Nat):=ar T4 (asz N)
noncomputable def ahf (N:Nat):List Entry:=[⟨39,[.val],(xX N)⟩,⟨16,[.val],(s6 N)⟩,⟨41,[.val],(XX N)⟩,⟨70,[.val],(lC N)⟩,⟨129,[.val],(Pe N)⟩,⟨128,[.val,.val,.val,.val,.val,.val],(Pf N)⟩,⟨130,[.val,.val],(F0 N)⟩,⟨131,[.nH],(Pg N)⟩,⟨132,[.take],(Ph N)⟩,⟨103,[.val,.take,.val,.val],(mC N)⟩]
noncomputable def F7:Code:=aI Tryz.f28
noncomputable def ahg (N n:Nat) (key:Nat) (S:St) (K:Ks):Option aa:=bif Nat.beq key 5 then az Bf S (fun x=>uQ N x.1 x.2.1 x.2.2.2.1 x.2.2.2.2.1 n (fun z0=>K (.x 0) (shape CU (x.1,x.2.1,z0,()))) (fun z0 z1=>K .r (shape CV (z0,z1,()))) x.2.2.1 x.2.2.2.2.2.1) else none
theorem awc (N key:Nat) (S:St) (K:Ks):ahg N 0 key S K=none:=(bE (aq fun _=>rfl) rfl)
noncomputable def X8:Code:=(af F7).getD 0 .skip
theorem awd:af F7=[X8]:=by kernel_rfl
theorem ahh (N:Nat):dU ahe (ahf N) (ahg N) N 5 Bf X8:=fun _ _ _=>by kernel_rfl
theorem awe (N:Nat):bQ T4 (asz N) ahe (ahf N) (ahg N N) Tryz.f28:=fun _ _=>by kernel_rfl
theorem awf {Γ:Gl} (N:Nat):Sound Γ Tryz.prog 28 (X7 N):=fq ahe Tryz.f28 F7 (awc N) awd (awe N) (rc (ahh N) trivial) ⟨J0 N,⟨FP N,⟨av' N,⟨r9 N,⟨anR N,⟨anU N,⟨XL N,⟨anV N,⟨anW N,⟨s8 N,trivial⟩⟩⟩⟩⟩⟩⟩⟩⟩⟩
def ahi:Go.Shelf.Ren:=⟨fun n=>bif Nat.beq n 45 then 142 else n,fun n=>bif Nat.beq n 0 then 0 else bif Nat.beq n 3 then 3 else bif Nat.beq n 4 then 4 else bif Nat.beq n 22 then 24 else bif Nat.beq n 23 then 46 else n,fun n=>n⟩
def anX:Array Value:=#[.int .i64 0,.int .i64 0,.int .i64 0,.int .i64 0,.int .i64 0,.slice none 0 0]
noncomputable def anY:TypeInfo:=(Tryz.prog.info? 46).get (by kernel_rfl)
theorem ahj:ar' Tryz.prog ahi (bj).size anX anY:={ FB:=⟨Tryz.f142.name,by kernel_rfl,by kernel_rfl⟩,mixed:=by kernel_rfl,t0:=by kernel_rfl,a0:=fun w=>by kernel_rfl,z0:=fun w=>by kernel_rfl,v0:=fun w=>by kernel_rfl,t3:=by kernel_rfl,a3:=fun w=>by kernel_rfl,z3:=fun w=>by kernel_rfl,v3:=fun w=>by kernel_rfl,t4:=by kernel_rfl,a4:=fun w=>by kernel_rfl,z4:=fun w=>by kernel_rfl,v4:=fun w=>by kernel_rfl,t22:=by kernel_rfl,a22:=fun w=>by kernel_rfl,z22:=fun w=>by kernel_rfl,v22:=fun w=>by kernel_rfl,z23:=fun w=>by kernel_rfl,v23:=fun w=>by kernel_rfl,hz:=by kernel_rfl,hzo:=by kernel_rfl,Iy:=by kernel_rfl,ML:=by kernel_rfl }
noncomputable def X9:List AK:=[.v (.sl bj) (.o 46 none (.p .k (.p .k (.p .k (.p .k (.p .k (.o 3 none .k))))))),.v (.int .i64) .k,.v (.int .i64) .k]
noncomputable def awg (N:Nat) (x:ay X9) (kf:aa→Option aa):Option aa:=at3 N x.1 x.2.1 x.2.2.1 (fun r0=>kf ⟨[⟨(.sl bj),(.o 46 none (.p .k (.p .k (.p .k (.p .k (.p .k (.o 3 none .k))))))),r0⟩],[]⟩)
noncomputable def Pj (N:Nat):=ar X9 (awg N)
theorem anZ {Γ:Gl} (N:Nat):Sound Γ Tryz.prog 142 (Pj N):=Ju ahj 46 (.p .k (.p .k (.p .k (.p .k (.p .k (.o 3 none .k)))))) (by kernel_rfl)
noncomputable def T5:List AK:=[.v bY .k,.v (.int .i64) .k]
noncomputable def asA (N:Nat) (x:ay T5) (kf:aa→Option aa):Option aa:=I38 N x.1 x.2.1 (fun r0 r1=>kf ⟨[⟨bY,(.p (.o 46 none (.p .k (.p .k (.p .k (.p .k (.p .k (.o 3 none .k))))))) (.p (.o 80 none (.p .k (.p .k (.o 3 none .k)))) (.p (.o 104 none .k) (.p (.o 3 none .k) (.p (.o 136 none .k) (.p (.o 102 none .k) .k)))))),r0⟩,⟨.bool,.k,r1⟩],[]⟩)
noncomputable def Ya (N:Nat):=ar T5 (asA N)
noncomputable def awh (N:Nat):List Entry:=[⟨70,[.val],(lC N)⟩,⟨40,[.val,.val],(lD N)⟩,⟨16,[.val],(s6 N)⟩,⟨142,[.take,.val,.val],(Pj N)⟩,⟨103,[.val,.take,.val,.val],(mC N)⟩]
theorem awi (N:Nat):bQ T5 (asA N) hq (awh N) (dP N N) Tryz.f38:=fun _ _=>by kernel_rfl
theorem awj {Γ:Gl} (N:Nat):Sound Γ Tryz.prog 38 (Ya N):=fo hq Tryz.f38 (awi N) ⟨r9 N,⟨se N,⟨FP N,⟨anZ N,⟨s8 N,trivial⟩⟩⟩⟩⟩
noncomputable def T6:List AK:=[.v bY .k,.v df .k]
noncomputable def asB (N:Nat) (x:ay T6) (kf:aa→Option aa):Option aa:=I13 N x.1 x.2.1 (fun r0 r1=>kf ⟨[⟨bY,(.p (.o 46 none (.p .k (.p .k (.p .k (.p .k (.p .k (.o 3 none .k))))))) (.p (.o 80 none (.p .k (.p .k (.o 3 none .k)))) (.p (.o 104 none .k) (.p (.o 3 none .k) (.p (.o 136 none .k) (.p (.o 102 none .k) .k)))))),r0⟩,⟨.bool,.k,r1⟩],[]⟩)
noncomputable def Yb (N:Nat):=ar T6 (asB N)
noncomputable def awk (N:Nat):List Entry:=[⟨30,[.val,.val,.val],(XI N)⟩,⟨32,[.val,.val,.val],(XN N)⟩,⟨23,[.val],(XV N)⟩,⟨35,[.val,.val,.val,.val],(XW N)⟩,⟨28,[.val],(X7 N)⟩,⟨38,[.val,.val],(Ya N)⟩,⟨70,[.val],(lC N)⟩]
theorem awl (N:Nat):bQ T6 (asB N) hq (awk N) (dP N N) Tryz.f13:=fun _ _=>by kernel_rfl
theorem awm {Γ:Gl} (N:Nat):Sound Γ Tryz.prog 13 (Yb N):=fo hq Tryz.f13 (awl N) ⟨avT N,⟨avY N,⟨av3 N,⟨av6 N,⟨awf N,⟨awj N,⟨r9 N,trivial⟩⟩⟩⟩⟩⟩⟩
noncomputable def T7:List AK:=[.v (.sl (.int .i64)) .k,.v (.int .i64) .k]
noncomputable def asC (N:Nat) (x:ay T7) (kf:aa→Option aa):Option aa:=L87 N x.1 x.2.1 (fun r0=>kf ⟨[⟨(.int .i64),.k,r0⟩],[]⟩)
noncomputable def DD (N:Nat):=ar T7 (asC N)
theorem awn (N:Nat):bQ T7 (asC N) hq [] (dP N N) Tryz.f87:=fun _ _=>by kernel_rfl
theorem T8 {Γ:Gl} (N:Nat):Sound Γ Tryz.prog 87 (DD N):=fo hq Tryz.f87 (awn N) trivial
noncomputable def KC:List AK:=[.v bj .k,.v (.int .i64) .k]
noncomputable def ahk (N:Nat) (x:ay KC) (kf:aa→Option aa):Option aa:=Z1 N x.1 x.2.1 (fun r0=>kf ⟨[⟨(.int .i64),.k,r0⟩],[]⟩)
noncomputable def Pl (N:Nat):=ar KC (ahk N)
noncomputable def an0 (N:Nat):List Entry:=[⟨87,[.val,.val],(DD N)⟩]
theorem an1 (N:Nat):bQ KC (ahk N) hq (an0 N) (dP N N) Tryz.f171:=fun _ _=>by kernel_rfl
theorem an2 {Γ:Gl} (N:Nat):Sound Γ Tryz.prog 171 (Pl N):=fo hq Tryz.f171 (an1 N) ⟨T8 N,trivial⟩
noncomputable def Bg:List Kd:=.v (.sl bj) .k::.v (.int .i64) .k::dn 3 (.v (.int .i64) .k::dn 21 ([]))
noncomputable def CW:List Kd:=dK::.v (.int .i64) .k::dn 25 ([])
noncomputable def CX:List Kd:=dn 4 (.v (.int .i64) .k::dn 22 ([]))
noncomputable def ahl:Hint:={ tab,hn:=[],loops:=[(5,Bg)],outs:=[(5,2,CW),(5,1,CX)],bp:=[] }
noncomputable def T9:List AK:=[.v (.sl bj) .k,.v (.int .i64) .k]
noncomputable def asD (N:Nat) (x:ay T9) (kf:aa→Option aa):Option aa:=L84 N x.1 x.2.1 (fun r0=>kf ⟨[⟨(.int .i64),.k,r0⟩],[]⟩)
noncomputable def Yc (N:Nat):=ar T9 (asD N)
noncomputable def ahm (N:Nat):List Entry:=[⟨171,[.val,.val],(Pl N)⟩]
noncomputable def F8:Code:=aI Tryz.f84
noncomputable def ahn (N n:Nat) (key:Nat) (S:St) (K:Ks):Option aa:=bif Nat.beq key 5 then az Bg S (fun x=>uR N x.1 n (fun z0=>K (.x 0) (shape CW (z0,()))) (fun z0=>K .r (shape CX (z0,()))) x.2.1 x.2.2.1) else none
theorem awo (N key:Nat) (S:St) (K:Ks):ahn N 0 key S K=none:=(bE (aq fun _=>rfl) rfl)
noncomputable def Yd:Code:=(af F8).getD 0 .skip
theorem awp:af F8=[Yd]:=by kernel_rfl
theorem aho (N:Nat):dU ahl (ahm N) (ahn N) N 5 Bg Yd:=fun _ _ _=>by kernel_rfl
theorem awq (N:Nat):bQ T9 (asD N) ahl (ahm N) (ahn N N) Tryz.f84:=fun _ _=>by kernel_rfl
theorem awr {Γ:Gl} (N:Nat):Sound Γ Tryz.prog 84 (Yc N):=fq ahl Tryz.f84 F8 (awo N) awp (awq N) (rc (aho N) trivial) ⟨an2 N,trivial⟩
noncomputable def KD:List AK:=[.v bS .k,.v (.int .i64) .k]
noncomputable def ahp (N:Nat) (x:ay KD) (kf:aa→Option aa):Option aa:=Z2 N x.1 x.2.1 (fun r0=>kf ⟨[⟨(.int .i64),.k,r0⟩],[]⟩)
noncomputable def Pm (N:Nat):=ar KD (ahp N)
noncomputable def an3 (N:Nat):List Entry:=[⟨87,[.val,.val],(DD N)⟩]
theorem an4 (N:Nat):bQ KD (ahp N) hq (an3 N) (dP N N) Tryz.f172:=fun _ _=>by kernel_rfl
theorem an5 {Γ:Gl} (N:Nat):Sound Γ Tryz.prog 172 (Pm N):=fo hq Tryz.f172 (an4 N) ⟨T8 N,trivial⟩
noncomputable def Bh:List Kd:=.v (.sl bS) .k::.v (.int .i64) .k::dn 3 (.v (.int .i64) .k::dn 21 ([]))
noncomputable def CY:List Kd:=dK::.v (.int .i64) .k::dn 25 ([])
noncomputable def CZ:List Kd:=dn 4 (.v (.int .i64) .k::dn 22 ([]))
noncomputable def ahq:Hint:={ tab,hn:=[],loops:=[(5,Bh)],outs:=[(5,2,CY),(5,1,CZ)],bp:=[] }
noncomputable def Ua:List AK:=[.v (.sl bS) .k,.v (.int .i64) .k]
noncomputable def asE (N:Nat) (x:ay Ua) (kf:aa→Option aa):Option aa:=L85 N x.1 x.2.1 (fun r0=>kf ⟨[⟨(.int .i64),.k,r0⟩],[]⟩)
noncomputable def Ye (N:Nat):=ar Ua (asE N)
noncomputable def ahr (N:Nat):List Entry:=[⟨172,[.val,.val],(Pm N)⟩]
noncomputable def F9:Code:=aI Tryz.f85
noncomputable def ahs (N n:Nat) (key:Nat) (S:St) (K:Ks):Option aa:=bif Nat.beq key 5 then az Bh S (fun x=>uS N x.1 n (fun z0=>K (.x 0) (shape CY (z0,()))) (fun z0=>K .r (shape CZ (z0,()))) x.2.1 x.2.2.1) else none
theorem aws (N key:Nat) (S:St) (K:Ks):ahs N 0 key S K=none:=(bE (aq fun _=>rfl) rfl)
noncomputable def Yf:Code:=(af F9).getD 0 .skip
theorem awt:af F9=[Yf]:=by kernel_rfl
theorem aht (N:Nat):dU ahq (ahr N) (ahs N) N 5 Bh Yf:=fun _ _ _=>by kernel_rfl
theorem awu (N:Nat):bQ Ua (asE N) ahq (ahr N) (ahs N N) Tryz.f85:=fun _ _=>by kernel_rfl
theorem awv {Γ:Gl} (N:Nat):Sound Γ Tryz.prog 85 (Ye N):=fq ahq Tryz.f85 F9 (aws N) awt (awu N) (rc (aht N) trivial) ⟨an5 N,trivial⟩
noncomputable def Ub:List AK:=[.v (.sl aM) .k,.v (.int .i64) .k]
noncomputable def asF (N:Nat) (x:ay Ub) (kf:aa→Option aa):Option aa:=L86 N x.1 x.2.1 (fun r0=>kf ⟨[⟨(.int .i64),.k,r0⟩],[]⟩)
noncomputable def Yg (N:Nat):=ar Ub (asF N)
theorem aww (N:Nat):bQ Ub (asF N) hq [] (dP N N) Tryz.f86:=fun _ _=>by kernel_rfl
theorem awx {Γ:Gl} (N:Nat):Sound Γ Tryz.prog 86 (Yg N):=fo hq Tryz.f86 (aww N) trivial
noncomputable def Uc:List AK:=[.v (.sl de) .k,.v (.int .i64) .k]
noncomputable def asG (N:Nat) (x:ay Uc) (kf:aa→Option aa):Option aa:=L88 N x.1 x.2.1 (fun r0=>kf ⟨[⟨(.int .i64),.k,r0⟩],[]⟩)
noncomputable def Yh (N:Nat):=ar Uc (asG N)
theorem awy (N:Nat):bQ Uc (asG N) hq [] (dP N N) Tryz.f88:=fun _ _=>by kernel_rfl
theorem awz {Γ:Gl} (N:Nat):Sound Γ Tryz.prog 88 (Yh N):=fo hq Tryz.f88 (awy N) trivial
noncomputable def Ud:List AK:=[.v (.sl df) .k,.v (.int .i64) .k]
noncomputable def asH (N:Nat) (x:ay Ud) (kf:aa→Option aa):Option aa:=L89 N x.1 x.2.1 (fun r0=>kf ⟨[⟨(.int .i64),.k,r0⟩],[]⟩)
noncomputable def Yi (N:Nat):=ar Ud (asH N)
theorem awA (N:Nat):bQ Ud (asH N) hq [] (dP N N) Tryz.f89:=fun _ _=>by kernel_rfl
theorem awB {Γ:Gl} (N:Nat):Sound Γ Tryz.prog 89 (Yi N):=fo hq Tryz.f89 (awA N) trivial
noncomputable def Ue:List AK:=[.v bY .k,.v (.int .i64) .k]
noncomputable def asI (N:Nat) (x:ay Ue) (kf:aa→Option aa):Option aa:=L20 N x.1 x.2.1 (fun r0=>kf ⟨[⟨(.int .i64),.k,r0⟩],[]⟩)
noncomputable def Yj (N:Nat):=ar Ue (asI N)
noncomputable def awC (N:Nat):List Entry:=[⟨84,[.val,.val],(Yc N)⟩,⟨85,[.val,.val],(Ye N)⟩,⟨86,[.val,.val],(Yg N)⟩,⟨87,[.val,.val],(DD N)⟩,⟨88,[.val,.val],(Yh N)⟩,⟨89,[.val,.val],(Yi N)⟩]
theorem awD (N:Nat):bQ Ue (asI N) hq (awC N) (dP N N) Tryz.f20:=fun _ _=>by kernel_rfl
theorem awE {Γ:Gl} (N:Nat):Sound Γ Tryz.prog 20 (Yj N):=fo hq Tryz.f20 (awD N) ⟨awr N,⟨awv N,⟨awx N,⟨T8 N,⟨awz N,⟨awB N,trivial⟩⟩⟩⟩⟩⟩
end Go.Pv.R
