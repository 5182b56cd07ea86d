/- Each function of the program that the law reaches computes its plain function, part 3. -/
import Derived.Test.YtcpakhaogbempaaGreatSnd2
import Derived.WalkKit
import Derived.Lib.Walk
import Derived.Test.YtcpakhaogbempaaGreatProg
namespace Go.Pv.R
open Go.Proofs
set_option linter.unusedVariables false
set_option maxRecDepth 100000
noncomputable def Mi:List AK:=[.v (.sl cS) .k,.v (.int .i64) .k,.v (.int .i64) .k,.v (.int .i64) .k,.v (.int .i64) .k,.v (.int .i64) .k]
noncomputable def ahr (N:Nat) (x:ax Mi) (kf:aa→Option aa):Option aa:=Zz N x.1 x.2.1 x.2.2.1 x.2.2.2.1 x.2.2.2.2.1 x.2.2.2.2.2.1 (fun r0 r1=>kf ⟨[⟨(.sl cS),(.o 46 none (.p .k (.p .k (.p .k (.p .k (.p .k (.o 3 none .k))))))),r0⟩,⟨.bool,.k,r1⟩],[]⟩)
noncomputable def Qy (N:Nat):=ar Mi (ahr N)
noncomputable def aoi (N:Nat):List Entry:=[⟨173,[.val],(yL N)⟩,⟨200,[.val,.val],(ni N)⟩,⟨175,[.val],(iw N)⟩,⟨195,[.val,.val,.val],(jT N)⟩]
theorem aoj (N:Nat):cn Mi (ahr N) hq (aoi N) (fC N N) Tryz.f124:=fun _ _=>by kernel_rfl
theorem aok {Γ:Gl} (N:Nat):Sound Γ Tryz.prog 124 (Qy N):=gX hq Tryz.f124 (aoj N) ⟨Lt N,⟨tY N,⟨mf N,⟨nY N,trivial⟩⟩⟩⟩
noncomputable def wT:List Kd:=.v (.sl (.int .i64)) .k::.v (.int .i64) .k::dn 3 (.v (.int .i64) .k::dn 41 ([]))
noncomputable def zA:List Kd:=.v (.sl (.int .i64)) .k::.v (.int .i64) .k::dn 3 (.v (.int .i64) .k::dn 41 ([]))
noncomputable def U5:Hint:={ tab,hn:=[],loops:=[(2,wT)],outs:=[(2,2,zA)],bj:=[(6,(OT.seq [1,2,3,5,8,9,10] (.any [0,4,6] (OT.seq [7,11,12] .done))))] }
noncomputable def Mj:List AK:=[.v (.sl (.int .i64)) .k,.v (.int .i64) .k]
noncomputable def ahs (N:Nat) (x:ax Mj) (kf:aa→Option aa):Option aa:=vI N x.1 x.2.1 (fun r0=>kf ⟨[⟨(.sl (.int .i64)),(.o 3 none .k),r0⟩],[]⟩)
noncomputable def Qz (N:Nat):=ar Mj (ahs N)
noncomputable def BS:Code:=aL Tryz.f127
noncomputable def U6 (N n:Nat) (key:Nat) (S:St) (K:Ks):Option aa:=bif Nat.beq key 2 then az wT S (fun x=>qG x.1 x.2.1 n (fun z0=>K (.x 0) (shape zA (x.1,x.2.1,z0,()))) x.2.2.1) else none
theorem aol (N key:Nat) (S:St) (K:Ks):U6 N 0 key S K=none:=(bO (au fun _=>rfl) rfl)
noncomputable def QA:Code:=(af BS).getD 0 .skip
theorem aom:af BS=[QA]:=by kernel_rfl
theorem abk (N:Nat):fD U5 [] (U6 N) N 2 wT QA:=fun _ _ _=>by kernel_rfl
theorem aon (N:Nat):cn Mj (ahs N) U5 [] (U6 N N) Tryz.f127:=fun _ _=>by kernel_rfl
theorem aoo {Γ:Gl} (N:Nat):Sound Γ Tryz.prog 127 (Qz N):=iH U5 Tryz.f127 BS (aol N) aom (aon N) (rc (abk N) trivial) trivial
noncomputable def BT:List Kd:=dK::.v (.ptr c6) (.o 31 none .k)::.v (.ptr c6) (.o 31 none (.p (.o 46 none (.p .k (.p .k (.p .k (.p .k (.p .k (.o 3 none .k))))))) (.p (.o 80 none (.p .k (.p .k (.o 3 none .k)))) (.p (.o 104 none .k) (.p (.o 3 none .k) (.p (.o 136 none .k) (.p (.o 102 none .k) .k)))))))::dK::.v (.ptr c6) (.o 31 none (.p (.o 46 none (.p .k (.p .k (.p .k (.p .k (.p .k (.o 3 none .k))))))) (.p (.o 80 none (.p .k (.p .k (.o 3 none .k)))) (.p (.o 104 none .k) (.p (.o 3 none .k) (.p (.o 136 none .k) (.p (.o 102 none .k) .k)))))))::.v .bool .k::.v (.int .i64) .k::dn 113 ([])
noncomputable def C4:List Kd:=dK::.v (.ptr c6) (.o 31 none .k)::.v (.ptr c6) (.o 31 none (.p (.o 46 none (.p .k (.p .k (.p .k (.p .k (.p .k (.o 3 none .k))))))) (.p (.o 80 none (.p .k (.p .k (.o 3 none .k)))) (.p (.o 104 none .k) (.p (.o 3 none .k) (.p (.o 136 none .k) (.p (.o 102 none .k) .k)))))))::dK::.v (.ptr c6) (.o 31 none (.p (.o 46 none (.p .k (.p .k (.p .k (.p .k (.p .k (.o 3 none .k))))))) (.p (.o 80 none (.p .k (.p .k (.o 3 none .k)))) (.p (.o 104 none .k) (.p (.o 3 none .k) (.p (.o 136 none .k) (.p (.o 102 none .k) .k)))))))::.v .bool .k::dn 114 ([])
noncomputable def aht:Hint:={ tab,hn:=[],loops:=[(6,BT)],outs:=[(6,2,C4)],bj:=[(9,(OT.seq [0,1,2,3,4,5,6,7,8,9,10,11,12,13,14,17,18,19,20,15,16,21,22,23,24,25,26] .done)),(12,(OT.seq [0,1,2,3,4,5,6,7,8] .done)),(13,(OT.seq [0,1,2,3,4,5,6,7,8,9,10,11,12,13,14,16,17,18,19,20,21,15,22,23,24,25] .done))] }
noncomputable def U7:List AK:=[.v c6 .k]
noncomputable def aqm (N:Nat) (x:ax U7) (kf:aa→Option aa):Option aa:=S27 N x.1 (fun r0 r1=>kf ⟨[⟨c6,(.p (.o 46 none (.p .k (.p .k (.p .k (.p .k (.p .k (.o 3 none .k))))))) (.p (.o 80 none (.p .k (.p .k (.o 3 none .k)))) (.p (.o 104 none .k) (.p (.o 3 none .k) (.p (.o 136 none .k) (.p (.o 102 none .k) .k)))))),r0⟩,⟨.bool,.k,r1⟩],[]⟩)
noncomputable def Yk (N:Nat):=ar U7 (aqm N)
noncomputable def ahu (N:Nat):List Entry:=[⟨90,[.val],(qZ N)⟩,⟨122,[.val],(zr N)⟩,⟨94,[.val],(DS N)⟩,⟨123,[.val],(GO N)⟩,⟨125,[.val],(Qx N)⟩,⟨124,[.val,.val,.val,.val,.val,.val],(Qy N)⟩,⟨126,[.val,.val],(GM N)⟩,⟨127,[.val,.val],(Qz N)⟩,⟨93,[.val,.take,.val,.val,.val],(ub N)⟩]
noncomputable def GQ:Code:=aL Tryz.f27
noncomputable def ahv (N n:Nat) (key:Nat) (S:St) (K:Ks):Option aa:=bif Nat.beq key 6 then az BT S (fun x=>sH N x.1 x.2.1 n (fun z0 z1=>K (.x 0) (shape C4 (x.1,x.2.1,z0,z1,()))) x.2.2.1 x.2.2.2.1 x.2.2.2.2.1) else none
theorem aua (N key:Nat) (S:St) (K:Ks):ahv N 0 key S K=none:=(bO (au fun _=>rfl) rfl)
noncomputable def Yl:Code:=(af GQ).getD 0 .skip
theorem aub:af GQ=[Yl]:=by kernel_rfl
theorem ahw (N:Nat):fD aht (ahu N) (ahv N) N 6 BT Yl:=fun _ _ _=>by kernel_rfl
theorem auc (N:Nat):cn U7 (aqm N) aht (ahu N) (ahv N N) Tryz.f27:=fun _ _=>by kernel_rfl
theorem aud {Γ:Gl} (N:Nat):Sound Γ Tryz.prog 27 (Yk N):=iH aht Tryz.f27 GQ (aua N) aub (auc N) (rc (ahw N) trivial) ⟨BB N,⟨L9 N,⟨UF N,⟨Yf N,⟨aoh N,⟨aok N,⟨Yb N,⟨aoo N,⟨GN N,trivial⟩⟩⟩⟩⟩⟩⟩⟩⟩
noncomputable def wU:List Kd:=dK::.v (.int .i64) .k::.v (.int .i64) .k::.v (.ptr c6) (.o 31 none .k)::dK::dK::.v (.ptr c6) (.o 31 none (.p (.o 46 none (.p .k (.p .k (.p .k (.p .k (.p .k (.o 3 none .k))))))) (.p (.o 80 none (.p .k (.p .k (.o 3 none .k)))) (.p (.o 104 none .k) (.p (.o 3 none .k) (.p (.o 136 none .k) (.p (.o 102 none .k) .k)))))))::dK::.v (.ptr c6) (.o 31 none (.p (.o 46 none (.p .k (.p .k (.p .k (.p .k (.p .k (.o 3 none .k))))))) (.p (.o 80 none (.p .k (.p .k (.o 3 none .k)))) (.p (.o 104 none .k) (.p (.o 3 none .k) (.p (.o 136 none .k) (.p (.o 102 none .k) .k)))))))::.v (.int .i64) .k::dn 45 ([])
noncomputable def zB:List Kd:=dK::.v (.int .i64) .k::.v (.int .i64) .k::.v (.ptr c6) (.o 31 none .k)::dK::dK::.v (.ptr c6) (.o 31 none (.p (.o 46 none (.p .k (.p .k (.p .k (.p .k (.p .k (.o 3 none .k))))))) (.p (.o 80 none (.p .k (.p .k (.o 3 none .k)))) (.p (.o 104 none .k) (.p (.o 3 none .k) (.p (.o 136 none .k) (.p (.o 102 none .k) .k)))))))::dK::.v (.ptr c6) (.o 31 none (.p (.o 46 none (.p .k (.p .k (.p .k (.p .k (.p .k (.o 3 none .k))))))) (.p (.o 80 none (.p .k (.p .k (.o 3 none .k)))) (.p (.o 104 none .k) (.p (.o 3 none .k) (.p (.o 136 none .k) (.p (.o 102 none .k) .k)))))))::.v (.int .i64) .k::dn 45 ([])
noncomputable def U8:Hint:={ tab,hn:=[],loops:=[(3,wU)],outs:=[(3,2,zB)],bj:=[(5,(OT.seq [0,1,2,3,5,6,7,10,12] (.any [4,8,9,11,13] (OT.seq [14,15,16,17] .done)))),(6,(OT.seq [0,1,2,5,3,4,6,7,8,9,10] .done))] }
noncomputable def Mk:List AK:=[.v c6 .k,.v (.int .i64) .k,.v (.int .i64) .k]
noncomputable def ahx (N:Nat) (x:ax Mk) (kf:aa→Option aa):Option aa:=ZA N x.1 x.2.1 x.2.2.1 (fun r0 r1=>kf ⟨[⟨c6,(.p (.o 46 none (.p .k (.p .k (.p .k (.p .k (.p .k (.o 3 none .k))))))) (.p (.o 80 none (.p .k (.p .k (.o 3 none .k)))) (.p (.o 104 none .k) (.p (.o 3 none .k) (.p (.o 136 none .k) (.p (.o 102 none .k) .k)))))),r0⟩,⟨.bool,.k,r1⟩],[]⟩)
noncomputable def QD (N:Nat):=ar Mk (ahx N)
noncomputable def Ym (N:Nat):List Entry:=[⟨90,[.val],(qZ N)⟩,⟨173,[.val],(yL N)⟩,⟨94,[.val],(DS N)⟩,⟨93,[.val,.take,.val,.val,.val],(ub N)⟩]
noncomputable def BU:Code:=aL Tryz.f141
noncomputable def U9 (N n:Nat) (key:Nat) (S:St) (K:Ks):Option aa:=bif Nat.beq key 3 then az wU S (fun x=>nS x.1 x.2.1 x.2.2.1 x.2.2.2.1 x.2.2.2.2.1 n (fun z0=>K (.x 0) (shape zB (x.1,x.2.1,x.2.2.1,x.2.2.2.1,x.2.2.2.2.1,z0,()))) x.2.2.2.2.2.1) else none
theorem aop (N key:Nat) (S:St) (K:Ks):U9 N 0 key S K=none:=(bO (au fun _=>rfl) rfl)
noncomputable def QE:Code:=(af BU).getD 0 .skip
theorem aoq:af BU=[QE]:=by kernel_rfl
theorem abl (N:Nat):fD U8 (Ym N) (U9 N) N 3 wU QE:=fun _ _ _=>by kernel_rfl
theorem aor (N:Nat):cn Mk (ahx N) U8 (Ym N) (U9 N N) Tryz.f141:=fun _ _=>by kernel_rfl
theorem aos {Γ:Gl} (N:Nat):Sound Γ Tryz.prog 141 (QD N):=iH U8 Tryz.f141 BU (aop N) aoq (aor N) (rc (abl N) trivial) ⟨BB N,⟨Lt N,⟨UF N,⟨GN N,trivial⟩⟩⟩⟩
noncomputable def wV:List Kd:=dK::.v (.int .i64) .k::.v (.int .i64) .k::.v (.ptr c6) (.o 31 none .k)::dK::dK::.v (.ptr c6) (.o 31 none (.p (.o 46 none (.p .k (.p .k (.p .k (.p .k (.p .k (.o 3 none .k))))))) (.p (.o 80 none (.p .k (.p .k (.o 3 none .k)))) (.p (.o 104 none .k) (.p (.o 3 none .k) (.p (.o 136 none .k) (.p (.o 102 none .k) .k)))))))::dK::.v (.ptr c6) (.o 31 none (.p (.o 46 none (.p .k (.p .k (.p .k (.p .k (.p .k (.o 3 none .k))))))) (.p (.o 80 none (.p .k (.p .k (.o 3 none .k)))) (.p (.o 104 none .k) (.p (.o 3 none .k) (.p (.o 136 none .k) (.p (.o 102 none .k) .k)))))))::.v (.int .i64) .k::dn 42 ([])
noncomputable def zC:List Kd:=dK::.v (.int .i64) .k::.v (.int .i64) .k::.v (.ptr c6) (.o 31 none .k)::dK::dK::.v (.ptr c6) (.o 31 none (.p (.o 46 none (.p .k (.p .k (.p .k (.p .k (.p .k (.o 3 none .k))))))) (.p (.o 80 none (.p .k (.p .k (.o 3 none .k)))) (.p (.o 104 none .k) (.p (.o 3 none .k) (.p (.o 136 none .k) (.p (.o 102 none .k) .k)))))))::dK::.v (.ptr c6) (.o 31 none (.p (.o 46 none (.p .k (.p .k (.p .k (.p .k (.p .k (.o 3 none .k))))))) (.p (.o 80 none (.p .k (.p .k (.o 3 none .k)))) (.p (.o 104 none .k) (.p (.o 3 none .k) (.p (.o 136 none .k) (.p (.o 102 none .k) .k)))))))::.v (.int .i64) .k::dn 42 ([])
noncomputable def U':Hint:={ tab,hn:=[],loops:=[(3,wV)],outs:=[(3,2,zC)],bj:=[(5,(OT.seq [0,1,2,3,5,6,7,10,12] (.any [4,8,9,11,13] (OT.seq [14,15,16,17] .done))))] }
noncomputable def Ml:List AK:=[.v c6 .k,.v (.int .i64) .k,.v (.int .i64) .k]
noncomputable def ahy (N:Nat) (x:ax Ml) (kf:aa→Option aa):Option aa:=ZB N x.1 x.2.1 x.2.2.1 (fun r0 r1=>kf ⟨[⟨c6,(.p (.o 46 none (.p .k (.p .k (.p .k (.p .k (.p .k (.o 3 none .k))))))) (.p (.o 80 none (.p .k (.p .k (.o 3 none .k)))) (.p (.o 104 none .k) (.p (.o 3 none .k) (.p (.o 136 none .k) (.p (.o 102 none .k) .k)))))),r0⟩,⟨.bool,.k,r1⟩],[]⟩)
noncomputable def QF (N:Nat):=ar Ml (ahy N)
noncomputable def Yn (N:Nat):List Entry:=[⟨90,[.val],(qZ N)⟩,⟨174,[.val],(GD N)⟩,⟨93,[.val,.take,.val,.val,.val],(ub N)⟩]
noncomputable def BV:Code:=aL Tryz.f160
noncomputable def Va (N n:Nat) (key:Nat) (S:St) (K:Ks):Option aa:=bif Nat.beq key 3 then az wV S (fun x=>nT x.1 x.2.1 x.2.2.1 x.2.2.2.1 x.2.2.2.2.1 n (fun z0=>K (.x 0) (shape zC (x.1,x.2.1,x.2.2.1,x.2.2.2.1,x.2.2.2.2.1,z0,()))) x.2.2.2.2.2.1) else none
theorem aot (N key:Nat) (S:St) (K:Ks):Va N 0 key S K=none:=(bO (au fun _=>rfl) rfl)
noncomputable def QG:Code:=(af BV).getD 0 .skip
theorem aou:af BV=[QG]:=by kernel_rfl
theorem abm (N:Nat):fD U' (Yn N) (Va N) N 3 wV QG:=fun _ _ _=>by kernel_rfl
theorem aov (N:Nat):cn Ml (ahy N) U' (Yn N) (Va N N) Tryz.f160:=fun _ _=>by kernel_rfl
theorem aow {Γ:Gl} (N:Nat):Sound Γ Tryz.prog 160 (QF N):=iH U' Tryz.f160 BV (aot N) aou (aov N) (rc (abm N) trivial) ⟨BB N,⟨XV N,⟨GN N,trivial⟩⟩⟩
noncomputable def ahz:Hint:={ tab,hn:=[],loops:=[],outs:=[],bj:=[(3,(OT.seq [0,1,2,3,4,5,6,7,8,9,10,11,12,13,14,15,16,17,18,19,20] .done)),(5,(OT.seq [0,1,2,3,4,5,6,7,8,9,10,11,12] .done)),(6,(OT.seq [0,1,2,3,4,5,6,8,9,10,11,12,7,13,14,15,16,17] .done))] }
noncomputable def Mm:List AK:=[.v c6 .k,.v (.int .i64) .k,.v (.int .i64) .k,.v (.int .i64) .k]
noncomputable def ahA (N:Nat) (x:ax Mm) (kf:aa→Option aa):Option aa:=ZC N x.1 x.2.1 x.2.2.1 x.2.2.2.1 (fun r0 r1=>kf ⟨[⟨c6,(.p (.o 46 none (.p .k (.p .k (.p .k (.p .k (.p .k (.o 3 none .k))))))) (.p (.o 80 none (.p .k (.p .k (.o 3 none .k)))) (.p (.o 104 none .k) (.p (.o 3 none .k) (.p (.o 136 none .k) (.p (.o 102 none .k) .k)))))),r0⟩,⟨.bool,.k,r1⟩],[]⟩)
noncomputable def QH (N:Nat):=ar Mm (ahA N)
noncomputable def aox (N:Nat):List Entry:=[⟨90,[.val],(qZ N)⟩,⟨122,[.val],(zr N)⟩,⟨195,[.val,.val,.val],(jT N)⟩,⟨199,[.val],(zo N)⟩,⟨93,[.val,.take,.val,.val,.val],(ub N)⟩]
theorem aoy (N:Nat):cn Mm (ahA N) ahz (aox N) (fC N N) Tryz.f139:=fun _ _=>by kernel_rfl
theorem aoz {Γ:Gl} (N:Nat):Sound Γ Tryz.prog 139 (QH N):=gX ahz Tryz.f139 (aoy N) ⟨BB N,⟨L9 N,⟨nY N,⟨L6 N,⟨GN N,trivial⟩⟩⟩⟩⟩
noncomputable def wW:List Kd:=.v (.ptr cA) (.o 163 (some 0) .k)::dK::.v (.ptr c6) (.o 31 none (.p (.o 46 none (.p .k (.p .k (.p .k (.p .k (.p .k (.o 3 none .k))))))) (.p (.o 80 none (.p .k (.p .k (.o 3 none .k)))) (.p (.o 104 none .k) (.p (.o 3 none .k) (.p (.o 136 none .k) (.p (.o 102 none .k) .k)))))))::.v (.ptr c6) (.o 31 none (.p (.o 46 none (.p .k (.p .k (.p .k (.p .k (.p .k (.o 3 none .k))))))) (.p (.o 80 none (.p .k (.p .k (.o 3 none .k)))) (.p (.o 104 none .k) (.p (.o 3 none .k) (.p (.o 136 none .k) (.p (.o 102 none .k) .k)))))))::.v (.int .i64) .k::dn 90 ([])
noncomputable def zD:List Kd:=.v (.ptr cA) (.o 163 (some 0) .k)::dK::.v (.ptr c6) (.o 31 none (.p (.o 46 none (.p .k (.p .k (.p .k (.p .k (.p .k (.o 3 none .k))))))) (.p (.o 80 none (.p .k (.p .k (.o 3 none .k)))) (.p (.o 104 none .k) (.p (.o 3 none .k) (.p (.o 136 none .k) (.p (.o 102 none .k) .k)))))))::.v (.ptr c6) (.o 31 none (.p (.o 46 none (.p .k (.p .k (.p .k (.p .k (.p .k (.o 3 none .k))))))) (.p (.o 80 none (.p .k (.p .k (.o 3 none .k)))) (.p (.o 104 none .k) (.p (.o 3 none .k) (.p (.o 136 none .k) (.p (.o 102 none .k) .k)))))))::dn 91 ([])
noncomputable def wX:List Kd:=.v (.ptr cA) (.o 163 (some 0) .k)::dK::.v (.ptr c6) (.o 31 none (.p (.o 46 none (.p .k (.p .k (.p .k (.p .k (.p .k (.o 3 none .k))))))) (.p (.o 80 none (.p .k (.p .k (.o 3 none .k)))) (.p (.o 104 none .k) (.p (.o 3 none .k) (.p (.o 136 none .k) (.p (.o 102 none .k) .k)))))))::.v (.ptr c6) (.o 31 none (.p (.o 46 none (.p .k (.p .k (.p .k (.p .k (.p .k (.o 3 none .k))))))) (.p (.o 80 none (.p .k (.p .k (.o 3 none .k)))) (.p (.o 104 none .k) (.p (.o 3 none .k) (.p (.o 136 none .k) (.p (.o 102 none .k) .k)))))))::dK::.v (.int .i64) .k::dn 89 ([])
noncomputable def zE:List Kd:=.v (.ptr cA) (.o 163 (some 0) .k)::dK::.v (.ptr c6) (.o 31 none (.p (.o 46 none (.p .k (.p .k (.p .k (.p .k (.p .k (.o 3 none .k))))))) (.p (.o 80 none (.p .k (.p .k (.o 3 none .k)))) (.p (.o 104 none .k) (.p (.o 3 none .k) (.p (.o 136 none .k) (.p (.o 102 none .k) .k)))))))::.v (.ptr c6) (.o 31 none (.p (.o 46 none (.p .k (.p .k (.p .k (.p .k (.p .k (.o 3 none .k))))))) (.p (.o 80 none (.p .k (.p .k (.o 3 none .k)))) (.p (.o 104 none .k) (.p (.o 3 none .k) (.p (.o 136 none .k) (.p (.o 102 none .k) .k)))))))::dn 91 ([])
noncomputable def th:List Kd:=.v (.ptr cA) (.o 163 (some 0) .k)::dK::.v (.ptr c6) (.o 31 none (.p (.o 46 none (.p .k (.p .k (.p .k (.p .k (.p .k (.o 3 none .k))))))) (.p (.o 80 none (.p .k (.p .k (.o 3 none .k)))) (.p (.o 104 none .k) (.p (.o 3 none .k) (.p (.o 136 none .k) (.p (.o 102 none .k) .k)))))))::.v (.ptr c6) (.o 31 none (.p (.o 46 none (.p .k (.p .k (.p .k (.p .k (.p .k (.o 3 none .k))))))) (.p (.o 80 none (.p .k (.p .k (.o 3 none .k)))) (.p (.o 104 none .k) (.p (.o 3 none .k) (.p (.o 136 none .k) (.p (.o 102 none .k) .k)))))))::dK::dK::.v (.int .i64) .k::dn 88 ([])
noncomputable def uS:List Kd:=.v (.ptr cA) (.o 163 (some 0) .k)::dK::.v (.ptr c6) (.o 31 none (.p (.o 46 none (.p .k (.p .k (.p .k (.p .k (.p .k (.o 3 none .k))))))) (.p (.o 80 none (.p .k (.p .k (.o 3 none .k)))) (.p (.o 104 none .k) (.p (.o 3 none .k) (.p (.o 136 none .k) (.p (.o 102 none .k) .k)))))))::.v (.ptr c6) (.o 31 none (.p (.o 46 none (.p .k (.p .k (.p .k (.p .k (.p .k (.o 3 none .k))))))) (.p (.o 80 none (.p .k (.p .k (.o 3 none .k)))) (.p (.o 104 none .k) (.p (.o 3 none .k) (.p (.o 136 none .k) (.p (.o 102 none .k) .k)))))))::dn 91 ([])
noncomputable def GR:Hint:={ tab,hn:=[(69,.k)],loops:=[(3,wW),(7,wX),(11,th)],outs:=[(3,2,zD),(7,4,zE),(11,6,uS)],bj:=[(9,(OT.seq [3,1,2] (.par [0,4,5] [[3,36]] (OT.seq [6,7,8,9,10] .done)))),(17,(OT.seq [6,1,2,4,5] (.par [0,3,7,8,9] [[3,62],[7,54,55,63,64,65]] (OT.seq [10,11,12,13,14] .done))))],xa:=some (0,false) }
noncomputable def Mn:List AK:=[.v (.ptr cA) (.o 163 (some 0) .k)]
noncomputable def ahB (N:Nat) (x:ax Mn) (kf:aa→Option aa):Option aa:=ai9 N x.1 (fun r0 z=>kf ⟨[⟨c6,(.p (.o 46 none (.p .k (.p .k (.p .k (.p .k (.p .k (.o 3 none .k))))))) (.p (.o 80 none (.p .k (.p .k (.o 3 none .k)))) (.p (.o 104 none .k) (.p (.o 3 none .k) (.p (.o 136 none .k) (.p (.o 102 none .k) .k)))))),r0⟩],[⟨(.ptr cA),(.o 163 (some 0) .k),z⟩]⟩)
noncomputable def QI (N:Nat):=ar Mn (ahB N)
noncomputable def DT (N:Nat):List Entry:=[⟨68,[],(J9 N)⟩,⟨137,[.kZ,.val],(ng N)⟩,⟨141,[.val,.val,.val],(QD N)⟩,⟨160,[.val,.val,.val],(QF N)⟩,⟨21,[.val],(Ye N)⟩,⟨27,[.val],(Yk N)⟩,⟨123,[.val],(GO N)⟩,⟨134,[.kZ,.val],(Gf N)⟩,⟨139,[.val,.val,.val,.val],(QH N)⟩]
noncomputable def pB:Code:=aL Tryz.f133
noncomputable def GS (N n:Nat) (key:Nat) (S:St) (K:Ks):Option aa:=bif Nat.beq key 3 then az wW S (fun x=>qI N x.2.1 n (fun z0 z1=>K (.x 0) (shape zD (z0,x.2.1,z1,()))) x.1 x.2.2.1 x.2.2.2.1) else bif Nat.beq key 7 then az wX S (fun x=>qJ N x.2.1 n (fun z0 z1=>K (.x 2) (shape zE (z0,x.2.1,z1,()))) x.1 x.2.2.1 x.2.2.2.1) else bif Nat.beq key 11 then az th S (fun x=>fp N x.2.1 n (fun z0 z1=>K (.x 4) (shape uS (z0,x.2.1,z1,()))) x.1 x.2.2.1 x.2.2.2.1) else none
theorem aoA (N key:Nat) (S:St) (K:Ks):GS N 0 key S K=none:=(bO (au fun _=>rfl) (bO (au fun _=>rfl) (bO (au fun _=>rfl) rfl)))
noncomputable def QK:Code:=(af pB).getD 0 .skip
noncomputable def QM:Code:=(af pB).getD 1 .skip
noncomputable def QN:Code:=(af pB).getD 2 .skip
theorem aoB:af pB=[QK,QM,QN]:=by kernel_rfl
theorem Vb (N:Nat):fD GR (DT N) (GS N) N 11 th QN:=fun _ _ _=>by kernel_rfl
theorem abn (N:Nat):fD GR (DT N) (GS N) N 7 wX QM:=fun _ _ _=>by kernel_rfl
theorem abo (N:Nat):fD GR (DT N) (GS N) N 3 wW QK:=fun _ _ _=>by kernel_rfl
theorem aoC (N:Nat):cn Mn (ahB N) GR (DT N) (GS N N) Tryz.f133:=fun _ _=>by kernel_rfl
theorem aoD {Γ:Gl} (N:Nat):Sound Γ Tryz.prog 133 (QI N):=iH GR Tryz.f133 pB (aoA N) aoB (aoC N) (rc (abo N) (rc (abn N) (rc (Vb N) trivial))) ⟨aeK N,⟨tS N,⟨aos N,⟨aow N,⟨at9 N,⟨aud N,⟨Yf N,⟨WU N,⟨aoz N,trivial⟩⟩⟩⟩⟩⟩⟩⟩⟩
noncomputable def wY:List Kd:=.v (.sl (.int .i64)) .k::.v (.sl (.int .i64)) .k::dn 10 (.v (.int .i64) .k::.v (.int .i64) .k::dn 12 ([]))
noncomputable def zF:List Kd:=dn 26 ([])
noncomputable def zG:List Kd:=dn 4 (.v .bool .k::dn 21 ([]))
noncomputable def Vc:Hint:={ tab,hn:=[],loops:=[(4,wY)],outs:=[(4,2,zF),(4,1,zG)],bj:=[(6,(OT.seq [0,1,2,3,4,5,6,7,8] .done))] }
noncomputable def Mo:List AK:=[.v (.sl (.int .i64)) .k,.v (.sl (.int .i64)) .k]
noncomputable def ahC (N:Nat) (x:ax Mo) (kf:aa→Option aa):Option aa:=ZD N x.1 x.2.1 (fun r0=>kf ⟨[⟨.bool,.k,r0⟩],[]⟩)
noncomputable def zH (N:Nat):=ar Mo (ahC N)
noncomputable def BW:Code:=aL Tryz.f150
noncomputable def Vd (N n:Nat) (key:Nat) (S:St) (K:Ks):Option aa:=bif Nat.beq key 4 then az wY S (fun x=>qK x.1 x.2.1 x.2.2.1 n (K (.x 0) (shape zF ())) (fun z0=>K .r (shape zG (z0,()))) x.2.2.2.1) else none
theorem aoE (N key:Nat) (S:St) (K:Ks):Vd N 0 key S K=none:=(bO (au fun _=>rfl) rfl)
noncomputable def QO:Code:=(af BW).getD 0 .skip
theorem aoF:af BW=[QO]:=by kernel_rfl
theorem abp (N:Nat):fD Vc [] (Vd N) N 4 wY QO:=fun _ _ _=>by kernel_rfl
theorem aoG (N:Nat):cn Mo (ahC N) Vc [] (Vd N N) Tryz.f150:=fun _ _=>by kernel_rfl
theorem Mp {Γ:Gl} (N:Nat):Sound Γ Tryz.prog 150 (zH N):=iH Vc Tryz.f150 BW (aoE N) aoF (aoG N) (rc (abp N) trivial) trivial
noncomputable def Mq:List AK:=[.v cS .k,.v cS .k]
noncomputable def ahD (N:Nat) (x:ax Mq) (kf:aa→Option aa):Option aa:=ai' N x.1 x.2.1 (fun r0=>kf ⟨[⟨.bool,.k,r0⟩],[]⟩)
noncomputable def QP (N:Nat):=ar Mq (ahD N)
noncomputable def aoH (N:Nat):List Entry:=[⟨150,[.val,.val],(zH N)⟩]
theorem aoI (N:Nat):cn Mq (ahD N) hq (aoH N) (fC N N) Tryz.f149:=fun _ _=>by kernel_rfl
theorem aoJ {Γ:Gl} (N:Nat):Sound Γ Tryz.prog 149 (QP N):=gX hq Tryz.f149 (aoI N) ⟨Mp N,trivial⟩
noncomputable def wZ:List Kd:=dK::.v (.sl cS) .k::.lu 149 []::dn 12 (.v (.sl cS) .k::.v (.int .i64) .k::.v (.int .i64) .k::dn 14 ([]))
noncomputable def zI:List Kd:=dn 32 ([])
noncomputable def zJ:List Kd:=dn 6 (.v .bool .k::dn 25 ([]))
noncomputable def Ve:Hint:={ tab,hn:=[],loops:=[(4,wZ)],outs:=[(4,2,zI),(4,1,zJ)],bj:=[] }
noncomputable def Mr:List AK:=[.v (.sl cS) .k,.v (.sl cS) .k,.fn 149 []]
noncomputable def ahE (N:Nat) (x:ax Mr) (kf:aa→Option aa):Option aa:=aja N x.1 x.2.1 (fun r0=>kf ⟨[⟨.bool,.k,r0⟩],[]⟩)
noncomputable def QQ (N:Nat):=ar Mr (ahE N)
noncomputable def Yo (N:Nat):List Entry:=[⟨149,[.val,.val],(QP N)⟩]
noncomputable def BX:Code:=aL Tryz.f148
noncomputable def Vf (N n:Nat) (key:Nat) (S:St) (K:Ks):Option aa:=bif Nat.beq key 4 then az wZ S (fun x=>qL N x.1 x.2.2.1 x.2.2.2.1 n (K (.x 0) (shape zI ())) (fun z0=>K .r (shape zJ (z0,()))) x.2.2.2.2.1) else none
theorem aoK (N key:Nat) (S:St) (K:Ks):Vf N 0 key S K=none:=(bO (au fun _=>rfl) rfl)
noncomputable def QR:Code:=(af BX).getD 0 .skip
theorem aoL:af BX=[QR]:=by kernel_rfl
theorem abq (N:Nat):fD Ve (Yo N) (Vf N) N 4 wZ QR:=fun _ _ _=>by kernel_rfl
theorem aoM (N:Nat):cn Mr (ahE N) Ve (Yo N) (Vf N N) Tryz.f148:=fun _ _=>by kernel_rfl
theorem aoN {Γ:Gl} (N:Nat):Sound Γ Tryz.prog 148 (QQ N):=iH Ve Tryz.f148 BX (aoK N) aoL (aoM N) (rc (abq N) trivial) ⟨aoJ N,trivial⟩
noncomputable def Ms:List AK:=[.v iN .k,.v iN .k]
noncomputable def ahF (N:Nat) (x:ax Ms) (kf:aa→Option aa):Option aa:=ajb N x.1 x.2.1 (fun r0=>kf ⟨[⟨.bool,.k,r0⟩],[]⟩)
noncomputable def QS (N:Nat):=ar Ms (ahF N)
noncomputable def aoO (N:Nat):List Entry:=[⟨150,[.val,.val],(zH N)⟩]
theorem aoP (N:Nat):cn Ms (ahF N) hq (aoO N) (fC N N) Tryz.f152:=fun _ _=>by kernel_rfl
theorem aoQ {Γ:Gl} (N:Nat):Sound Γ Tryz.prog 152 (QS N):=gX hq Tryz.f152 (aoP N) ⟨Mp N,trivial⟩
noncomputable def w4:List Kd:=dK::.v (.sl iN) .k::.lu 152 []::dn 12 (.v (.sl iN) .k::.v (.int .i64) .k::.v (.int .i64) .k::dn 14 ([]))
noncomputable def zK:List Kd:=dn 32 ([])
noncomputable def zL:List Kd:=dn 6 (.v .bool .k::dn 25 ([]))
noncomputable def Vg:Hint:={ tab,hn:=[],loops:=[(4,w4)],outs:=[(4,2,zK),(4,1,zL)],bj:=[] }
noncomputable def Mt:List AK:=[.v (.sl iN) .k,.v (.sl iN) .k,.fn 152 []]
noncomputable def ahG (N:Nat) (x:ax Mt) (kf:aa→Option aa):Option aa:=ajc N x.1 x.2.1 (fun r0=>kf ⟨[⟨.bool,.k,r0⟩],[]⟩)
noncomputable def QU (N:Nat):=ar Mt (ahG N)
noncomputable def Yp (N:Nat):List Entry:=[⟨152,[.val,.val],(QS N)⟩]
noncomputable def BY:Code:=aL Tryz.f151
noncomputable def Vh (N n:Nat) (key:Nat) (S:St) (K:Ks):Option aa:=bif Nat.beq key 4 then az w4 S (fun x=>qM N x.1 x.2.2.1 x.2.2.2.1 n (K (.x 0) (shape zK ())) (fun z0=>K .r (shape zL (z0,()))) x.2.2.2.2.1) else none
theorem aoR (N key:Nat) (S:St) (K:Ks):Vh N 0 key S K=none:=(bO (au fun _=>rfl) rfl)
noncomputable def QV:Code:=(af BY).getD 0 .skip
theorem aoS:af BY=[QV]:=by kernel_rfl
theorem abr (N:Nat):fD Vg (Yp N) (Vh N) N 4 w4 QV:=fun _ _ _=>by kernel_rfl
theorem aoT (N:Nat):cn Mt (ahG N) Vg (Yp N) (Vh N N) Tryz.f151:=fun _ _=>by kernel_rfl
theorem aoU {Γ:Gl} (N:Nat):Sound Γ Tryz.prog 151 (QU N):=iH Vg Tryz.f151 BY (aoR N) aoS (aoT N) (rc (abr N) trivial) ⟨aoQ N,trivial⟩
noncomputable def w5:List Kd:=.v (.sl c9) .k::.v (.sl c9) .k::dn 10 (.v (.int .i64) .k::.v (.int .i64) .k::dn 12 ([]))
noncomputable def zM:List Kd:=dn 26 ([])
noncomputable def zN:List Kd:=dn 4 (.v .bool .k::dn 21 ([]))
noncomputable def Vi:Hint:={ tab,hn:=[],loops:=[(4,w5)],outs:=[(4,2,zM),(4,1,zN)],bj:=[(6,(OT.seq [0,1,2,3,4,5,6,7,8] .done))] }
noncomputable def Mu:List AK:=[.v (.sl c9) .k,.v (.sl c9) .k]
noncomputable def ahH (N:Nat) (x:ax Mu) (kf:aa→Option aa):Option aa:=ajd N x.1 x.2.1 (fun r0=>kf ⟨[⟨.bool,.k,r0⟩],[]⟩)
noncomputable def QW (N:Nat):=ar Mu (ahH N)
noncomputable def BZ:Code:=aL Tryz.f153
noncomputable def Vj (N n:Nat) (key:Nat) (S:St) (K:Ks):Option aa:=bif Nat.beq key 4 then az w5 S (fun x=>qN x.1 x.2.1 x.2.2.1 n (K (.x 0) (shape zM ())) (fun z0=>K .r (shape zN (z0,()))) x.2.2.2.1) else none
theorem aoV (N key:Nat) (S:St) (K:Ks):Vj N 0 key S K=none:=(bO (au fun _=>rfl) rfl)
noncomputable def QX:Code:=(af BZ).getD 0 .skip
theorem aoW:af BZ=[QX]:=by kernel_rfl
theorem abt (N:Nat):fD Vi [] (Vj N) N 4 w5 QX:=fun _ _ _=>by kernel_rfl
theorem aoX (N:Nat):cn Mu (ahH N) Vi [] (Vj N N) Tryz.f153:=fun _ _=>by kernel_rfl
theorem aoY {Γ:Gl} (N:Nat):Sound Γ Tryz.prog 153 (QW N):=iH Vi Tryz.f153 BZ (aoV N) aoW (aoX N) (rc (abt N) trivial) trivial
noncomputable def w6:List Kd:=.v (.sl rI) .k::.v (.sl rI) .k::dn 10 (.v (.int .i64) .k::.v (.int .i64) .k::dn 12 ([]))
noncomputable def zO:List Kd:=dn 26 ([])
noncomputable def zP:List Kd:=dn 4 (.v .bool .k::dn 21 ([]))
noncomputable def Vk:Hint:={ tab,hn:=[],loops:=[(4,w6)],outs:=[(4,2,zO),(4,1,zP)],bj:=[(6,(OT.seq [0,1,2,3,4,5,6,7,8] .done))] }
noncomputable def Mv:List AK:=[.v (.sl rI) .k,.v (.sl rI) .k]
noncomputable def ahI (N:Nat) (x:ax Mv) (kf:aa→Option aa):Option aa:=aje N x.1 x.2.1 (fun r0=>kf ⟨[⟨.bool,.k,r0⟩],[]⟩)
noncomputable def QY (N:Nat):=ar Mv (ahI N)
noncomputable def B0:Code:=aL Tryz.f154
noncomputable def Vl (N n:Nat) (key:Nat) (S:St) (K:Ks):Option aa:=bif Nat.beq key 4 then az w6 S (fun x=>qO x.1 x.2.1 x.2.2.1 n (K (.x 0) (shape zO ())) (fun z0=>K .r (shape zP (z0,()))) x.2.2.2.1) else none
theorem aoZ (N key:Nat) (S:St) (K:Ks):Vl N 0 key S K=none:=(bO (au fun _=>rfl) rfl)
noncomputable def QZ:Code:=(af B0).getD 0 .skip
theorem ao0:af B0=[QZ]:=by kernel_rfl
theorem abu (N:Nat):fD Vk [] (Vl N) N 4 w6 QZ:=fun _ _ _=>by kernel_rfl
theorem ao1 (N:Nat):cn Mv (ahI N) Vk [] (Vl N N) Tryz.f154:=fun _ _=>by kernel_rfl
theorem ao2 {Γ:Gl} (N:Nat):Sound Γ Tryz.prog 154 (QY N):=iH Vk Tryz.f154 B0 (aoZ N) ao0 (ao1 N) (rc (abu N) trivial) trivial
noncomputable def Mw:List AK:=[.v c6 .k,.v c6 .k]
noncomputable def aqn (N:Nat) (x:ax Mw) (kf:aa→Option aa):Option aa:=I42 N x.1 x.2.1 (fun r0=>kf ⟨[⟨.bool,.k,r0⟩],[]⟩)
noncomputable def Yq (N:Nat):=ar Mw (aqn N)
noncomputable def aue (N:Nat):List Entry:=[⟨148,[.val,.val,.val],(QQ N)⟩,⟨151,[.val,.val,.val],(QU N)⟩,⟨153,[.val,.val],(QW N)⟩,⟨150,[.val,.val],(zH N)⟩,⟨154,[.val,.val],(QY N)⟩,⟨76,[.val,.val],(XT N)⟩]
theorem auf (N:Nat):cn Mw (aqn N) hq (aue N) (fC N N) Tryz.f42:=fun _ _=>by kernel_rfl
theorem aug {Γ:Gl} (N:Nat):Sound Γ Tryz.prog 42 (Yq N):=gX hq Tryz.f42 (auf N) ⟨aoN N,⟨aoU N,⟨aoY N,⟨Mp N,⟨ao2 N,⟨atV N,trivial⟩⟩⟩⟩⟩⟩
noncomputable def B2:List Kd:=dn 4 (.v (.ptr c6) (.o 31 none (.p (.o 46 none (.p .k (.p .k (.p .k (.p .k (.p .k (.o 3 none .k))))))) (.p (.o 80 none (.p .k (.p .k (.o 3 none .k)))) (.p (.o 104 none .k) (.p (.o 3 none .k) (.p (.o 136 none .k) (.p (.o 102 none .k) .k)))))))::.v (.ptr c6) (.o 31 none (.p (.o 46 none (.p .k (.p .k (.p .k (.p .k (.p .k (.o 3 none .k))))))) (.p (.o 80 none (.p .k (.p .k (.o 3 none .k)))) (.p (.o 104 none .k) (.p (.o 3 none .k) (.p (.o 136 none .k) (.p (.o 102 none .k) .k)))))))::dn 4 (.v (.sl mO) .k::.v (.int .i64) .k::.v (.int .i64) .k::dn 11 ([])))
noncomputable def C5:List Kd:=dn 4 (.v (.ptr c6) (.o 31 none (.p (.o 46 none (.p .k (.p .k (.p .k (.p .k (.p .k (.o 3 none .k))))))) (.p (.o 80 none (.p .k (.p .k (.o 3 none .k)))) (.p (.o 104 none .k) (.p (.o 3 none .k) (.p (.o 136 none .k) (.p (.o 102 none .k) .k)))))))::.v (.ptr c6) (.o 31 none (.p (.o 46 none (.p .k (.p .k (.p .k (.p .k (.p .k (.o 3 none .k))))))) (.p (.o 80 none (.p .k (.p .k (.o 3 none .k)))) (.p (.o 104 none .k) (.p (.o 3 none .k) (.p (.o 136 none .k) (.p (.o 102 none .k) .k)))))))::dn 18 ([]))
noncomputable def ahJ:Hint:={ tab,hn:=[],loops:=[(3,B2)],outs:=[(3,2,C5)],bj:=[] }
noncomputable def My:List AK:=[.v c6 .k,.v (.sl mO) .k]
noncomputable def aqo (N:Nat) (x:ax My) (kf:aa→Option aa):Option aa:=I43 N x.1 x.2.1 (fun r0=>kf ⟨[⟨c6,(.p (.o 46 none (.p .k (.p .k (.p .k (.p .k (.p .k (.o 3 none .k))))))) (.p (.o 80 none (.p .k (.p .k (.o 3 none .k)))) (.p (.o 104 none .k) (.p (.o 3 none .k) (.p (.o 136 none .k) (.p (.o 102 none .k) .k)))))),r0⟩],[]⟩)
noncomputable def Yr (N:Nat):=ar My (aqo N)
noncomputable def ahK (N:Nat):List Entry:=[⟨70,[.val],(kU N)⟩,⟨13,[.val,.val],(Lr N)⟩]
noncomputable def GU:Code:=aL Tryz.f43
noncomputable def ahL (N n:Nat) (key:Nat) (S:St) (K:Ks):Option aa:=bif Nat.beq key 3 then az B2 S (fun x=>vK N x.1 x.2.2.1 x.2.2.2.1 n (fun z0=>K (.x 0) (shape C5 (x.1,z0,()))) x.2.1 x.2.2.2.2.1) else none
theorem auh (N key:Nat) (S:St) (K:Ks):ahL N 0 key S K=none:=(bO (au fun _=>rfl) rfl)
noncomputable def Ys:Code:=(af GU).getD 0 .skip
theorem aui:af GU=[Ys]:=by kernel_rfl
theorem ahM (N:Nat):fD ahJ (ahK N) (ahL N) N 3 B2 Ys:=fun _ _ _=>by kernel_rfl
theorem auj (N:Nat):cn My (aqo N) ahJ (ahK N) (ahL N N) Tryz.f43:=fun _ _=>by kernel_rfl
theorem auk {Γ:Gl} (N:Nat):Sound Γ Tryz.prog 43 (Yr N):=iH ahJ Tryz.f43 GU (auh N) aui (auj N) (rc (ahM N) trivial) ⟨qW N,⟨agK N,trivial⟩⟩
noncomputable def Mz:List AK:=[.v (.sl (.int .u8)) .k,.v (.int .i64) .k]
noncomputable def aqp (N:Nat) (x:ax Mz) (kf:aa→Option aa):Option aa:=L44 N x.1 x.2.1 (fun r0=>kf ⟨[⟨(.int .i64),.k,r0⟩],[]⟩)
noncomputable def Yt (N:Nat):=ar Mz (aqp N)
theorem aul (N:Nat):cn Mz (aqp N) hq [] (fC N N) Tryz.f44:=fun _ _=>by kernel_rfl
theorem aum {Γ:Gl} (N:Nat):Sound Γ Tryz.prog 44 (Yt N):=gX hq Tryz.f44 (aul N) trivial
noncomputable def B3:List Kd:=dK::.v (.int .i64) .k::dn 3 (.v (.int .i64) .k::dK::dK::.v (.sl mO) .k::.v (.int .i64) .k::.v (.int .i64) .k::dn 11 ([]))
noncomputable def C6:List Kd:=dn 5 (.v (.int .i64) .k::dn 16 ([]))
noncomputable def ahN:Hint:={ tab,hn:=[],loops:=[(3,B3)],outs:=[(3,2,C6)],bj:=[] }
noncomputable def MA:List AK:=[.v (.sl mO) .k,.v (.int .i64) .k]
noncomputable def aqq (N:Nat) (x:ax MA) (kf:aa→Option aa):Option aa:=I45 N x.1 x.2.1 (fun r0=>kf ⟨[⟨(.int .i64),.k,r0⟩],[]⟩)
noncomputable def Yu (N:Nat):=ar MA (aqq N)
noncomputable def GV:Code:=aL Tryz.f45
noncomputable def ahO (N n:Nat) (key:Nat) (S:St) (K:Ks):Option aa:=bif Nat.beq key 3 then az B3 S (fun x=>vL x.1 x.2.2.1 x.2.2.2.1 n (fun z0=>K (.x 0) (shape C6 (z0,()))) x.2.1 x.2.2.2.2.1) else none
theorem aun (N key:Nat) (S:St) (K:Ks):ahO N 0 key S K=none:=(bO (au fun _=>rfl) rfl)
noncomputable def Yv:Code:=(af GV).getD 0 .skip
theorem auo:af GV=[Yv]:=by kernel_rfl
theorem ahP (N:Nat):fD ahN [] (ahO N) N 3 B3 Yv:=fun _ _ _=>by kernel_rfl
theorem aup (N:Nat):cn MA (aqq N) ahN [] (ahO N N) Tryz.f45:=fun _ _=>by kernel_rfl
theorem auq {Γ:Gl} (N:Nat):Sound Γ Tryz.prog 45 (Yu N):=iH ahN Tryz.f45 GV (aun N) auo (aup N) (rc (ahP N) trivial) trivial
noncomputable def B4:List Kd:=dK::.v (.sl (.int .i64)) .k::dn 3 (.v (.sl mO) (.o 38 none .k)::dn 4 (.v (.sl (.int .i64)) (.o 3 none .k)::.v (.int .i64) .k::.v (.int .i64) .k::dn 28 ([])))
noncomputable def C7:List Kd:=dn 5 (.v (.sl mO) (.o 38 none .k)::dn 35 ([]))
noncomputable def ahQ:Hint:={ tab,hn:=[],loops:=[(3,B4)],outs:=[(3,2,C7)],bj:=[(6,(OT.seq [0,1,2,3,4,5,6,7,8,9,10,11,12,13,14,15,16] .done))] }
noncomputable def MB:List AK:=[.v c6 .k,.v (.sl (.int .i64)) .k]
noncomputable def aqr (N:Nat) (x:ax MB) (kf:aa→Option aa):Option aa:=I46 N x.1 x.2.1 (fun r0=>kf ⟨[⟨(.sl mO),(.o 38 none .k),r0⟩],[]⟩)
noncomputable def Yw (N:Nat):=ar MB (aqr N)
noncomputable def ahR (N:Nat):List Entry:=[⟨41,[.val],(DO N)⟩]
noncomputable def GW:Code:=aL Tryz.f46
noncomputable def ahS (N n:Nat) (key:Nat) (S:St) (K:Ks):Option aa:=bif Nat.beq key 3 then az B4 S (fun x=>sK x.1 x.2.2.1 x.2.2.2.1 n (fun z0=>K (.x 0) (shape C7 (z0,()))) x.2.1 x.2.2.2.2.1) else none
theorem aur (N key:Nat) (S:St) (K:Ks):ahS N 0 key S K=none:=(bO (au fun _=>rfl) rfl)
noncomputable def Yx:Code:=(af GW).getD 0 .skip
theorem aus:af GW=[Yx]:=by kernel_rfl
theorem ahT (N:Nat):fD ahQ (ahR N) (ahS N) N 3 B4 Yx:=fun _ _ _=>by kernel_rfl
theorem aut (N:Nat):cn MB (aqr N) ahQ (ahR N) (ahS N N) Tryz.f46:=fun _ _=>by kernel_rfl
theorem auu {Γ:Gl} (N:Nat):Sound Γ Tryz.prog 46 (Yw N):=iH ahQ Tryz.f46 GW (aur N) aus (aut N) (rc (ahT N) trivial) ⟨Uf N,trivial⟩
noncomputable def aqs:Hint:={ tab,hn:=[],loops:=[],outs:=[],bj:=[(6,(OT.seq [0] (.par [1,2] [[6,20]] (OT.seq [3] .done))))] }
noncomputable def MC:List AK:=[.v (.sl (.int .u8)) .k]
noncomputable def aqt (N:Nat) (x:ax MC) (kf:aa→Option aa):Option aa:=S47 N x.1 (fun r0 r1=>kf ⟨[⟨c6,(.p (.o 46 none (.p .k (.p .k (.p .k (.p .k (.p .k (.o 3 none .k))))))) (.p (.o 80 none (.p .k (.p .k (.o 3 none .k)))) (.p (.o 104 none .k) (.p (.o 3 none .k) (.p (.o 136 none .k) (.p (.o 102 none .k) .k)))))),r0⟩,⟨mO,.k,r1⟩],[]⟩)
noncomputable def Yy (N:Nat):=ar MC (aqt N)
noncomputable def auv (N:Nat):List Entry:=[⟨67,[.val],(J8 N)⟩,⟨133,[.kZ],(QI N)⟩,⟨155,[.kZ],(Gg N)⟩,⟨140,[.kZ,.val],(Ge N)⟩,⟨137,[.kZ,.val],(ng N)⟩]
theorem auw (N:Nat):cn MC (aqt N) aqs (auv N) (fC N N) Tryz.f47:=fun _ _=>by kernel_rfl
theorem auy {Γ:Gl} (N:Nat):Sound Γ Tryz.prog 47 (Yy N):=gX aqs Tryz.f47 (auw N) ⟨aeJ N,⟨aoD N,⟨WV N,⟨WT N,⟨tS N,trivial⟩⟩⟩⟩⟩
set_option maxHeartbeats 4000000 in
set_option maxRecDepth 1000000 in
theorem auz (k:Int) (hk:k=1∨k=2∨k=3∨k=4∨k=5∨k=6) (w:World):Calls Tryz.prog 48 #[.int .i64 k] w fun e w'=>e=.returned (.string (sL k))∧∃ o,w'=w.alloc o:=by
 rcases hk with rfl |rfl |rfl |rfl |rfl |rfl<;>
 ·go_enter Tryz.func48,Tryz.ntmps48
  go_wp2
  all_goals go_ret
  all_goals exact⟨rfl,_,rfl⟩
set_option maxHeartbeats 4000000 in
set_option maxRecDepth 1000000 in
theorem auA (k:Int) (hk:k<1) (w:World):Calls Tryz.prog 48 #[.int .i64 k] w fun e w'=>e=.returned (.string (sL k))∧∃ o,w'=w.alloc o:=by
 have e:sL k=⟨#[]⟩:=by
  unfold sL
  simp only[beq_eq_false_iff_ne.2 (show k≠1 by omega),beq_eq_false_iff_ne.2 (show k≠2 by omega),beq_eq_false_iff_ne.2 (show k≠3 by omega),beq_eq_false_iff_ne.2 (show k≠4 by omega),beq_eq_false_iff_ne.2 (show k≠5 by omega),beq_eq_false_iff_ne.2 (show k≠6 by omega),cond_false]
 rw[e]
 go_enter Tryz.func48,Tryz.ntmps48
 go_wp2
 all_goals first |omega |skip
 all_goals go_ret
 all_goals exact⟨rfl,_,rfl⟩
set_option maxHeartbeats 4000000 in
set_option maxRecDepth 1000000 in
theorem auB (k:Int) (hk:k>6) (w:World):Calls Tryz.prog 48 #[.int .i64 k] w fun e w'=>e=.returned (.string (sL k))∧∃ o,w'=w.alloc o:=by
 have e:sL k=⟨#[]⟩:=by
  unfold sL
  simp only[beq_eq_false_iff_ne.2 (show k≠1 by omega),beq_eq_false_iff_ne.2 (show k≠2 by omega),beq_eq_false_iff_ne.2 (show k≠3 by omega),beq_eq_false_iff_ne.2 (show k≠4 by omega),beq_eq_false_iff_ne.2 (show k≠5 by omega),beq_eq_false_iff_ne.2 (show k≠6 by omega),cond_false]
 rw[e]
 go_enter Tryz.func48,Tryz.ntmps48
 go_wp2
 all_goals first |omega |skip
 all_goals go_ret
 all_goals exact⟨rfl,_,rfl⟩
theorem ahU (k:Int) (w:World):Calls Tryz.prog 48 #[.int .i64 k] w fun e w'=>e=.returned (.string (sL k))∧∃ o,w'=w.alloc o:=by
 by_cases h1:k<1
 ·exact auA k h1 w
 by_cases h2:k>6
 ·exact auB k h2 w
 exact auz k (by omega) w
noncomputable def ahV:List AK:=[.v (.int .i64) .k]
noncomputable def awH (N:Nat) (x:ax ahV) (kf:aa→Option aa):Option aa:=I48 N x.1 (fun r0=>kf ⟨[⟨.str,.k,r0⟩],[]⟩)
noncomputable def MD (N:Nat):=ar ahV (awH N)
noncomputable def ahW:Code:=aL Tryz.f48
theorem auC {Γ:Gl} (N:Nat):Sound Γ Tryz.prog 48 (MD N):=Td (fn:=Tryz.f48) (c:=ahW) (by kernel_rfl) (by kernel_rfl) (by kernel_rfl) ahU
noncomputable def uc:List Kd:=.v (.sl (.int .u8)) .k::dn 4 (.v (.ptr c6) (.o 31 none (.p (.o 46 none (.p .k (.p .k (.p .k (.p .k (.p .k (.o 3 none .k))))))) (.p (.o 80 none (.p .k (.p .k (.o 3 none .k)))) (.p (.o 104 none .k) (.p (.o 3 none .k) (.p (.o 136 none .k) (.p (.o 102 none .k) .k)))))))::dK::.v (.sl (.int .i64)) (.o 3 none .k)::.v (.int .i64) .k::dn 102 ([]))
noncomputable def tk:List Kd:=.v (.sl (.int .u8)) .k::dn 4 (.v (.ptr c6) (.o 31 none (.p (.o 46 none (.p .k (.p .k (.p .k (.p .k (.p .k (.o 3 none .k))))))) (.p (.o 80 none (.p .k (.p .k (.o 3 none .k)))) (.p (.o 104 none .k) (.p (.o 3 none .k) (.p (.o 136 none .k) (.p (.o 102 none .k) .k)))))))::dK::.v (.sl (.int .i64)) (.o 3 none .k)::dn 103 ([]))
noncomputable def ao3:Hint:={ tab,hn:=[],loops:=[(11,uc)],outs:=[(11,2,tk)],bj:=[(6,(OT.seq [0,1,2,3,4,5,6,7,8,10,11,12,9,13,14,15,16,17,18,19,20,21] .done)),(14,(OT.seq [0,1,2] (.par [3,4,5] [[9]] (OT.seq [6] .done))))] }
noncomputable def IF:List AK:=[.v (.sl (.int .u8)) .k]
noncomputable def awI (N:Nat) (x:ax IF) (kf:aa→Option aa):Option aa:=L7 N x.1 (fun r0=>kf ⟨[⟨.bool,.k,r0⟩],[]⟩)
noncomputable def ME (N:Nat):=ar IF (awI N)
noncomputable def aqu (N:Nat):List Entry:=[⟨11,[.val],(WR N)⟩,⟨12,[.val],(WY N)⟩,⟨43,[.val,.val],(Yr N)⟩,⟨44,[.val,.val],(Yt N)⟩,⟨39,[.val],(tU N)⟩,⟨42,[.val,.val],(Yq N)⟩,⟨45,[.val,.val],(Yu N)⟩,⟨16,[.val],(qX N)⟩,⟨46,[.val,.val],(Yw N)⟩,⟨41,[.val],(DO N)⟩,⟨28,[.val],(Lp N)⟩,⟨47,[.val],(Yy N)⟩,⟨13,[.val,.val],(Lr N)⟩,⟨48,[.val],(MD N)⟩]
noncomputable def DU:Code:=aL Tryz.f7
noncomputable def auD (N n:Nat) (key:Nat) (S:St) (K:Ks):Option aa:=bif Nat.beq key 11 then az uc S (fun x=>qP x.1 x.2.1 n (fun z0=>K (.x 0) (shape tk (x.1,x.2.1,z0,()))) x.2.2.1 x.2.2.2.1) else none
theorem awJ (N key:Nat) (S:St) (K:Ks):auD N 0 key S K=none:=(bO (au fun _=>rfl) rfl)
noncomputable def ahX:Code:=(af DU).getD 0 .skip
theorem awK:af DU=[ahX]:=by kernel_rfl
theorem ahY (N:Nat):fD ao3 (aqu N) (auD N) N 11 uc ahX:=fun _ _ _=>by kernel_rfl
theorem auE (g0:Nat→(List Int)→(Bool→Option aa)→Option aa) (g1:Nat→(List Int)→(QC→(List QL)→Option aa)→Option aa) (g2:Nat→QC→(List QL)→(QC→Option aa)→Option aa) (g3:Nat→(List Int)→Int→(Int→Option aa)→Option aa) (g4:Nat→QC→(Bool→Option aa)→Option aa) (g5:Nat→QC→QC→(Bool→Option aa)→Option aa) (g6:Nat→(List QL)→Int→(Int→Option aa)→Option aa) (g7:Nat→QC→(Bool→Option aa)→Option aa) (g8:Nat→QC→(List Int)→((List QL)→Option aa)→Option aa) (g9:Nat→QC→((List Int)→Option aa)→Option aa) (g10:Nat→QC→(QC→Bool→Option aa)→Option aa) (g11:Nat→(List Int)→(QC→QL→Option aa)→Option aa) (g12:Nat→QC→QL→(QC→Bool→Option aa)→Option aa) (g13:(List Int)→QC→Nat→((List Int)→Option aa)→(List Int)→Int→Option aa) (N:Nat) (x:ax IF) (kf:aa→Option aa):arP g0 g1 g2 g3 g4 g5 g6 g7 g8 g9 g10 g11 g12 g13 N x.1 (fun r0=>kf ⟨[⟨.bool,.k,r0⟩],[]⟩)=km ao3 (jt.of [⟨11,[.val],(ar J7 (fun x kf=>g0 N x.1 (fun r0=>kf ⟨[⟨.bool,.k,r0⟩],[]⟩)))⟩,⟨12,[.val],(ar Kf (fun x kf=>g1 N x.1 (fun r0 r1=>kf ⟨[⟨c6,(.p (.o 46 none (.p .k (.p .k (.p .k (.p .k (.p .k (.o 3 none .k))))))) (.p (.o 80 none (.p .k (.p .k (.o 3 none .k)))) (.p (.o 104 none .k) (.p (.o 3 none .k) (.p (.o 136 none .k) (.p (.o 102 none .k) .k)))))),r0⟩,⟨(.sl mO),(.o 38 none .k),r1⟩],[]⟩)))⟩,⟨43,[.val,.val],(ar My (fun x kf=>g2 N x.1 x.2.1 (fun r0=>kf ⟨[⟨c6,(.p (.o 46 none (.p .k (.p .k (.p .k (.p .k (.p .k (.o 3 none .k))))))) (.p (.o 80 none (.p .k (.p .k (.o 3 none .k)))) (.p (.o 104 none .k) (.p (.o 3 none .k) (.p (.o 136 none .k) (.p (.o 102 none .k) .k)))))),r0⟩],[]⟩)))⟩,⟨44,[.val,.val],(ar Mz (fun x kf=>g3 N x.1 x.2.1 (fun r0=>kf ⟨[⟨(.int .i64),.k,r0⟩],[]⟩)))⟩,⟨39,[.val],(ar KK (fun x kf=>g4 N x.1 (fun r0=>kf ⟨[⟨.bool,.k,r0⟩],[]⟩)))⟩,⟨42,[.val,.val],(ar Mw (fun x kf=>g5 N x.1 x.2.1 (fun r0=>kf ⟨[⟨.bool,.k,r0⟩],[]⟩)))⟩,⟨45,[.val,.val],(ar MA (fun x kf=>g6 N x.1 x.2.1 (fun r0=>kf ⟨[⟨(.int .i64),.k,r0⟩],[]⟩)))⟩,⟨16,[.val],(ar Ko (fun x kf=>g7 N x.1 (fun r0=>kf ⟨[⟨.bool,.k,r0⟩],[]⟩)))⟩,⟨46,[.val,.val],(ar MB (fun x kf=>g8 N x.1 x.2.1 (fun r0=>kf ⟨[⟨(.sl mO),(.o 38 none .k),r0⟩],[]⟩)))⟩,⟨41,[.val],(ar Lg (fun x kf=>g9 N x.1 (fun r0=>kf ⟨[⟨(.sl (.int .i64)),(.o 3 none .k),r0⟩],[]⟩)))⟩,⟨28,[.val],(ar Lo (fun x kf=>g10 N x.1 (fun r0 r1=>kf ⟨[⟨c6,(.p (.o 46 none (.p .k (.p .k (.p .k (.p .k (.p .k (.o 3 none .k))))))) (.p (.o 80 none (.p .k (.p .k (.o 3 none .k)))) (.p (.o 104 none .k) (.p (.o 3 none .k) (.p (.o 136 none .k) (.p (.o 102 none .k) .k)))))),r0⟩,⟨.bool,.k,r1⟩],[]⟩)))⟩,⟨47,[.val],(ar MC (fun x kf=>g11 N x.1 (fun r0 r1=>kf ⟨[⟨c6,(.p (.o 46 none (.p .k (.p .k (.p .k (.p .k (.p .k (.o 3 none .k))))))) (.p (.o 80 none (.p .k (.p .k (.o 3 none .k)))) (.p (.o 104 none .k) (.p (.o 3 none .k) (.p (.o 136 none .k) (.p (.o 102 none .k) .k)))))),r0⟩,⟨mO,.k,r1⟩],[]⟩)))⟩,⟨13,[.val,.val],(ar Lq (fun x kf=>g12 N x.1 x.2.1 (fun r0 r1=>kf ⟨[⟨c6,(.p (.o 46 none (.p .k (.p .k (.p .k (.p .k (.p .k (.o 3 none .k))))))) (.p (.o 80 none (.p .k (.p .k (.o 3 none .k)))) (.p (.o 104 none .k) (.p (.o 3 none .k) (.p (.o 136 none .k) (.p (.o 102 none .k) .k)))))),r0⟩,⟨.bool,.k,r1⟩],[]⟩)))⟩,⟨48,[.val],(MD N)⟩]) (fun key S K=>bif Nat.beq key 11 then az uc S (fun x=>g13 x.1 x.2.1 N (fun z0=>K (.x 0) (shape tk (x.1,x.2.1,z0,()))) x.2.2.1 x.2.2.2.1) else none) Tryz.f7 (dG IF x) kf:=by kernel_rfl
theorem awL (N:Nat) (x:ax IF) (kf:aa→Option aa):awI N x kf=km ao3 (jt.of (aqu N)) (auD N N) Tryz.f7 (dG IF x) kf:=auE L11 S12 I43 L44 I39 I42 I45 R4 I46 I41 I28 S47 I13 qP N x kf
theorem awM {Γ:Gl} (N:Nat):Sound Γ Tryz.prog 7 (ME N):=iH ao3 Tryz.f7 DU (awJ N) awK (awL N) (rc (ahY N) trivial) ⟨asv N,⟨asG N,⟨auk N,⟨aum N,⟨Gu N,⟨aug N,⟨auq N,⟨A8 N,⟨auu N,⟨Uf N,⟨agH N,⟨auy N,⟨agK N,⟨auC N,trivial⟩⟩⟩⟩⟩⟩⟩⟩⟩⟩⟩⟩⟩⟩
end Go.Pv.R
