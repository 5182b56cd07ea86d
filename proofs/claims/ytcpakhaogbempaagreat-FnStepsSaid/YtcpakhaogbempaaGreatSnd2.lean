/- Each function of the program that the law reaches computes its plain function, part 2. -/
import Derived.Test.YtcpakhaogbempaaGreatSnd1
import Derived.Test.YtcpakhaogbempaaGreatProg
namespace Go.Pv.R
open Go.Proofs
set_option linter.unusedVariables false
set_option maxRecDepth 100000
noncomputable def aqm:Hint:={ tab,hn:=[],loops:=[],outs:=[],b5:=[(1,(OT.seq [0,1,3,4,7,8,11,15,19,22] (.any [2,5,6,9,10,12,13,14,16,17,18,20,21,23] (OT.seq [24,25] .done))))] }
noncomputable def UQ:List AK:=[.v bU .k]
noncomputable def aqn (N:Nat) (x:aL UQ) (kf:ab→Option ab):Option ab:=Wo N x.1 (fun r0=>kf ⟨[⟨bU,(.p (.o 46 none (.p .k (.p .k (.p .k (.p .k (.p .k (.o 3 none .k))))))) (.p (.o 80 none (.p .k (.p .k (.o 3 none .k)))) (.p (.o 104 none .k) (.p (.o 3 none .k) (.p (.o 136 none .k) (.p (.o 102 none .k) .k)))))),r0⟩],[]⟩)
noncomputable def rW (N:Nat):=aF UQ (aqn N)
noncomputable def at0 (N:Nat):List Entry:=[⟨173,[.val],(zx N)⟩,⟨174,[.val],(G1 N)⟩]
theorem at1 (N:Nat):cX UQ (aqn N) aqm (at0 N) (gw N N) Tryz.f90:=fun _ _=>by kernel_rfl
theorem Ci {Γ:Gl} (N:Nat):Sound Γ Tryz.prog 90 (rW N):=iQ aqm Tryz.f90 (at1 N) ⟨L9 N,⟨X9 N,trivial⟩⟩
noncomputable def Mb:List AK:=[.v (.int .i64) .k,.v (.int .i64) .k,.v (.int .i64) .k]
noncomputable def agZ (N:Nat) (x:aL Mb) (kf:ab→Option ab):Option ab:=iP N x.1 x.2.1 x.2.2.1 (fun r0=>kf ⟨[⟨.bool,.k,r0⟩],[]⟩)
noncomputable def kW (N:Nat):=aF Mb (agZ N)
theorem am0 (N:Nat):cX Mb (agZ N) hq [] (gw N N) Tryz.f195:=fun _ _=>by kernel_rfl
theorem oT {Γ:Gl} (N:Nat):Sound Γ Tryz.prog 195 (kW N):=iQ hq Tryz.f195 (am0 N) trivial
noncomputable def xg:List Kd:=.v (.sl dC) .k::.v (.int .i64) .k::dn 3 (.v (.int .i64) .k::dn 14 ([]))
noncomputable def zz:List Kd:=dn 20 ([])
noncomputable def zA:List Kd:=dn 4 (.v (.int .i64) .k::dn 15 ([]))
noncomputable def UR:Hint:={ tab,hn:=[],loops:=[(2,xg)],outs:=[(2,2,zz),(2,1,zA)],b5:=[] }
noncomputable def Mc:List AK:=[.v (.sl dC) .k,.v (.int .i64) .k]
noncomputable def ag0 (N:Nat) (x:aL Mc) (kf:ab→Option ab):Option ab:=wC N x.1 x.2.1 (fun r0=>kf ⟨[⟨(.int .i64),.k,r0⟩],[]⟩)
noncomputable def nS (N:Nat):=aF Mc (ag0 N)
noncomputable def Cj:Code:=bw Tryz.f200
noncomputable def US (N n:Nat) (key:Nat) (S:St) (K:Ks):Option ab:=bif Nat.beq key 2 then aQ xg S (fun x=>ra x.1 x.2.1 n (K (.x 0) (shape zz ())) (fun z0=>K .r (shape zA (z0,()))) x.2.2.1) else none
theorem am1 (N key:Nat) (S:St) (K:Ks):US N 0 key S K=none:=(cH (aJ fun _=>rfl) rfl)
noncomputable def QI:Code:=(ak Cj).getD 0 .skip
theorem am2:ak Cj=[QI]:=by kernel_rfl
theorem abb (N:Nat):hZ UR [] (US N) N 2 xg QI:=fun _ _ _=>by kernel_rfl
theorem am3 (N:Nat):cX Mc (ag0 N) UR [] (US N N) Tryz.f200:=fun _ _=>by kernel_rfl
theorem uT {Γ:Gl} (N:Nat):Sound Γ Tryz.prog 200 (nS N):=kh UR Tryz.f200 Cj (am1 N) am2 (am3 N) (rc (abb N) trivial) trivial
noncomputable def xh:List Kd:=.v (.sl (.int .i64)) .k::.v (.int .i64) .k::dn 3 (.v (.int .i64) .k::.v (.int .i64) .k::dn 15 ([]))
noncomputable def zB:List Kd:=dn 5 (.v (.int .i64) .k::dn 16 ([]))
noncomputable def UT:Hint:={ tab,hn:=[],loops:=[(3,xh)],outs:=[(3,2,zB)],b5:=[] }
noncomputable def Me:List AK:=[.v (.sl (.int .i64)) .k,.v (.int .i64) .k]
noncomputable def ag3 (N:Nat) (x:aL Me) (kf:ab→Option ab):Option ab:=S8 N x.1 x.2.1 (fun r0=>kf ⟨[⟨(.int .i64),.k,r0⟩],[]⟩)
noncomputable def QK (N:Nat):=aF Me (ag3 N)
noncomputable def Ck:Code:=bw Tryz.f220
noncomputable def UU (N n:Nat) (key:Nat) (S:St) (K:Ks):Option ab:=bif Nat.beq key 3 then aQ xh S (fun x=>oq x.1 x.2.1 n (fun z0=>K (.x 0) (shape zB (z0,()))) x.2.2.1 x.2.2.2.1) else none
theorem am4 (N key:Nat) (S:St) (K:Ks):UU N 0 key S K=none:=(cH (aJ fun _=>rfl) rfl)
noncomputable def QM:Code:=(ak Ck).getD 0 .skip
theorem am5:ak Ck=[QM]:=by kernel_rfl
theorem abc (N:Nat):hZ UT [] (UU N) N 3 xh QM:=fun _ _ _=>by kernel_rfl
theorem am6 (N:Nat):cX Me (ag3 N) UT [] (UU N N) Tryz.f220:=fun _ _=>by kernel_rfl
theorem am7 {Γ:Gl} (N:Nat):Sound Γ Tryz.prog 220 (QK N):=kh UT Tryz.f220 Ck (am4 N) am5 (am6 N) (rc (abc N) trivial) trivial
noncomputable def xi:List Kd:=.v (.sl dC) .k::dK::dK::.v (.int .i64) .k::.v (.ptr dC) (.o 46 none .k)::.v (.int .i64) .k::dn 109 ([])
noncomputable def zC:List Kd:=.v (.sl dC) .k::dK::dK::.v (.int .i64) .k::dn 111 ([])
noncomputable def zD:List Kd:=dK::dK::.v .bool .k::dn 112 ([])
noncomputable def xj:List Kd:=.v (.sl dC) .k::dK::dK::.v (.int .i64) .k::dn 111 ([])
noncomputable def zE:List Kd:=.v (.sl dC) .k::dn 114 ([])
noncomputable def zF:List Kd:=dK::dK::.v .bool .k::dn 112 ([])
noncomputable def Mf:Hint:={ tab,hn:=[],loops:=[(8,xi),(2,xj)],outs:=[(8,4,zC),(8,1,zD),(2,2,zE),(2,1,zF)],b5:=[(5,(OT.seq [0,1,2,3,4,5,6,7,8,9,10,11,12,13,14,15,16,17,18,19,20,21,22,23,24,25,26,27,28,29,30,31,32,33,34,35,36,37,38,39,40,41,42,43,44,45,46,47,48,49,50,51,52,53,54] .done)),(11,(OT.seq [0,1,2,3,4,5,6,7,8,9,10,11,12,13,14,16,17,18,19,20,21,22,15,23,24,25] .done))] }
noncomputable def Mg:List AK:=[.v (.sl dC) .k]
noncomputable def ag4 (N:Nat) (x:aL Mg) (kf:ab→Option ab):Option ab:=vf N x.1 (fun r0=>kf ⟨[⟨.bool,.k,r0⟩],[]⟩)
noncomputable def jw (N:Nat):=aF Mg (ag4 N)
noncomputable def Mh (N:Nat):List Entry:=[⟨195,[.val,.val,.val],(kW N)⟩,⟨200,[.val,.val],(nS N)⟩,⟨220,[.val,.val],(QK N)⟩]
noncomputable def uU:Code:=bw Tryz.f175
noncomputable def Mi (N n:Nat) (key:Nat) (S:St) (K:Ks):Option ab:=bif Nat.beq key 2 then aQ xj S (fun x=>ot N x.1 n (K (.x 0) (shape zE (x.1,()))) (fun z0=>K .r (shape zF (z0,()))) x.2.1) else bif Nat.beq key 8 then aQ xi S (fun x=>kM N x.1 x.2.1 x.2.2.1 n (K (.x 2) (shape zC (x.1,x.2.1,()))) (fun z0=>K .r (shape zD (z0,()))) x.2.2.2.1) else none
theorem am8 (N key:Nat) (S:St) (K:Ks):Mi N 0 key S K=none:=(cH (aJ fun _=>rfl) (cH (aJ fun _=>rfl) rfl))
noncomputable def QN:Code:=(ak uU).getD 0 .skip
noncomputable def QO:Code:=(ak uU).getD 1 .skip
theorem am9:ak uU=[QN,QO]:=by kernel_rfl
theorem abd (N:Nat):hZ Mf (Mh N) (Mi N) N 8 xi QO:=fun _ _ _=>by kernel_rfl
theorem abe (N:Nat):hZ Mf (Mh N) (Mi N) N 2 xj QN:=fun _ _ _=>by kernel_rfl
theorem am' (N:Nat):cX Mg (ag4 N) Mf (Mh N) (Mi N N) Tryz.f175:=fun _ _=>by kernel_rfl
theorem m6 {Γ:Gl} (N:Nat):Sound Γ Tryz.prog 175 (jw N):=kh Mf Tryz.f175 uU (am8 N) am9 (am' N) (rc (abe N) (rc (abd N) trivial)) ⟨oT N,⟨uT N,⟨am7 N,trivial⟩⟩⟩
noncomputable def Mj:List AK:=[.v dC .k,.v dC .k]
noncomputable def ag5 (N:Nat) (x:aL Mj) (kf:ab→Option ab):Option ab:=adS N x.1 x.2.1 (fun r0=>kf ⟨[⟨.bool,.k,r0⟩],[]⟩)
noncomputable def G2 (N:Nat):=aF Mj (ag5 N)
theorem ana (N:Nat):cX Mj (ag5 N) hq [] (gw N N) Tryz.f223:=fun _ _=>by kernel_rfl
theorem Ya {Γ:Gl} (N:Nat):Sound Γ Tryz.prog 223 (G2 N):=iQ hq Tryz.f223 (ana N) trivial
noncomputable def xk:List Kd:=.v (.sl dC) .k::dK::dK::.v (.sl dC) (.o 46 none .k)::.v (.int .i64) .k::.v (.int .i64) .k::dn 62 ([])
noncomputable def zG:List Kd:=.v (.sl dC) .k::dK::dK::.v (.sl dC) (.o 46 none .k)::.v (.int .i64) .k::.v (.int .i64) .k::dn 62 ([])
noncomputable def xl:List Kd:=.v (.sl dC) .k::dK::dK::.v (.sl dC) (.o 46 none .k)::.v (.int .i64) .k::dn 63 ([])
noncomputable def zH:List Kd:=dn 3 (.v (.sl dC) (.o 46 none .k)::dn 64 ([]))
noncomputable def ub:List Kd:=dn 3 (.v (.sl dC) (.o 46 none .k)::dK::dK::.v (.sl (.int .i64)) (.o 3 none .k)::.v (.int .i64) .k::dn 60 ([]))
noncomputable def vK:List Kd:=dn 6 (.v (.sl (.int .i64)) (.o 3 none .k)::dn 61 ([]))
noncomputable def G3:Hint:={ tab,hn:=[],loops:=[(6,xk),(3,xl),(11,ub)],outs:=[(6,4,zG),(3,2,zH),(11,6,vK)],b5:=[(6,(OT.seq [0,1,2,3,4,5,6,7,8,9,10,11,12,13] .done)),(8,(OT.seq [1,2,3,5,6,7,11,12,13] (.par [0,4,8,9] [[44,45,46]] (OT.seq [10,14,15] .done))))] }
noncomputable def Mk:List AK:=[.v (.sl dC) .k]
noncomputable def ag6 (N:Nat) (x:aL Mk) (kf:ab→Option ab):Option ab:=aiW N x.1 (fun r0=>kf ⟨[⟨(.sl (.int .i64)),(.o 3 none .k),r0⟩],[]⟩)
noncomputable def QP (N:Nat):=aF Mk (ag6 N)
noncomputable def Eo (N:Nat):List Entry:=[⟨175,[.val],(jw N)⟩,⟨223,[.val,.val],(G2 N)⟩]
noncomputable def qf:Code:=bw Tryz.f177
noncomputable def G4 (N n:Nat) (key:Nat) (S:St) (K:Ks):Option ab:=bif Nat.beq key 3 then aQ xl S (fun x=>rh N x.1 n (fun z0=>K (.x 0) (shape zH (z0,()))) x.2.1 x.2.2.1) else bif Nat.beq key 6 then aQ xk S (fun x=>rf N x.1 x.2.1 x.2.2.1 n (fun z0=>K (.x 2) (shape zG (x.1,x.2.1,x.2.2.1,z0,()))) x.2.2.2.1) else bif Nat.beq key 11 then aQ ub S (fun x=>l5 x.1 n (fun z0=>K (.x 4) (shape vK (z0,()))) x.2.1 x.2.2.1) else none
theorem anb (N key:Nat) (S:St) (K:Ks):G4 N 0 key S K=none:=(cH (aJ fun _=>rfl) (cH (aJ fun _=>rfl) (cH (aJ fun _=>rfl) rfl)))
noncomputable def QQ:Code:=(ak qf).getD 0 .skip
noncomputable def QR:Code:=(ak qf).getD 1 .skip
noncomputable def QS:Code:=(ak qf).getD 2 .skip
theorem anc:ak qf=[QQ,QR,QS]:=by kernel_rfl
theorem UW (N:Nat):hZ G3 (Eo N) (G4 N) N 11 ub QS:=fun _ _ _=>by kernel_rfl
theorem abf (N:Nat):hZ G3 (Eo N) (G4 N) N 6 xk QR:=fun _ _ _=>by kernel_rfl
theorem abg (N:Nat):hZ G3 (Eo N) (G4 N) N 3 xl QQ:=fun _ _ _=>by kernel_rfl
theorem ane (N:Nat):cX Mk (ag6 N) G3 (Eo N) (G4 N N) Tryz.f177:=fun _ _=>by kernel_rfl
theorem anf {Γ:Gl} (N:Nat):Sound Γ Tryz.prog 177 (QP N):=kh G3 Tryz.f177 qf (anb N) anc (ane N) (rc (abg N) (rc (abf N) (rc (UW N) trivial))) ⟨m6 N,⟨Ya N,trivial⟩⟩
noncomputable def xm:List Kd:=.v (.sl (.int .i64)) .k::.v (.int .i64) .k::dn 3 (.v (.int .i64) .k::dn 12 ([]))
noncomputable def zI:List Kd:=dn 18 ([])
noncomputable def zJ:List Kd:=dn 4 (.v .bool .k::dn 13 ([]))
noncomputable def UX:Hint:={ tab,hn:=[],loops:=[(2,xm)],outs:=[(2,2,zI),(2,1,zJ)],b5:=[] }
noncomputable def Ml:List AK:=[.v (.sl (.int .i64)) .k,.v (.int .i64) .k]
noncomputable def ag7 (N:Nat) (x:aL Ml) (kf:ab→Option ab):Option ab:=wD N x.1 x.2.1 (fun r0=>kf ⟨[⟨.bool,.k,r0⟩],[]⟩)
noncomputable def qg (N:Nat):=aF Ml (ag7 N)
noncomputable def Cl:Code:=bw Tryz.f224
noncomputable def UY (N n:Nat) (key:Nat) (S:St) (K:Ks):Option ab:=bif Nat.beq key 2 then aQ xm S (fun x=>rk x.1 x.2.1 n (K (.x 0) (shape zI ())) (fun z0=>K .r (shape zJ (z0,()))) x.2.2.1) else none
theorem ang (N key:Nat) (S:St) (K:Ks):UY N 0 key S K=none:=(cH (aJ fun _=>rfl) rfl)
noncomputable def QU:Code:=(ak Cl).getD 0 .skip
theorem anh:ak Cl=[QU]:=by kernel_rfl
theorem abh (N:Nat):hZ UX [] (UY N) N 2 xm QU:=fun _ _ _=>by kernel_rfl
theorem ani (N:Nat):cX Ml (ag7 N) UX [] (UY N N) Tryz.f224:=fun _ _=>by kernel_rfl
theorem zK {Γ:Gl} (N:Nat):Sound Γ Tryz.prog 224 (qg N):=kh UX Tryz.f224 Cl (ang N) anh (ani N) (rc (abh N) trivial) trivial
noncomputable def Mm:List AK:=[.v (.sl dC) .k,.v (.int .i64) .k,.v (.int .i64) .k]
noncomputable def ag8 (N:Nat) (x:aL Mm) (kf:ab→Option ab):Option ab:=aiX N x.1 x.2.1 x.2.2.1 (fun r0=>kf ⟨[⟨.bool,.k,r0⟩],[]⟩)
noncomputable def QV (N:Nat):=aF Mm (ag8 N)
noncomputable def anj (N:Nat):List Entry:=[⟨200,[.val,.val],(nS N)⟩,⟨224,[.val,.val],(qg N)⟩]
theorem ank (N:Nat):cX Mm (ag8 N) hq (anj N) (gw N N) Tryz.f250:=fun _ _=>by kernel_rfl
theorem anl {Γ:Gl} (N:Nat):Sound Γ Tryz.prog 250 (QV N):=iQ hq Tryz.f250 (ank N) ⟨uT N,⟨zK N,trivial⟩⟩
noncomputable def ag9:Hint:={ tab,hn:=[],loops:=[],outs:=[],b5:=[(3,(OT.seq [0,1,2,3,4,5,6,7,8,9,10,11,12,13,14,15,16,17,18,19,20,21,22,23,24,25,26,27,28,29,30,31,32,33,34,35] .done))] }
noncomputable def Mn:List AK:=[.v (.sl dC) .k,.v (.int .i64) .k,.v (.int .i64) .k]
noncomputable def ag' (N:Nat) (x:aL Mn) (kf:ab→Option ab):Option ab:=S9 N x.1 x.2.1 x.2.2.1 (fun r0=>kf ⟨[⟨.bool,.k,r0⟩],[]⟩)
noncomputable def G5 (N:Nat):=aF Mn (ag' N)
noncomputable def anm (N:Nat):List Entry:=[⟨200,[.val,.val],(nS N)⟩,⟨175,[.val],(jw N)⟩,⟨250,[.val,.val,.val],(QV N)⟩]
theorem ann (N:Nat):cX Mn (ag' N) ag9 (anm N) (gw N N) Tryz.f221:=fun _ _=>by kernel_rfl
theorem Yb {Γ:Gl} (N:Nat):Sound Γ Tryz.prog 221 (G5 N):=iQ ag9 Tryz.f221 (ann N) ⟨uT N,⟨m6 N,⟨anl N,trivial⟩⟩⟩
noncomputable def aha:Hint:={ tab,hn:=[],loops:=[],outs:=[],b5:=[(5,(OT.seq [0,1,2,3,4,5,6,7,8,9,10,11,12,13,14,15,16,17,18,19,20,21,22,23,24,25,26,27,28,29,30,31,32,33,34] .done))] }
noncomputable def Mo:List AK:=[.v (.sl dC) .k,.v (.int .i64) .k,.v (.int .i64) .k]
noncomputable def ahb (N:Nat) (x:aL Mo) (kf:ab→Option ab):Option ab:=aiY N x.1 x.2.1 x.2.2.1 (fun r0=>kf ⟨[⟨dQ,.k,r0⟩],[]⟩)
noncomputable def QW (N:Nat):=aF Mo (ahb N)
noncomputable def ano (N:Nat):List Entry:=[⟨200,[.val,.val],(nS N)⟩,⟨175,[.val],(jw N)⟩,⟨223,[.val,.val],(G2 N)⟩]
theorem anp (N:Nat):cX Mo (ahb N) aha (ano N) (gw N N) Tryz.f222:=fun _ _=>by kernel_rfl
theorem anq {Γ:Gl} (N:Nat):Sound Γ Tryz.prog 222 (QW N):=iQ aha Tryz.f222 (anp N) ⟨uT N,⟨m6 N,⟨Ya N,trivial⟩⟩⟩
noncomputable def xn:List Kd:=.v (.sl dC) .k::.v (.sl (.int .i64)) .k::dn 4 (.v (.int .i64) .k::dn 53 ([]))
noncomputable def zL:List Kd:=dn 60 ([])
noncomputable def zM:List Kd:=dn 4 (.v (.sl dQ) (.o 104 none .k)::.v .bool .k::dn 54 ([]))
noncomputable def UZ:Hint:={ tab,hn:=[],loops:=[(4,xn)],outs:=[(4,2,zL),(4,1,zM)],b5:=[(6,(OT.seq [0,1,2,3,4,5,6,7,8,9] .done)),(7,(OT.seq [1,2,3,5,6,7,8,0,4,9,10] .done)),(10,(OT.seq [0,1,2,3,4,5,6,7,10,8,9,11,12,13] .done))] }
noncomputable def Ep:List AK:=[.v (.sl dC) .k,.v (.sl (.int .i64)) .k]
noncomputable def ahc (N:Nat) (x:aL Ep) (kf:ab→Option ab):Option ab:=Tc N x.1 x.2.1 (fun r0 r1=>kf ⟨[⟨(.sl dQ),(.o 104 none .k),r0⟩,⟨.bool,.k,r1⟩],[]⟩)
noncomputable def zN (N:Nat):=aF Ep (ahc N)
noncomputable def Mp (N:Nat):List Entry:=[⟨221,[.val,.val,.val],(G5 N)⟩,⟨222,[.val,.val,.val],(QW N)⟩,⟨176,[.val,.val],(zN N)⟩]
noncomputable def Cm:Code:=bw Tryz.f176
noncomputable def Mq (N n:Nat) (key:Nat) (S:St) (K:Ks):Option ab:=bif Nat.beq key 4 then aQ xn S (fun x=>rn N (Tc N) x.1 x.2.1 n (K (.x 0) (shape zL ())) (fun z0 z1=>K .r (shape zM (z0,z1,()))) x.2.2.1) else none
theorem anr (N key:Nat) (S:St) (K:Ks):Mq N 0 key S K=none:=(cH (aJ fun _=>rfl) rfl)
noncomputable def QX:Code:=(ak Cm).getD 0 .skip
theorem ant:ak Cm=[QX]:=by kernel_rfl
theorem abi (N:Nat):hZ UZ (Mp N) (Mq N) N 4 xn QX:=fun _ _ _=>by kernel_rfl
theorem anu (N:Nat) (x:aL Ep) (kf:ab→Option ab):ahc (N+1) x kf=ko UZ (jS.of (Mp N)) (Mq N N) Tryz.f176 (eB Ep x) kf:=by kernel_rfl
theorem Yc {Γ:Gl}:∀ N:Nat,Sound Γ Tryz.prog 176 (zN N)
 |0=>qG fun al kf=>by
  unfold zN aF
  split<;>rfl
 |N+1=>kJ (hh:=UZ) mixed mA (es:=Mp N) ⟨Yb N,⟨anq N,⟨Yc N,trivial⟩⟩⟩ (fn:=Tryz.f176) (body:=Cm) (by kernel_rfl) (by kernel_rfl) (by kernel_rfl) (by kernel_rfl) (by kernel_rfl) (Lf:=Mq N) (anr N) ant (rc (abi N) trivial) (N:=N) (by kernel_rfl) (anu N) (.inl (by kernel_rfl))
noncomputable def U0:List AK:=[.v (.sl dC) .k]
noncomputable def aqo (N:Nat) (x:aL U0) (kf:ab→Option ab):Option ab:=S91 N x.1 (fun r0 r1=>kf ⟨[⟨(.sl dQ),(.o 104 none .k),r0⟩,⟨.bool,.k,r1⟩],[]⟩)
noncomputable def Yd (N:Nat):=aF U0 (aqo N)
noncomputable def at2 (N:Nat):List Entry:=[⟨175,[.val],(jw N)⟩,⟨177,[.val],(QP N)⟩,⟨176,[.val,.val],(zN N)⟩]
theorem at3 (N:Nat):cX U0 (aqo N) hq (at2 N) (gw N N) Tryz.f91:=fun _ _=>by kernel_rfl
theorem at4 {Γ:Gl} (N:Nat):Sound Γ Tryz.prog 91 (Yd N):=iQ hq Tryz.f91 (at3 N) ⟨m6 N,⟨anf N,⟨Yc N,trivial⟩⟩⟩
noncomputable def xo:List Kd:=.v (.sl jL) .k::dK::dK::.v (.int .i64) .k::.v (.int .i64) .k::dn 87 ([])
noncomputable def zO:List Kd:=.v (.sl jL) .k::dK::dK::.v (.int .i64) .k::dn 88 ([])
noncomputable def zP:List Kd:=dK::dK::.v .bool .k::dn 89 ([])
noncomputable def xp:List Kd:=.v (.sl jL) .k::dK::dK::.v (.int .i64) .k::dn 88 ([])
noncomputable def zQ:List Kd:=.v (.sl jL) .k::dn 91 ([])
noncomputable def zR:List Kd:=dK::dK::.v .bool .k::dn 89 ([])
noncomputable def Mr:Hint:={ tab,hn:=[],loops:=[(7,xo),(2,xp)],outs:=[(7,4,zO),(7,1,zP),(2,2,zQ),(2,1,zR)],b5:=[(4,(OT.seq [0,1,2,3,4,5,6,7,8,9,10,11,12,13,14,15,16,17,18,19,20,21,22,23,24,25,26,27,28,29,30,31,32,33] .done)),(9,(OT.seq [0,1,2,3,4,5,6,7,8,9,10,11,12,13,14,15,16,17,18,19,20,21,22,23,24,25,26,27,28,29,30,31,32,33] .done))] }
noncomputable def Ms:List AK:=[.v (.sl jL) .k]
noncomputable def ahd (N:Nat) (x:aL Ms) (kf:ab→Option ab):Option ab:=ZG N x.1 (fun r0=>kf ⟨[⟨.bool,.k,r0⟩],[]⟩)
noncomputable def zS (N:Nat):=aF Ms (ahd N)
noncomputable def Mt (N:Nat):List Entry:=[⟨195,[.val,.val,.val],(kW N)⟩]
noncomputable def uV:Code:=bw Tryz.f178
noncomputable def Mu (N n:Nat) (key:Nat) (S:St) (K:Ks):Option ab:=bif Nat.beq key 2 then aQ xp S (fun x=>oy N x.1 n (K (.x 0) (shape zQ (x.1,()))) (fun z0=>K .r (shape zR (z0,()))) x.2.1) else bif Nat.beq key 7 then aQ xo S (fun x=>jD N x.1 x.2.1 n (K (.x 2) (shape zO (x.1,x.2.1,()))) (fun z0=>K .r (shape zP (z0,()))) x.2.2.1) else none
theorem anv (N key:Nat) (S:St) (K:Ks):Mu N 0 key S K=none:=(cH (aJ fun _=>rfl) (cH (aJ fun _=>rfl) rfl))
noncomputable def QY:Code:=(ak uV).getD 0 .skip
noncomputable def QZ:Code:=(ak uV).getD 1 .skip
theorem anw:ak uV=[QY,QZ]:=by kernel_rfl
theorem abj (N:Nat):hZ Mr (Mt N) (Mu N) N 7 xo QZ:=fun _ _ _=>by kernel_rfl
theorem abk (N:Nat):hZ Mr (Mt N) (Mu N) N 2 xp QY:=fun _ _ _=>by kernel_rfl
theorem anx (N:Nat):cX Ms (ahd N) Mr (Mt N) (Mu N N) Tryz.f178:=fun _ _=>by kernel_rfl
theorem Mv {Γ:Gl} (N:Nat):Sound Γ Tryz.prog 178 (zS N):=kh Mr Tryz.f178 uV (anv N) anw (anx N) (rc (abk N) (rc (abj N) trivial)) ⟨oT N,trivial⟩
noncomputable def ahe:Hint:={ tab,hn:=[],loops:=[],outs:=[],b5:=[(3,(OT.seq [0,1,2,3,4,5,6,7,8,9,10,11,12,13,14,15,16,17,18,19,20,21,22,23,24,25,26,27,28,29,30,31,32,33,34,35,36,37,38,39,40,41,42] .done))] }
noncomputable def Mw:List AK:=[.v (.sl dC) .k,.v jL .k,.v dQ .k]
noncomputable def ahf (N:Nat) (x:aL Mw) (kf:ab→Option ab):Option ab:=ZH N x.1 x.2.1 x.2.2.1 (fun r0=>kf ⟨[⟨.bool,.k,r0⟩],[]⟩)
noncomputable def G6 (N:Nat):=aF Mw (ahf N)
noncomputable def anz (N:Nat):List Entry:=[⟨200,[.val,.val],(nS N)⟩,⟨224,[.val,.val],(qg N)⟩]
theorem anA (N:Nat):cX Mw (ahf N) ahe (anz N) (gw N N) Tryz.f225:=fun _ _=>by kernel_rfl
theorem Ye {Γ:Gl} (N:Nat):Sound Γ Tryz.prog 225 (G6 N):=iQ ahe Tryz.f225 (anA N) ⟨uT N,⟨zK N,trivial⟩⟩
noncomputable def xq:List Kd:=.v (.sl dC) .k::.v (.sl jL) .k::.v (.sl dQ) .k::.v (.sl (.int .i64)) .k::dn 6 (.v (.int .i64) .k::dn 59 ([]))
noncomputable def zT:List Kd:=dn 70 ([])
noncomputable def zU:List Kd:=dn 8 (.v (.sl (.int .i64)) (.o 3 none .k)::.v .bool .k::dn 60 ([]))
noncomputable def U1:Hint:={ tab,hn:=[],loops:=[(4,xq)],outs:=[(4,2,zT),(4,1,zU)],b5:=[(6,(OT.seq [0,1,2,3,4,5,6,7,8,9,10,11,12,13,14,15,16,17,18] .done)),(7,(OT.seq [5,0,1,2,3,7,8,9,10] (.par [4,6,11,12] [[47,48,49]] (OT.seq [13,14,15,16,17,18,19] .done))))] }
noncomputable def Es:List AK:=[.v (.sl dC) .k,.v (.sl jL) .k,.v (.sl dQ) .k,.v (.sl (.int .i64)) .k]
noncomputable def ahg (N:Nat) (x:aL Es) (kf:ab→Option ab):Option ab:=Tf N x.1 x.2.1 x.2.2.1 x.2.2.2.1 (fun r0 r1=>kf ⟨[⟨(.sl (.int .i64)),(.o 3 none .k),r0⟩,⟨.bool,.k,r1⟩],[]⟩)
noncomputable def zV (N:Nat):=aF Es (ahg N)
noncomputable def My (N:Nat):List Entry:=[⟨224,[.val,.val],(qg N)⟩,⟨225,[.val,.val,.val],(G6 N)⟩,⟨179,[.val,.val,.val,.val],(zV N)⟩]
noncomputable def Cn:Code:=bw Tryz.f179
noncomputable def Mz (N n:Nat) (key:Nat) (S:St) (K:Ks):Option ab:=bif Nat.beq key 4 then aQ xq S (fun x=>oz N (Tf N) x.1 x.2.1 x.2.2.1 x.2.2.2.1 n (K (.x 0) (shape zT ())) (fun z0 z1=>K .r (shape zU (z0,z1,()))) x.2.2.2.2.1) else none
theorem anB (N key:Nat) (S:St) (K:Ks):Mz N 0 key S K=none:=(cH (aJ fun _=>rfl) rfl)
noncomputable def Q0:Code:=(ak Cn).getD 0 .skip
theorem anC:ak Cn=[Q0]:=by kernel_rfl
theorem abl (N:Nat):hZ U1 (My N) (Mz N) N 4 xq Q0:=fun _ _ _=>by kernel_rfl
theorem anD (N:Nat) (x:aL Es) (kf:ab→Option ab):ahg (N+1) x kf=ko U1 (jS.of (My N)) (Mz N N) Tryz.f179 (eB Es x) kf:=by kernel_rfl
theorem Yf {Γ:Gl}:∀ N:Nat,Sound Γ Tryz.prog 179 (zV N)
 |0=>qG fun al kf=>by
  unfold zV aF
  split<;>rfl
 |N+1=>kJ (hh:=U1) mixed mA (es:=My N) ⟨zK N,⟨Ye N,⟨Yf N,trivial⟩⟩⟩ (fn:=Tryz.f179) (body:=Cn) (by kernel_rfl) (by kernel_rfl) (by kernel_rfl) (by kernel_rfl) (by kernel_rfl) (Lf:=Mz N) (anB N) anC (rc (abl N) trivial) (N:=N) (by kernel_rfl) (anD N) (.inl (by kernel_rfl))
noncomputable def U2:List AK:=[.v (.sl dC) .k,.v (.sl jL) .k,.v (.sl dQ) .k]
noncomputable def aqp (N:Nat) (x:aL U2) (kf:ab→Option ab):Option ab:=S92 N x.1 x.2.1 x.2.2.1 (fun r0 r1=>kf ⟨[⟨(.sl (.int .i64)),(.o 3 none .k),r0⟩,⟨.bool,.k,r1⟩],[]⟩)
noncomputable def Yg (N:Nat):=aF U2 (aqp N)
noncomputable def at5 (N:Nat):List Entry:=[⟨178,[.val],(zS N)⟩,⟨175,[.val],(jw N)⟩,⟨179,[.val,.val,.val,.val],(zV N)⟩]
theorem at6 (N:Nat):cX U2 (aqp N) hq (at5 N) (gw N N) Tryz.f92:=fun _ _=>by kernel_rfl
theorem at7 {Γ:Gl} (N:Nat):Sound Γ Tryz.prog 92 (Yg N):=iQ hq Tryz.f92 (at6 N) ⟨Mv N,⟨m6 N,⟨Yf N,trivial⟩⟩⟩
noncomputable def U3:List AK:=[.v bU .k]
noncomputable def aqq (N:Nat) (x:aL U3) (kf:ab→Option ab):Option ab:=S94 N x.1 (fun r0=>kf ⟨[⟨.bool,.k,r0⟩],[]⟩)
noncomputable def Et (N:Nat):=aF U3 (aqq N)
theorem at8 (N:Nat):cX U3 (aqq N) hq [] (gw N N) Tryz.f94:=fun _ _=>by kernel_rfl
theorem U4 {Γ:Gl} (N:Nat):Sound Γ Tryz.prog 94 (Et N):=iQ hq Tryz.f94 (at8 N) trivial
noncomputable def MA:List AK:=[.v (.sl vq) .k]
noncomputable def ahh (N:Nat) (x:aL MA) (kf:ab→Option ab):Option ab:=arI N x.1 (fun r0=>kf ⟨[⟨(.int .i64),.k,r0⟩],[]⟩)
noncomputable def Q1 (N:Nat):=aF MA (ahh N)
theorem anE (N:Nat):cX MA (ahh N) hq [] (gw N N) Tryz.f226:=fun _ _=>by kernel_rfl
theorem anF {Γ:Gl} (N:Nat):Sound Γ Tryz.prog 226 (Q1 N):=iQ hq Tryz.f226 (anE N) trivial
noncomputable def MB:List AK:=[.v (.int .i64) .k,.v (.int .i64) .k]
noncomputable def ahi (N:Nat) (x:aL MB) (kf:ab→Option ab):Option ab:=adV N x.1 x.2.1 (fun r0=>kf ⟨[⟨(.int .i64),.k,r0⟩],[]⟩)
noncomputable def Q2 (N:Nat):=aF MB (ahi N)
noncomputable def anG (N:Nat):List Entry:=[⟨195,[.val,.val,.val],(kW N)⟩]
theorem anH (N:Nat):cX MB (ahi N) hq (anG N) (gw N N) Tryz.f261:=fun _ _=>by kernel_rfl
theorem anI {Γ:Gl} (N:Nat):Sound Γ Tryz.prog 261 (Q2 N):=iQ hq Tryz.f261 (anH N) ⟨oT N,trivial⟩
noncomputable def xr:List Kd:=.v (.sl (.int .i64)) .k::dK::dK::.v (.int .i64) .k::.v (.int .i64) .k::dn 17 ([])
noncomputable def zW:List Kd:=dn 3 (.v (.int .i64) .k::dn 18 ([]))
noncomputable def U5:Hint:={ tab,hn:=[],loops:=[(3,xr)],outs:=[(3,2,zW)],b5:=[] }
noncomputable def MC:List AK:=[.v (.sl (.int .i64)) .k]
noncomputable def ahj (N:Nat) (x:aL MC) (kf:ab→Option ab):Option ab:=aiZ N x.1 (fun r0=>kf ⟨[⟨(.int .i64),.k,r0⟩],[]⟩)
noncomputable def Q3 (N:Nat):=aF MC (ahj N)
noncomputable def Yh (N:Nat):List Entry:=[⟨261,[.val,.val],(Q2 N)⟩]
noncomputable def Co:Code:=bw Tryz.f248
noncomputable def U6 (N n:Nat) (key:Nat) (S:St) (K:Ks):Option ab:=bif Nat.beq key 3 then aQ xr S (fun x=>rr N x.1 n (fun z0=>K (.x 0) (shape zW (z0,()))) x.2.1 x.2.2.1) else none
theorem anJ (N key:Nat) (S:St) (K:Ks):U6 N 0 key S K=none:=(cH (aJ fun _=>rfl) rfl)
noncomputable def Q4:Code:=(ak Co).getD 0 .skip
theorem anK:ak Co=[Q4]:=by kernel_rfl
theorem abm (N:Nat):hZ U5 (Yh N) (U6 N) N 3 xr Q4:=fun _ _ _=>by kernel_rfl
theorem anL (N:Nat):cX MC (ahj N) U5 (Yh N) (U6 N N) Tryz.f248:=fun _ _=>by kernel_rfl
theorem anM {Γ:Gl} (N:Nat):Sound Γ Tryz.prog 248 (Q3 N):=kh U5 Tryz.f248 Co (anJ N) anK (anL N) (rc (abm N) trivial) ⟨anI N,trivial⟩
noncomputable def MD:List AK:=[.v (.int .i64) .k,.v vq .k]
noncomputable def ahk (N:Nat) (x:aL MD) (kf:ab→Option ab):Option ab:=Tg N x.1 x.2.1 (fun r0=>kf ⟨[⟨(.int .i64),.k,r0⟩],[]⟩)
noncomputable def G7 (N:Nat):=aF MD (ahk N)
noncomputable def anN (N:Nat):List Entry:=[⟨248,[.val],(Q3 N)⟩]
theorem anO (N:Nat):cX MD (ahk N) hq (anN N) (gw N N) Tryz.f218:=fun _ _=>by kernel_rfl
theorem Yi {Γ:Gl} (N:Nat):Sound Γ Tryz.prog 218 (G7 N):=iQ hq Tryz.f218 (anO N) ⟨anM N,trivial⟩
noncomputable def xt:List Kd:=.v (.sl vq) .k::dK::dK::.v (.int .i64) .k::.v (.int .i64) .k::dn 45 ([])
noncomputable def zX:List Kd:=.v (.sl vq) .k::dn 49 ([])
noncomputable def zY:List Kd:=dK::dK::.v .bool .k::dn 47 ([])
noncomputable def U7:Hint:={ tab,hn:=[],loops:=[(3,xt)],outs:=[(3,2,zX),(3,1,zY)],b5:=[] }
noncomputable def ME:List AK:=[.v (.sl vq) .k]
noncomputable def ahl (N:Nat) (x:aL ME) (kf:ab→Option ab):Option ab:=adX N x.1 (fun r0=>kf ⟨[⟨.bool,.k,r0⟩],[]⟩)
noncomputable def G8 (N:Nat):=aF ME (ahl N)
noncomputable def Yj (N:Nat):List Entry:=[⟨218,[.val,.val],(G7 N)⟩,⟨195,[.val,.val,.val],(kW N)⟩]
noncomputable def Cp:Code:=bw Tryz.f158
noncomputable def U8 (N n:Nat) (key:Nat) (S:St) (K:Ks):Option ab:=bif Nat.beq key 3 then aQ xt S (fun x=>ru N x.1 n (K (.x 0) (shape zX (x.1,()))) (fun z0=>K .r (shape zY (z0,()))) x.2.1 x.2.2.1) else none
theorem anP (N key:Nat) (S:St) (K:Ks):U8 N 0 key S K=none:=(cH (aJ fun _=>rfl) rfl)
noncomputable def Q5:Code:=(ak Cp).getD 0 .skip
theorem anQ:ak Cp=[Q5]:=by kernel_rfl
theorem abn (N:Nat):hZ U7 (Yj N) (U8 N) N 3 xt Q5:=fun _ _ _=>by kernel_rfl
theorem anR (N:Nat):cX ME (ahl N) U7 (Yj N) (U8 N N) Tryz.f158:=fun _ _=>by kernel_rfl
theorem Yk {Γ:Gl} (N:Nat):Sound Γ Tryz.prog 158 (G8 N):=kh U7 Tryz.f158 Cp (anP N) anQ (anR N) (rc (abn N) trivial) ⟨Yi N,⟨oT N,trivial⟩⟩
noncomputable def ahm:Hint:={ tab,hn:=[],loops:=[],outs:=[],b5:=[(2,(OT.seq [0,2,1,3,4,5] .done)),(3,(OT.seq [1] (.any [0,2,3,4] (OT.seq [5,6] .done))))] }
noncomputable def MF:List AK:=[.v (.sl vq) .k,.v (.int .i64) .k,.v (.int .i64) .k]
noncomputable def ahn (N:Nat) (x:aL MF) (kf:ab→Option ab):Option ab:=ai0 N x.1 x.2.1 x.2.2.1 (fun r0 r1=>kf ⟨[⟨(.sl vq),(.o 102 none .k),r0⟩,⟨.bool,.k,r1⟩],[]⟩)
noncomputable def Q6 (N:Nat):=aF MF (ahn N)
noncomputable def anS (N:Nat):List Entry:=[⟨226,[.val],(Q1 N)⟩,⟨218,[.val,.val],(G7 N)⟩,⟨158,[.val],(G8 N)⟩]
theorem anT (N:Nat):cX MF (ahn N) ahm (anS N) (gw N N) Tryz.f180:=fun _ _=>by kernel_rfl
theorem anU {Γ:Gl} (N:Nat):Sound Γ Tryz.prog 180 (Q6 N):=iQ ahm Tryz.f180 (anT N) ⟨anF N,⟨Yi N,⟨Yk N,trivial⟩⟩⟩
noncomputable def xu:List Kd:=.v (.sl dC) .k::dK::dK::.v (.int .i64) .k::.v (.int .i64) .k::dn 18 ([])
noncomputable def zZ:List Kd:=dn 3 (.v (.int .i64) .k::dn 19 ([]))
noncomputable def U9:Hint:={ tab,hn:=[],loops:=[(3,xu)],outs:=[(3,2,zZ)],b5:=[] }
noncomputable def MG:List AK:=[.v (.sl dC) .k]
noncomputable def aho (N:Nat) (x:aL MG) (kf:ab→Option ab):Option ab:=ai1 N x.1 (fun r0=>kf ⟨[⟨(.int .i64),.k,r0⟩],[]⟩)
noncomputable def Q7 (N:Nat):=aF MG (aho N)
noncomputable def Yl (N:Nat):List Entry:=[⟨175,[.val],(jw N)⟩]
noncomputable def Cq:Code:=bw Tryz.f196
noncomputable def U' (N n:Nat) (key:Nat) (S:St) (K:Ks):Option ab:=bif Nat.beq key 3 then aQ xu S (fun x=>rv N x.1 n (fun z0=>K (.x 0) (shape zZ (z0,()))) x.2.1 x.2.2.1) else none
theorem anV (N key:Nat) (S:St) (K:Ks):U' N 0 key S K=none:=(cH (aJ fun _=>rfl) rfl)
noncomputable def Q8:Code:=(ak Cq).getD 0 .skip
theorem anW:ak Cq=[Q8]:=by kernel_rfl
theorem abo (N:Nat):hZ U9 (Yl N) (U' N) N 3 xu Q8:=fun _ _ _=>by kernel_rfl
theorem anX (N:Nat):cX MG (aho N) U9 (Yl N) (U' N N) Tryz.f196:=fun _ _=>by kernel_rfl
theorem anY {Γ:Gl} (N:Nat):Sound Γ Tryz.prog 196 (Q7 N):=kh U9 Tryz.f196 Cq (anV N) anW (anX N) (rc (abo N) trivial) ⟨m6 N,trivial⟩
noncomputable def xv:List Kd:=.v (.sl dC) .k::.v (.sl dQ) .k::dn 3 (.v (.sl (.int .i64)) (.o 3 none .k)::.v (.int .i64) .k::dn 60 ([]))
noncomputable def z6:List Kd:=.v (.sl dC) .k::dn 4 (.v (.sl (.int .i64)) (.o 3 none .k)::dn 61 ([]))
noncomputable def z7:List Kd:=dn 4 (.v .bool .k::dn 62 ([]))
noncomputable def Va:Hint:={ tab,hn:=[],loops:=[(3,xv)],outs:=[(3,2,z6),(3,1,z7)],b5:=[(5,(OT.seq [0,1,2,3,4,5,6,7,8,9,10,11,12,13,14,15,16,17,18,19,20,21,22,23,24,25,26,27,28,29,30] .done)),(7,(OT.seq [0,1,2,3,4,5,6,7,8,9,10,11,12,13] .done))] }
noncomputable def MH:List AK:=[.v (.sl dC) .k,.v (.sl dQ) .k]
noncomputable def ahp (N:Nat) (x:aL MH) (kf:ab→Option ab):Option ab:=ai2 N x.1 x.2.1 (fun r0=>kf ⟨[⟨.bool,.k,r0⟩],[]⟩)
noncomputable def Q9 (N:Nat):=aF MH (ahp N)
noncomputable def Ym (N:Nat):List Entry:=[⟨221,[.val,.val,.val],(G5 N)⟩,⟨224,[.val,.val],(qg N)⟩,⟨175,[.val],(jw N)⟩]
noncomputable def Cr:Code:=bw Tryz.f197
noncomputable def Vb (N n:Nat) (key:Nat) (S:St) (K:Ks):Option ab:=bif Nat.beq key 3 then aQ xv S (fun x=>ry N x.1 x.2.1 n (fun z0=>K (.x 0) (shape z6 (x.1,z0,()))) (fun z0=>K .r (shape z7 (z0,()))) x.2.2.1 x.2.2.2.1) else none
theorem anZ (N key:Nat) (S:St) (K:Ks):Vb N 0 key S K=none:=(cH (aJ fun _=>rfl) rfl)
noncomputable def Q':Code:=(ak Cr).getD 0 .skip
theorem an0:ak Cr=[Q']:=by kernel_rfl
theorem abp (N:Nat):hZ Va (Ym N) (Vb N) N 3 xv Q':=fun _ _ _=>by kernel_rfl
theorem an1 (N:Nat):cX MH (ahp N) Va (Ym N) (Vb N N) Tryz.f197:=fun _ _=>by kernel_rfl
theorem an2 {Γ:Gl} (N:Nat):Sound Γ Tryz.prog 197 (Q9 N):=kh Va Tryz.f197 Cr (anZ N) an0 (an1 N) (rc (abp N) trivial) ⟨Yb N,⟨zK N,⟨m6 N,trivial⟩⟩⟩
noncomputable def xw:List Kd:=.v (.sl jL) .k::.v (.int .i64) .k::dn 3 (.v (.int .i64) .k::dn 14 ([]))
noncomputable def z8:List Kd:=dn 20 ([])
noncomputable def z':List Kd:=dn 4 (.v (.int .i64) .k::dn 15 ([]))
noncomputable def Vc:Hint:={ tab,hn:=[],loops:=[(2,xw)],outs:=[(2,2,z8),(2,1,z')],b5:=[] }
noncomputable def MI:List AK:=[.v (.sl jL) .k,.v (.int .i64) .k]
noncomputable def ahq (N:Nat) (x:aL MI) (kf:ab→Option ab):Option ab:=FT N x.1 x.2.1 (fun r0=>kf ⟨[⟨(.int .i64),.k,r0⟩],[]⟩)
noncomputable def G9 (N:Nat):=aF MI (ahq N)
noncomputable def Cs:Code:=bw Tryz.f126
noncomputable def Vd (N n:Nat) (key:Nat) (S:St) (K:Ks):Option ab:=bif Nat.beq key 2 then aQ xw S (fun x=>rz x.1 x.2.1 n (K (.x 0) (shape z8 ())) (fun z0=>K .r (shape z' (z0,()))) x.2.2.1) else none
theorem an3 (N key:Nat) (S:St) (K:Ks):Vd N 0 key S K=none:=(cH (aJ fun _=>rfl) rfl)
noncomputable def Ra:Code:=(ak Cs).getD 0 .skip
theorem an4:ak Cs=[Ra]:=by kernel_rfl
theorem abq (N:Nat):hZ Vc [] (Vd N) N 2 xw Ra:=fun _ _ _=>by kernel_rfl
theorem an5 (N:Nat):cX MI (ahq N) Vc [] (Vd N N) Tryz.f126:=fun _ _=>by kernel_rfl
theorem Yn {Γ:Gl} (N:Nat):Sound Γ Tryz.prog 126 (G9 N):=kh Vc Tryz.f126 Cs (an3 N) an4 (an5 N) (rc (abq N) trivial) trivial
noncomputable def xx:List Kd:=.v (.sl dC) .k::.v (.sl jL) .k::.v (.sl dQ) .k::.v (.sl (.int .i64)) .k::dn 5 (.v (.int .i64) .k::dn 48 ([]))
noncomputable def Aa:List Kd:=dn 58 ([])
noncomputable def Ab:List Kd:=dn 8 (.v .bool .k::dn 49 ([]))
noncomputable def Ve:Hint:={ tab,hn:=[],loops:=[(4,xx)],outs:=[(4,2,Aa),(4,1,Ab)],b5:=[(7,(OT.seq [0,1,2,3,4,5,6,7,8,9,10,11,12,13,14,15,16,17,18,19,20,21,22,23,24] .done))] }
noncomputable def MJ:List AK:=[.v (.sl dC) .k,.v (.sl jL) .k,.v (.sl dQ) .k,.v (.sl (.int .i64)) .k]
noncomputable def ahr (N:Nat) (x:aL MJ) (kf:ab→Option ab):Option ab:=ai3 N x.1 x.2.1 x.2.2.1 x.2.2.2.1 (fun r0=>kf ⟨[⟨.bool,.k,r0⟩],[]⟩)
noncomputable def Rb (N:Nat):=aF MJ (ahr N)
noncomputable def Yo (N:Nat):List Entry:=[⟨178,[.val],(zS N)⟩,⟨126,[.val,.val],(G9 N)⟩,⟨224,[.val,.val],(qg N)⟩,⟨225,[.val,.val,.val],(G6 N)⟩]
noncomputable def Ct:Code:=bw Tryz.f198
noncomputable def Vf (N n:Nat) (key:Nat) (S:St) (K:Ks):Option ab:=bif Nat.beq key 4 then aQ xx S (fun x=>rA N x.1 x.2.1 x.2.2.1 x.2.2.2.1 n (K (.x 0) (shape Aa ())) (fun z0=>K .r (shape Ab (z0,()))) x.2.2.2.2.1) else none
theorem an6 (N key:Nat) (S:St) (K:Ks):Vf N 0 key S K=none:=(cH (aJ fun _=>rfl) rfl)
noncomputable def Rc:Code:=(ak Ct).getD 0 .skip
theorem an7:ak Ct=[Rc]:=by kernel_rfl
theorem abr (N:Nat):hZ Ve (Yo N) (Vf N) N 4 xx Rc:=fun _ _ _=>by kernel_rfl
theorem an8 (N:Nat):cX MJ (ahr N) Ve (Yo N) (Vf N N) Tryz.f198:=fun _ _=>by kernel_rfl
theorem an9 {Γ:Gl} (N:Nat):Sound Γ Tryz.prog 198 (Rb N):=kh Ve Tryz.f198 Ct (an6 N) an7 (an8 N) (rc (abr N) trivial) ⟨Mv N,⟨Yn N,⟨zK N,⟨Ye N,trivial⟩⟩⟩⟩
noncomputable def MK:List AK:=[.v sD .k]
noncomputable def ahs (N:Nat) (x:aL MK) (kf:ab→Option ab):Option ab:=ON N x.1 (fun r0=>kf ⟨[⟨.bool,.k,r0⟩],[]⟩)
noncomputable def Ac (N:Nat):=aF MK (ahs N)
noncomputable def an' (N:Nat):List Entry:=[⟨195,[.val,.val,.val],(kW N)⟩]
theorem aoa (N:Nat):cX MK (ahs N) hq (an' N) (gw N N) Tryz.f199:=fun _ _=>by kernel_rfl
theorem ML {Γ:Gl} (N:Nat):Sound Γ Tryz.prog 199 (Ac N):=iQ hq Tryz.f199 (aoa N) ⟨oT N,trivial⟩
noncomputable def xy:List Kd:=dK::.v (.ptr bU) (.o 31 none .k)::dK::.v (.ptr sD) (.o 136 none .k)::.v (.int .i64) .k::dn 110 ([])
noncomputable def Ad:List Kd:=dn 115 ([])
noncomputable def Ae:List Kd:=dK::dK::.v .bool .k::dn 112 ([])
noncomputable def Vg:Hint:={ tab,hn:=[],loops:=[(7,xy)],outs:=[(7,2,Ad),(7,1,Ae)],b5:=[(1,(OT.seq [0,1,2,3,4,5,6,7,8,9,10,11,12,13,14,15,16,17,18,19,20,21,22,23,24,25,26,27,28,29,30,31,32,33,34,35,36,37,38,39,40,41,42,44,45,43,46,47] .done)),(9,(OT.seq [0,1,2,3,4,5,6,7,8,9,10,11,12,13,14,15,16,17,18,19,20,21,22,23,24,25,26,27,28,29] .done))] }
noncomputable def MM:List AK:=[.v bU .k]
noncomputable def aht (N:Nat) (x:aL MM) (kf:ab→Option ab):Option ab:=Tj N x.1 (fun r0=>kf ⟨[⟨.bool,.k,r0⟩],[]⟩)
noncomputable def Af (N:Nat):=aF MM (aht N)
noncomputable def Yp (N:Nat):List Entry:=[⟨175,[.val],(jw N)⟩,⟨178,[.val],(zS N)⟩,⟨158,[.val],(G8 N)⟩,⟨195,[.val,.val,.val],(kW N)⟩,⟨196,[.val],(Q7 N)⟩,⟨197,[.val,.val],(Q9 N)⟩,⟨198,[.val,.val,.val,.val],(Rb N)⟩,⟨199,[.val],(Ac N)⟩]
noncomputable def Cu:Code:=bw Tryz.f122
noncomputable def Vh (N n:Nat) (key:Nat) (S:St) (K:Ks):Option ab:=bif Nat.beq key 7 then aQ xy S (fun x=>oA N x.1 x.2.1 n (K (.x 0) (shape Ad ())) (fun z0=>K .r (shape Ae (z0,()))) x.2.2.1) else none
theorem aob (N key:Nat) (S:St) (K:Ks):Vh N 0 key S K=none:=(cH (aJ fun _=>rfl) rfl)
noncomputable def Re:Code:=(ak Cu).getD 0 .skip
theorem aoc:ak Cu=[Re]:=by kernel_rfl
theorem abt (N:Nat):hZ Vg (Yp N) (Vh N) N 7 xy Re:=fun _ _ _=>by kernel_rfl
theorem aod (N:Nat):cX MM (aht N) Vg (Yp N) (Vh N N) Tryz.f122:=fun _ _=>by kernel_rfl
theorem MN {Γ:Gl} (N:Nat):Sound Γ Tryz.prog 122 (Af N):=kh Vg Tryz.f122 Cu (aob N) aoc (aod N) (rc (abt N) trivial) ⟨m6 N,⟨Mv N,⟨Yk N,⟨oT N,⟨anY N,⟨an2 N,⟨an9 N,⟨ML N,trivial⟩⟩⟩⟩⟩⟩⟩⟩
noncomputable def Vi:List AK:=[.v bU .k,.v bU (.p (.o 46 none (.p .k (.p .k (.p .k (.p .k (.p .k (.o 3 none .k))))))) (.p (.o 80 none (.p .k (.p .k (.o 3 none .k)))) (.p (.o 104 none .k) (.p (.o 3 none .k) (.p (.o 136 none .k) (.p (.o 102 none .k) .k)))))),.v .bool .k,.v (.int .i64) .k,.v (.int .i64) .k]
noncomputable def aqr (N:Nat) (x:aL Vi) (kf:ab→Option ab):Option ab:=ZI N x.1 x.2.1 x.2.2.1 x.2.2.2.1 x.2.2.2.2.1 (fun r0 r1=>kf ⟨[⟨bU,(.p (.o 46 none (.p .k (.p .k (.p .k (.p .k (.p .k (.o 3 none .k))))))) (.p (.o 80 none (.p .k (.p .k (.o 3 none .k)))) (.p (.o 104 none .k) (.p (.o 3 none .k) (.p (.o 136 none .k) (.p (.o 102 none .k) .k)))))),r0⟩,⟨.bool,.k,r1⟩],[]⟩)
noncomputable def uW (N:Nat):=aF Vi (aqr N)
noncomputable def at9 (N:Nat):List Entry:=[⟨180,[.val,.val,.val],(Q6 N)⟩,⟨122,[.val],(Af N)⟩,⟨90,[.val],(rW N)⟩]
theorem at' (N:Nat):cX Vi (aqr N) hq (at9 N) (gw N N) Tryz.f93:=fun _ _=>by kernel_rfl
theorem G' {Γ:Gl} (N:Nat):Sound Γ Tryz.prog 93 (uW N):=iQ hq Tryz.f93 (at' N) ⟨anU N,⟨MN N,⟨Ci N,trivial⟩⟩⟩
noncomputable def aqs:Hint:={ tab,hn:=[],loops:=[],outs:=[],b5:=[(7,(OT.seq [0,1,2,3,4,5,6,7,8,9,10,11,12,13,14,15,16,17,18,19,20,21] .done))] }
noncomputable def Vj:List AK:=[.v bU .k]
noncomputable def aqt (N:Nat) (x:aL Vj) (kf:ab→Option ab):Option ab:=S21 N x.1 (fun r0 r1=>kf ⟨[⟨bU,(.p (.o 46 none (.p .k (.p .k (.p .k (.p .k (.p .k (.o 3 none .k))))))) (.p (.o 80 none (.p .k (.p .k (.o 3 none .k)))) (.p (.o 104 none .k) (.p (.o 3 none .k) (.p (.o 136 none .k) (.p (.o 102 none .k) .k)))))),r0⟩,⟨.bool,.k,r1⟩],[]⟩)
noncomputable def Yq (N:Nat):=aF Vj (aqt N)
noncomputable def aua (N:Nat):List Entry:=[⟨90,[.val],(rW N)⟩,⟨91,[.val],(Yd N)⟩,⟨92,[.val,.val,.val],(Yg N)⟩,⟨94,[.val],(Et N)⟩,⟨93,[.val,.take,.val,.val,.val],(uW N)⟩]
theorem aub (N:Nat):cX Vj (aqt N) aqs (aua N) (gw N N) Tryz.f21:=fun _ _=>by kernel_rfl
theorem auc {Γ:Gl} (N:Nat):Sound Γ Tryz.prog 21 (Yq N):=iQ aqs Tryz.f21 (aub N) ⟨Ci N,⟨at4 N,⟨at7 N,⟨U4 N,⟨G' N,trivial⟩⟩⟩⟩⟩
noncomputable def xz:List Kd:=dK::.v (.ptr bU) (.o 31 none .k)::dK::.v (.sl (.int .i64)) (.o 3 none .k)::.v (.ptr sD) (.o 136 none .k)::.v (.int .i64) .k::dn 21 ([])
noncomputable def Ag:List Kd:=dn 3 (.v (.sl (.int .i64)) (.o 3 none .k)::dn 23 ([]))
noncomputable def Vk:Hint:={ tab,hn:=[],loops:=[(4,xz)],outs:=[(4,2,Ag)],b5:=[(6,(OT.seq [0,1,2,3,4,5,6] .done))] }
noncomputable def MO:List AK:=[.v bU .k]
noncomputable def ahu (N:Nat) (x:aL MO) (kf:ab→Option ab):Option ab:=ZJ N x.1 (fun r0=>kf ⟨[⟨(.sl (.int .i64)),(.o 3 none .k),r0⟩],[]⟩)
noncomputable def Ah (N:Nat):=aF MO (ahu N)
noncomputable def Cv:Code:=bw Tryz.f123
noncomputable def Vl (N n:Nat) (key:Nat) (S:St) (K:Ks):Option ab:=bif Nat.beq key 4 then aQ xz S (fun x=>oD x.1 x.2.2.1 n (fun z0=>K (.x 0) (shape Ag (z0,()))) x.2.1 x.2.2.2.1) else none
theorem aoe (N key:Nat) (S:St) (K:Ks):Vl N 0 key S K=none:=(cH (aJ fun _=>rfl) rfl)
noncomputable def Rf:Code:=(ak Cv).getD 0 .skip
theorem aof:ak Cv=[Rf]:=by kernel_rfl
theorem abu (N:Nat):hZ Vk [] (Vl N) N 4 xz Rf:=fun _ _ _=>by kernel_rfl
theorem aog (N:Nat):cX MO (ahu N) Vk [] (Vl N N) Tryz.f123:=fun _ _=>by kernel_rfl
theorem MP {Γ:Gl} (N:Nat):Sound Γ Tryz.prog 123 (Ah N):=kh Vk Tryz.f123 Cv (aoe N) aof (aog N) (rc (abu N) trivial) trivial
noncomputable def xA:List Kd:=.v (.sl sD) .k::dK::dK::.v (.int .i64) .k::dn 33 ([])
noncomputable def Ai:List Kd:=.v (.sl sD) .k::dn 36 ([])
noncomputable def Aj:List Kd:=dK::dK::.v .bool .k::dn 34 ([])
noncomputable def Vm:Hint:={ tab,hn:=[],loops:=[(2,xA)],outs:=[(2,2,Ai),(2,1,Aj)],b5:=[(4,(OT.seq [0,1,2,3,4,5,6,7,8,9,10,11,12,13,14,15,16,17,18,19,20,21,22,23] .done))] }
noncomputable def MQ:List AK:=[.v (.sl sD) .k]
noncomputable def ahv (N:Nat) (x:aL MQ) (kf:ab→Option ab):Option ab:=Tk N x.1 (fun r0=>kf ⟨[⟨.bool,.k,r0⟩],[]⟩)
noncomputable def Ak (N:Nat):=aF MQ (ahv N)
noncomputable def Yr (N:Nat):List Entry:=[⟨199,[.val],(Ac N)⟩]
noncomputable def Cw:Code:=bw Tryz.f201
noncomputable def Vn (N n:Nat) (key:Nat) (S:St) (K:Ks):Option ab:=bif Nat.beq key 2 then aQ xA S (fun x=>oH N x.1 n (K (.x 0) (shape Ai (x.1,()))) (fun z0=>K .r (shape Aj (z0,()))) x.2.1) else none
theorem aoh (N key:Nat) (S:St) (K:Ks):Vn N 0 key S K=none:=(cH (aJ fun _=>rfl) rfl)
noncomputable def Rg:Code:=(ak Cw).getD 0 .skip
theorem aoi:ak Cw=[Rg]:=by kernel_rfl
theorem abv (N:Nat):hZ Vm (Yr N) (Vn N) N 2 xA Rg:=fun _ _ _=>by kernel_rfl
theorem aoj (N:Nat):cX MQ (ahv N) Vm (Yr N) (Vn N N) Tryz.f201:=fun _ _=>by kernel_rfl
theorem MR {Γ:Gl} (N:Nat):Sound Γ Tryz.prog 201 (Ak N):=kh Vm Tryz.f201 Cw (aoh N) aoi (aoj N) (rc (abv N) trivial) ⟨ML N,trivial⟩
noncomputable def MS:List AK:=[.v sD .k]
noncomputable def ahw (N:Nat) (x:aL MS) (kf:ab→Option ab):Option ab:=ZK N x.1 (fun r0=>kf ⟨[⟨(.int .i64),.k,r0⟩],[]⟩)
noncomputable def Ha (N:Nat):=aF MS (ahw N)
theorem aok (N:Nat):cX MS (ahw N) hq [] (gw N N) Tryz.f204:=fun _ _=>by kernel_rfl
theorem Ys {Γ:Gl} (N:Nat):Sound Γ Tryz.prog 204 (Ha N):=iQ hq Tryz.f204 (aok N) trivial
noncomputable def xB:List Kd:=.v (.sl sD) .k::.v (.int .i64) .k::dn 3 (.v (.int .i64) .k::.v (.int .i64) .k::dn 20 ([]))
noncomputable def Al:List Kd:=dn 5 (.v (.int .i64) .k::dn 21 ([]))
noncomputable def Vo:Hint:={ tab,hn:=[],loops:=[(3,xB)],outs:=[(3,2,Al)],b5:=[] }
noncomputable def MT:List AK:=[.v (.sl sD) .k,.v (.int .i64) .k]
noncomputable def ahx (N:Nat) (x:aL MT) (kf:ab→Option ab):Option ab:=ad0 N x.1 x.2.1 (fun r0=>kf ⟨[⟨(.int .i64),.k,r0⟩],[]⟩)
noncomputable def Rh (N:Nat):=aF MT (ahx N)
noncomputable def Yt (N:Nat):List Entry:=[⟨201,[.val],(Ak N)⟩,⟨204,[.val],(Ha N)⟩]
noncomputable def Cx:Code:=bw Tryz.f202
noncomputable def Vp (N n:Nat) (key:Nat) (S:St) (K:Ks):Option ab:=bif Nat.beq key 3 then aQ xB S (fun x=>oI N x.1 x.2.1 n (fun z0=>K (.x 0) (shape Al (z0,()))) x.2.2.1 x.2.2.2.1) else none
theorem aol (N key:Nat) (S:St) (K:Ks):Vp N 0 key S K=none:=(cH (aJ fun _=>rfl) rfl)
noncomputable def Ri:Code:=(ak Cx).getD 0 .skip
theorem aom:ak Cx=[Ri]:=by kernel_rfl
theorem abw (N:Nat):hZ Vo (Yt N) (Vp N) N 3 xB Ri:=fun _ _ _=>by kernel_rfl
theorem aon (N:Nat):cX MT (ahx N) Vo (Yt N) (Vp N N) Tryz.f202:=fun _ _=>by kernel_rfl
theorem aoo {Γ:Gl} (N:Nat):Sound Γ Tryz.prog 202 (Rh N):=kh Vo Tryz.f202 Cx (aol N) aom (aon N) (rc (abw N) trivial) ⟨MR N,⟨Ys N,trivial⟩⟩
noncomputable def xC:List Kd:=.v (.sl sD) .k::.v (.int .i64) .k::dn 3 (.v (.int .i64) .k::.v (.int .i64) .k::dn 30 ([]))
noncomputable def Am:List Kd:=dn 5 (.v (.int .i64) .k::dn 31 ([]))
noncomputable def Vq:Hint:={ tab,hn:=[],loops:=[(3,xC)],outs:=[(3,2,Am)],b5:=[] }
noncomputable def MU:List AK:=[.v (.sl sD) .k,.v (.int .i64) .k]
noncomputable def ahy (N:Nat) (x:aL MU) (kf:ab→Option ab):Option ab:=arK N x.1 x.2.1 (fun r0=>kf ⟨[⟨(.int .i64),.k,r0⟩],[]⟩)
noncomputable def Rj (N:Nat):=aF MU (ahy N)
noncomputable def Yu (N:Nat):List Entry:=[⟨201,[.val],(Ak N)⟩]
noncomputable def Cy:Code:=bw Tryz.f203
noncomputable def Vr (N n:Nat) (key:Nat) (S:St) (K:Ks):Option ab:=bif Nat.beq key 3 then aQ xC S (fun x=>yw N x.1 x.2.1 n (fun z0=>K (.x 0) (shape Am (z0,()))) x.2.2.1 x.2.2.2.1) else none
theorem aop (N key:Nat) (S:St) (K:Ks):Vr N 0 key S K=none:=(cH (aJ fun _=>rfl) rfl)
noncomputable def Rk:Code:=(ak Cy).getD 0 .skip
theorem aoq:ak Cy=[Rk]:=by kernel_rfl
theorem abx (N:Nat):hZ Vq (Yu N) (Vr N) N 3 xC Rk:=fun _ _ _=>by kernel_rfl
theorem aor (N:Nat):cX MU (ahy N) Vq (Yu N) (Vr N N) Tryz.f203:=fun _ _=>by kernel_rfl
theorem aos {Γ:Gl} (N:Nat):Sound Γ Tryz.prog 203 (Rj N):=kh Vq Tryz.f203 Cy (aop N) aoq (aor N) (rc (abx N) trivial) ⟨MR N,trivial⟩
noncomputable def MV:List AK:=[.v (.sl sD) .k]
noncomputable def ahz (N:Nat) (x:aL MV) (kf:ab→Option ab):Option ab:=ZL N x.1 (fun r0=>kf ⟨[⟨(.int .i64),.k,r0⟩],[]⟩)
noncomputable def Rl (N:Nat):=aF MV (ahz N)
noncomputable def aot (N:Nat):List Entry:=[⟨201,[.val],(Ak N)⟩,⟨202,[.val,.val],(Rh N)⟩,⟨203,[.val,.val],(Rj N)⟩,⟨204,[.val],(Ha N)⟩]
theorem aou (N:Nat):cX MV (ahz N) hq (aot N) (gw N N) Tryz.f125:=fun _ _=>by kernel_rfl
theorem aov {Γ:Gl} (N:Nat):Sound Γ Tryz.prog 125 (Rl N):=iQ hq Tryz.f125 (aou N) ⟨MR N,⟨aoo N,⟨aos N,⟨Ys N,trivial⟩⟩⟩⟩
noncomputable def MW:List AK:=[.v (.sl dC) .k,.v (.int .i64) .k,.v (.int .i64) .k,.v (.int .i64) .k,.v (.int .i64) .k,.v (.int .i64) .k]
noncomputable def ahA (N:Nat) (x:aL MW) (kf:ab→Option ab):Option ab:=ZM N x.1 x.2.1 x.2.2.1 x.2.2.2.1 x.2.2.2.2.1 x.2.2.2.2.2.1 (fun r0 r1=>kf ⟨[⟨(.sl dC),(.o 46 none (.p .k (.p .k (.p .k (.p .k (.p .k (.o 3 none .k))))))),r0⟩,⟨.bool,.k,r1⟩],[]⟩)
noncomputable def Rm (N:Nat):=aF MW (ahA N)
noncomputable def aow (N:Nat):List Entry:=[⟨173,[.val],(zx N)⟩,⟨200,[.val,.val],(nS N)⟩,⟨175,[.val],(jw N)⟩,⟨195,[.val,.val,.val],(kW N)⟩]
theorem aox (N:Nat):cX MW (ahA N) hq (aow N) (gw N N) Tryz.f124:=fun _ _=>by kernel_rfl
theorem aoy {Γ:Gl} (N:Nat):Sound Γ Tryz.prog 124 (Rm N):=iQ hq Tryz.f124 (aox N) ⟨L9 N,⟨uT N,⟨m6 N,⟨oT N,trivial⟩⟩⟩⟩
noncomputable def xD:List Kd:=.v (.sl (.int .i64)) .k::.v (.int .i64) .k::dn 3 (.v (.int .i64) .k::dn 41 ([]))
noncomputable def An:List Kd:=.v (.sl (.int .i64)) .k::.v (.int .i64) .k::dn 3 (.v (.int .i64) .k::dn 41 ([]))
noncomputable def Vs:Hint:={ tab,hn:=[],loops:=[(2,xD)],outs:=[(2,2,An)],b5:=[(6,(OT.seq [1,2,3,5,8,9,10] (.any [0,4,6] (OT.seq [7,11,12] .done))))] }
noncomputable def MX:List AK:=[.v (.sl (.int .i64)) .k,.v (.int .i64) .k]
noncomputable def ahB (N:Nat) (x:aL MX) (kf:ab→Option ab):Option ab:=wE N x.1 x.2.1 (fun r0=>kf ⟨[⟨(.sl (.int .i64)),(.o 3 none .k),r0⟩],[]⟩)
noncomputable def Rn (N:Nat):=aF MX (ahB N)
noncomputable def Cz:Code:=bw Tryz.f127
noncomputable def Vt (N n:Nat) (key:Nat) (S:St) (K:Ks):Option ab:=bif Nat.beq key 2 then aQ xD S (fun x=>rC x.1 x.2.1 n (fun z0=>K (.x 0) (shape An (x.1,x.2.1,z0,()))) x.2.2.1) else none
theorem aoz (N key:Nat) (S:St) (K:Ks):Vt N 0 key S K=none:=(cH (aJ fun _=>rfl) rfl)
noncomputable def Ro:Code:=(ak Cz).getD 0 .skip
theorem aoA:ak Cz=[Ro]:=by kernel_rfl
theorem aby (N:Nat):hZ Vs [] (Vt N) N 2 xD Ro:=fun _ _ _=>by kernel_rfl
theorem aoB (N:Nat):cX MX (ahB N) Vs [] (Vt N N) Tryz.f127:=fun _ _=>by kernel_rfl
theorem aoC {Γ:Gl} (N:Nat):Sound Γ Tryz.prog 127 (Rn N):=kh Vs Tryz.f127 Cz (aoz N) aoA (aoB N) (rc (aby N) trivial) trivial
end Go.Pv.R
