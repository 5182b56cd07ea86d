/- Each function of the program that the law reaches computes its plain function, part 3. -/
import Derived.Test.YtcpakhaogbempaaGreatSnd2
import Derived.Test.YtcpakhaogbempaaGreatProg
namespace Go.Pv.R
open Go.Proofs
set_option linter.unusedVariables false
set_option maxRecDepth 100000
noncomputable def CA:List Kd:=dK::.v (.ptr bU) (.o 31 none .k)::.v (.ptr bU) (.o 31 none (.p (.o 46 none (.p .k (.p .k (.p .k (.p .k (.p .k (.o 3 none .k))))))) (.p (.o 80 none (.p .k (.p .k (.o 3 none .k)))) (.p (.o 104 none .k) (.p (.o 3 none .k) (.p (.o 136 none .k) (.p (.o 102 none .k) .k)))))))::dK::.v (.ptr bU) (.o 31 none (.p (.o 46 none (.p .k (.p .k (.p .k (.p .k (.p .k (.o 3 none .k))))))) (.p (.o 80 none (.p .k (.p .k (.o 3 none .k)))) (.p (.o 104 none .k) (.p (.o 3 none .k) (.p (.o 136 none .k) (.p (.o 102 none .k) .k)))))))::.v .bool .k::.v (.int .i64) .k::dn 113 ([])
noncomputable def DD:List Kd:=dK::.v (.ptr bU) (.o 31 none .k)::.v (.ptr bU) (.o 31 none (.p (.o 46 none (.p .k (.p .k (.p .k (.p .k (.p .k (.o 3 none .k))))))) (.p (.o 80 none (.p .k (.p .k (.o 3 none .k)))) (.p (.o 104 none .k) (.p (.o 3 none .k) (.p (.o 136 none .k) (.p (.o 102 none .k) .k)))))))::dK::.v (.ptr bU) (.o 31 none (.p (.o 46 none (.p .k (.p .k (.p .k (.p .k (.p .k (.o 3 none .k))))))) (.p (.o 80 none (.p .k (.p .k (.o 3 none .k)))) (.p (.o 104 none .k) (.p (.o 3 none .k) (.p (.o 136 none .k) (.p (.o 102 none .k) .k)))))))::.v .bool .k::dn 114 ([])
noncomputable def ahC:Hint:={ tab,hn:=[],loops:=[(6,CA)],outs:=[(6,2,DD)],b5:=[(9,(OT.seq [0,1,2,3,4,5,6,7,8,9,10,11,12,13,14,17,18,19,20,15,16,21,22,23,24,25,26] .done)),(12,(OT.seq [0,1,2,3,4,5,6,7,8] .done)),(13,(OT.seq [0,1,2,3,4,5,6,7,8,9,10,11,12,13,14,16,17,18,19,20,21,15,22,23,24,25] .done))] }
noncomputable def Vu:List AK:=[.v bU .k]
noncomputable def aqu (N:Nat) (x:aL Vu) (kf:ab→Option ab):Option ab:=S27 N x.1 (fun r0 r1=>kf ⟨[⟨bU,(.p (.o 46 none (.p .k (.p .k (.p .k (.p .k (.p .k (.o 3 none .k))))))) (.p (.o 80 none (.p .k (.p .k (.o 3 none .k)))) (.p (.o 104 none .k) (.p (.o 3 none .k) (.p (.o 136 none .k) (.p (.o 102 none .k) .k)))))),r0⟩,⟨.bool,.k,r1⟩],[]⟩)
noncomputable def Yv (N:Nat):=aF Vu (aqu N)
noncomputable def ahD (N:Nat):List Entry:=[⟨90,[.val],(rW N)⟩,⟨122,[.val],(Af N)⟩,⟨94,[.val],(Et N)⟩,⟨123,[.val],(Ah N)⟩,⟨125,[.val],(Rl N)⟩,⟨124,[.val,.val,.val,.val,.val,.val],(Rm N)⟩,⟨126,[.val,.val],(G9 N)⟩,⟨127,[.val,.val],(Rn N)⟩,⟨93,[.val,.take,.val,.val,.val],(uW N)⟩]
noncomputable def Hb:Code:=bw Tryz.f27
noncomputable def ahE (N n:Nat) (key:Nat) (S:St) (K:Ks):Option ab:=bif Nat.beq key 6 then aQ CA S (fun x=>tG N x.1 x.2.1 n (fun z0 z1=>K (.x 0) (shape DD (x.1,x.2.1,z0,z1,()))) x.2.2.1 x.2.2.2.1 x.2.2.2.2.1) else none
theorem aud (N key:Nat) (S:St) (K:Ks):ahE N 0 key S K=none:=(cH (aJ fun _=>rfl) rfl)
noncomputable def Yw:Code:=(ak Hb).getD 0 .skip
theorem aue:ak Hb=[Yw]:=by kernel_rfl
theorem ahF (N:Nat):hZ ahC (ahD N) (ahE N) N 6 CA Yw:=fun _ _ _=>by kernel_rfl
theorem auf (N:Nat):cX Vu (aqu N) ahC (ahD N) (ahE N N) Tryz.f27:=fun _ _=>by kernel_rfl
theorem aug {Γ:Gl} (N:Nat):Sound Γ Tryz.prog 27 (Yv N):=kh ahC Tryz.f27 Hb (aud N) aue (auf N) (rc (ahF N) trivial) ⟨Ci N,⟨MN N,⟨U4 N,⟨MP N,⟨aov N,⟨aoy N,⟨Yn N,⟨aoC N,⟨G' N,trivial⟩⟩⟩⟩⟩⟩⟩⟩⟩
noncomputable def xE:List Kd:=dK::.v (.int .i64) .k::.v (.int .i64) .k::.v (.ptr bU) (.o 31 none .k)::dK::dK::.v (.ptr bU) (.o 31 none (.p (.o 46 none (.p .k (.p .k (.p .k (.p .k (.p .k (.o 3 none .k))))))) (.p (.o 80 none (.p .k (.p .k (.o 3 none .k)))) (.p (.o 104 none .k) (.p (.o 3 none .k) (.p (.o 136 none .k) (.p (.o 102 none .k) .k)))))))::dK::.v (.ptr bU) (.o 31 none (.p (.o 46 none (.p .k (.p .k (.p .k (.p .k (.p .k (.o 3 none .k))))))) (.p (.o 80 none (.p .k (.p .k (.o 3 none .k)))) (.p (.o 104 none .k) (.p (.o 3 none .k) (.p (.o 136 none .k) (.p (.o 102 none .k) .k)))))))::.v (.int .i64) .k::dn 45 ([])
noncomputable def Ao:List Kd:=dK::.v (.int .i64) .k::.v (.int .i64) .k::.v (.ptr bU) (.o 31 none .k)::dK::dK::.v (.ptr bU) (.o 31 none (.p (.o 46 none (.p .k (.p .k (.p .k (.p .k (.p .k (.o 3 none .k))))))) (.p (.o 80 none (.p .k (.p .k (.o 3 none .k)))) (.p (.o 104 none .k) (.p (.o 3 none .k) (.p (.o 136 none .k) (.p (.o 102 none .k) .k)))))))::dK::.v (.ptr bU) (.o 31 none (.p (.o 46 none (.p .k (.p .k (.p .k (.p .k (.p .k (.o 3 none .k))))))) (.p (.o 80 none (.p .k (.p .k (.o 3 none .k)))) (.p (.o 104 none .k) (.p (.o 3 none .k) (.p (.o 136 none .k) (.p (.o 102 none .k) .k)))))))::.v (.int .i64) .k::dn 45 ([])
noncomputable def Vv:Hint:={ tab,hn:=[],loops:=[(3,xE)],outs:=[(3,2,Ao)],b5:=[(5,(OT.seq [0,1,2,3,5,6,7,10,12] (.any [4,8,9,11,13] (OT.seq [14,15,16,17] .done)))),(6,(OT.seq [0,1,2,5,3,4,6,7,8,9,10] .done))] }
noncomputable def MY:List AK:=[.v bU .k,.v (.int .i64) .k,.v (.int .i64) .k]
noncomputable def ahG (N:Nat) (x:aL MY) (kf:ab→Option ab):Option ab:=Tl N x.1 x.2.1 x.2.2.1 (fun r0 r1=>kf ⟨[⟨bU,(.p (.o 46 none (.p .k (.p .k (.p .k (.p .k (.p .k (.o 3 none .k))))))) (.p (.o 80 none (.p .k (.p .k (.o 3 none .k)))) (.p (.o 104 none .k) (.p (.o 3 none .k) (.p (.o 136 none .k) (.p (.o 102 none .k) .k)))))),r0⟩,⟨.bool,.k,r1⟩],[]⟩)
noncomputable def Hc (N:Nat):=aF MY (ahG N)
noncomputable def Yx (N:Nat):List Entry:=[⟨90,[.val],(rW N)⟩,⟨173,[.val],(zx N)⟩,⟨94,[.val],(Et N)⟩,⟨93,[.val,.take,.val,.val,.val],(uW N)⟩]
noncomputable def CB:Code:=bw Tryz.f141
noncomputable def Vw (N n:Nat) (key:Nat) (S:St) (K:Ks):Option ab:=bif Nat.beq key 3 then aQ xE S (fun x=>oJ x.1 x.2.1 x.2.2.1 x.2.2.2.1 x.2.2.2.2.1 n (fun z0=>K (.x 0) (shape Ao (x.1,x.2.1,x.2.2.1,x.2.2.2.1,x.2.2.2.2.1,z0,()))) x.2.2.2.2.2.1) else none
theorem aoD (N key:Nat) (S:St) (K:Ks):Vw N 0 key S K=none:=(cH (aJ fun _=>rfl) rfl)
noncomputable def Rp:Code:=(ak CB).getD 0 .skip
theorem aoE:ak CB=[Rp]:=by kernel_rfl
theorem abz (N:Nat):hZ Vv (Yx N) (Vw N) N 3 xE Rp:=fun _ _ _=>by kernel_rfl
theorem aoF (N:Nat):cX MY (ahG N) Vv (Yx N) (Vw N N) Tryz.f141:=fun _ _=>by kernel_rfl
theorem Yy {Γ:Gl} (N:Nat):Sound Γ Tryz.prog 141 (Hc N):=kh Vv Tryz.f141 CB (aoD N) aoE (aoF N) (rc (abz N) trivial) ⟨Ci N,⟨L9 N,⟨U4 N,⟨G' N,trivial⟩⟩⟩⟩
noncomputable def xF:List Kd:=dK::.v (.int .i64) .k::.v (.int .i64) .k::.v (.ptr bU) (.o 31 none .k)::dK::dK::.v (.ptr bU) (.o 31 none (.p (.o 46 none (.p .k (.p .k (.p .k (.p .k (.p .k (.o 3 none .k))))))) (.p (.o 80 none (.p .k (.p .k (.o 3 none .k)))) (.p (.o 104 none .k) (.p (.o 3 none .k) (.p (.o 136 none .k) (.p (.o 102 none .k) .k)))))))::dK::.v (.ptr bU) (.o 31 none (.p (.o 46 none (.p .k (.p .k (.p .k (.p .k (.p .k (.o 3 none .k))))))) (.p (.o 80 none (.p .k (.p .k (.o 3 none .k)))) (.p (.o 104 none .k) (.p (.o 3 none .k) (.p (.o 136 none .k) (.p (.o 102 none .k) .k)))))))::.v (.int .i64) .k::dn 42 ([])
noncomputable def Ap:List Kd:=dK::.v (.int .i64) .k::.v (.int .i64) .k::.v (.ptr bU) (.o 31 none .k)::dK::dK::.v (.ptr bU) (.o 31 none (.p (.o 46 none (.p .k (.p .k (.p .k (.p .k (.p .k (.o 3 none .k))))))) (.p (.o 80 none (.p .k (.p .k (.o 3 none .k)))) (.p (.o 104 none .k) (.p (.o 3 none .k) (.p (.o 136 none .k) (.p (.o 102 none .k) .k)))))))::dK::.v (.ptr bU) (.o 31 none (.p (.o 46 none (.p .k (.p .k (.p .k (.p .k (.p .k (.o 3 none .k))))))) (.p (.o 80 none (.p .k (.p .k (.o 3 none .k)))) (.p (.o 104 none .k) (.p (.o 3 none .k) (.p (.o 136 none .k) (.p (.o 102 none .k) .k)))))))::.v (.int .i64) .k::dn 42 ([])
noncomputable def Vx:Hint:={ tab,hn:=[],loops:=[(3,xF)],outs:=[(3,2,Ap)],b5:=[(5,(OT.seq [0,1,2,3,5,6,7,10,12] (.any [4,8,9,11,13] (OT.seq [14,15,16,17] .done))))] }
noncomputable def MZ:List AK:=[.v bU .k,.v (.int .i64) .k,.v (.int .i64) .k]
noncomputable def ahH (N:Nat) (x:aL MZ) (kf:ab→Option ab):Option ab:=ZN N x.1 x.2.1 x.2.2.1 (fun r0 r1=>kf ⟨[⟨bU,(.p (.o 46 none (.p .k (.p .k (.p .k (.p .k (.p .k (.o 3 none .k))))))) (.p (.o 80 none (.p .k (.p .k (.o 3 none .k)))) (.p (.o 104 none .k) (.p (.o 3 none .k) (.p (.o 136 none .k) (.p (.o 102 none .k) .k)))))),r0⟩,⟨.bool,.k,r1⟩],[]⟩)
noncomputable def Rq (N:Nat):=aF MZ (ahH N)
noncomputable def Yz (N:Nat):List Entry:=[⟨90,[.val],(rW N)⟩,⟨174,[.val],(G1 N)⟩,⟨93,[.val,.take,.val,.val,.val],(uW N)⟩]
noncomputable def CC:Code:=bw Tryz.f160
noncomputable def Vy (N n:Nat) (key:Nat) (S:St) (K:Ks):Option ab:=bif Nat.beq key 3 then aQ xF S (fun x=>oK x.1 x.2.1 x.2.2.1 x.2.2.2.1 x.2.2.2.2.1 n (fun z0=>K (.x 0) (shape Ap (x.1,x.2.1,x.2.2.1,x.2.2.2.1,x.2.2.2.2.1,z0,()))) x.2.2.2.2.2.1) else none
theorem aoG (N key:Nat) (S:St) (K:Ks):Vy N 0 key S K=none:=(cH (aJ fun _=>rfl) rfl)
noncomputable def Rr:Code:=(ak CC).getD 0 .skip
theorem aoH:ak CC=[Rr]:=by kernel_rfl
theorem abA (N:Nat):hZ Vx (Yz N) (Vy N) N 3 xF Rr:=fun _ _ _=>by kernel_rfl
theorem aoI (N:Nat):cX MZ (ahH N) Vx (Yz N) (Vy N N) Tryz.f160:=fun _ _=>by kernel_rfl
theorem aoJ {Γ:Gl} (N:Nat):Sound Γ Tryz.prog 160 (Rq N):=kh Vx Tryz.f160 CC (aoG N) aoH (aoI N) (rc (abA N) trivial) ⟨Ci N,⟨X9 N,⟨G' N,trivial⟩⟩⟩
noncomputable def ahI:Hint:={ tab,hn:=[],loops:=[],outs:=[],b5:=[(3,(OT.seq [0,1,2,3,4,5,6,7,8,9,10,11,12,13,14,15,16,17,18,19,20] .done)),(5,(OT.seq [0,1,2,3,4,5,6,7,8,9,10,11,12] .done)),(6,(OT.seq [0,1,2,3,4,5,6,8,9,10,11,12,7,13,14,15,16,17] .done))] }
noncomputable def M0:List AK:=[.v bU .k,.v (.int .i64) .k,.v (.int .i64) .k,.v (.int .i64) .k]
noncomputable def ahJ (N:Nat) (x:aL M0) (kf:ab→Option ab):Option ab:=Tm N x.1 x.2.1 x.2.2.1 x.2.2.2.1 (fun r0 r1=>kf ⟨[⟨bU,(.p (.o 46 none (.p .k (.p .k (.p .k (.p .k (.p .k (.o 3 none .k))))))) (.p (.o 80 none (.p .k (.p .k (.o 3 none .k)))) (.p (.o 104 none .k) (.p (.o 3 none .k) (.p (.o 136 none .k) (.p (.o 102 none .k) .k)))))),r0⟩,⟨.bool,.k,r1⟩],[]⟩)
noncomputable def Hd (N:Nat):=aF M0 (ahJ N)
noncomputable def aoK (N:Nat):List Entry:=[⟨90,[.val],(rW N)⟩,⟨122,[.val],(Af N)⟩,⟨195,[.val,.val,.val],(kW N)⟩,⟨199,[.val],(Ac N)⟩,⟨93,[.val,.take,.val,.val,.val],(uW N)⟩]
theorem aoL (N:Nat):cX M0 (ahJ N) ahI (aoK N) (gw N N) Tryz.f139:=fun _ _=>by kernel_rfl
theorem YA {Γ:Gl} (N:Nat):Sound Γ Tryz.prog 139 (Hd N):=iQ ahI Tryz.f139 (aoL N) ⟨Ci N,⟨MN N,⟨oT N,⟨ML N,⟨G' N,trivial⟩⟩⟩⟩⟩
noncomputable def xG:List Kd:=.v (.ptr eL) (.o 163 (some 0) .k)::dK::.v (.ptr bU) (.o 31 none (.p (.o 46 none (.p .k (.p .k (.p .k (.p .k (.p .k (.o 3 none .k))))))) (.p (.o 80 none (.p .k (.p .k (.o 3 none .k)))) (.p (.o 104 none .k) (.p (.o 3 none .k) (.p (.o 136 none .k) (.p (.o 102 none .k) .k)))))))::.v (.ptr bU) (.o 31 none (.p (.o 46 none (.p .k (.p .k (.p .k (.p .k (.p .k (.o 3 none .k))))))) (.p (.o 80 none (.p .k (.p .k (.o 3 none .k)))) (.p (.o 104 none .k) (.p (.o 3 none .k) (.p (.o 136 none .k) (.p (.o 102 none .k) .k)))))))::.v (.int .i64) .k::dn 90 ([])
noncomputable def Aq:List Kd:=.v (.ptr eL) (.o 163 (some 0) .k)::dK::.v (.ptr bU) (.o 31 none (.p (.o 46 none (.p .k (.p .k (.p .k (.p .k (.p .k (.o 3 none .k))))))) (.p (.o 80 none (.p .k (.p .k (.o 3 none .k)))) (.p (.o 104 none .k) (.p (.o 3 none .k) (.p (.o 136 none .k) (.p (.o 102 none .k) .k)))))))::.v (.ptr bU) (.o 31 none (.p (.o 46 none (.p .k (.p .k (.p .k (.p .k (.p .k (.o 3 none .k))))))) (.p (.o 80 none (.p .k (.p .k (.o 3 none .k)))) (.p (.o 104 none .k) (.p (.o 3 none .k) (.p (.o 136 none .k) (.p (.o 102 none .k) .k)))))))::dn 91 ([])
noncomputable def xH:List Kd:=.v (.ptr eL) (.o 163 (some 0) .k)::dK::.v (.ptr bU) (.o 31 none (.p (.o 46 none (.p .k (.p .k (.p .k (.p .k (.p .k (.o 3 none .k))))))) (.p (.o 80 none (.p .k (.p .k (.o 3 none .k)))) (.p (.o 104 none .k) (.p (.o 3 none .k) (.p (.o 136 none .k) (.p (.o 102 none .k) .k)))))))::.v (.ptr bU) (.o 31 none (.p (.o 46 none (.p .k (.p .k (.p .k (.p .k (.p .k (.o 3 none .k))))))) (.p (.o 80 none (.p .k (.p .k (.o 3 none .k)))) (.p (.o 104 none .k) (.p (.o 3 none .k) (.p (.o 136 none .k) (.p (.o 102 none .k) .k)))))))::dK::.v (.int .i64) .k::dn 89 ([])
noncomputable def Ar:List Kd:=.v (.ptr eL) (.o 163 (some 0) .k)::dK::.v (.ptr bU) (.o 31 none (.p (.o 46 none (.p .k (.p .k (.p .k (.p .k (.p .k (.o 3 none .k))))))) (.p (.o 80 none (.p .k (.p .k (.o 3 none .k)))) (.p (.o 104 none .k) (.p (.o 3 none .k) (.p (.o 136 none .k) (.p (.o 102 none .k) .k)))))))::.v (.ptr bU) (.o 31 none (.p (.o 46 none (.p .k (.p .k (.p .k (.p .k (.p .k (.o 3 none .k))))))) (.p (.o 80 none (.p .k (.p .k (.o 3 none .k)))) (.p (.o 104 none .k) (.p (.o 3 none .k) (.p (.o 136 none .k) (.p (.o 102 none .k) .k)))))))::dn 91 ([])
noncomputable def uc:List Kd:=.v (.ptr eL) (.o 163 (some 0) .k)::dK::.v (.ptr bU) (.o 31 none (.p (.o 46 none (.p .k (.p .k (.p .k (.p .k (.p .k (.o 3 none .k))))))) (.p (.o 80 none (.p .k (.p .k (.o 3 none .k)))) (.p (.o 104 none .k) (.p (.o 3 none .k) (.p (.o 136 none .k) (.p (.o 102 none .k) .k)))))))::.v (.ptr bU) (.o 31 none (.p (.o 46 none (.p .k (.p .k (.p .k (.p .k (.p .k (.o 3 none .k))))))) (.p (.o 80 none (.p .k (.p .k (.o 3 none .k)))) (.p (.o 104 none .k) (.p (.o 3 none .k) (.p (.o 136 none .k) (.p (.o 102 none .k) .k)))))))::dK::dK::.v (.int .i64) .k::dn 88 ([])
noncomputable def vL:List Kd:=.v (.ptr eL) (.o 163 (some 0) .k)::dK::.v (.ptr bU) (.o 31 none (.p (.o 46 none (.p .k (.p .k (.p .k (.p .k (.p .k (.o 3 none .k))))))) (.p (.o 80 none (.p .k (.p .k (.o 3 none .k)))) (.p (.o 104 none .k) (.p (.o 3 none .k) (.p (.o 136 none .k) (.p (.o 102 none .k) .k)))))))::.v (.ptr bU) (.o 31 none (.p (.o 46 none (.p .k (.p .k (.p .k (.p .k (.p .k (.o 3 none .k))))))) (.p (.o 80 none (.p .k (.p .k (.o 3 none .k)))) (.p (.o 104 none .k) (.p (.o 3 none .k) (.p (.o 136 none .k) (.p (.o 102 none .k) .k)))))))::dn 91 ([])
noncomputable def He:Hint:={ tab,hn:=[(69,.k)],loops:=[(3,xG),(7,xH),(11,uc)],outs:=[(3,2,Aq),(7,4,Ar),(11,6,vL)],b5:=[(9,(OT.seq [3,1,2] (.par [0,4,5] [[3,36]] (OT.seq [6,7,8,9,10] .done)))),(17,(OT.seq [6,1,2,4,5] (.par [0,3,7,8,9] [[3,62],[7,54,55,63,64,65]] (OT.seq [10,11,12,13,14] .done))))],AR:=some (0,false) }
noncomputable def M1:List AK:=[.v (.ptr eL) (.o 163 (some 0) .k)]
noncomputable def ahK (N:Nat) (x:aL M1) (kf:ab→Option ab):Option ab:=J6 N x.1 (fun r0 z=>kf ⟨[⟨bU,(.p (.o 46 none (.p .k (.p .k (.p .k (.p .k (.p .k (.o 3 none .k))))))) (.p (.o 80 none (.p .k (.p .k (.o 3 none .k)))) (.p (.o 104 none .k) (.p (.o 3 none .k) (.p (.o 136 none .k) (.p (.o 102 none .k) .k)))))),r0⟩],[⟨(.ptr eL),(.o 163 (some 0) .k),z⟩]⟩)
noncomputable def nT (N:Nat):=aF M1 (ahK N)
noncomputable def Eu (N:Nat):List Entry:=[⟨68,[],(Xb N)⟩,⟨137,[.kj,.val],(qd N)⟩,⟨141,[.val,.val,.val],(Hc N)⟩,⟨160,[.val,.val,.val],(Rq N)⟩,⟨21,[.val],(Yq N)⟩,⟨27,[.val],(Yv N)⟩,⟨123,[.val],(Ah N)⟩,⟨134,[.kj,.val],(qe N)⟩,⟨139,[.val,.val,.val,.val],(Hd N)⟩]
noncomputable def qh:Code:=bw Tryz.f133
noncomputable def Hf (N n:Nat) (key:Nat) (S:St) (K:Ks):Option ab:=bif Nat.beq key 3 then aQ xG S (fun x=>rF N x.2.1 n (fun z0 z1=>K (.x 0) (shape Aq (z0,x.2.1,z1,()))) x.1 x.2.2.1 x.2.2.2.1) else bif Nat.beq key 7 then aQ xH S (fun x=>rG N x.2.1 n (fun z0 z1=>K (.x 2) (shape Ar (z0,x.2.1,z1,()))) x.1 x.2.2.1 x.2.2.2.1) else bif Nat.beq key 11 then aQ uc S (fun x=>gq N x.2.1 n (fun z0 z1=>K (.x 4) (shape vL (z0,x.2.1,z1,()))) x.1 x.2.2.1 x.2.2.2.1) else none
theorem aoM (N key:Nat) (S:St) (K:Ks):Hf N 0 key S K=none:=(cH (aJ fun _=>rfl) (cH (aJ fun _=>rfl) (cH (aJ fun _=>rfl) rfl)))
noncomputable def Rs:Code:=(ak qh).getD 0 .skip
noncomputable def Rt:Code:=(ak qh).getD 1 .skip
noncomputable def Ru:Code:=(ak qh).getD 2 .skip
theorem aoN:ak qh=[Rs,Rt,Ru]:=by kernel_rfl
theorem Vz (N:Nat):hZ He (Eu N) (Hf N) N 11 uc Ru:=fun _ _ _=>by kernel_rfl
theorem abB (N:Nat):hZ He (Eu N) (Hf N) N 7 xH Rt:=fun _ _ _=>by kernel_rfl
theorem abC (N:Nat):hZ He (Eu N) (Hf N) N 3 xG Rs:=fun _ _ _=>by kernel_rfl
theorem aoO (N:Nat):cX M1 (ahK N) He (Eu N) (Hf N N) Tryz.f133:=fun _ _=>by kernel_rfl
theorem uX {Γ:Gl} (N:Nat):Sound Γ Tryz.prog 133 (nT N):=kh He Tryz.f133 qh (aoM N) aoN (aoO N) (rc (abC N) (rc (abB N) (rc (Vz N) trivial))) ⟨asJ N,⟨yO N,⟨Yy N,⟨aoJ N,⟨auc N,⟨aug N,⟨MP N,⟨yP N,⟨YA N,trivial⟩⟩⟩⟩⟩⟩⟩⟩⟩
noncomputable def aqv:Hint:={ tab,hn:=[(18,.k),(13,.k)],loops:=[],outs:=[],b5:=[(4,(OT.seq [2,1] (.par [0,3,4] [[6,15]] (OT.seq [5,6,7] .done))))] }
noncomputable def M3:List AK:=[.v (.sl (.int .u8)) .k]
noncomputable def aqw (N:Nat) (x:aL M3) (kf:ab→Option ab):Option ab:=S29 N x.1 (fun r0 r1 r2=>kf ⟨[⟨bU,(.p (.o 46 none (.p .k (.p .k (.p .k (.p .k (.p .k (.o 3 none .k))))))) (.p (.o 80 none (.p .k (.p .k (.o 3 none .k)))) (.p (.o 104 none .k) (.p (.o 3 none .k) (.p (.o 136 none .k) (.p (.o 102 none .k) .k)))))),r0⟩,⟨(.int .i64),.k,r1⟩,⟨(.int .i64),.k,r2⟩],[]⟩)
noncomputable def YB (N:Nat):=aF M3 (aqw N)
noncomputable def auh (N:Nat):List Entry:=[⟨67,[.val],(rS N)⟩,⟨133,[.kj],(nT N)⟩,⟨134,[.kj,.val],(qe N)⟩]
theorem aui (N:Nat):cX M3 (aqw N) aqv (auh N) (gw N N) Tryz.f29:=fun _ _=>by kernel_rfl
theorem auj {Γ:Gl} (N:Nat):Sound Γ Tryz.prog 29 (YB N):=iQ aqv Tryz.f29 (aui N) ⟨BL N,⟨uX N,⟨yP N,trivial⟩⟩⟩
noncomputable def aqx:Hint:={ tab,hn:=[(18,.k),(13,.k)],loops:=[],outs:=[],b5:=[(4,(OT.seq [2,1] (.par [0,3,4] [[6,15]] (OT.seq [5,6,7] .done))))] }
noncomputable def M4:List AK:=[.v (.sl (.int .u8)) .k]
noncomputable def aqy (N:Nat) (x:aL M4) (kf:ab→Option ab):Option ab:=S31 N x.1 (fun r0 r1 r2=>kf ⟨[⟨bU,(.p (.o 46 none (.p .k (.p .k (.p .k (.p .k (.p .k (.o 3 none .k))))))) (.p (.o 80 none (.p .k (.p .k (.o 3 none .k)))) (.p (.o 104 none .k) (.p (.o 3 none .k) (.p (.o 136 none .k) (.p (.o 102 none .k) .k)))))),r0⟩,⟨(.int .i64),.k,r1⟩,⟨(.int .i64),.k,r2⟩],[]⟩)
noncomputable def YC (N:Nat):=aF M4 (aqy N)
noncomputable def auk (N:Nat):List Entry:=[⟨67,[.val],(rS N)⟩,⟨133,[.kj],(nT N)⟩,⟨134,[.kj,.val],(qe N)⟩]
theorem aul (N:Nat):cX M4 (aqy N) aqx (auk N) (gw N N) Tryz.f31:=fun _ _=>by kernel_rfl
theorem aum {Γ:Gl} (N:Nat):Sound Γ Tryz.prog 31 (YC N):=iQ aqx Tryz.f31 (aul N) ⟨BL N,⟨uX N,⟨yP N,trivial⟩⟩⟩
noncomputable def M5:List AK:=[.v (.sl (.int .u8)) .k]
noncomputable def aqz (N:Nat) (x:aL M5) (kf:ab→Option ab):Option ab:=S33 N x.1 (fun r0=>kf ⟨[⟨bU,(.p (.o 46 none (.p .k (.p .k (.p .k (.p .k (.p .k (.o 3 none .k))))))) (.p (.o 80 none (.p .k (.p .k (.o 3 none .k)))) (.p (.o 104 none .k) (.p (.o 3 none .k) (.p (.o 136 none .k) (.p (.o 102 none .k) .k)))))),r0⟩],[]⟩)
noncomputable def YD (N:Nat):=aF M5 (aqz N)
noncomputable def aun (N:Nat):List Entry:=[⟨67,[.val],(rS N)⟩,⟨133,[.kj],(nT N)⟩]
theorem auo (N:Nat):cX M5 (aqz N) hq (aun N) (gw N N) Tryz.f33:=fun _ _=>by kernel_rfl
theorem aup {Γ:Gl} (N:Nat):Sound Γ Tryz.prog 33 (YD N):=iQ hq Tryz.f33 (auo N) ⟨BL N,⟨uX N,trivial⟩⟩
noncomputable def aqA:Hint:={ tab,hn:=[(24,.k),(18,.k)],loops:=[],outs:=[],b5:=[(5,(OT.seq [3,1,2] (.par [0,4,5] [[7,20]] (OT.seq [6,7,8,9] .done))))] }
noncomputable def M6:List AK:=[.v (.sl (.int .u8)) .k]
noncomputable def aqB (N:Nat) (x:aL M6) (kf:ab→Option ab):Option ab:=S34 N x.1 (fun r0 r1 r2 r3=>kf ⟨[⟨bU,(.p (.o 46 none (.p .k (.p .k (.p .k (.p .k (.p .k (.o 3 none .k))))))) (.p (.o 80 none (.p .k (.p .k (.o 3 none .k)))) (.p (.o 104 none .k) (.p (.o 3 none .k) (.p (.o 136 none .k) (.p (.o 102 none .k) .k)))))),r0⟩,⟨(.int .i64),.k,r1⟩,⟨(.int .i64),.k,r2⟩,⟨(.int .i64),.k,r3⟩],[]⟩)
noncomputable def YE (N:Nat):=aF M6 (aqB N)
noncomputable def auq (N:Nat):List Entry:=[⟨67,[.val],(rS N)⟩,⟨133,[.kj],(nT N)⟩,⟨137,[.kj,.val],(qd N)⟩,⟨134,[.kj,.val],(qe N)⟩]
theorem aur (N:Nat):cX M6 (aqB N) aqA (auq N) (gw N N) Tryz.f34:=fun _ _=>by kernel_rfl
theorem aus {Γ:Gl} (N:Nat):Sound Γ Tryz.prog 34 (YE N):=iQ aqA Tryz.f34 (aur N) ⟨BL N,⟨uX N,⟨yO N,⟨yP N,trivial⟩⟩⟩⟩
noncomputable def CD:List Kd:=dK::dK::.v (.ptr bU) (.o 31 none (.p (.o 46 none (.p .k (.p .k (.p .k (.p .k (.p .k (.o 3 none .k))))))) (.p (.o 80 none (.p .k (.p .k (.o 3 none .k)))) (.p (.o 104 none .k) (.p (.o 3 none .k) (.p (.o 136 none .k) (.p (.o 102 none .k) .k)))))))::dK::.v (.ptr bU) (.o 31 none (.p (.o 46 none (.p .k (.p .k (.p .k (.p .k (.p .k (.o 3 none .k))))))) (.p (.o 80 none (.p .k (.p .k (.o 3 none .k)))) (.p (.o 104 none .k) (.p (.o 3 none .k) (.p (.o 136 none .k) (.p (.o 102 none .k) .k)))))))::.v (.int .i64) .k::dn 27 ([])
noncomputable def DE:List Kd:=dK::dK::.v (.ptr bU) (.o 31 none (.p (.o 46 none (.p .k (.p .k (.p .k (.p .k (.p .k (.o 3 none .k))))))) (.p (.o 80 none (.p .k (.p .k (.o 3 none .k)))) (.p (.o 104 none .k) (.p (.o 3 none .k) (.p (.o 136 none .k) (.p (.o 102 none .k) .k)))))))::dK::.v (.ptr bU) (.o 31 none (.p (.o 46 none (.p .k (.p .k (.p .k (.p .k (.p .k (.o 3 none .k))))))) (.p (.o 80 none (.p .k (.p .k (.o 3 none .k)))) (.p (.o 104 none .k) (.p (.o 3 none .k) (.p (.o 136 none .k) (.p (.o 102 none .k) .k)))))))::dn 28 ([])
noncomputable def ahL:Hint:={ tab,hn:=[],loops:=[(4,CD)],outs:=[(4,2,DE)],b5:=[(8,(OT.seq [0,1,2,3,4,5,6,7,8,9,10] .done))] }
noncomputable def M7:List AK:=[.v (.sl (.int .u8)) .k]
noncomputable def aqC (N:Nat) (x:aL M7) (kf:ab→Option ab):Option ab:=S36 N x.1 (fun r0=>kf ⟨[⟨bU,(.p (.o 46 none (.p .k (.p .k (.p .k (.p .k (.p .k (.o 3 none .k))))))) (.p (.o 80 none (.p .k (.p .k (.o 3 none .k)))) (.p (.o 104 none .k) (.p (.o 3 none .k) (.p (.o 136 none .k) (.p (.o 102 none .k) .k)))))),r0⟩],[]⟩)
noncomputable def YF (N:Nat):=aF M7 (aqC N)
noncomputable def ahM (N:Nat):List Entry:=[⟨67,[.val],(rS N)⟩,⟨133,[.kj],(nT N)⟩,⟨137,[.kj,.val],(qd N)⟩,⟨123,[.val],(Ah N)⟩,⟨139,[.val,.val,.val,.val],(Hd N)⟩]
noncomputable def Hg:Code:=bw Tryz.f36
noncomputable def ahN (N n:Nat) (key:Nat) (S:St) (K:Ks):Option ab:=bif Nat.beq key 4 then aQ CD S (fun x=>tJ N x.1 n (fun z0=>K (.x 0) (shape DE (x.1,z0,()))) x.2.1 x.2.2.1) else none
theorem aut (N key:Nat) (S:St) (K:Ks):ahN N 0 key S K=none:=(cH (aJ fun _=>rfl) rfl)
noncomputable def YG:Code:=(ak Hg).getD 0 .skip
theorem auu:ak Hg=[YG]:=by kernel_rfl
theorem ahO (N:Nat):hZ ahL (ahM N) (ahN N) N 4 CD YG:=fun _ _ _=>by kernel_rfl
theorem auv (N:Nat):cX M7 (aqC N) ahL (ahM N) (ahN N N) Tryz.f36:=fun _ _=>by kernel_rfl
theorem auw {Γ:Gl} (N:Nat):Sound Γ Tryz.prog 36 (YF N):=kh ahL Tryz.f36 Hg (aut N) auu (auv N) (rc (ahO N) trivial) ⟨BL N,⟨uX N,⟨yO N,⟨MP N,⟨YA N,trivial⟩⟩⟩⟩⟩
noncomputable def aqD:Hint:={ tab,hn:=[(19,.k)],loops:=[],outs:=[],b5:=[(5,(OT.seq [1] (.par [0,2,3] [[5,17]] (OT.seq [4,5] .done))))] }
noncomputable def M8:List AK:=[.v (.sl (.int .u8)) .k]
noncomputable def aqE (N:Nat) (x:aL M8) (kf:ab→Option ab):Option ab:=S37 N x.1 (fun r0 r1=>kf ⟨[⟨bU,(.p (.o 46 none (.p .k (.p .k (.p .k (.p .k (.p .k (.o 3 none .k))))))) (.p (.o 80 none (.p .k (.p .k (.o 3 none .k)))) (.p (.o 104 none .k) (.p (.o 3 none .k) (.p (.o 136 none .k) (.p (.o 102 none .k) .k)))))),r0⟩,⟨(.int .i64),.k,r1⟩],[]⟩)
noncomputable def YH (N:Nat):=aF M8 (aqE N)
noncomputable def auy (N:Nat):List Entry:=[⟨67,[.val],(rS N)⟩,⟨133,[.kj],(nT N)⟩,⟨140,[.kj,.val],(PE N)⟩,⟨141,[.val,.val,.val],(Hc N)⟩,⟨134,[.kj,.val],(qe N)⟩]
theorem auz (N:Nat):cX M8 (aqE N) aqD (auy N) (gw N N) Tryz.f37:=fun _ _=>by kernel_rfl
theorem auA {Γ:Gl} (N:Nat):Sound Γ Tryz.prog 37 (YH N):=iQ aqD Tryz.f37 (auz N) ⟨BL N,⟨uX N,⟨aku N,⟨Yy N,⟨yP N,trivial⟩⟩⟩⟩⟩
noncomputable def xI:List Kd:=.v (.sl (.int .i64)) .k::.v (.sl (.int .i64)) .k::dn 10 (.v (.int .i64) .k::.v (.int .i64) .k::dn 12 ([]))
noncomputable def As:List Kd:=dn 26 ([])
noncomputable def Au:List Kd:=dn 4 (.v .bool .k::dn 21 ([]))
noncomputable def VA:Hint:={ tab,hn:=[],loops:=[(4,xI)],outs:=[(4,2,As),(4,1,Au)],b5:=[(6,(OT.seq [0,1,2,3,4,5,6,7,8] .done))] }
noncomputable def M9:List AK:=[.v (.sl (.int .i64)) .k,.v (.sl (.int .i64)) .k]
noncomputable def ahP (N:Nat) (x:aL M9) (kf:ab→Option ab):Option ab:=ZO N x.1 x.2.1 (fun r0=>kf ⟨[⟨.bool,.k,r0⟩],[]⟩)
noncomputable def Aw (N:Nat):=aF M9 (ahP N)
noncomputable def CE:Code:=bw Tryz.f150
noncomputable def VB (N n:Nat) (key:Nat) (S:St) (K:Ks):Option ab:=bif Nat.beq key 4 then aQ xI S (fun x=>rH x.1 x.2.1 x.2.2.1 n (K (.x 0) (shape As ())) (fun z0=>K .r (shape Au (z0,()))) x.2.2.2.1) else none
theorem aoP (N key:Nat) (S:St) (K:Ks):VB N 0 key S K=none:=(cH (aJ fun _=>rfl) rfl)
noncomputable def Rv:Code:=(ak CE).getD 0 .skip
theorem aoQ:ak CE=[Rv]:=by kernel_rfl
theorem abD (N:Nat):hZ VA [] (VB N) N 4 xI Rv:=fun _ _ _=>by kernel_rfl
theorem aoR (N:Nat):cX M9 (ahP N) VA [] (VB N N) Tryz.f150:=fun _ _=>by kernel_rfl
theorem M' {Γ:Gl} (N:Nat):Sound Γ Tryz.prog 150 (Aw N):=kh VA Tryz.f150 CE (aoP N) aoQ (aoR N) (rc (abD N) trivial) trivial
noncomputable def Na:List AK:=[.v dC .k,.v dC .k]
noncomputable def ahQ (N:Nat) (x:aL Na) (kf:ab→Option ab):Option ab:=ai9 N x.1 x.2.1 (fun r0=>kf ⟨[⟨.bool,.k,r0⟩],[]⟩)
noncomputable def Rw (N:Nat):=aF Na (ahQ N)
noncomputable def aoS (N:Nat):List Entry:=[⟨150,[.val,.val],(Aw N)⟩]
theorem aoT (N:Nat):cX Na (ahQ N) hq (aoS N) (gw N N) Tryz.f149:=fun _ _=>by kernel_rfl
theorem aoU {Γ:Gl} (N:Nat):Sound Γ Tryz.prog 149 (Rw N):=iQ hq Tryz.f149 (aoT N) ⟨M' N,trivial⟩
noncomputable def xJ:List Kd:=dK::.v (.sl dC) .k::.mg 149 []::dn 12 (.v (.sl dC) .k::.v (.int .i64) .k::.v (.int .i64) .k::dn 14 ([]))
noncomputable def Ax:List Kd:=dn 32 ([])
noncomputable def Ay:List Kd:=dn 6 (.v .bool .k::dn 25 ([]))
noncomputable def VC:Hint:={ tab,hn:=[],loops:=[(4,xJ)],outs:=[(4,2,Ax),(4,1,Ay)],b5:=[] }
noncomputable def Nb:List AK:=[.v (.sl dC) .k,.v (.sl dC) .k,.fn 149 []]
noncomputable def ahR (N:Nat) (x:aL Nb) (kf:ab→Option ab):Option ab:=ai' N x.1 x.2.1 (fun r0=>kf ⟨[⟨.bool,.k,r0⟩],[]⟩)
noncomputable def Rx (N:Nat):=aF Nb (ahR N)
noncomputable def YI (N:Nat):List Entry:=[⟨149,[.val,.val],(Rw N)⟩]
noncomputable def CF:Code:=bw Tryz.f148
noncomputable def VE (N n:Nat) (key:Nat) (S:St) (K:Ks):Option ab:=bif Nat.beq key 4 then aQ xJ S (fun x=>rI N x.1 x.2.2.1 x.2.2.2.1 n (K (.x 0) (shape Ax ())) (fun z0=>K .r (shape Ay (z0,()))) x.2.2.2.2.1) else none
theorem aoV (N key:Nat) (S:St) (K:Ks):VE N 0 key S K=none:=(cH (aJ fun _=>rfl) rfl)
noncomputable def Ry:Code:=(ak CF).getD 0 .skip
theorem aoW:ak CF=[Ry]:=by kernel_rfl
theorem abE (N:Nat):hZ VC (YI N) (VE N) N 4 xJ Ry:=fun _ _ _=>by kernel_rfl
theorem aoX (N:Nat):cX Nb (ahR N) VC (YI N) (VE N N) Tryz.f148:=fun _ _=>by kernel_rfl
theorem aoY {Γ:Gl} (N:Nat):Sound Γ Tryz.prog 148 (Rx N):=kh VC Tryz.f148 CF (aoV N) aoW (aoX N) (rc (abE N) trivial) ⟨aoU N,trivial⟩
noncomputable def Nc:List AK:=[.v jL .k,.v jL .k]
noncomputable def ahS (N:Nat) (x:aL Nc) (kf:ab→Option ab):Option ab:=aja N x.1 x.2.1 (fun r0=>kf ⟨[⟨.bool,.k,r0⟩],[]⟩)
noncomputable def Rz (N:Nat):=aF Nc (ahS N)
noncomputable def aoZ (N:Nat):List Entry:=[⟨150,[.val,.val],(Aw N)⟩]
theorem ao0 (N:Nat):cX Nc (ahS N) hq (aoZ N) (gw N N) Tryz.f152:=fun _ _=>by kernel_rfl
theorem ao1 {Γ:Gl} (N:Nat):Sound Γ Tryz.prog 152 (Rz N):=iQ hq Tryz.f152 (ao0 N) ⟨M' N,trivial⟩
noncomputable def xK:List Kd:=dK::.v (.sl jL) .k::.mg 152 []::dn 12 (.v (.sl jL) .k::.v (.int .i64) .k::.v (.int .i64) .k::dn 14 ([]))
noncomputable def Az:List Kd:=dn 32 ([])
noncomputable def AA:List Kd:=dn 6 (.v .bool .k::dn 25 ([]))
noncomputable def VF:Hint:={ tab,hn:=[],loops:=[(4,xK)],outs:=[(4,2,Az),(4,1,AA)],b5:=[] }
noncomputable def Nd:List AK:=[.v (.sl jL) .k,.v (.sl jL) .k,.fn 152 []]
noncomputable def ahT (N:Nat) (x:aL Nd) (kf:ab→Option ab):Option ab:=ajb N x.1 x.2.1 (fun r0=>kf ⟨[⟨.bool,.k,r0⟩],[]⟩)
noncomputable def RA (N:Nat):=aF Nd (ahT N)
noncomputable def YJ (N:Nat):List Entry:=[⟨152,[.val,.val],(Rz N)⟩]
noncomputable def CG:Code:=bw Tryz.f151
noncomputable def VG (N n:Nat) (key:Nat) (S:St) (K:Ks):Option ab:=bif Nat.beq key 4 then aQ xK S (fun x=>rJ N x.1 x.2.2.1 x.2.2.2.1 n (K (.x 0) (shape Az ())) (fun z0=>K .r (shape AA (z0,()))) x.2.2.2.2.1) else none
theorem ao2 (N key:Nat) (S:St) (K:Ks):VG N 0 key S K=none:=(cH (aJ fun _=>rfl) rfl)
noncomputable def RB:Code:=(ak CG).getD 0 .skip
theorem ao3:ak CG=[RB]:=by kernel_rfl
theorem abF (N:Nat):hZ VF (YJ N) (VG N) N 4 xK RB:=fun _ _ _=>by kernel_rfl
theorem ao4 (N:Nat):cX Nd (ahT N) VF (YJ N) (VG N N) Tryz.f151:=fun _ _=>by kernel_rfl
theorem ao5 {Γ:Gl} (N:Nat):Sound Γ Tryz.prog 151 (RA N):=kh VF Tryz.f151 CG (ao2 N) ao3 (ao4 N) (rc (abF N) trivial) ⟨ao1 N,trivial⟩
noncomputable def xL:List Kd:=.v (.sl dQ) .k::.v (.sl dQ) .k::dn 10 (.v (.int .i64) .k::.v (.int .i64) .k::dn 12 ([]))
noncomputable def AB:List Kd:=dn 26 ([])
noncomputable def AD:List Kd:=dn 4 (.v .bool .k::dn 21 ([]))
noncomputable def VH:Hint:={ tab,hn:=[],loops:=[(4,xL)],outs:=[(4,2,AB),(4,1,AD)],b5:=[(6,(OT.seq [0,1,2,3,4,5,6,7,8] .done))] }
noncomputable def Nf:List AK:=[.v (.sl dQ) .k,.v (.sl dQ) .k]
noncomputable def ahU (N:Nat) (x:aL Nf) (kf:ab→Option ab):Option ab:=ajc N x.1 x.2.1 (fun r0=>kf ⟨[⟨.bool,.k,r0⟩],[]⟩)
noncomputable def RC (N:Nat):=aF Nf (ahU N)
noncomputable def CH:Code:=bw Tryz.f153
noncomputable def VI (N n:Nat) (key:Nat) (S:St) (K:Ks):Option ab:=bif Nat.beq key 4 then aQ xL S (fun x=>rK x.1 x.2.1 x.2.2.1 n (K (.x 0) (shape AB ())) (fun z0=>K .r (shape AD (z0,()))) x.2.2.2.1) else none
theorem ao6 (N key:Nat) (S:St) (K:Ks):VI N 0 key S K=none:=(cH (aJ fun _=>rfl) rfl)
noncomputable def RD:Code:=(ak CH).getD 0 .skip
theorem ao7:ak CH=[RD]:=by kernel_rfl
theorem abG (N:Nat):hZ VH [] (VI N) N 4 xL RD:=fun _ _ _=>by kernel_rfl
theorem ao8 (N:Nat):cX Nf (ahU N) VH [] (VI N N) Tryz.f153:=fun _ _=>by kernel_rfl
theorem ao9 {Γ:Gl} (N:Nat):Sound Γ Tryz.prog 153 (RC N):=kh VH Tryz.f153 CH (ao6 N) ao7 (ao8 N) (rc (abG N) trivial) trivial
noncomputable def xM:List Kd:=.v (.sl sD) .k::.v (.sl sD) .k::dn 10 (.v (.int .i64) .k::.v (.int .i64) .k::dn 12 ([]))
noncomputable def AE:List Kd:=dn 26 ([])
noncomputable def AF:List Kd:=dn 4 (.v .bool .k::dn 21 ([]))
noncomputable def VJ:Hint:={ tab,hn:=[],loops:=[(4,xM)],outs:=[(4,2,AE),(4,1,AF)],b5:=[(6,(OT.seq [0,1,2,3,4,5,6,7,8] .done))] }
noncomputable def Ng:List AK:=[.v (.sl sD) .k,.v (.sl sD) .k]
noncomputable def ahV (N:Nat) (x:aL Ng) (kf:ab→Option ab):Option ab:=ajd N x.1 x.2.1 (fun r0=>kf ⟨[⟨.bool,.k,r0⟩],[]⟩)
noncomputable def RE (N:Nat):=aF Ng (ahV N)
noncomputable def CI:Code:=bw Tryz.f154
noncomputable def VK (N n:Nat) (key:Nat) (S:St) (K:Ks):Option ab:=bif Nat.beq key 4 then aQ xM S (fun x=>rL x.1 x.2.1 x.2.2.1 n (K (.x 0) (shape AE ())) (fun z0=>K .r (shape AF (z0,()))) x.2.2.2.1) else none
theorem ao' (N key:Nat) (S:St) (K:Ks):VK N 0 key S K=none:=(cH (aJ fun _=>rfl) rfl)
noncomputable def RF:Code:=(ak CI).getD 0 .skip
theorem apa:ak CI=[RF]:=by kernel_rfl
theorem abH (N:Nat):hZ VJ [] (VK N) N 4 xM RF:=fun _ _ _=>by kernel_rfl
theorem apb (N:Nat):cX Ng (ahV N) VJ [] (VK N N) Tryz.f154:=fun _ _=>by kernel_rfl
theorem apc {Γ:Gl} (N:Nat):Sound Γ Tryz.prog 154 (RE N):=kh VJ Tryz.f154 CI (ao' N) apa (apb N) (rc (abH N) trivial) trivial
noncomputable def Nh:List AK:=[.v bU .k,.v bU .k]
noncomputable def aqF (N:Nat) (x:aL Nh) (kf:ab→Option ab):Option ab:=I42 N x.1 x.2.1 (fun r0=>kf ⟨[⟨.bool,.k,r0⟩],[]⟩)
noncomputable def YK (N:Nat):=aF Nh (aqF N)
noncomputable def auB (N:Nat):List Entry:=[⟨148,[.val,.val,.val],(Rx N)⟩,⟨151,[.val,.val,.val],(RA N)⟩,⟨153,[.val,.val],(RC N)⟩,⟨150,[.val,.val],(Aw N)⟩,⟨154,[.val,.val],(RE N)⟩,⟨76,[.val,.val],(L5 N)⟩]
theorem auC (N:Nat):cX Nh (aqF N) hq (auB N) (gw N N) Tryz.f42:=fun _ _=>by kernel_rfl
theorem auD {Γ:Gl} (N:Nat):Sound Γ Tryz.prog 42 (YK N):=iQ hq Tryz.f42 (auC N) ⟨aoY N,⟨ao5 N,⟨ao9 N,⟨M' N,⟨apc N,⟨agW N,trivial⟩⟩⟩⟩⟩⟩
end Go.Pv.R
