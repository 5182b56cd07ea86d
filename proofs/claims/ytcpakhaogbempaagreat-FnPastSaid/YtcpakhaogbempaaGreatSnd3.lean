/- Each function of the program that the law reaches computes its plain function, part 3. -/
import Derived.Test.YtcpakhaogbempaaGreatSnd2
import Derived.Test.YtcpakhaogbempaaGreatProg
namespace Go.Pv.R
open Go.Proofs
set_option linter.unusedVariables false
set_option maxRecDepth 100000
noncomputable def wR:List Kd:=.v (.sl (.int .i64)) .k::.v (.int .i64) .k::dn 3 (.v (.int .i64) .k::dn 41 ([]))
noncomputable def zB:List Kd:=.v (.sl (.int .i64)) .k::.v (.int .i64) .k::dn 3 (.v (.int .i64) .k::dn 41 ([]))
noncomputable def UG:Hint:={ tab,hn:=[],loops:=[(2,wR)],outs:=[(2,2,zB)],bp:=[(6,(OT.seq [1,2,3,5,8,9,10] (.any [0,4,6] (OT.seq [7,11,12] .done))))] }
noncomputable def L9:List AK:=[.v (.sl (.int .i64)) .k,.v (.int .i64) .k]
noncomputable def ag0 (N:Nat) (x:ax L9) (kf:aa→Option aa):Option aa:=sD N x.1 x.2.1 (fun r0=>kf ⟨[⟨(.sl (.int .i64)),(.o 3 none .k),r0⟩],[]⟩)
noncomputable def GG (N:Nat):=ao L9 (ag0 N)
noncomputable def BH:Code:=aJ Tryz.f127
noncomputable def UH (N n:Nat) (key:Nat) (S:St) (K:Ks):Option aa:=bif Nat.beq key 2 then az wR S (fun x=>qw x.1 x.2.1 n (fun z0=>K (.x 0) (shape zB (x.1,x.2.1,z0,()))) x.2.2.1) else none
theorem aoc (N key:Nat) (S:St) (K:Ks):UH N 0 key S K=none:=(bL (aq fun _=>rfl) rfl)
noncomputable def Qs:Code:=(af BH).getD 0 .skip
theorem aod:af BH=[Qs]:=by kernel_rfl
theorem aaV (N:Nat):fi UG [] (UH N) N 2 wR Qs:=fun _ _ _=>by kernel_rfl
theorem aoe (N:Nat):ca L9 (ag0 N) UG [] (UH N N) Tryz.f127:=fun _ _=>by kernel_rfl
theorem XG {Γ:Gl} (N:Nat):Sound Γ Tryz.prog 127 (GG N):=gW UG Tryz.f127 BH (aoc N) aod (aoe N) (rc (aaV N) trivial) trivial
noncomputable def BI:List Kd:=dK::.v (.ptr dd) (.o 31 none .k)::.v (.ptr dd) (.o 31 none (.p (.o 46 none (.p .k (.p .k (.p .k (.p .k (.p .k (.o 3 none .k))))))) (.p (.o 80 none (.p .k (.p .k (.o 3 none .k)))) (.p (.o 104 none .k) (.p (.o 3 none .k) (.p (.o 136 none .k) (.p (.o 102 none .k) .k)))))))::dK::.v (.ptr dd) (.o 31 none (.p (.o 46 none (.p .k (.p .k (.p .k (.p .k (.p .k (.o 3 none .k))))))) (.p (.o 80 none (.p .k (.p .k (.o 3 none .k)))) (.p (.o 104 none .k) (.p (.o 3 none .k) (.p (.o 136 none .k) (.p (.o 102 none .k) .k)))))))::.v .bool .k::.v (.int .i64) .k::dn 113 ([])
noncomputable def C0:List Kd:=dK::.v (.ptr dd) (.o 31 none .k)::.v (.ptr dd) (.o 31 none (.p (.o 46 none (.p .k (.p .k (.p .k (.p .k (.p .k (.o 3 none .k))))))) (.p (.o 80 none (.p .k (.p .k (.o 3 none .k)))) (.p (.o 104 none .k) (.p (.o 3 none .k) (.p (.o 136 none .k) (.p (.o 102 none .k) .k)))))))::dK::.v (.ptr dd) (.o 31 none (.p (.o 46 none (.p .k (.p .k (.p .k (.p .k (.p .k (.o 3 none .k))))))) (.p (.o 80 none (.p .k (.p .k (.o 3 none .k)))) (.p (.o 104 none .k) (.p (.o 3 none .k) (.p (.o 136 none .k) (.p (.o 102 none .k) .k)))))))::.v .bool .k::dn 114 ([])
noncomputable def ag3:Hint:={ tab,hn:=[],loops:=[(6,BI)],outs:=[(6,2,C0)],bp:=[(9,(OT.seq [0,1,2,3,4,5,6,7,8,9,10,11,12,13,14,17,18,19,20,15,16,21,22,23,24,25,26] .done)),(12,(OT.seq [0,1,2,3,4,5,6,7,8] .done)),(13,(OT.seq [0,1,2,3,4,5,6,7,8,9,10,11,12,13,14,16,17,18,19,20,21,15,22,23,24,25] .done))] }
noncomputable def UI:List AK:=[.v dd .k]
noncomputable def apW (N:Nat) (x:ax UI) (kf:aa→Option aa):Option aa:=S27 N x.1 (fun r0 r1=>kf ⟨[⟨dd,(.p (.o 46 none (.p .k (.p .k (.p .k (.p .k (.p .k (.o 3 none .k))))))) (.p (.o 80 none (.p .k (.p .k (.o 3 none .k)))) (.p (.o 104 none .k) (.p (.o 3 none .k) (.p (.o 136 none .k) (.p (.o 102 none .k) .k)))))),r0⟩,⟨.bool,.k,r1⟩],[]⟩)
noncomputable def XH (N:Nat):=ao UI (apW N)
noncomputable def ag4 (N:Nat):List Entry:=[⟨90,[.val],(kM N)⟩,⟨122,[.val],(zt N)⟩,⟨94,[.val],(zb N)⟩,⟨123,[.val],(Qj N)⟩,⟨125,[.val],(Qq N)⟩,⟨124,[.val,.val,.val,.val,.val,.val],(Qr N)⟩,⟨126,[.val,.val],(GD N)⟩,⟨127,[.val,.val],(GG N)⟩,⟨93,[.val,.take,.val,.val,.val],(qS N)⟩]
noncomputable def GH:Code:=aJ Tryz.f27
noncomputable def ag5 (N n:Nat) (key:Nat) (S:St) (K:Ks):Option aa:=bif Nat.beq key 6 then az BI S (fun x=>sE N x.1 x.2.1 n (fun z0 z1=>K (.x 0) (shape C0 (x.1,x.2.1,z0,z1,()))) x.2.2.1 x.2.2.2.1 x.2.2.2.2.1) else none
theorem atD (N key:Nat) (S:St) (K:Ks):ag5 N 0 key S K=none:=(bL (aq fun _=>rfl) rfl)
noncomputable def XI:Code:=(af GH).getD 0 .skip
theorem atE:af GH=[XI]:=by kernel_rfl
theorem ag6 (N:Nat):fi ag3 (ag4 N) (ag5 N) N 6 BI XI:=fun _ _ _=>by kernel_rfl
theorem atF (N:Nat):ca UI (apW N) ag3 (ag4 N) (ag5 N N) Tryz.f27:=fun _ _=>by kernel_rfl
theorem atG {Γ:Gl} (N:Nat):Sound Γ Tryz.prog 27 (XH N):=gW ag3 Tryz.f27 GH (atD N) atE (atF N) (rc (ag6 N) trivial) ⟨qQ N,⟨LZ N,⟨LJ N,⟨anU N,⟨an9 N,⟨aob N,⟨Xy N,⟨XG N,⟨BC N,trivial⟩⟩⟩⟩⟩⟩⟩⟩⟩
noncomputable def wS:List Kd:=dK::.v (.int .i64) .k::.v (.int .i64) .k::.v (.ptr dd) (.o 31 none .k)::dK::dK::.v (.ptr dd) (.o 31 none (.p (.o 46 none (.p .k (.p .k (.p .k (.p .k (.p .k (.o 3 none .k))))))) (.p (.o 80 none (.p .k (.p .k (.o 3 none .k)))) (.p (.o 104 none .k) (.p (.o 3 none .k) (.p (.o 136 none .k) (.p (.o 102 none .k) .k)))))))::dK::.v (.ptr dd) (.o 31 none (.p (.o 46 none (.p .k (.p .k (.p .k (.p .k (.p .k (.o 3 none .k))))))) (.p (.o 80 none (.p .k (.p .k (.o 3 none .k)))) (.p (.o 104 none .k) (.p (.o 3 none .k) (.p (.o 136 none .k) (.p (.o 102 none .k) .k)))))))::.v (.int .i64) .k::dn 45 ([])
noncomputable def zC:List Kd:=dK::.v (.int .i64) .k::.v (.int .i64) .k::.v (.ptr dd) (.o 31 none .k)::dK::dK::.v (.ptr dd) (.o 31 none (.p (.o 46 none (.p .k (.p .k (.p .k (.p .k (.p .k (.o 3 none .k))))))) (.p (.o 80 none (.p .k (.p .k (.o 3 none .k)))) (.p (.o 104 none .k) (.p (.o 3 none .k) (.p (.o 136 none .k) (.p (.o 102 none .k) .k)))))))::dK::.v (.ptr dd) (.o 31 none (.p (.o 46 none (.p .k (.p .k (.p .k (.p .k (.p .k (.o 3 none .k))))))) (.p (.o 80 none (.p .k (.p .k (.o 3 none .k)))) (.p (.o 104 none .k) (.p (.o 3 none .k) (.p (.o 136 none .k) (.p (.o 102 none .k) .k)))))))::.v (.int .i64) .k::dn 45 ([])
noncomputable def UJ:Hint:={ tab,hn:=[],loops:=[(3,wS)],outs:=[(3,2,zC)],bp:=[(5,(OT.seq [0,1,2,3,5,6,7,10,12] (.any [4,8,9,11,13] (OT.seq [14,15,16,17] .done)))),(6,(OT.seq [0,1,2,5,3,4,6,7,8,9,10] .done))] }
noncomputable def Ma:List AK:=[.v dd .k,.v (.int .i64) .k,.v (.int .i64) .k]
noncomputable def ag7 (N:Nat) (x:ax Ma) (kf:aa→Option aa):Option aa:=ai5 N x.1 x.2.1 x.2.2.1 (fun r0 r1=>kf ⟨[⟨dd,(.p (.o 46 none (.p .k (.p .k (.p .k (.p .k (.p .k (.o 3 none .k))))))) (.p (.o 80 none (.p .k (.p .k (.o 3 none .k)))) (.p (.o 104 none .k) (.p (.o 3 none .k) (.p (.o 136 none .k) (.p (.o 102 none .k) .k)))))),r0⟩,⟨.bool,.k,r1⟩],[]⟩)
noncomputable def Qt (N:Nat):=ao Ma (ag7 N)
noncomputable def XJ (N:Nat):List Entry:=[⟨90,[.val],(kM N)⟩,⟨173,[.val],(s7 N)⟩,⟨94,[.val],(zb N)⟩,⟨93,[.val,.take,.val,.val,.val],(qS N)⟩]
noncomputable def BJ:Code:=aJ Tryz.f141
noncomputable def UK (N n:Nat) (key:Nat) (S:St) (K:Ks):Option aa:=bif Nat.beq key 3 then az wS S (fun x=>nA x.1 x.2.1 x.2.2.1 x.2.2.2.1 x.2.2.2.2.1 n (fun z0=>K (.x 0) (shape zC (x.1,x.2.1,x.2.2.1,x.2.2.2.1,x.2.2.2.2.1,z0,()))) x.2.2.2.2.2.1) else none
theorem aof (N key:Nat) (S:St) (K:Ks):UK N 0 key S K=none:=(bL (aq fun _=>rfl) rfl)
noncomputable def Qu:Code:=(af BJ).getD 0 .skip
theorem aog:af BJ=[Qu]:=by kernel_rfl
theorem aaW (N:Nat):fi UJ (XJ N) (UK N) N 3 wS Qu:=fun _ _ _=>by kernel_rfl
theorem aoh (N:Nat):ca Ma (ag7 N) UJ (XJ N) (UK N N) Tryz.f141:=fun _ _=>by kernel_rfl
theorem aoi {Γ:Gl} (N:Nat):Sound Γ Tryz.prog 141 (Qt N):=gW UJ Tryz.f141 BJ (aof N) aog (aoh N) (rc (aaW N) trivial) ⟨qQ N,⟨DL N,⟨LJ N,⟨BC N,trivial⟩⟩⟩⟩
noncomputable def wT:List Kd:=dK::.v (.int .i64) .k::.v (.int .i64) .k::.v (.ptr dd) (.o 31 none .k)::dK::dK::.v (.ptr dd) (.o 31 none (.p (.o 46 none (.p .k (.p .k (.p .k (.p .k (.p .k (.o 3 none .k))))))) (.p (.o 80 none (.p .k (.p .k (.o 3 none .k)))) (.p (.o 104 none .k) (.p (.o 3 none .k) (.p (.o 136 none .k) (.p (.o 102 none .k) .k)))))))::dK::.v (.ptr dd) (.o 31 none (.p (.o 46 none (.p .k (.p .k (.p .k (.p .k (.p .k (.o 3 none .k))))))) (.p (.o 80 none (.p .k (.p .k (.o 3 none .k)))) (.p (.o 104 none .k) (.p (.o 3 none .k) (.p (.o 136 none .k) (.p (.o 102 none .k) .k)))))))::.v (.int .i64) .k::dn 42 ([])
noncomputable def zD:List Kd:=dK::.v (.int .i64) .k::.v (.int .i64) .k::.v (.ptr dd) (.o 31 none .k)::dK::dK::.v (.ptr dd) (.o 31 none (.p (.o 46 none (.p .k (.p .k (.p .k (.p .k (.p .k (.o 3 none .k))))))) (.p (.o 80 none (.p .k (.p .k (.o 3 none .k)))) (.p (.o 104 none .k) (.p (.o 3 none .k) (.p (.o 136 none .k) (.p (.o 102 none .k) .k)))))))::dK::.v (.ptr dd) (.o 31 none (.p (.o 46 none (.p .k (.p .k (.p .k (.p .k (.p .k (.o 3 none .k))))))) (.p (.o 80 none (.p .k (.p .k (.o 3 none .k)))) (.p (.o 104 none .k) (.p (.o 3 none .k) (.p (.o 136 none .k) (.p (.o 102 none .k) .k)))))))::.v (.int .i64) .k::dn 42 ([])
noncomputable def UL:Hint:={ tab,hn:=[],loops:=[(3,wT)],outs:=[(3,2,zD)],bp:=[(5,(OT.seq [0,1,2,3,5,6,7,10,12] (.any [4,8,9,11,13] (OT.seq [14,15,16,17] .done))))] }
noncomputable def Mb:List AK:=[.v dd .k,.v (.int .i64) .k,.v (.int .i64) .k]
noncomputable def ag8 (N:Nat) (x:ax Mb) (kf:aa→Option aa):Option aa:=ai6 N x.1 x.2.1 x.2.2.1 (fun r0 r1=>kf ⟨[⟨dd,(.p (.o 46 none (.p .k (.p .k (.p .k (.p .k (.p .k (.o 3 none .k))))))) (.p (.o 80 none (.p .k (.p .k (.o 3 none .k)))) (.p (.o 104 none .k) (.p (.o 3 none .k) (.p (.o 136 none .k) (.p (.o 102 none .k) .k)))))),r0⟩,⟨.bool,.k,r1⟩],[]⟩)
noncomputable def Qv (N:Nat):=ao Mb (ag8 N)
noncomputable def XK (N:Nat):List Entry:=[⟨90,[.val],(kM N)⟩,⟨174,[.val],(Gv N)⟩,⟨93,[.val,.take,.val,.val,.val],(qS N)⟩]
noncomputable def BK:Code:=aJ Tryz.f160
noncomputable def UM (N n:Nat) (key:Nat) (S:St) (K:Ks):Option aa:=bif Nat.beq key 3 then az wT S (fun x=>nB x.1 x.2.1 x.2.2.1 x.2.2.2.1 x.2.2.2.2.1 n (fun z0=>K (.x 0) (shape zD (x.1,x.2.1,x.2.2.1,x.2.2.2.1,x.2.2.2.2.1,z0,()))) x.2.2.2.2.2.1) else none
theorem aoj (N key:Nat) (S:St) (K:Ks):UM N 0 key S K=none:=(bL (aq fun _=>rfl) rfl)
noncomputable def Qw:Code:=(af BK).getD 0 .skip
theorem aok:af BK=[Qw]:=by kernel_rfl
theorem aaX (N:Nat):fi UL (XK N) (UM N) N 3 wT Qw:=fun _ _ _=>by kernel_rfl
theorem aol (N:Nat):ca Mb (ag8 N) UL (XK N) (UM N N) Tryz.f160:=fun _ _=>by kernel_rfl
theorem aom {Γ:Gl} (N:Nat):Sound Γ Tryz.prog 160 (Qv N):=gW UL Tryz.f160 BK (aoj N) aok (aol N) (rc (aaX N) trivial) ⟨qQ N,⟨Xk N,⟨BC N,trivial⟩⟩⟩
noncomputable def ag9:Hint:={ tab,hn:=[],loops:=[],outs:=[],bp:=[(3,(OT.seq [0,1,2,3,4,5,6,7,8,9,10,11,12,13,14,15,16,17,18,19,20] .done)),(5,(OT.seq [0,1,2,3,4,5,6,7,8,9,10,11,12] .done)),(6,(OT.seq [0,1,2,3,4,5,6,8,9,10,11,12,7,13,14,15,16,17] .done))] }
noncomputable def Mc:List AK:=[.v dd .k,.v (.int .i64) .k,.v (.int .i64) .k,.v (.int .i64) .k]
noncomputable def ag' (N:Nat) (x:ax Mc) (kf:aa→Option aa):Option aa:=ai7 N x.1 x.2.1 x.2.2.1 x.2.2.2.1 (fun r0 r1=>kf ⟨[⟨dd,(.p (.o 46 none (.p .k (.p .k (.p .k (.p .k (.p .k (.o 3 none .k))))))) (.p (.o 80 none (.p .k (.p .k (.o 3 none .k)))) (.p (.o 104 none .k) (.p (.o 3 none .k) (.p (.o 136 none .k) (.p (.o 102 none .k) .k)))))),r0⟩,⟨.bool,.k,r1⟩],[]⟩)
noncomputable def Qx (N:Nat):=ao Mc (ag' N)
noncomputable def aon (N:Nat):List Entry:=[⟨90,[.val],(kM N)⟩,⟨122,[.val],(zt N)⟩,⟨195,[.val,.val,.val],(jR N)⟩,⟨199,[.val],(zp N)⟩,⟨93,[.val,.take,.val,.val,.val],(qS N)⟩]
theorem aoo (N:Nat):ca Mc (ag' N) ag9 (aon N) (fm N N) Tryz.f139:=fun _ _=>by kernel_rfl
theorem aop {Γ:Gl} (N:Nat):Sound Γ Tryz.prog 139 (Qx N):=gJ ag9 Tryz.f139 (aoo N) ⟨qQ N,⟨LZ N,⟨nL N,⟨LX N,⟨BC N,trivial⟩⟩⟩⟩⟩
noncomputable def BL:List Kd:=dn 4 (.v (.ptr dd) (.o 31 none (.p (.o 46 none (.p .k (.p .k (.p .k (.p .k (.p .k (.o 3 none .k))))))) (.p (.o 80 none (.p .k (.p .k (.o 3 none .k)))) (.p (.o 104 none .k) (.p (.o 3 none .k) (.p (.o 136 none .k) (.p (.o 102 none .k) .k)))))))::.v (.ptr dd) (.o 31 none (.p (.o 46 none (.p .k (.p .k (.p .k (.p .k (.p .k (.o 3 none .k))))))) (.p (.o 80 none (.p .k (.p .k (.o 3 none .k)))) (.p (.o 104 none .k) (.p (.o 3 none .k) (.p (.o 136 none .k) (.p (.o 102 none .k) .k)))))))::dn 4 (.v (.sl iZ) .k::.v (.int .i64) .k::.v (.int .i64) .k::dn 11 ([])))
noncomputable def C1:List Kd:=dn 4 (.v (.ptr dd) (.o 31 none (.p (.o 46 none (.p .k (.p .k (.p .k (.p .k (.p .k (.o 3 none .k))))))) (.p (.o 80 none (.p .k (.p .k (.o 3 none .k)))) (.p (.o 104 none .k) (.p (.o 3 none .k) (.p (.o 136 none .k) (.p (.o 102 none .k) .k)))))))::.v (.ptr dd) (.o 31 none (.p (.o 46 none (.p .k (.p .k (.p .k (.p .k (.p .k (.o 3 none .k))))))) (.p (.o 80 none (.p .k (.p .k (.o 3 none .k)))) (.p (.o 104 none .k) (.p (.o 3 none .k) (.p (.o 136 none .k) (.p (.o 102 none .k) .k)))))))::dn 18 ([]))
noncomputable def aha:Hint:={ tab,hn:=[],loops:=[(3,BL)],outs:=[(3,2,C1)],bp:=[] }
noncomputable def Me:List AK:=[.v dd .k,.v (.sl iZ) .k]
noncomputable def apX (N:Nat) (x:ax Me) (kf:aa→Option aa):Option aa:=I43 N x.1 x.2.1 (fun r0=>kf ⟨[⟨dd,(.p (.o 46 none (.p .k (.p .k (.p .k (.p .k (.p .k (.o 3 none .k))))))) (.p (.o 80 none (.p .k (.p .k (.o 3 none .k)))) (.p (.o 104 none .k) (.p (.o 3 none .k) (.p (.o 136 none .k) (.p (.o 102 none .k) .k)))))),r0⟩],[]⟩)
noncomputable def XL (N:Nat):=ao Me (apX N)
noncomputable def ahb (N:Nat):List Entry:=[⟨70,[.val],(kL N)⟩,⟨13,[.val,.val],(Xj N)⟩]
noncomputable def GI:Code:=aJ Tryz.f43
noncomputable def ahc (N n:Nat) (key:Nat) (S:St) (K:Ks):Option aa:=bif Nat.beq key 3 then az BL S (fun x=>vD N x.1 x.2.2.1 x.2.2.2.1 n (fun z0=>K (.x 0) (shape C1 (x.1,z0,()))) x.2.1 x.2.2.2.2.1) else none
theorem atH (N key:Nat) (S:St) (K:Ks):ahc N 0 key S K=none:=(bL (aq fun _=>rfl) rfl)
noncomputable def XM:Code:=(af GI).getD 0 .skip
theorem atI:af GI=[XM]:=by kernel_rfl
theorem ahd (N:Nat):fi aha (ahb N) (ahc N) N 3 BL XM:=fun _ _ _=>by kernel_rfl
theorem atJ (N:Nat):ca Me (apX N) aha (ahb N) (ahc N N) Tryz.f43:=fun _ _=>by kernel_rfl
theorem atK {Γ:Gl} (N:Nat):Sound Γ Tryz.prog 43 (XL N):=gW aha Tryz.f43 GI (atH N) atI (atJ N) (rc (ahd N) trivial) ⟨qN N,⟨atn N,trivial⟩⟩
noncomputable def BM:List Kd:=dK::.v (.int .i64) .k::dn 3 (.v (.int .i64) .k::dn 6 (.v (.sl iZ) .k::.v (.int .i64) .k::.v (.int .i64) .k::dn 16 ([])))
noncomputable def C2:List Kd:=dn 5 (.v (.int .i64) .k::dn 25 ([]))
noncomputable def ahe:Hint:={ tab,hn:=[],loops:=[(5,BM)],outs:=[(5,2,C2)],bp:=[] }
noncomputable def Mf:List AK:=[.v (.sl iZ) .k,.v (.int .i64) .k]
noncomputable def apY (N:Nat) (x:ax Mf) (kf:aa→Option aa):Option aa:=I49 N x.1 x.2.1 (fun r0=>kf ⟨[⟨(.int .i64),.k,r0⟩],[]⟩)
noncomputable def XN (N:Nat):=ao Mf (apY N)
noncomputable def ahf (N:Nat):List Entry:=[⟨75,[.val],(nJ N)⟩]
noncomputable def GJ:Code:=aJ Tryz.f49
noncomputable def ahg (N n:Nat) (key:Nat) (S:St) (K:Ks):Option aa:=bif Nat.beq key 5 then az BM S (fun x=>qy x.1 x.2.2.1 x.2.2.2.1 n (fun z0=>K (.x 0) (shape C2 (z0,()))) x.2.1 x.2.2.2.2.1) else none
theorem atL (N key:Nat) (S:St) (K:Ks):ahg N 0 key S K=none:=(bL (aq fun _=>rfl) rfl)
noncomputable def XO:Code:=(af GJ).getD 0 .skip
theorem atM:af GJ=[XO]:=by kernel_rfl
theorem ahh (N:Nat):fi ahe (ahf N) (ahg N) N 5 BM XO:=fun _ _ _=>by kernel_rfl
theorem atN (N:Nat):ca Mf (apY N) ahe (ahf N) (ahg N N) Tryz.f49:=fun _ _=>by kernel_rfl
theorem atO {Γ:Gl} (N:Nat):Sound Γ Tryz.prog 49 (XN N):=gW ahe Tryz.f49 GJ (atL N) atM (atN N) (rc (ahh N) trivial) ⟨vV N,trivial⟩
noncomputable def BN:List Kd:=dn 3 (.v (.sl (.int .i64)) (.o 3 none .k)::dn 7 (.v (.sl iZ) .k::.v (.int .i64) .k::.v (.int .i64) .k::dn 16 ([])))
noncomputable def C3:List Kd:=dn 3 (.v (.sl (.int .i64)) (.o 3 none .k)::dn 26 ([]))
noncomputable def ahi:Hint:={ tab,hn:=[],loops:=[(5,BN)],outs:=[(5,2,C3)],bp:=[] }
noncomputable def Mg:List AK:=[.v (.sl iZ) .k]
noncomputable def apZ (N:Nat) (x:ax Mg) (kf:aa→Option aa):Option aa:=I51 N x.1 (fun r0=>kf ⟨[⟨(.sl (.int .i64)),(.o 3 none .k),r0⟩],[]⟩)
noncomputable def XP (N:Nat):=ao Mg (apZ N)
noncomputable def ahj (N:Nat):List Entry:=[⟨75,[.val],(nJ N)⟩,⟨131,[.kT],(yJ N)⟩,⟨132,[.take],(Gt N)⟩]
noncomputable def GK:Code:=aJ Tryz.f51
noncomputable def ahk (N n:Nat) (key:Nat) (S:St) (K:Ks):Option aa:=bif Nat.beq key 5 then az BN S (fun x=>sG x.2.1 x.2.2.1 n (fun z0=>K (.x 0) (shape C3 (z0,()))) x.1 x.2.2.2.1) else none
theorem atP (N key:Nat) (S:St) (K:Ks):ahk N 0 key S K=none:=(bL (aq fun _=>rfl) rfl)
noncomputable def XQ:Code:=(af GK).getD 0 .skip
theorem atQ:af GK=[XQ]:=by kernel_rfl
theorem ahl (N:Nat):fi ahi (ahj N) (ahk N) N 5 BN XQ:=fun _ _ _=>by kernel_rfl
theorem atS (N:Nat):ca Mg (apZ N) ahi (ahj N) (ahk N N) Tryz.f51:=fun _ _=>by kernel_rfl
theorem atT {Γ:Gl} (N:Nat):Sound Γ Tryz.prog 51 (XP N):=gW ahi Tryz.f51 GK (atP N) atQ (atS N) (rc (ahl N) trivial) ⟨vV N,⟨Lh N,⟨Xe N,trivial⟩⟩⟩
noncomputable def BO:List Kd:=.v (.sl (.int .i64)) .k::.v (.sl (.int .i64)) .k::dn 3 (.v (.int .i64) .k::dn 20 ([]))
noncomputable def C4:List Kd:=dn 26 ([])
noncomputable def C5:List Kd:=dn 4 (.v .bool .k::dn 21 ([]))
noncomputable def ahm:Hint:={ tab,hn:=[],loops:=[(4,BO)],outs:=[(4,2,C4),(4,1,C5)],bp:=[(6,(OT.seq [0,1,2,3,4,5,6,7,8] .done))] }
noncomputable def Mh:List AK:=[.v (.sl (.int .i64)) .k,.v (.sl (.int .i64)) .k]
noncomputable def ap0 (N:Nat) (x:ax Mh) (kf:aa→Option aa):Option aa:=L50 N x.1 x.2.1 (fun r0=>kf ⟨[⟨.bool,.k,r0⟩],[]⟩)
noncomputable def XR (N:Nat):=ao Mh (ap0 N)
noncomputable def GL:Code:=aJ Tryz.f50
noncomputable def ahn (N n:Nat) (key:Nat) (S:St) (K:Ks):Option aa:=bif Nat.beq key 4 then az BO S (fun x=>vF x.1 x.2.1 n (K (.x 0) (shape C4 ())) (fun z0=>K .r (shape C5 (z0,()))) x.2.2.1) else none
theorem atU (N key:Nat) (S:St) (K:Ks):ahn N 0 key S K=none:=(bL (aq fun _=>rfl) rfl)
noncomputable def XS:Code:=(af GL).getD 0 .skip
theorem atV:af GL=[XS]:=by kernel_rfl
theorem aho (N:Nat):fi ahm [] (ahn N) N 4 BO XS:=fun _ _ _=>by kernel_rfl
theorem atW (N:Nat):ca Mh (ap0 N) ahm [] (ahn N N) Tryz.f50:=fun _ _=>by kernel_rfl
theorem atX {Γ:Gl} (N:Nat):Sound Γ Tryz.prog 50 (XR N):=gW ahm Tryz.f50 GL (atU N) atV (atW N) (rc (aho N) trivial) trivial
noncomputable def BP:List Kd:=dK::.v (.int .i64) .k::dn 3 (.v (.int .i64) .k::dK::dK::.v (.sl iZ) .k::.v (.int .i64) .k::.v (.int .i64) .k::dn 11 ([]))
noncomputable def C6:List Kd:=dn 5 (.v (.int .i64) .k::dn 16 ([]))
noncomputable def ahp:Hint:={ tab,hn:=[],loops:=[(3,BP)],outs:=[(3,2,C6)],bp:=[] }
noncomputable def Mi:List AK:=[.v (.sl iZ) .k,.v (.int .i64) .k]
noncomputable def ap1 (N:Nat) (x:ax Mi) (kf:aa→Option aa):Option aa:=I52 N x.1 x.2.1 (fun r0=>kf ⟨[⟨(.int .i64),.k,r0⟩],[]⟩)
noncomputable def Mj (N:Nat):=ao Mi (ap1 N)
noncomputable def GM:Code:=aJ Tryz.f52
noncomputable def ahq (N n:Nat) (key:Nat) (S:St) (K:Ks):Option aa:=bif Nat.beq key 3 then az BP S (fun x=>sH x.1 x.2.2.1 x.2.2.2.1 n (fun z0=>K (.x 0) (shape C6 (z0,()))) x.2.1 x.2.2.2.2.1) else none
theorem atY (N key:Nat) (S:St) (K:Ks):ahq N 0 key S K=none:=(bL (aq fun _=>rfl) rfl)
noncomputable def XT:Code:=(af GM).getD 0 .skip
theorem atZ:af GM=[XT]:=by kernel_rfl
theorem ahr (N:Nat):fi ahp [] (ahq N) N 3 BP XT:=fun _ _ _=>by kernel_rfl
theorem at0 (N:Nat):ca Mi (ap1 N) ahp [] (ahq N N) Tryz.f52:=fun _ _=>by kernel_rfl
theorem ahs {Γ:Gl} (N:Nat):Sound Γ Tryz.prog 52 (Mj N):=gW ahp Tryz.f52 GM (atY N) atZ (at0 N) (rc (ahr N) trivial) trivial
noncomputable def Mk:List AK:=[.v (.sl iZ) .k]
noncomputable def ap2 (N:Nat) (x:ax Mk) (kf:aa→Option aa):Option aa:=I53 N x.1 (fun r0=>kf ⟨[⟨(.int .i64),.k,r0⟩],[]⟩)
noncomputable def XU (N:Nat):=ao Mk (ap2 N)
noncomputable def at1 (N:Nat):List Entry:=[⟨75,[.val],(nJ N)⟩,⟨52,[.val,.val],(Mj N)⟩]
theorem at2 (N:Nat):ca Mk (ap2 N) hq (at1 N) (fm N N) Tryz.f53:=fun _ _=>by kernel_rfl
theorem at3 {Γ:Gl} (N:Nat):Sound Γ Tryz.prog 53 (XU N):=gJ hq Tryz.f53 (at2 N) ⟨vV N,⟨ahs N,trivial⟩⟩
noncomputable def wU:List Kd:=dK::.v (.int .i64) .k::dn 3 (.v (.sl (.int .i64)) (.o 3 none .k)::dn 3 (.v (.sl (.int .i64)) .k::.v (.int .i64) .k::.v (.int .i64) .k::dn 12 ([])))
noncomputable def zE:List Kd:=dn 5 (.v (.sl (.int .i64)) (.o 3 none .k)::dn 18 ([]))
noncomputable def UN:Hint:={ tab,hn:=[],loops:=[(3,wU)],outs:=[(3,2,zE)],bp:=[] }
noncomputable def Ml:List AK:=[.v (.sl (.int .i64)) .k,.v (.int .i64) .k]
noncomputable def aht (N:Nat) (x:ax Ml) (kf:aa→Option aa):Option aa:=ac' N x.1 x.2.1 (fun r0=>kf ⟨[⟨(.sl (.int .i64)),(.o 3 none .k),r0⟩],[]⟩)
noncomputable def Qy (N:Nat):=ao Ml (aht N)
noncomputable def BQ:Code:=aJ Tryz.f156
noncomputable def UO (N n:Nat) (key:Nat) (S:St) (K:Ks):Option aa:=bif Nat.beq key 3 then az wU S (fun x=>nC x.1 x.2.2.1 x.2.2.2.1 n (fun z0=>K (.x 0) (shape zE (z0,()))) x.2.1 x.2.2.2.2.1) else none
theorem aoq (N key:Nat) (S:St) (K:Ks):UO N 0 key S K=none:=(bL (aq fun _=>rfl) rfl)
noncomputable def Qz:Code:=(af BQ).getD 0 .skip
theorem aor:af BQ=[Qz]:=by kernel_rfl
theorem aaY (N:Nat):fi UN [] (UO N) N 3 wU Qz:=fun _ _ _=>by kernel_rfl
theorem aos (N:Nat):ca Ml (aht N) UN [] (UO N N) Tryz.f156:=fun _ _=>by kernel_rfl
theorem aot {Γ:Gl} (N:Nat):Sound Γ Tryz.prog 156 (Qy N):=gW UN Tryz.f156 BQ (aoq N) aor (aos N) (rc (aaY N) trivial) trivial
noncomputable def BR:List Kd:=dn 3 (.v (.sl (.int .i64)) (.o 3 none .k)::dn 7 (.v (.sl iZ) .k::.v (.int .i64) .k::.v (.int .i64) .k::dn 31 ([])))
noncomputable def C7:List Kd:=dn 3 (.v (.sl (.int .i64)) (.o 3 none .k)::dn 41 ([]))
noncomputable def ahu:Hint:={ tab,hn:=[],loops:=[(5,BR)],outs:=[(5,2,C7)],bp:=[] }
noncomputable def Mm:List AK:=[.v (.sl iZ) .k]
noncomputable def ap3 (N:Nat) (x:ax Mm) (kf:aa→Option aa):Option aa:=I54 N x.1 (fun r0=>kf ⟨[⟨(.sl (.int .i64)),(.o 3 none .k),r0⟩],[]⟩)
noncomputable def XV (N:Nat):=ao Mm (ap3 N)
noncomputable def ahv (N:Nat):List Entry:=[⟨75,[.val],(nJ N)⟩,⟨156,[.val,.val],(Qy N)⟩,⟨82,[.val,.val],(tT N)⟩,⟨131,[.kT],(yJ N)⟩]
noncomputable def GN:Code:=aJ Tryz.f54
noncomputable def ahw (N n:Nat) (key:Nat) (S:St) (K:Ks):Option aa:=bif Nat.beq key 5 then az BR S (fun x=>nU N x.2.1 x.2.2.1 n (fun z0=>K (.x 0) (shape C7 (z0,()))) x.1 x.2.2.2.1) else none
theorem at4 (N key:Nat) (S:St) (K:Ks):ahw N 0 key S K=none:=(bL (aq fun _=>rfl) rfl)
noncomputable def XW:Code:=(af GN).getD 0 .skip
theorem at5:af GN=[XW]:=by kernel_rfl
theorem ahx (N:Nat):fi ahu (ahv N) (ahw N) N 5 BR XW:=fun _ _ _=>by kernel_rfl
theorem at6 (N:Nat):ca Mm (ap3 N) ahu (ahv N) (ahw N N) Tryz.f54:=fun _ _=>by kernel_rfl
theorem at7 {Γ:Gl} (N:Nat):Sound Γ Tryz.prog 54 (XV N):=gW ahu Tryz.f54 GN (at4 N) at5 (at6 N) (rc (ahx N) trivial) ⟨vV N,⟨aot N,⟨Gg N,⟨Lh N,trivial⟩⟩⟩⟩
noncomputable def BS:List Kd:=.v (.sl iZ) .k::dK::dK::.v .bool .k::dK::dK::.v (.sl iZ) .k::.v (.int .i64) .k::.v (.int .i64) .k::dn 20 ([])
noncomputable def C8:List Kd:=.v (.sl iZ) .k::dK::dK::.v .bool .k::dn 25 ([])
noncomputable def ahy:Hint:={ tab,hn:=[],loops:=[(3,BS)],outs:=[(3,2,C8)],bp:=[] }
noncomputable def Mn:List AK:=[.v (.sl iZ) .k]
noncomputable def ap4 (N:Nat) (x:ax Mn) (kf:aa→Option aa):Option aa:=I55 N x.1 (fun r0=>kf ⟨[⟨.bool,.k,r0⟩],[]⟩)
noncomputable def XX (N:Nat):=ao Mn (ap4 N)
noncomputable def ahz (N:Nat):List Entry:=[⟨75,[.val],(nJ N)⟩]
noncomputable def GO:Code:=aJ Tryz.f55
noncomputable def ahA (N n:Nat) (key:Nat) (S:St) (K:Ks):Option aa:=bif Nat.beq key 3 then az BS S (fun x=>qz x.1 x.2.2.1 x.2.2.2.1 n (fun z0=>K (.x 0) (shape C8 (x.1,z0,()))) x.2.1 x.2.2.2.2.1) else none
theorem at8 (N key:Nat) (S:St) (K:Ks):ahA N 0 key S K=none:=(bL (aq fun _=>rfl) rfl)
noncomputable def XY:Code:=(af GO).getD 0 .skip
theorem at9:af GO=[XY]:=by kernel_rfl
theorem ahB (N:Nat):fi ahy (ahz N) (ahA N) N 3 BS XY:=fun _ _ _=>by kernel_rfl
theorem at' (N:Nat):ca Mn (ap4 N) ahy (ahz N) (ahA N N) Tryz.f55:=fun _ _=>by kernel_rfl
theorem aua {Γ:Gl} (N:Nat):Sound Γ Tryz.prog 55 (XX N):=gW ahy Tryz.f55 GO (at8 N) at9 (at' N) (rc (ahB N) trivial) ⟨vV N,trivial⟩
noncomputable def wV:List Kd:=.v (.ptr db) (.o 163 (some 0) .k)::dK::dK::.v (.sl iZ) (.o 102 none .k)::.v (.int .i64) .k::dn 61 ([])
noncomputable def zF:List Kd:=.v (.ptr db) (.o 163 (some 0) .k)::dK::dK::.v (.sl iZ) (.o 102 none .k)::dn 62 ([])
noncomputable def UP:Hint:={ tab,hn:=[(37,.k)],loops:=[(3,wV)],outs:=[(3,2,zF)],bp:=[],w7:=some (0,false) }
noncomputable def Mo:List AK:=[.v (.ptr db) (.o 163 (some 0) .k)]
noncomputable def ahC (N:Nat) (x:ax Mo) (kf:aa→Option aa):Option aa:=ai9 N x.1 (fun r0 z=>kf ⟨[⟨(.sl iZ),(.o 102 none .k),r0⟩],[⟨(.ptr db),(.o 163 (some 0) .k),z⟩]⟩)
noncomputable def QA (N:Nat):=ao Mo (ahC N)
noncomputable def XZ (N:Nat):List Entry:=[⟨137,[.kT,.val],(o9 N)⟩,⟨180,[.val,.val,.val],(GC N)⟩,⟨134,[.kT,.val],(F9 N)⟩]
noncomputable def BT:Code:=aJ Tryz.f217
noncomputable def UQ (N n:Nat) (key:Nat) (S:St) (K:Ks):Option aa:=bif Nat.beq key 3 then az wV S (fun x=>tG N n (fun z0 z1=>K (.x 0) (shape zF (z0,z1,()))) x.1 x.2.1 x.2.2.1) else none
theorem aou (N key:Nat) (S:St) (K:Ks):UQ N 0 key S K=none:=(bL (aq fun _=>rfl) rfl)
noncomputable def QD:Code:=(af BT).getD 0 .skip
theorem aov:af BT=[QD]:=by kernel_rfl
theorem aaZ (N:Nat):fi UP (XZ N) (UQ N) N 3 wV QD:=fun _ _ _=>by kernel_rfl
theorem aow (N:Nat):ca Mo (ahC N) UP (XZ N) (UQ N N) Tryz.f217:=fun _ _=>by kernel_rfl
theorem aox {Γ:Gl} (N:Nat):Sound Γ Tryz.prog 217 (QA N):=gW UP Tryz.f217 BT (aou N) aov (aow N) (rc (aaZ N) trivial) ⟨x7 N,⟨Xv N,⟨Wg N,trivial⟩⟩⟩
noncomputable def ahD:Hint:={ tab,hn:=[],loops:=[],outs:=[],bp:=[(5,(OT.seq [0,1,2,3,5,6,7,8,9,4,10,11,12,13] .done))] }
noncomputable def Mp:List AK:=[.v dd .k,.v (.int .i64) .k]
noncomputable def ahE (N:Nat) (x:ax Mp) (kf:aa→Option aa):Option aa:=ai' N x.1 x.2.1 (fun r0 r1=>kf ⟨[⟨dd,(.p (.o 46 none (.p .k (.p .k (.p .k (.p .k (.p .k (.o 3 none .k))))))) (.p (.o 80 none (.p .k (.p .k (.o 3 none .k)))) (.p (.o 104 none .k) (.p (.o 3 none .k) (.p (.o 136 none .k) (.p (.o 102 none .k) .k)))))),r0⟩,⟨.bool,.k,r1⟩],[]⟩)
noncomputable def QE (N:Nat):=ao Mp (ahE N)
noncomputable def aoy (N:Nat):List Entry:=[⟨90,[.val],(kM N)⟩,⟨200,[.val,.val],(lg N)⟩,⟨94,[.val],(zb N)⟩,⟨173,[.val],(s7 N)⟩,⟨93,[.val,.take,.val,.val,.val],(qS N)⟩]
theorem aoz (N:Nat):ca Mp (ahE N) ahD (aoy N) (fm N N) Tryz.f161:=fun _ _=>by kernel_rfl
theorem aoA {Γ:Gl} (N:Nat):Sound Γ Tryz.prog 161 (QE N):=gJ ahD Tryz.f161 (aoz N) ⟨qQ N,⟨qR N,⟨LJ N,⟨DL N,⟨BC N,trivial⟩⟩⟩⟩⟩
noncomputable def UR:List AK:=[.v dd .k,.v iZ .k]
noncomputable def ap5 (N:Nat) (x:ax UR) (kf:aa→Option aa):Option aa:=S60 N x.1 x.2.1 (fun r0 r1=>kf ⟨[⟨dd,(.p (.o 46 none (.p .k (.p .k (.p .k (.p .k (.p .k (.o 3 none .k))))))) (.p (.o 80 none (.p .k (.p .k (.o 3 none .k)))) (.p (.o 104 none .k) (.p (.o 3 none .k) (.p (.o 136 none .k) (.p (.o 102 none .k) .k)))))),r0⟩,⟨.bool,.k,r1⟩],[]⟩)
noncomputable def X0 (N:Nat):=ao UR (ap5 N)
noncomputable def aub (N:Nat):List Entry:=[⟨141,[.val,.val,.val],(Qt N)⟩,⟨160,[.val,.val,.val],(Qv N)⟩,⟨21,[.val],(XB N)⟩,⟨139,[.val,.val,.val,.val],(Qx N)⟩,⟨27,[.val],(XH N)⟩,⟨161,[.val,.val],(QE N)⟩,⟨90,[.val],(kM N)⟩]
theorem auc (N:Nat):ca UR (ap5 N) hq (aub N) (fm N N) Tryz.f60:=fun _ _=>by kernel_rfl
theorem aud {Γ:Gl} (N:Nat):Sound Γ Tryz.prog 60 (X0 N):=gJ hq Tryz.f60 (auc N) ⟨aoi N,⟨aom N,⟨atC N,⟨aop N,⟨atG N,⟨aoA N,⟨qQ N,trivial⟩⟩⟩⟩⟩⟩⟩
noncomputable def BU:List Kd:=dK::.v (.sl iZ) .k::dK::dK::.v (.ptr dd) (.o 31 none (.p (.o 46 none (.p .k (.p .k (.p .k (.p .k (.p .k (.o 3 none .k))))))) (.p (.o 80 none (.p .k (.p .k (.o 3 none .k)))) (.p (.o 104 none .k) (.p (.o 3 none .k) (.p (.o 136 none .k) (.p (.o 102 none .k) .k)))))))::.v (.ptr dd) (.o 31 none (.p (.o 46 none (.p .k (.p .k (.p .k (.p .k (.p .k (.o 3 none .k))))))) (.p (.o 80 none (.p .k (.p .k (.o 3 none .k)))) (.p (.o 104 none .k) (.p (.o 3 none .k) (.p (.o 136 none .k) (.p (.o 102 none .k) .k)))))))::.v (.int .i64) .k::dn 18 ([])
noncomputable def C9:List Kd:=dn 4 (.v (.ptr dd) (.o 31 none (.p (.o 46 none (.p .k (.p .k (.p .k (.p .k (.p .k (.o 3 none .k))))))) (.p (.o 80 none (.p .k (.p .k (.o 3 none .k)))) (.p (.o 104 none .k) (.p (.o 3 none .k) (.p (.o 136 none .k) (.p (.o 102 none .k) .k)))))))::.v (.ptr dd) (.o 31 none (.p (.o 46 none (.p .k (.p .k (.p .k (.p .k (.p .k (.o 3 none .k))))))) (.p (.o 80 none (.p .k (.p .k (.o 3 none .k)))) (.p (.o 104 none .k) (.p (.o 3 none .k) (.p (.o 136 none .k) (.p (.o 102 none .k) .k)))))))::dn 19 ([]))
noncomputable def ahF:Hint:={ tab,hn:=[],loops:=[(3,BU)],outs:=[(3,2,C9)],bp:=[(5,(OT.seq [0,1,2,3,4,5,6,7,8,9] .done))] }
noncomputable def US:List AK:=[.v dd .k,.v (.sl iZ) .k]
noncomputable def ap6 (N:Nat) (x:ax US) (kf:aa→Option aa):Option aa:=S63 N x.1 x.2.1 (fun r0=>kf ⟨[⟨dd,(.p (.o 46 none (.p .k (.p .k (.p .k (.p .k (.p .k (.o 3 none .k))))))) (.p (.o 80 none (.p .k (.p .k (.o 3 none .k)))) (.p (.o 104 none .k) (.p (.o 3 none .k) (.p (.o 136 none .k) (.p (.o 102 none .k) .k)))))),r0⟩],[]⟩)
noncomputable def X1 (N:Nat):=ao US (ap6 N)
noncomputable def ahG (N:Nat):List Entry:=[⟨90,[.val],(kM N)⟩,⟨60,[.val,.val],(X0 N)⟩]
noncomputable def GP:Code:=aJ Tryz.f63
noncomputable def ahH (N n:Nat) (key:Nat) (S:St) (K:Ks):Option aa:=bif Nat.beq key 3 then az BU S (fun x=>vG N x.1 x.2.1 n (fun z0=>K (.x 0) (shape C9 (x.2.1,z0,()))) x.2.2.1 x.2.2.2.1) else none
theorem aue (N key:Nat) (S:St) (K:Ks):ahH N 0 key S K=none:=(bL (aq fun _=>rfl) rfl)
noncomputable def X4:Code:=(af GP).getD 0 .skip
theorem auf:af GP=[X4]:=by kernel_rfl
theorem ahI (N:Nat):fi ahF (ahG N) (ahH N) N 3 BU X4:=fun _ _ _=>by kernel_rfl
theorem aug (N:Nat):ca US (ap6 N) ahF (ahG N) (ahH N N) Tryz.f63:=fun _ _=>by kernel_rfl
theorem auh {Γ:Gl} (N:Nat):Sound Γ Tryz.prog 63 (X1 N):=gW ahF Tryz.f63 GP (aue N) auf (aug N) (rc (ahI N) trivial) ⟨qQ N,⟨aud N,trivial⟩⟩
noncomputable def Mq:List AK:=[.v (.sl (.int .u8)) .k]
noncomputable def ahJ (N:Nat) (x:ax Mq) (kf:aa→Option aa):Option aa:=ade N x.1 (fun r0=>kf ⟨[⟨(.sl iZ),(.o 102 none .k),r0⟩],[]⟩)
noncomputable def GQ (N:Nat):=ao Mq (ahJ N)
noncomputable def aoB (N:Nat):List Entry:=[⟨12,[.val],(Ka N)⟩,⟨67,[.val],(J4 N)⟩,⟨140,[.kT,.val],(F8 N)⟩,⟨217,[.kT],(QA N)⟩,⟨63,[.val,.val],(X1 N)⟩]
theorem aoC (N:Nat):ca Mq (ahJ N) hq (aoB N) (fm N N) Tryz.f157:=fun _ _=>by kernel_rfl
theorem X5 {Γ:Gl} (N:Nat):Sound Γ Tryz.prog 157 (GQ N):=gJ hq Tryz.f157 (aoC N) ⟨aeD N,⟨aeo N,⟨Wf N,⟨aox N,⟨auh N,trivial⟩⟩⟩⟩⟩
noncomputable def Mr:List AK:=[.v (.sl (.int .u8)) .k]
noncomputable def ap7 (N:Nat) (x:ax Mr) (kf:aa→Option aa):Option aa:=S56 N x.1 (fun r0=>kf ⟨[⟨(.sl iZ),(.o 102 none .k),r0⟩],[]⟩)
noncomputable def X6 (N:Nat):=ao Mr (ap7 N)
noncomputable def aui (N:Nat):List Entry:=[⟨157,[.val],(GQ N)⟩]
theorem auj (N:Nat):ca Mr (ap7 N) hq (aui N) (fm N N) Tryz.f56:=fun _ _=>by kernel_rfl
theorem auk {Γ:Gl} (N:Nat):Sound Γ Tryz.prog 56 (X6 N):=gJ hq Tryz.f56 (auj N) ⟨X5 N,trivial⟩
noncomputable def Ms:List AK:=[.v (.sl (.int .u8)) .k]
noncomputable def ap8 (N:Nat) (x:ax Ms) (kf:aa→Option aa):Option aa:=S57 N x.1 (fun r0=>kf ⟨[⟨(.sl iZ),(.o 102 none .k),r0⟩],[]⟩)
noncomputable def X7 (N:Nat):=ao Ms (ap8 N)
noncomputable def aul (N:Nat):List Entry:=[⟨157,[.val],(GQ N)⟩]
theorem aum (N:Nat):ca Ms (ap8 N) hq (aul N) (fm N N) Tryz.f57:=fun _ _=>by kernel_rfl
theorem aun {Γ:Gl} (N:Nat):Sound Γ Tryz.prog 57 (X7 N):=gJ hq Tryz.f57 (aum N) ⟨X5 N,trivial⟩
noncomputable def wW:List Kd:=.v (.sl (.int .i64)) .k::.v (.int .i64) .k::dn 3 (.v (.sl (.int .i64)) (.o 3 none .k)::.v (.int .i64) .k::dn 21 ([]))
noncomputable def zG:List Kd:=dn 5 (.v (.sl (.int .i64)) (.o 3 none .k)::dn 22 ([]))
noncomputable def UT:Hint:={ tab,hn:=[],loops:=[(3,wW)],outs:=[(3,2,zG)],bp:=[] }
noncomputable def Mt:List AK:=[.v (.sl (.int .i64)) .k,.v (.int .i64) .k]
noncomputable def ahK (N:Nat) (x:ax Mt) (kf:aa→Option aa):Option aa:=adf N x.1 x.2.1 (fun r0=>kf ⟨[⟨(.sl (.int .i64)),(.o 3 none .k),r0⟩],[]⟩)
noncomputable def QF (N:Nat):=ao Mt (ahK N)
noncomputable def BV:Code:=aJ Tryz.f159
noncomputable def UU (N n:Nat) (key:Nat) (S:St) (K:Ks):Option aa:=bif Nat.beq key 3 then az wW S (fun x=>nD x.1 x.2.1 n (fun z0=>K (.x 0) (shape zG (z0,()))) x.2.2.1 x.2.2.2.1) else none
theorem aoD (N key:Nat) (S:St) (K:Ks):UU N 0 key S K=none:=(bL (aq fun _=>rfl) rfl)
noncomputable def QG:Code:=(af BV).getD 0 .skip
theorem aoE:af BV=[QG]:=by kernel_rfl
theorem aa0 (N:Nat):fi UT [] (UU N) N 3 wW QG:=fun _ _ _=>by kernel_rfl
theorem aoF (N:Nat):ca Mt (ahK N) UT [] (UU N N) Tryz.f159:=fun _ _=>by kernel_rfl
theorem aoG {Γ:Gl} (N:Nat):Sound Γ Tryz.prog 159 (QF N):=gW UT Tryz.f159 BV (aoD N) aoE (aoF N) (rc (aa0 N) trivial) trivial
noncomputable def BW:List Kd:=.v (.sl iZ) .k::dK::dK::.v (.sl (.int .i64)) (.o 3 none .k)::.v (.int .i64) .k::dn 35 ([])
noncomputable def C':List Kd:=dn 3 (.v (.sl (.int .i64)) (.o 3 none .k)::dn 36 ([]))
noncomputable def ahL:Hint:={ tab,hn:=[],loops:=[(3,BW)],outs:=[(3,2,C')],bp:=[] }
noncomputable def Mu:List AK:=[.v (.sl iZ) .k]
noncomputable def ap9 (N:Nat) (x:ax Mu) (kf:aa→Option aa):Option aa:=S58 N x.1 (fun r0=>kf ⟨[⟨(.sl (.int .i64)),(.o 3 none .k),r0⟩],[]⟩)
noncomputable def X8 (N:Nat):=ao Mu (ap9 N)
noncomputable def ahM (N:Nat):List Entry:=[⟨158,[.val],(zg N)⟩,⟨127,[.val,.val],(GG N)⟩,⟨159,[.val,.val],(QF N)⟩]
noncomputable def GR:Code:=aJ Tryz.f58
noncomputable def ahN (N n:Nat) (key:Nat) (S:St) (K:Ks):Option aa:=bif Nat.beq key 3 then az BW S (fun x=>qA N x.1 n (fun z0=>K (.x 0) (shape C' (z0,()))) x.2.1 x.2.2.1) else none
theorem auo (N key:Nat) (S:St) (K:Ks):ahN N 0 key S K=none:=(bL (aq fun _=>rfl) rfl)
noncomputable def X9:Code:=(af GR).getD 0 .skip
theorem aup:af GR=[X9]:=by kernel_rfl
theorem ahO (N:Nat):fi ahL (ahM N) (ahN N) N 3 BW X9:=fun _ _ _=>by kernel_rfl
theorem auq (N:Nat):ca Mu (ap9 N) ahL (ahM N) (ahN N N) Tryz.f58:=fun _ _=>by kernel_rfl
theorem aur {Γ:Gl} (N:Nat):Sound Γ Tryz.prog 58 (X8 N):=gW ahL Tryz.f58 GR (auo N) aup (auq N) (rc (ahO N) trivial) ⟨LP N,⟨XG N,⟨aoG N,trivial⟩⟩⟩
noncomputable def BX:List Kd:=.v (.sl (.int .i64)) .k::dK::dK::.v (.int .i64) .k::dn 16 ([])
noncomputable def Da:List Kd:=dn 20 ([])
noncomputable def Db:List Kd:=dK::dK::.v .bool .k::dn 17 ([])
noncomputable def ahP:Hint:={ tab,hn:=[],loops:=[(2,BX)],outs:=[(2,2,Da),(2,1,Db)],bp:=[(4,(OT.seq [0,1,2,3,4,5,6,7,8,9] .done))] }
noncomputable def Mv:List AK:=[.v (.sl (.int .i64)) .k]
noncomputable def ap' (N:Nat) (x:ax Mv) (kf:aa→Option aa):Option aa:=L59 N x.1 (fun r0=>kf ⟨[⟨.bool,.k,r0⟩],[]⟩)
noncomputable def Ya (N:Nat):=ao Mv (ap' N)
noncomputable def GS:Code:=aJ Tryz.f59
noncomputable def ahQ (N n:Nat) (key:Nat) (S:St) (K:Ks):Option aa:=bif Nat.beq key 2 then az BX S (fun x=>AD x.1 n (K (.x 0) (shape Da ())) (fun z0=>K .r (shape Db (z0,()))) x.2.1) else none
theorem aus (N key:Nat) (S:St) (K:Ks):ahQ N 0 key S K=none:=(bL (aq fun _=>rfl) rfl)
noncomputable def Yb:Code:=(af GS).getD 0 .skip
theorem aut:af GS=[Yb]:=by kernel_rfl
theorem ahR (N:Nat):fi ahP [] (ahQ N) N 2 BX Yb:=fun _ _ _=>by kernel_rfl
theorem auu (N:Nat):ca Mv (ap' N) ahP [] (ahQ N N) Tryz.f59:=fun _ _=>by kernel_rfl
theorem auv {Γ:Gl} (N:Nat):Sound Γ Tryz.prog 59 (Ya N):=gW ahP Tryz.f59 GS (aus N) aut (auu N) (rc (ahR N) trivial) trivial
noncomputable def zH:List Kd:=.v (.sl (.int .u8)) .k::dn 4 (.v (.ptr dd) (.o 31 none (.p (.o 46 none (.p .k (.p .k (.p .k (.p .k (.p .k (.o 3 none .k))))))) (.p (.o 80 none (.p .k (.p .k (.o 3 none .k)))) (.p (.o 104 none .k) (.p (.o 3 none .k) (.p (.o 136 none .k) (.p (.o 102 none .k) .k)))))))::.v (.sl (.int .i64)) (.o 3 none .k)::.v (.int .i64) .k::.v (.int .i64) .k::dn 120 ([]))
noncomputable def wX:List Kd:=.v (.sl (.int .u8)) .k::dn 4 (.v (.ptr dd) (.o 31 none (.p (.o 46 none (.p .k (.p .k (.p .k (.p .k (.p .k (.o 3 none .k))))))) (.p (.o 80 none (.p .k (.p .k (.o 3 none .k)))) (.p (.o 104 none .k) (.p (.o 3 none .k) (.p (.o 136 none .k) (.p (.o 102 none .k) .k)))))))::.v (.sl (.int .i64)) (.o 3 none .k)::.v (.int .i64) .k::dn 121 ([]))
noncomputable def tZ:List Kd:=.v (.sl (.int .u8)) .k::dn 4 (.v (.ptr dd) (.o 31 none (.p (.o 46 none (.p .k (.p .k (.p .k (.p .k (.p .k (.o 3 none .k))))))) (.p (.o 80 none (.p .k (.p .k (.o 3 none .k)))) (.p (.o 104 none .k) (.p (.o 3 none .k) (.p (.o 136 none .k) (.p (.o 102 none .k) .k)))))))::dn 3 (.v (.sl (.int .i64)) (.o 3 none .k)::.v (.int .i64) .k::dn 118 ([])))
noncomputable def s9:List Kd:=.v (.sl (.int .u8)) .k::dn 4 (.v (.ptr dd) (.o 31 none (.p (.o 46 none (.p .k (.p .k (.p .k (.p .k (.p .k (.o 3 none .k))))))) (.p (.o 80 none (.p .k (.p .k (.o 3 none .k)))) (.p (.o 104 none .k) (.p (.o 3 none .k) (.p (.o 136 none .k) (.p (.o 102 none .k) .k)))))))::dn 3 (.v (.sl (.int .i64)) (.o 3 none .k)::dn 119 ([])))
noncomputable def ahS:Hint:={ tab,hn:=[],loops:=[(8,zH),(16,tZ)],outs:=[(8,2,wX),(16,4,s9)],bp:=[(11,(OT.seq [0,1,2,3,4,5,6,7,8,9,10,11] .done)),(12,(OT.seq [0,1,3,2,4,5,6,7,8,9,10,11,12,13,14,15,17,18,16,19,20] .done)),(19,(OT.seq [0,1,3,2,4,5,6,7,8,10,9,11,12,13] .done))] }
noncomputable def IC:List AK:=[.v (.sl (.int .u8)) .k]
noncomputable def awp (N:Nat) (x:ax IC) (kf:aa→Option aa):Option aa:=L8 N x.1 (fun r0=>kf ⟨[⟨.bool,.k,r0⟩],[]⟩)
noncomputable def Mw (N:Nat):=ao IC (awp N)
noncomputable def ahT (N:Nat):List Entry:=[⟨11,[.val],(Wc N)⟩,⟨12,[.val],(Ka N)⟩,⟨43,[.val,.val],(XL N)⟩,⟨49,[.val,.val],(XN N)⟩,⟨51,[.val],(XP N)⟩,⟨50,[.val,.val],(XR N)⟩,⟨52,[.val,.val],(Mj N)⟩,⟨53,[.val],(XU N)⟩,⟨54,[.val],(XV N)⟩,⟨55,[.val],(XX N)⟩,⟨16,[.val],(qO N)⟩,⟨56,[.val],(X6 N)⟩,⟨57,[.val],(X7 N)⟩,⟨58,[.val],(X8 N)⟩,⟨59,[.val],(Ya N)⟩]
noncomputable def zI:Code:=aJ Tryz.f8
noncomputable def aoH (N n:Nat) (key:Nat) (S:St) (K:Ks):Option aa:=bif Nat.beq key 8 then az zH S (fun x=>Cn N x.1 x.2.1 n (fun z0 z1=>K (.x 0) (shape wX (x.1,x.2.1,z0,z1,()))) x.2.2.1 x.2.2.2.1 x.2.2.2.2.1) else bif Nat.beq key 16 then az tZ S (fun x=>sI x.1 x.2.1 n (fun z0=>K (.x 2) (shape s9 (x.1,x.2.1,z0,()))) x.2.2.1 x.2.2.2.1) else none
theorem awq (N key:Nat) (S:St) (K:Ks):aoH N 0 key S K=none:=(bL (aq fun _=>rfl) (bL (aq fun _=>rfl) rfl))
noncomputable def ahU:Code:=(af zI).getD 0 .skip
noncomputable def ahV:Code:=(af zI).getD 1 .skip
theorem awr:af zI=[ahU,ahV]:=by kernel_rfl
theorem ahW (N:Nat):fi ahS (ahT N) (aoH N) N 16 tZ ahV:=fun _ _ _=>by kernel_rfl
theorem aoI (N:Nat):fi ahS (ahT N) (aoH N) N 8 zH ahU:=fun _ _ _=>by kernel_rfl
theorem auw (g0:Nat→(List Int)→(Bool→Option aa)→Option aa) (g1:Nat→(List Int)→(QC→(List QL)→Option aa)→Option aa) (g2:Nat→QC→(List QL)→(QC→Option aa)→Option aa) (g3:Nat→(List QL)→Int→(Int→Option aa)→Option aa) (g4:Nat→(List QL)→((List Int)→Option aa)→Option aa) (g5:Nat→(List Int)→(List Int)→(Bool→Option aa)→Option aa) (g6:Nat→(List QL)→Int→(Int→Option aa)→Option aa) (g7:Nat→(List QL)→(Int→Option aa)→Option aa) (g8:Nat→(List QL)→((List Int)→Option aa)→Option aa) (g9:Nat→(List QL)→(Bool→Option aa)→Option aa) (g10:Nat→QC→(Bool→Option aa)→Option aa) (g11:Nat→(List Int)→((List QL)→Option aa)→Option aa) (g12:Nat→(List Int)→((List QL)→Option aa)→Option aa) (g13:Nat→(List QL)→((List Int)→Option aa)→Option aa) (g14:Nat→(List Int)→(Bool→Option aa)→Option aa) (g15:Nat→(List Int)→QC→Nat→((List Int)→Int→Option aa)→(List Int)→Int→Int→Option aa) (g16:(List Int)→QC→Nat→((List Int)→Option aa)→(List Int)→Int→Option aa) (N:Nat) (x:ax IC) (kf:aa→Option aa):arj g0 g1 g2 g3 g4 g5 g6 g7 g8 g9 g10 g11 g12 g13 g14 g15 g16 N x.1 (fun r0=>kf ⟨[⟨.bool,.k,r0⟩],[]⟩)=kd ahS (jf.of [⟨11,[.val],(ao J3 (fun x kf=>g0 N x.1 (fun r0=>kf ⟨[⟨.bool,.k,r0⟩],[]⟩)))⟩,⟨12,[.val],(ao J' (fun x kf=>g1 N x.1 (fun r0 r1=>kf ⟨[⟨dd,(.p (.o 46 none (.p .k (.p .k (.p .k (.p .k (.p .k (.o 3 none .k))))))) (.p (.o 80 none (.p .k (.p .k (.o 3 none .k)))) (.p (.o 104 none .k) (.p (.o 3 none .k) (.p (.o 136 none .k) (.p (.o 102 none .k) .k)))))),r0⟩,⟨(.sl iZ),(.o 38 none .k),r1⟩],[]⟩)))⟩,⟨43,[.val,.val],(ao Me (fun x kf=>g2 N x.1 x.2.1 (fun r0=>kf ⟨[⟨dd,(.p (.o 46 none (.p .k (.p .k (.p .k (.p .k (.p .k (.o 3 none .k))))))) (.p (.o 80 none (.p .k (.p .k (.o 3 none .k)))) (.p (.o 104 none .k) (.p (.o 3 none .k) (.p (.o 136 none .k) (.p (.o 102 none .k) .k)))))),r0⟩],[]⟩)))⟩,⟨49,[.val,.val],(ao Mf (fun x kf=>g3 N x.1 x.2.1 (fun r0=>kf ⟨[⟨(.int .i64),.k,r0⟩],[]⟩)))⟩,⟨51,[.val],(ao Mg (fun x kf=>g4 N x.1 (fun r0=>kf ⟨[⟨(.sl (.int .i64)),(.o 3 none .k),r0⟩],[]⟩)))⟩,⟨50,[.val,.val],(ao Mh (fun x kf=>g5 N x.1 x.2.1 (fun r0=>kf ⟨[⟨.bool,.k,r0⟩],[]⟩)))⟩,⟨52,[.val,.val],(ao Mi (fun x kf=>g6 N x.1 x.2.1 (fun r0=>kf ⟨[⟨(.int .i64),.k,r0⟩],[]⟩)))⟩,⟨53,[.val],(ao Mk (fun x kf=>g7 N x.1 (fun r0=>kf ⟨[⟨(.int .i64),.k,r0⟩],[]⟩)))⟩,⟨54,[.val],(ao Mm (fun x kf=>g8 N x.1 (fun r0=>kf ⟨[⟨(.sl (.int .i64)),(.o 3 none .k),r0⟩],[]⟩)))⟩,⟨55,[.val],(ao Mn (fun x kf=>g9 N x.1 (fun r0=>kf ⟨[⟨.bool,.k,r0⟩],[]⟩)))⟩,⟨16,[.val],(ao Kk (fun x kf=>g10 N x.1 (fun r0=>kf ⟨[⟨.bool,.k,r0⟩],[]⟩)))⟩,⟨56,[.val],(ao Mr (fun x kf=>g11 N x.1 (fun r0=>kf ⟨[⟨(.sl iZ),(.o 102 none .k),r0⟩],[]⟩)))⟩,⟨57,[.val],(ao Ms (fun x kf=>g12 N x.1 (fun r0=>kf ⟨[⟨(.sl iZ),(.o 102 none .k),r0⟩],[]⟩)))⟩,⟨58,[.val],(ao Mu (fun x kf=>g13 N x.1 (fun r0=>kf ⟨[⟨(.sl (.int .i64)),(.o 3 none .k),r0⟩],[]⟩)))⟩,⟨59,[.val],(ao Mv (fun x kf=>g14 N x.1 (fun r0=>kf ⟨[⟨.bool,.k,r0⟩],[]⟩)))⟩]) (fun key S K=>bif Nat.beq key 8 then az zH S (fun x=>g15 N x.1 x.2.1 N (fun z0 z1=>K (.x 0) (shape wX (x.1,x.2.1,z0,z1,()))) x.2.2.1 x.2.2.2.1 x.2.2.2.2.1) else bif Nat.beq key 16 then az tZ S (fun x=>g16 x.1 x.2.1 N (fun z0=>K (.x 2) (shape s9 (x.1,x.2.1,z0,()))) x.2.2.1 x.2.2.2.1) else none) Tryz.f8 (dz IC x) kf:=by kernel_rfl
theorem aws (N:Nat) (x:ax IC) (kf:aa→Option aa):awp N x kf=kd ahS (jf.of (ahT N)) (aoH N N) Tryz.f8 (dz IC x) kf:=auw L11 S12 I43 I49 I51 L50 I52 I53 I54 I55 Vs S56 S57 S58 L59 Cn sI N x kf
theorem awt {Γ:Gl} (N:Nat):Sound Γ Tryz.prog 8 (Mw N):=gW ahS Tryz.f8 zI (awq N) awr (aws N) (rc (aoI N) (rc (ahW N) trivial)) ⟨ar0 N,⟨aeD N,⟨atK N,⟨atO N,⟨atT N,⟨atX N,⟨ahs N,⟨at3 N,⟨at7 N,⟨aua N,⟨AU N,⟨auk N,⟨aun N,⟨aur N,⟨auv N,trivial⟩⟩⟩⟩⟩⟩⟩⟩⟩⟩⟩⟩⟩⟩⟩
end Go.Pv.R
