/- Each function of the program that the law reaches computes its plain function, part 2. -/
import Derived.Test.YtcpakhaogbempaaGreatSnd1
import Derived.Test.YtcpakhaogbempaaGreatProg
namespace Go.Pv.R
open Go.Proofs
set_option linter.unusedVariables false
set_option maxRecDepth 100000
noncomputable def Bu:List Kd:=.v (.sl (.int .i64)) .k::dK::dK::.v (.sl (.int .i64)) (.o 3 none .k)::.v (.int .i64) .k::dn 17 ([])
noncomputable def Dh:List Kd:=dn 3 (.v (.sl (.int .i64)) (.o 3 none .k)::dn 18 ([]))
noncomputable def aif:Hint:={ tab,hn:=[],loops:=[(3,Bu)],outs:=[(3,2,Dh)],bj:=[] }
noncomputable def UP:List AK:=[.v (.sl (.int .i64)) .k]
noncomputable def atP (N:Nat) (x:aw UP) (kf:aa→Option aa):Option aa:=L98 N x.1 (fun r0=>kf ⟨[⟨(.sl (.int .i64)),(.o 3 none .k),r0⟩],[]⟩)
noncomputable def D2 (N:Nat):=au UP (atP N)
noncomputable def GD:Code:=aI Tryz.f98
noncomputable def aih (N n:Nat) (key:Nat) (S:St) (K:Ks):Option aa:=bif Nat.beq key 3 then ay Bu S (fun x=>u6 x.1 n (fun z0=>K (.x 0) (shape Dh (z0,()))) x.2.1 x.2.2.1) else none
theorem axX (N key:Nat) (S:St) (K:Ks):aih N 0 key S K=none:=(bC (aq fun _=>rfl) rfl)
noncomputable def Y2:Code:=(af GD).getD 0 .skip
theorem axY:af GD=[Y2]:=by kernel_rfl
theorem aii (N:Nat):dB aif [] (aih N) N 3 Bu Y2:=fun _ _ _=>by kernel_rfl
theorem axZ (N:Nat):bL UP (atP N) aif [] (aih N N) Tryz.f98:=fun _ _=>by kernel_rfl
theorem UQ {Γ:Gl} (N:Nat):Sound Γ Tryz.prog 98 (D2 N):=eZ aif Tryz.f98 GD (axX N) axY (axZ N) (rc (aii N) trivial) trivial
noncomputable def La:List AK:=[.v bo .k]
noncomputable def aij (N:Nat) (x:aw La) (kf:aa→Option aa):Option aa:=aaP N x.1 (fun r0=>kf ⟨[⟨bo,(.p .k (.p .k (.p .k (.p .k (.p .k (.o 3 none .k)))))),r0⟩],[]⟩)
noncomputable def PU (N:Nat):=au La (aij N)
noncomputable def apa (N:Nat):List Entry:=[⟨98,[.val],(D2 N)⟩]
theorem apb (N:Nat):bL La (aij N) hq (apa N) (dO N N) Tryz.f181:=fun _ _=>by kernel_rfl
theorem apc {Γ:Gl} (N:Nat):Sound Γ Tryz.prog 181 (PU N):=e9 hq Tryz.f181 (apb N) ⟨UQ N,trivial⟩
noncomputable def Bv:List Kd:=.v (.sl bo) .k::dK::dK::.v (.sl bo) (.o 46 none (.p .k (.p .k (.p .k (.p .k (.p .k (.o 3 none .k)))))))::.v (.int .i64) .k::dn 18 ([])
noncomputable def Di:List Kd:=dn 3 (.v (.sl bo) (.o 46 none (.p .k (.p .k (.p .k (.p .k (.p .k (.o 3 none .k)))))))::dn 19 ([]))
noncomputable def aik:Hint:={ tab,hn:=[],loops:=[(3,Bv)],outs:=[(3,2,Di)],bj:=[] }
noncomputable def UR:List AK:=[.v (.sl bo) .k]
noncomputable def atQ (N:Nat) (x:aw UR) (kf:aa→Option aa):Option aa:=L95 N x.1 (fun r0=>kf ⟨[⟨(.sl bo),(.o 46 none (.p .k (.p .k (.p .k (.p .k (.p .k (.o 3 none .k))))))),r0⟩],[]⟩)
noncomputable def Y3 (N:Nat):=au UR (atQ N)
noncomputable def ail (N:Nat):List Entry:=[⟨181,[.val],(PU N)⟩]
noncomputable def GF:Code:=aI Tryz.f95
noncomputable def aim (N n:Nat) (key:Nat) (S:St) (K:Ks):Option aa:=bif Nat.beq key 3 then ay Bv S (fun x=>u7 N x.1 n (fun z0=>K (.x 0) (shape Di (z0,()))) x.2.1 x.2.2.1) else none
theorem ax0 (N key:Nat) (S:St) (K:Ks):aim N 0 key S K=none:=(bC (aq fun _=>rfl) rfl)
noncomputable def Y4:Code:=(af GF).getD 0 .skip
theorem ax1:af GF=[Y4]:=by kernel_rfl
theorem ain (N:Nat):dB aik (ail N) (aim N) N 3 Bv Y4:=fun _ _ _=>by kernel_rfl
theorem ax2 (N:Nat):bL UR (atQ N) aik (ail N) (aim N N) Tryz.f95:=fun _ _=>by kernel_rfl
theorem ax3 {Γ:Gl} (N:Nat):Sound Γ Tryz.prog 95 (Y3 N):=eZ aik Tryz.f95 GF (ax0 N) ax1 (ax2 N) (rc (ain N) trivial) ⟨apc N,trivial⟩
noncomputable def Lb:List AK:=[.v bY .k]
noncomputable def aio (N:Nat) (x:aw Lb) (kf:aa→Option aa):Option aa:=aaQ N x.1 (fun r0=>kf ⟨[⟨bY,(.p .k (.p .k (.o 3 none .k))),r0⟩],[]⟩)
noncomputable def PV (N:Nat):=au Lb (aio N)
noncomputable def apd (N:Nat):List Entry:=[⟨98,[.val],(D2 N)⟩]
theorem ape (N:Nat):bL Lb (aio N) hq (apd N) (dO N N) Tryz.f182:=fun _ _=>by kernel_rfl
theorem apf {Γ:Gl} (N:Nat):Sound Γ Tryz.prog 182 (PV N):=e9 hq Tryz.f182 (ape N) ⟨UQ N,trivial⟩
noncomputable def Bw:List Kd:=.v (.sl bY) .k::dK::dK::.v (.sl bY) (.o 80 none (.p .k (.p .k (.o 3 none .k))))::.v (.int .i64) .k::dn 18 ([])
noncomputable def Dj:List Kd:=dn 3 (.v (.sl bY) (.o 80 none (.p .k (.p .k (.o 3 none .k))))::dn 19 ([]))
noncomputable def aip:Hint:={ tab,hn:=[],loops:=[(3,Bw)],outs:=[(3,2,Dj)],bj:=[] }
noncomputable def US:List AK:=[.v (.sl bY) .k]
noncomputable def atS (N:Nat) (x:aw US) (kf:aa→Option aa):Option aa:=L96 N x.1 (fun r0=>kf ⟨[⟨(.sl bY),(.o 80 none (.p .k (.p .k (.o 3 none .k)))),r0⟩],[]⟩)
noncomputable def Y5 (N:Nat):=au US (atS N)
noncomputable def aiq (N:Nat):List Entry:=[⟨182,[.val],(PV N)⟩]
noncomputable def GG:Code:=aI Tryz.f96
noncomputable def air (N n:Nat) (key:Nat) (S:St) (K:Ks):Option aa:=bif Nat.beq key 3 then ay Bw S (fun x=>u9 N x.1 n (fun z0=>K (.x 0) (shape Dj (z0,()))) x.2.1 x.2.2.1) else none
theorem ax4 (N key:Nat) (S:St) (K:Ks):air N 0 key S K=none:=(bC (aq fun _=>rfl) rfl)
noncomputable def Y6:Code:=(af GG).getD 0 .skip
theorem ax5:af GG=[Y6]:=by kernel_rfl
theorem ais (N:Nat):dB aip (aiq N) (air N) N 3 Bw Y6:=fun _ _ _=>by kernel_rfl
theorem ax6 (N:Nat):bL US (atS N) aip (aiq N) (air N N) Tryz.f96:=fun _ _=>by kernel_rfl
theorem ax7 {Γ:Gl} (N:Nat):Sound Γ Tryz.prog 96 (Y5 N):=eZ aip Tryz.f96 GG (ax4 N) ax5 (ax6 N) (rc (ais N) trivial) ⟨apf N,trivial⟩
noncomputable def Lc:List AK:=[.v aP .k]
noncomputable def ait (N:Nat) (x:aw Lc) (kf:aa→Option aa):Option aa:=aaR N x.1 (fun r0=>kf ⟨[⟨aP,.k,r0⟩],[]⟩)
noncomputable def PW (N:Nat):=au Lc (ait N)
theorem apg (N:Nat):bL Lc (ait N) hq [] (dO N N) Tryz.f183:=fun _ _=>by kernel_rfl
theorem aph {Γ:Gl} (N:Nat):Sound Γ Tryz.prog 183 (PW N):=e9 hq Tryz.f183 (apg N) trivial
noncomputable def Bx:List Kd:=.v (.sl aP) .k::dK::dK::.v (.sl aP) (.o 104 none .k)::.v (.int .i64) .k::dn 18 ([])
noncomputable def Dk:List Kd:=dn 3 (.v (.sl aP) (.o 104 none .k)::dn 19 ([]))
noncomputable def aiu:Hint:={ tab,hn:=[],loops:=[(3,Bx)],outs:=[(3,2,Dk)],bj:=[] }
noncomputable def UT:List AK:=[.v (.sl aP) .k]
noncomputable def atT (N:Nat) (x:aw UT) (kf:aa→Option aa):Option aa:=L97 N x.1 (fun r0=>kf ⟨[⟨(.sl aP),(.o 104 none .k),r0⟩],[]⟩)
noncomputable def Y7 (N:Nat):=au UT (atT N)
noncomputable def aiv (N:Nat):List Entry:=[⟨183,[.val],(PW N)⟩]
noncomputable def GH:Code:=aI Tryz.f97
noncomputable def aiw (N n:Nat) (key:Nat) (S:St) (K:Ks):Option aa:=bif Nat.beq key 3 then ay Bx S (fun x=>va N x.1 n (fun z0=>K (.x 0) (shape Dk (z0,()))) x.2.1 x.2.2.1) else none
theorem ax8 (N key:Nat) (S:St) (K:Ks):aiw N 0 key S K=none:=(bC (aq fun _=>rfl) rfl)
noncomputable def Y8:Code:=(af GH).getD 0 .skip
theorem ax9:af GH=[Y8]:=by kernel_rfl
theorem aix (N:Nat):dB aiu (aiv N) (aiw N) N 3 Bx Y8:=fun _ _ _=>by kernel_rfl
theorem ax' (N:Nat):bL UT (atT N) aiu (aiv N) (aiw N N) Tryz.f97:=fun _ _=>by kernel_rfl
theorem aya {Γ:Gl} (N:Nat):Sound Γ Tryz.prog 97 (Y7 N):=eZ aiu Tryz.f97 GH (ax8 N) ax9 (ax' N) (rc (aix N) trivial) ⟨aph N,trivial⟩
noncomputable def Ld:List AK:=[.v dh .k]
noncomputable def aiy (N:Nat) (x:aw Ld) (kf:aa→Option aa):Option aa:=aaS N x.1 (fun r0=>kf ⟨[⟨dh,.k,r0⟩],[]⟩)
noncomputable def PX (N:Nat):=au Ld (aiy N)
theorem api (N:Nat):bL Ld (aiy N) hq [] (dO N N) Tryz.f184:=fun _ _=>by kernel_rfl
theorem apj {Γ:Gl} (N:Nat):Sound Γ Tryz.prog 184 (PX N):=e9 hq Tryz.f184 (api N) trivial
noncomputable def By:List Kd:=.v (.sl dh) .k::dK::dK::.v (.sl dh) (.o 136 none .k)::.v (.int .i64) .k::dn 18 ([])
noncomputable def Dl:List Kd:=dn 3 (.v (.sl dh) (.o 136 none .k)::dn 19 ([]))
noncomputable def aiz:Hint:={ tab,hn:=[],loops:=[(3,By)],outs:=[(3,2,Dl)],bj:=[] }
noncomputable def UU:List AK:=[.v (.sl dh) .k]
noncomputable def atU (N:Nat) (x:aw UU) (kf:aa→Option aa):Option aa:=L99 N x.1 (fun r0=>kf ⟨[⟨(.sl dh),(.o 136 none .k),r0⟩],[]⟩)
noncomputable def Y9 (N:Nat):=au UU (atU N)
noncomputable def aiA (N:Nat):List Entry:=[⟨184,[.val],(PX N)⟩]
noncomputable def GI:Code:=aI Tryz.f99
noncomputable def aiB (N n:Nat) (key:Nat) (S:St) (K:Ks):Option aa:=bif Nat.beq key 3 then ay By S (fun x=>vd N x.1 n (fun z0=>K (.x 0) (shape Dl (z0,()))) x.2.1 x.2.2.1) else none
theorem ayb (N key:Nat) (S:St) (K:Ks):aiB N 0 key S K=none:=(bC (aq fun _=>rfl) rfl)
noncomputable def Y':Code:=(af GI).getD 0 .skip
theorem ayc:af GI=[Y']:=by kernel_rfl
theorem aiC (N:Nat):dB aiz (aiA N) (aiB N) N 3 By Y':=fun _ _ _=>by kernel_rfl
theorem ayd (N:Nat):bL UU (atU N) aiz (aiA N) (aiB N N) Tryz.f99:=fun _ _=>by kernel_rfl
theorem aye {Γ:Gl} (N:Nat):Sound Γ Tryz.prog 99 (Y9 N):=eZ aiz Tryz.f99 GI (ayb N) ayc (ayd N) (rc (aiC N) trivial) ⟨apj N,trivial⟩
noncomputable def Le:List AK:=[.v bW .k]
noncomputable def aiD (N:Nat) (x:aw Le) (kf:aa→Option aa):Option aa:=aaT N x.1 (fun r0=>kf ⟨[⟨bW,.k,r0⟩],[]⟩)
noncomputable def PY (N:Nat):=au Le (aiD N)
theorem apk (N:Nat):bL Le (aiD N) hq [] (dO N N) Tryz.f185:=fun _ _=>by kernel_rfl
theorem apl {Γ:Gl} (N:Nat):Sound Γ Tryz.prog 185 (PY N):=e9 hq Tryz.f185 (apk N) trivial
noncomputable def vU:List Kd:=.v (.sl bW) .k::dK::dK::.v (.sl bW) (.o 102 none .k)::.v (.int .i64) .k::dn 18 ([])
noncomputable def yz:List Kd:=dn 3 (.v (.sl bW) (.o 102 none .k)::dn 19 ([]))
noncomputable def UW:Hint:={ tab,hn:=[],loops:=[(3,vU)],outs:=[(3,2,yz)],bj:=[] }
noncomputable def Lg:List AK:=[.v (.sl bW) .k]
noncomputable def aiE (N:Nat) (x:aw Lg) (kf:aa→Option aa):Option aa:=ak6 N x.1 (fun r0=>kf ⟨[⟨(.sl bW),(.o 102 none .k),r0⟩],[]⟩)
noncomputable def PZ (N:Nat):=au Lg (aiE N)
noncomputable def Za (N:Nat):List Entry:=[⟨185,[.val],(PY N)⟩]
noncomputable def Bz:Code:=aI Tryz.f100
noncomputable def UX (N n:Nat) (key:Nat) (S:St) (K:Ks):Option aa:=bif Nat.beq key 3 then ay vU S (fun x=>pI N x.1 n (fun z0=>K (.x 0) (shape yz (z0,()))) x.2.1 x.2.2.1) else none
theorem apm (N key:Nat) (S:St) (K:Ks):UX N 0 key S K=none:=(bC (aq fun _=>rfl) rfl)
noncomputable def P1:Code:=(af Bz).getD 0 .skip
theorem apn:af Bz=[P1]:=by kernel_rfl
theorem aci (N:Nat):dB UW (Za N) (UX N) N 3 vU P1:=fun _ _ _=>by kernel_rfl
theorem apo (N:Nat):bL Lg (aiE N) UW (Za N) (UX N N) Tryz.f100:=fun _ _=>by kernel_rfl
theorem apq {Γ:Gl} (N:Nat):Sound Γ Tryz.prog 100 (PZ N):=eZ UW Tryz.f100 Bz (apm N) apn (apo N) (rc (aci N) trivial) ⟨apl N,trivial⟩
noncomputable def UY:List AK:=[.v bM .k]
noncomputable def atV (N:Nat) (x:aw UY) (kf:aa→Option aa):Option aa:=L22 N x.1 (fun r0=>kf ⟨[⟨bM,(.p (.o 46 none (.p .k (.p .k (.p .k (.p .k (.p .k (.o 3 none .k))))))) (.p (.o 80 none (.p .k (.p .k (.o 3 none .k)))) (.p (.o 104 none .k) (.p (.o 3 none .k) (.p (.o 136 none .k) (.p (.o 102 none .k) .k)))))),r0⟩],[]⟩)
noncomputable def Zb (N:Nat):=au UY (atV N)
noncomputable def ayf (N:Nat):List Entry:=[⟨95,[.val],(Y3 N)⟩,⟨96,[.val],(Y5 N)⟩,⟨97,[.val],(Y7 N)⟩,⟨98,[.val],(D2 N)⟩,⟨99,[.val],(Y9 N)⟩,⟨100,[.val],(PZ N)⟩]
theorem ayg (N:Nat):bL UY (atV N) hq (ayf N) (dO N N) Tryz.f22:=fun _ _=>by kernel_rfl
theorem ayh {Γ:Gl} (N:Nat):Sound Γ Tryz.prog 22 (Zb N):=e9 hq Tryz.f22 (ayg N) ⟨ax3 N,⟨ax7 N,⟨aya N,⟨UQ N,⟨aye N,⟨apq N,trivial⟩⟩⟩⟩⟩⟩
noncomputable def vV:List Kd:=.v (.sl bo) .k::dK::dK::.v (.sl bo) (.o 46 none (.p .k (.p .k (.p .k (.p .k (.p .k (.o 3 none .k)))))))::.v (.int .i64) .k::dn 22 ([])
noncomputable def yA:List Kd:=dn 3 (.v (.sl bo) (.o 46 none (.p .k (.p .k (.p .k (.p .k (.p .k (.o 3 none .k)))))))::dn 23 ([]))
noncomputable def UZ:Hint:={ tab,hn:=[(6,(.p .k (.p .k (.p .k (.p .k (.p .k (.o 3 none .k)))))))],loops:=[(3,vV)],outs:=[(3,2,yA)],bj:=[] }
noncomputable def Lh:List AK:=[.v (.sl bo) .k]
noncomputable def aiF (N:Nat) (x:aw Lh) (kf:aa→Option aa):Option aa:=FC N x.1 (fun r0=>kf ⟨[⟨(.sl bo),(.o 46 none (.p .k (.p .k (.p .k (.p .k (.p .k (.o 3 none .k))))))),r0⟩],[]⟩)
noncomputable def sw (N:Nat):=au Lh (aiF N)
noncomputable def BA:Code:=aI Tryz.f173
noncomputable def U0 (N n:Nat) (key:Nat) (S:St) (K:Ks):Option aa:=bif Nat.beq key 3 then ay vV S (fun x=>pJ x.1 n (fun z0=>K (.x 0) (shape yA (z0,()))) x.2.1 x.2.2.1) else none
theorem apr (N key:Nat) (S:St) (K:Ks):U0 N 0 key S K=none:=(bC (aq fun _=>rfl) rfl)
noncomputable def P3:Code:=(af BA).getD 0 .skip
theorem aps:af BA=[P3]:=by kernel_rfl
theorem acj (N:Nat):dB UZ [] (U0 N) N 3 vV P3:=fun _ _ _=>by kernel_rfl
theorem apt (N:Nat):bL Lh (aiF N) UZ [] (U0 N N) Tryz.f173:=fun _ _=>by kernel_rfl
theorem D3 {Γ:Gl} (N:Nat):Sound Γ Tryz.prog 173 (sw N):=eZ UZ Tryz.f173 BA (apr N) aps (apt N) (rc (acj N) trivial) trivial
noncomputable def vW:List Kd:=.v (.sl bY) .k::dK::dK::.v (.sl bY) (.o 80 none (.p .k (.p .k (.o 3 none .k))))::.v (.int .i64) .k::dn 22 ([])
noncomputable def yB:List Kd:=dn 3 (.v (.sl bY) (.o 80 none (.p .k (.p .k (.o 3 none .k))))::dn 23 ([]))
noncomputable def U1:Hint:={ tab,hn:=[(6,(.p .k (.p .k (.o 3 none .k))))],loops:=[(3,vW)],outs:=[(3,2,yB)],bj:=[] }
noncomputable def Li:List AK:=[.v (.sl bY) .k]
noncomputable def aiG (N:Nat) (x:aw Li) (kf:aa→Option aa):Option aa:=SX N x.1 (fun r0=>kf ⟨[⟨(.sl bY),(.o 80 none (.p .k (.p .k (.o 3 none .k)))),r0⟩],[]⟩)
noncomputable def GJ (N:Nat):=au Li (aiG N)
noncomputable def BB:Code:=aI Tryz.f174
noncomputable def U2 (N n:Nat) (key:Nat) (S:St) (K:Ks):Option aa:=bif Nat.beq key 3 then ay vW S (fun x=>pK x.1 n (fun z0=>K (.x 0) (shape yB (z0,()))) x.2.1 x.2.2.1) else none
theorem apu (N key:Nat) (S:St) (K:Ks):U2 N 0 key S K=none:=(bC (aq fun _=>rfl) rfl)
noncomputable def P4:Code:=(af BB).getD 0 .skip
theorem apv:af BB=[P4]:=by kernel_rfl
theorem ack (N:Nat):dB U1 [] (U2 N) N 3 vW P4:=fun _ _ _=>by kernel_rfl
theorem apw (N:Nat):bL Li (aiG N) U1 [] (U2 N N) Tryz.f174:=fun _ _=>by kernel_rfl
theorem Zc {Γ:Gl} (N:Nat):Sound Γ Tryz.prog 174 (GJ N):=eZ U1 Tryz.f174 BB (apu N) apv (apw N) (rc (ack N) trivial) trivial
noncomputable def atW:Hint:={ tab,hn:=[],loops:=[],outs:=[],bj:=[(1,(OT.seq [0,1,3,4,7,8,11,15,19,22] (.any [2,5,6,9,10,12,13,14,16,17,18,20,21,23] (OT.seq [24,25] .done))))] }
noncomputable def U3:List AK:=[.v bM .k]
noncomputable def atX (N:Nat) (x:aw U3) (kf:aa→Option aa):Option aa:=SY N x.1 (fun r0=>kf ⟨[⟨bM,(.p (.o 46 none (.p .k (.p .k (.p .k (.p .k (.p .k (.o 3 none .k))))))) (.p (.o 80 none (.p .k (.p .k (.o 3 none .k)))) (.p (.o 104 none .k) (.p (.o 3 none .k) (.p (.o 136 none .k) (.p (.o 102 none .k) .k)))))),r0⟩],[]⟩)
noncomputable def kn (N:Nat):=au U3 (atX N)
noncomputable def ayi (N:Nat):List Entry:=[⟨173,[.val],(sw N)⟩,⟨174,[.val],(GJ N)⟩]
theorem ayj (N:Nat):bL U3 (atX N) atW (ayi N) (dO N N) Tryz.f90:=fun _ _=>by kernel_rfl
theorem qq {Γ:Gl} (N:Nat):Sound Γ Tryz.prog 90 (kn N):=e9 atW Tryz.f90 (ayj N) ⟨D3 N,⟨Zc N,trivial⟩⟩
noncomputable def Lj:List AK:=[.v (.int .i64) .k,.v (.int .i64) .k,.v (.int .i64) .k]
noncomputable def aiH (N:Nat) (x:aw Lj) (kf:aa→Option aa):Option aa:=gy N x.1 x.2.1 x.2.2.1 (fun r0=>kf ⟨[⟨.bool,.k,r0⟩],[]⟩)
noncomputable def jo (N:Nat):=au Lj (aiH N)
theorem apx (N:Nat):bL Lj (aiH N) hq [] (dO N N) Tryz.f195:=fun _ _=>by kernel_rfl
theorem nr {Γ:Gl} (N:Nat):Sound Γ Tryz.prog 195 (jo N):=e9 hq Tryz.f195 (apx N) trivial
noncomputable def vX:List Kd:=.v (.sl bo) .k::.v (.int .i64) .k::dn 3 (.v (.int .i64) .k::dn 14 ([]))
noncomputable def yC:List Kd:=dn 20 ([])
noncomputable def yD:List Kd:=dn 4 (.v (.int .i64) .k::dn 15 ([]))
noncomputable def U4:Hint:={ tab,hn:=[],loops:=[(2,vX)],outs:=[(2,2,yC),(2,1,yD)],bj:=[] }
noncomputable def Lk:List AK:=[.v (.sl bo) .k,.v (.int .i64) .k]
noncomputable def aiI (N:Nat) (x:aw Lk) (kf:aa→Option aa):Option aa:=ve N x.1 x.2.1 (fun r0=>kf ⟨[⟨(.int .i64),.k,r0⟩],[]⟩)
noncomputable def kJ (N:Nat):=au Lk (aiI N)
noncomputable def BC:Code:=aI Tryz.f200
noncomputable def U5 (N n:Nat) (key:Nat) (S:St) (K:Ks):Option aa:=bif Nat.beq key 2 then ay vX S (fun x=>pL x.1 x.2.1 n (K (.x 0) (shape yC ())) (fun z0=>K .r (shape yD (z0,()))) x.2.2.1) else none
theorem apy (N key:Nat) (S:St) (K:Ks):U5 N 0 key S K=none:=(bC (aq fun _=>rfl) rfl)
noncomputable def P5:Code:=(af BC).getD 0 .skip
theorem apz:af BC=[P5]:=by kernel_rfl
theorem acm (N:Nat):dB U4 [] (U5 N) N 2 vX P5:=fun _ _ _=>by kernel_rfl
theorem apA (N:Nat):bL Lk (aiI N) U4 [] (U5 N N) Tryz.f200:=fun _ _=>by kernel_rfl
theorem qs {Γ:Gl} (N:Nat):Sound Γ Tryz.prog 200 (kJ N):=eZ U4 Tryz.f200 BC (apy N) apz (apA N) (rc (acm N) trivial) trivial
noncomputable def vY:List Kd:=.v (.sl (.int .i64)) .k::.v (.int .i64) .k::dn 3 (.v (.int .i64) .k::.v (.int .i64) .k::dn 15 ([]))
noncomputable def yE:List Kd:=dn 5 (.v (.int .i64) .k::dn 16 ([]))
noncomputable def U6:Hint:={ tab,hn:=[],loops:=[(3,vY)],outs:=[(3,2,yE)],bj:=[] }
noncomputable def Ll:List AK:=[.v (.sl (.int .i64)) .k,.v (.int .i64) .k]
noncomputable def aiJ (N:Nat) (x:aw Ll) (kf:aa→Option aa):Option aa:=SZ N x.1 x.2.1 (fun r0=>kf ⟨[⟨(.int .i64),.k,r0⟩],[]⟩)
noncomputable def P6 (N:Nat):=au Ll (aiJ N)
noncomputable def BD:Code:=aI Tryz.f220
noncomputable def U7 (N n:Nat) (key:Nat) (S:St) (K:Ks):Option aa:=bif Nat.beq key 3 then ay vY S (fun x=>mZ x.1 x.2.1 n (fun z0=>K (.x 0) (shape yE (z0,()))) x.2.2.1 x.2.2.2.1) else none
theorem apB (N key:Nat) (S:St) (K:Ks):U7 N 0 key S K=none:=(bC (aq fun _=>rfl) rfl)
noncomputable def P7:Code:=(af BD).getD 0 .skip
theorem apC:af BD=[P7]:=by kernel_rfl
theorem acn (N:Nat):dB U6 [] (U7 N) N 3 vY P7:=fun _ _ _=>by kernel_rfl
theorem apD (N:Nat):bL Ll (aiJ N) U6 [] (U7 N N) Tryz.f220:=fun _ _=>by kernel_rfl
theorem apE {Γ:Gl} (N:Nat):Sound Γ Tryz.prog 220 (P6 N):=eZ U6 Tryz.f220 BD (apB N) apC (apD N) (rc (acn N) trivial) trivial
noncomputable def vZ:List Kd:=.v (.sl bo) .k::dK::dK::.v (.int .i64) .k::.v (.ptr bo) (.o 46 none .k)::.v (.int .i64) .k::dn 109 ([])
noncomputable def yF:List Kd:=.v (.sl bo) .k::dK::dK::.v (.int .i64) .k::dn 111 ([])
noncomputable def yG:List Kd:=dK::dK::.v .bool .k::dn 112 ([])
noncomputable def v7:List Kd:=.v (.sl bo) .k::dK::dK::.v (.int .i64) .k::dn 111 ([])
noncomputable def yH:List Kd:=.v (.sl bo) .k::dn 114 ([])
noncomputable def yI:List Kd:=dK::dK::.v .bool .k::dn 112 ([])
noncomputable def Lm:Hint:={ tab,hn:=[],loops:=[(8,vZ),(2,v7)],outs:=[(8,4,yF),(8,1,yG),(2,2,yH),(2,1,yI)],bj:=[(5,(OT.seq [0,1,2,3,4,5,6,7,8,9,10,11,12,13,14,15,16,17,18,19,20,21,22,23,24,25,26,27,28,29,30,31,32,33,34,35,36,37,38,39,40,41,42,43,44,45,46,47,48,49,50,51,52,53,54] .done)),(11,(OT.seq [0,1,2,3,4,5,6,7,8,9,10,11,12,13,14,16,17,18,19,20,21,22,15,23,24,25] .done))] }
noncomputable def Ln:List AK:=[.v (.sl bo) .k]
noncomputable def aiK (N:Nat) (x:aw Ln) (kf:aa→Option aa):Option aa:=tF N x.1 (fun r0=>kf ⟨[⟨.bool,.k,r0⟩],[]⟩)
noncomputable def gU (N:Nat):=au Ln (aiK N)
noncomputable def Lo (N:Nat):List Entry:=[⟨195,[.val,.val,.val],(jo N)⟩,⟨200,[.val,.val],(kJ N)⟩,⟨220,[.val,.val],(P6 N)⟩]
noncomputable def tw:Code:=aI Tryz.f175
noncomputable def Lp (N n:Nat) (key:Nat) (S:St) (K:Ks):Option aa:=bif Nat.beq key 2 then ay v7 S (fun x=>m5 N x.1 n (K (.x 0) (shape yH (x.1,()))) (fun z0=>K .r (shape yI (z0,()))) x.2.1) else bif Nat.beq key 8 then ay vZ S (fun x=>ja N x.1 x.2.1 x.2.2.1 n (K (.x 2) (shape yF (x.1,x.2.1,()))) (fun z0=>K .r (shape yG (z0,()))) x.2.2.2.1) else none
theorem apF (N key:Nat) (S:St) (K:Ks):Lp N 0 key S K=none:=(bC (aq fun _=>rfl) (bC (aq fun _=>rfl) rfl))
noncomputable def P8:Code:=(af tw).getD 0 .skip
noncomputable def P9:Code:=(af tw).getD 1 .skip
theorem apG:af tw=[P8,P9]:=by kernel_rfl
theorem aco (N:Nat):dB Lm (Lo N) (Lp N) N 8 vZ P9:=fun _ _ _=>by kernel_rfl
theorem acp (N:Nat):dB Lm (Lo N) (Lp N) N 2 v7 P8:=fun _ _ _=>by kernel_rfl
theorem apH (N:Nat):bL Ln (aiK N) Lm (Lo N) (Lp N N) Tryz.f175:=fun _ _=>by kernel_rfl
theorem lG {Γ:Gl} (N:Nat):Sound Γ Tryz.prog 175 (gU N):=eZ Lm Tryz.f175 tw (apF N) apG (apH N) (rc (acp N) (rc (aco N) trivial)) ⟨nr N,⟨qs N,⟨apE N,trivial⟩⟩⟩
noncomputable def Lq:List AK:=[.v bo .k,.v bo .k]
noncomputable def aiL (N:Nat) (x:aw Lq) (kf:aa→Option aa):Option aa:=aeU N x.1 x.2.1 (fun r0=>kf ⟨[⟨.bool,.k,r0⟩],[]⟩)
noncomputable def GK (N:Nat):=au Lq (aiL N)
theorem apI (N:Nat):bL Lq (aiL N) hq [] (dO N N) Tryz.f223:=fun _ _=>by kernel_rfl
theorem Zd {Γ:Gl} (N:Nat):Sound Γ Tryz.prog 223 (GK N):=e9 hq Tryz.f223 (apI N) trivial
noncomputable def v8:List Kd:=.v (.sl bo) .k::dK::dK::.v (.sl bo) (.o 46 none .k)::.v (.int .i64) .k::.v (.int .i64) .k::dn 62 ([])
noncomputable def yJ:List Kd:=.v (.sl bo) .k::dK::dK::.v (.sl bo) (.o 46 none .k)::.v (.int .i64) .k::.v (.int .i64) .k::dn 62 ([])
noncomputable def wa:List Kd:=.v (.sl bo) .k::dK::dK::.v (.sl bo) (.o 46 none .k)::.v (.int .i64) .k::dn 63 ([])
noncomputable def yK:List Kd:=dn 3 (.v (.sl bo) (.o 46 none .k)::dn 64 ([]))
noncomputable def sx:List Kd:=dn 3 (.v (.sl bo) (.o 46 none .k)::dK::dK::.v (.sl (.int .i64)) (.o 3 none .k)::.v (.int .i64) .k::dn 60 ([]))
noncomputable def uf:List Kd:=dn 6 (.v (.sl (.int .i64)) (.o 3 none .k)::dn 61 ([]))
noncomputable def GL:Hint:={ tab,hn:=[],loops:=[(6,v8),(3,wa),(11,sx)],outs:=[(6,4,yJ),(3,2,yK),(11,6,uf)],bj:=[(6,(OT.seq [0,1,2,3,4,5,6,7,8,9,10,11,12,13] .done)),(8,(OT.seq [1,2,3,5,6,7,11,12,13] (.par [0,4,8,9] [[44,45,46]] (OT.seq [10,14,15] .done))))] }
noncomputable def Lr:List AK:=[.v (.sl bo) .k]
noncomputable def aiM (N:Nat) (x:aw Lr) (kf:aa→Option aa):Option aa:=ak7 N x.1 (fun r0=>kf ⟨[⟨(.sl (.int .i64)),(.o 3 none .k),r0⟩],[]⟩)
noncomputable def P' (N:Nat):=au Lr (aiM N)
noncomputable def D4 (N:Nat):List Entry:=[⟨175,[.val],(gU N)⟩,⟨223,[.val,.val],(GK N)⟩]
noncomputable def oz:Code:=aI Tryz.f177
noncomputable def GM (N n:Nat) (key:Nat) (S:St) (K:Ks):Option aa:=bif Nat.beq key 3 then ay wa S (fun x=>pO N x.1 n (fun z0=>K (.x 0) (shape yK (z0,()))) x.2.1 x.2.2.1) else bif Nat.beq key 6 then ay v8 S (fun x=>pN N x.1 x.2.1 x.2.2.1 n (fun z0=>K (.x 2) (shape yJ (x.1,x.2.1,x.2.2.1,z0,()))) x.2.2.2.1) else bif Nat.beq key 11 then ay sx S (fun x=>kG x.1 n (fun z0=>K (.x 4) (shape uf (z0,()))) x.2.1 x.2.2.1) else none
theorem apJ (N key:Nat) (S:St) (K:Ks):GM N 0 key S K=none:=(bC (aq fun _=>rfl) (bC (aq fun _=>rfl) (bC (aq fun _=>rfl) rfl)))
noncomputable def Qa:Code:=(af oz).getD 0 .skip
noncomputable def Qb:Code:=(af oz).getD 1 .skip
noncomputable def Qc:Code:=(af oz).getD 2 .skip
theorem apK:af oz=[Qa,Qb,Qc]:=by kernel_rfl
theorem U8 (N:Nat):dB GL (D4 N) (GM N) N 11 sx Qc:=fun _ _ _=>by kernel_rfl
theorem acq (N:Nat):dB GL (D4 N) (GM N) N 6 v8 Qb:=fun _ _ _=>by kernel_rfl
theorem acr (N:Nat):dB GL (D4 N) (GM N) N 3 wa Qa:=fun _ _ _=>by kernel_rfl
theorem apL (N:Nat):bL Lr (aiM N) GL (D4 N) (GM N N) Tryz.f177:=fun _ _=>by kernel_rfl
theorem apM {Γ:Gl} (N:Nat):Sound Γ Tryz.prog 177 (P' N):=eZ GL Tryz.f177 oz (apJ N) apK (apL N) (rc (acr N) (rc (acq N) (rc (U8 N) trivial))) ⟨lG N,⟨Zd N,trivial⟩⟩
noncomputable def wb:List Kd:=.v (.sl (.int .i64)) .k::.v (.int .i64) .k::dn 3 (.v (.int .i64) .k::dn 12 ([]))
noncomputable def yL:List Kd:=dn 18 ([])
noncomputable def yM:List Kd:=dn 4 (.v .bool .k::dn 13 ([]))
noncomputable def U9:Hint:={ tab,hn:=[],loops:=[(2,wb)],outs:=[(2,2,yL),(2,1,yM)],bj:=[] }
noncomputable def Ls:List AK:=[.v (.sl (.int .i64)) .k,.v (.int .i64) .k]
noncomputable def aiN (N:Nat) (x:aw Ls) (kf:aa→Option aa):Option aa:=vf N x.1 x.2.1 (fun r0=>kf ⟨[⟨.bool,.k,r0⟩],[]⟩)
noncomputable def oA (N:Nat):=au Ls (aiN N)
noncomputable def BE:Code:=aI Tryz.f224
noncomputable def U' (N n:Nat) (key:Nat) (S:St) (K:Ks):Option aa:=bif Nat.beq key 2 then ay wb S (fun x=>pP x.1 x.2.1 n (K (.x 0) (shape yL ())) (fun z0=>K .r (shape yM (z0,()))) x.2.2.1) else none
theorem apN (N key:Nat) (S:St) (K:Ks):U' N 0 key S K=none:=(bC (aq fun _=>rfl) rfl)
noncomputable def Qd:Code:=(af BE).getD 0 .skip
theorem apO:af BE=[Qd]:=by kernel_rfl
theorem acs (N:Nat):dB U9 [] (U' N) N 2 wb Qd:=fun _ _ _=>by kernel_rfl
theorem apP (N:Nat):bL Ls (aiN N) U9 [] (U' N N) Tryz.f224:=fun _ _=>by kernel_rfl
theorem yN {Γ:Gl} (N:Nat):Sound Γ Tryz.prog 224 (oA N):=eZ U9 Tryz.f224 BE (apN N) apO (apP N) (rc (acs N) trivial) trivial
noncomputable def Lt:List AK:=[.v (.sl bo) .k,.v (.int .i64) .k,.v (.int .i64) .k]
noncomputable def aiO (N:Nat) (x:aw Lt) (kf:aa→Option aa):Option aa:=ak8 N x.1 x.2.1 x.2.2.1 (fun r0=>kf ⟨[⟨.bool,.k,r0⟩],[]⟩)
noncomputable def Qe (N:Nat):=au Lt (aiO N)
noncomputable def apQ (N:Nat):List Entry:=[⟨200,[.val,.val],(kJ N)⟩,⟨224,[.val,.val],(oA N)⟩]
theorem apR (N:Nat):bL Lt (aiO N) hq (apQ N) (dO N N) Tryz.f250:=fun _ _=>by kernel_rfl
theorem apS {Γ:Gl} (N:Nat):Sound Γ Tryz.prog 250 (Qe N):=e9 hq Tryz.f250 (apR N) ⟨qs N,⟨yN N,trivial⟩⟩
noncomputable def aiP:Hint:={ tab,hn:=[],loops:=[],outs:=[],bj:=[(3,(OT.seq [0,1,2,3,4,5,6,7,8,9,10,11,12,13,14,15,16,17,18,19,20,21,22,23,24,25,26,27,28,29,30,31,32,33,34,35] .done))] }
noncomputable def Lu:List AK:=[.v (.sl bo) .k,.v (.int .i64) .k,.v (.int .i64) .k]
noncomputable def aiQ (N:Nat) (x:aw Lu) (kf:aa→Option aa):Option aa:=S0 N x.1 x.2.1 x.2.2.1 (fun r0=>kf ⟨[⟨.bool,.k,r0⟩],[]⟩)
noncomputable def GN (N:Nat):=au Lu (aiQ N)
noncomputable def apT (N:Nat):List Entry:=[⟨200,[.val,.val],(kJ N)⟩,⟨175,[.val],(gU N)⟩,⟨250,[.val,.val,.val],(Qe N)⟩]
theorem apU (N:Nat):bL Lu (aiQ N) aiP (apT N) (dO N N) Tryz.f221:=fun _ _=>by kernel_rfl
theorem Ze {Γ:Gl} (N:Nat):Sound Γ Tryz.prog 221 (GN N):=e9 aiP Tryz.f221 (apU N) ⟨qs N,⟨lG N,⟨apS N,trivial⟩⟩⟩
noncomputable def aiR:Hint:={ tab,hn:=[],loops:=[],outs:=[],bj:=[(5,(OT.seq [0,1,2,3,4,5,6,7,8,9,10,11,12,13,14,15,16,17,18,19,20,21,22,23,24,25,26,27,28,29,30,31,32,33,34] .done))] }
noncomputable def Lv:List AK:=[.v (.sl bo) .k,.v (.int .i64) .k,.v (.int .i64) .k]
noncomputable def aiS (N:Nat) (x:aw Lv) (kf:aa→Option aa):Option aa:=ak9 N x.1 x.2.1 x.2.2.1 (fun r0=>kf ⟨[⟨aP,.k,r0⟩],[]⟩)
noncomputable def Qf (N:Nat):=au Lv (aiS N)
noncomputable def apV (N:Nat):List Entry:=[⟨200,[.val,.val],(kJ N)⟩,⟨175,[.val],(gU N)⟩,⟨223,[.val,.val],(GK N)⟩]
theorem apW (N:Nat):bL Lv (aiS N) aiR (apV N) (dO N N) Tryz.f222:=fun _ _=>by kernel_rfl
theorem apX {Γ:Gl} (N:Nat):Sound Γ Tryz.prog 222 (Qf N):=e9 aiR Tryz.f222 (apW N) ⟨qs N,⟨lG N,⟨Zd N,trivial⟩⟩⟩
noncomputable def wc:List Kd:=.v (.sl bo) .k::.v (.sl (.int .i64)) .k::dn 4 (.v (.int .i64) .k::dn 53 ([]))
noncomputable def yO:List Kd:=dn 60 ([])
noncomputable def yP:List Kd:=dn 4 (.v (.sl aP) (.o 104 none .k)::.v .bool .k::dn 54 ([]))
noncomputable def Va:Hint:={ tab,hn:=[],loops:=[(4,wc)],outs:=[(4,2,yO),(4,1,yP)],bj:=[(6,(OT.seq [0,1,2,3,4,5,6,7,8,9] .done)),(7,(OT.seq [1,2,3,5,6,7,8,0,4,9,10] .done)),(10,(OT.seq [0,1,2,3,4,5,6,7,10,8,9,11,12,13] .done))] }
noncomputable def D5:List AK:=[.v (.sl bo) .k,.v (.sl (.int .i64)) .k]
noncomputable def aiT (N:Nat) (x:aw D5) (kf:aa→Option aa):Option aa:=S6 N x.1 x.2.1 (fun r0 r1=>kf ⟨[⟨(.sl aP),(.o 104 none .k),r0⟩,⟨.bool,.k,r1⟩],[]⟩)
noncomputable def yQ (N:Nat):=au D5 (aiT N)
noncomputable def Lw (N:Nat):List Entry:=[⟨221,[.val,.val,.val],(GN N)⟩,⟨222,[.val,.val,.val],(Qf N)⟩,⟨176,[.val,.val],(yQ N)⟩]
noncomputable def BF:Code:=aI Tryz.f176
noncomputable def Lx (N n:Nat) (key:Nat) (S:St) (K:Ks):Option aa:=bif Nat.beq key 4 then ay wc S (fun x=>pQ N (S6 N) x.1 x.2.1 n (K (.x 0) (shape yO ())) (fun z0 z1=>K .r (shape yP (z0,z1,()))) x.2.2.1) else none
theorem apY (N key:Nat) (S:St) (K:Ks):Lx N 0 key S K=none:=(bC (aq fun _=>rfl) rfl)
noncomputable def Qg:Code:=(af BF).getD 0 .skip
theorem apZ:af BF=[Qg]:=by kernel_rfl
theorem acu (N:Nat):dB Va (Lw N) (Lx N) N 4 wc Qg:=fun _ _ _=>by kernel_rfl
theorem ap0 (N:Nat) (x:aw D5) (kf:aa→Option aa):aiT (N+1) x kf=lR Va (jr.of (Lw N)) (Lx N N) Tryz.f176 (dU D5 x) kf:=by kernel_rfl
theorem Zf {Γ:Gl}:∀ N:Nat,Sound Γ Tryz.prog 176 (yQ N)
 |0=>pc fun al kf=>by
  unfold yQ au
  split<;>rfl
 |N+1=>iX (hh:=Va) mixed kX (es:=Lw N) ⟨Ze N,⟨apX N,⟨Zf N,trivial⟩⟩⟩ (fn:=Tryz.f176) (body:=BF) (by kernel_rfl) (by kernel_rfl) (by kernel_rfl) (by kernel_rfl) (by kernel_rfl) (Lf:=Lx N) (apY N) apZ (rc (acu N) trivial) (N:=N) (by kernel_rfl) (ap0 N) (.inl (by kernel_rfl))
noncomputable def Vb:List AK:=[.v (.sl bo) .k]
noncomputable def atY (N:Nat) (x:aw Vb) (kf:aa→Option aa):Option aa:=S91 N x.1 (fun r0 r1=>kf ⟨[⟨(.sl aP),(.o 104 none .k),r0⟩,⟨.bool,.k,r1⟩],[]⟩)
noncomputable def Zg (N:Nat):=au Vb (atY N)
noncomputable def ayk (N:Nat):List Entry:=[⟨175,[.val],(gU N)⟩,⟨177,[.val],(P' N)⟩,⟨176,[.val,.val],(yQ N)⟩]
theorem ayl (N:Nat):bL Vb (atY N) hq (ayk N) (dO N N) Tryz.f91:=fun _ _=>by kernel_rfl
theorem aym {Γ:Gl} (N:Nat):Sound Γ Tryz.prog 91 (Zg N):=e9 hq Tryz.f91 (ayl N) ⟨lG N,⟨apM N,⟨Zf N,trivial⟩⟩⟩
noncomputable def we:List Kd:=.v (.sl bY) .k::dK::dK::.v (.int .i64) .k::.v (.int .i64) .k::dn 87 ([])
noncomputable def yR:List Kd:=.v (.sl bY) .k::dK::dK::.v (.int .i64) .k::dn 88 ([])
noncomputable def yS:List Kd:=dK::dK::.v .bool .k::dn 89 ([])
noncomputable def wg:List Kd:=.v (.sl bY) .k::dK::dK::.v (.int .i64) .k::dn 88 ([])
noncomputable def yT:List Kd:=.v (.sl bY) .k::dn 91 ([])
noncomputable def yU:List Kd:=dK::dK::.v .bool .k::dn 89 ([])
noncomputable def Ly:Hint:={ tab,hn:=[],loops:=[(7,we),(2,wg)],outs:=[(7,4,yR),(7,1,yS),(2,2,yT),(2,1,yU)],bj:=[(4,(OT.seq [0,1,2,3,4,5,6,7,8,9,10,11,12,13,14,15,16,17,18,19,20,21,22,23,24,25,26,27,28,29,30,31,32,33] .done)),(9,(OT.seq [0,1,2,3,4,5,6,7,8,9,10,11,12,13,14,15,16,17,18,19,20,21,22,23,24,25,26,27,28,29,30,31,32,33] .done))] }
noncomputable def LA:List AK:=[.v (.sl bY) .k]
noncomputable def aiU (N:Nat) (x:aw LA) (kf:aa→Option aa):Option aa:=aaV N x.1 (fun r0=>kf ⟨[⟨.bool,.k,r0⟩],[]⟩)
noncomputable def yV (N:Nat):=au LA (aiU N)
noncomputable def LB (N:Nat):List Entry:=[⟨195,[.val,.val,.val],(jo N)⟩]
noncomputable def tx:Code:=aI Tryz.f178
noncomputable def LC (N n:Nat) (key:Nat) (S:St) (K:Ks):Option aa:=bif Nat.beq key 2 then ay wg S (fun x=>m8 N x.1 n (K (.x 0) (shape yT (x.1,()))) (fun z0=>K .r (shape yU (z0,()))) x.2.1) else bif Nat.beq key 7 then ay we S (fun x=>hY N x.1 x.2.1 n (K (.x 2) (shape yR (x.1,x.2.1,()))) (fun z0=>K .r (shape yS (z0,()))) x.2.2.1) else none
theorem ap1 (N key:Nat) (S:St) (K:Ks):LC N 0 key S K=none:=(bC (aq fun _=>rfl) (bC (aq fun _=>rfl) rfl))
noncomputable def Qh:Code:=(af tx).getD 0 .skip
noncomputable def Qi:Code:=(af tx).getD 1 .skip
theorem ap2:af tx=[Qh,Qi]:=by kernel_rfl
theorem acv (N:Nat):dB Ly (LB N) (LC N) N 7 we Qi:=fun _ _ _=>by kernel_rfl
theorem acw (N:Nat):dB Ly (LB N) (LC N) N 2 wg Qh:=fun _ _ _=>by kernel_rfl
theorem ap3 (N:Nat):bL LA (aiU N) Ly (LB N) (LC N N) Tryz.f178:=fun _ _=>by kernel_rfl
theorem LD {Γ:Gl} (N:Nat):Sound Γ Tryz.prog 178 (yV N):=eZ Ly Tryz.f178 tx (ap1 N) ap2 (ap3 N) (rc (acw N) (rc (acv N) trivial)) ⟨nr N,trivial⟩
noncomputable def aiV:Hint:={ tab,hn:=[],loops:=[],outs:=[],bj:=[(3,(OT.seq [0,1,2,3,4,5,6,7,8,9,10,11,12,13,14,15,16,17,18,19,20,21,22,23,24,25,26,27,28,29,30,31,32,33,34,35,36,37,38,39,40,41,42] .done))] }
noncomputable def LF:List AK:=[.v (.sl bo) .k,.v bY .k,.v aP .k]
noncomputable def aiW (N:Nat) (x:aw LF) (kf:aa→Option aa):Option aa:=aaW N x.1 x.2.1 x.2.2.1 (fun r0=>kf ⟨[⟨.bool,.k,r0⟩],[]⟩)
noncomputable def GO (N:Nat):=au LF (aiW N)
noncomputable def ap4 (N:Nat):List Entry:=[⟨200,[.val,.val],(kJ N)⟩,⟨224,[.val,.val],(oA N)⟩]
theorem ap5 (N:Nat):bL LF (aiW N) aiV (ap4 N) (dO N N) Tryz.f225:=fun _ _=>by kernel_rfl
theorem Zh {Γ:Gl} (N:Nat):Sound Γ Tryz.prog 225 (GO N):=e9 aiV Tryz.f225 (ap5 N) ⟨qs N,⟨yN N,trivial⟩⟩
noncomputable def wh:List Kd:=.v (.sl bo) .k::.v (.sl bY) .k::.v (.sl aP) .k::.v (.sl (.int .i64)) .k::dn 6 (.v (.int .i64) .k::dn 59 ([]))
noncomputable def yW:List Kd:=dn 70 ([])
noncomputable def yX:List Kd:=dn 8 (.v (.sl (.int .i64)) (.o 3 none .k)::.v .bool .k::dn 60 ([]))
noncomputable def Vc:Hint:={ tab,hn:=[],loops:=[(4,wh)],outs:=[(4,2,yW),(4,1,yX)],bj:=[(6,(OT.seq [0,1,2,3,4,5,6,7,8,9,10,11,12,13,14,15,16,17,18] .done)),(7,(OT.seq [5,0,1,2,3,7,8,9,10] (.par [4,6,11,12] [[47,48,49]] (OT.seq [13,14,15,16,17,18,19] .done))))] }
noncomputable def D6:List AK:=[.v (.sl bo) .k,.v (.sl bY) .k,.v (.sl aP) .k,.v (.sl (.int .i64)) .k]
noncomputable def aiX (N:Nat) (x:aw D6) (kf:aa→Option aa):Option aa:=S9 N x.1 x.2.1 x.2.2.1 x.2.2.2.1 (fun r0 r1=>kf ⟨[⟨(.sl (.int .i64)),(.o 3 none .k),r0⟩,⟨.bool,.k,r1⟩],[]⟩)
noncomputable def yY (N:Nat):=au D6 (aiX N)
noncomputable def LG (N:Nat):List Entry:=[⟨224,[.val,.val],(oA N)⟩,⟨225,[.val,.val,.val],(GO N)⟩,⟨179,[.val,.val,.val,.val],(yY N)⟩]
noncomputable def BG:Code:=aI Tryz.f179
noncomputable def LH (N n:Nat) (key:Nat) (S:St) (K:Ks):Option aa:=bif Nat.beq key 4 then ay wh S (fun x=>m9 N (S9 N) x.1 x.2.1 x.2.2.1 x.2.2.2.1 n (K (.x 0) (shape yW ())) (fun z0 z1=>K .r (shape yX (z0,z1,()))) x.2.2.2.2.1) else none
theorem ap6 (N key:Nat) (S:St) (K:Ks):LH N 0 key S K=none:=(bC (aq fun _=>rfl) rfl)
noncomputable def Qj:Code:=(af BG).getD 0 .skip
theorem ap7:af BG=[Qj]:=by kernel_rfl
theorem acx (N:Nat):dB Vc (LG N) (LH N) N 4 wh Qj:=fun _ _ _=>by kernel_rfl
theorem ap8 (N:Nat) (x:aw D6) (kf:aa→Option aa):aiX (N+1) x kf=lR Vc (jr.of (LG N)) (LH N N) Tryz.f179 (dU D6 x) kf:=by kernel_rfl
theorem Zi {Γ:Gl}:∀ N:Nat,Sound Γ Tryz.prog 179 (yY N)
 |0=>pc fun al kf=>by
  unfold yY au
  split<;>rfl
 |N+1=>iX (hh:=Vc) mixed kX (es:=LG N) ⟨yN N,⟨Zh N,⟨Zi N,trivial⟩⟩⟩ (fn:=Tryz.f179) (body:=BG) (by kernel_rfl) (by kernel_rfl) (by kernel_rfl) (by kernel_rfl) (by kernel_rfl) (Lf:=LH N) (ap6 N) ap7 (rc (acx N) trivial) (N:=N) (by kernel_rfl) (ap8 N) (.inl (by kernel_rfl))
noncomputable def Vd:List AK:=[.v (.sl bo) .k,.v (.sl bY) .k,.v (.sl aP) .k]
noncomputable def atZ (N:Nat) (x:aw Vd) (kf:aa→Option aa):Option aa:=S92 N x.1 x.2.1 x.2.2.1 (fun r0 r1=>kf ⟨[⟨(.sl (.int .i64)),(.o 3 none .k),r0⟩,⟨.bool,.k,r1⟩],[]⟩)
noncomputable def Zj (N:Nat):=au Vd (atZ N)
noncomputable def ayn (N:Nat):List Entry:=[⟨178,[.val],(yV N)⟩,⟨175,[.val],(gU N)⟩,⟨179,[.val,.val,.val,.val],(yY N)⟩]
theorem ayo (N:Nat):bL Vd (atZ N) hq (ayn N) (dO N N) Tryz.f92:=fun _ _=>by kernel_rfl
theorem ayp {Γ:Gl} (N:Nat):Sound Γ Tryz.prog 92 (Zj N):=e9 hq Tryz.f92 (ayo N) ⟨LD N,⟨lG N,⟨Zi N,trivial⟩⟩⟩
noncomputable def Ve:List AK:=[.v bM .k]
noncomputable def at0 (N:Nat) (x:aw Ve) (kf:aa→Option aa):Option aa:=S94 N x.1 (fun r0=>kf ⟨[⟨.bool,.k,r0⟩],[]⟩)
noncomputable def yZ (N:Nat):=au Ve (at0 N)
theorem ayq (N:Nat):bL Ve (at0 N) hq [] (dO N N) Tryz.f94:=fun _ _=>by kernel_rfl
theorem LI {Γ:Gl} (N:Nat):Sound Γ Tryz.prog 94 (yZ N):=e9 hq Tryz.f94 (ayq N) trivial
noncomputable def LJ:List AK:=[.v (.sl bW) .k]
noncomputable def aiY (N:Nat) (x:aw LJ) (kf:aa→Option aa):Option aa:=avj N x.1 (fun r0=>kf ⟨[⟨(.int .i64),.k,r0⟩],[]⟩)
noncomputable def Qk (N:Nat):=au LJ (aiY N)
theorem ap9 (N:Nat):bL LJ (aiY N) hq [] (dO N N) Tryz.f226:=fun _ _=>by kernel_rfl
theorem ap' {Γ:Gl} (N:Nat):Sound Γ Tryz.prog 226 (Qk N):=e9 hq Tryz.f226 (ap9 N) trivial
noncomputable def LK:List AK:=[.v (.int .i64) .k,.v (.int .i64) .k]
noncomputable def aiZ (N:Nat) (x:aw LK) (kf:aa→Option aa):Option aa:=aeX N x.1 x.2.1 (fun r0=>kf ⟨[⟨(.int .i64),.k,r0⟩],[]⟩)
noncomputable def Ql (N:Nat):=au LK (aiZ N)
noncomputable def aqa (N:Nat):List Entry:=[⟨195,[.val,.val,.val],(jo N)⟩]
theorem aqb (N:Nat):bL LK (aiZ N) hq (aqa N) (dO N N) Tryz.f261:=fun _ _=>by kernel_rfl
theorem aqc {Γ:Gl} (N:Nat):Sound Γ Tryz.prog 261 (Ql N):=e9 hq Tryz.f261 (aqb N) ⟨nr N,trivial⟩
noncomputable def wi:List Kd:=.v (.sl (.int .i64)) .k::dK::dK::.v (.int .i64) .k::.v (.int .i64) .k::dn 17 ([])
noncomputable def y2:List Kd:=dn 3 (.v (.int .i64) .k::dn 18 ([]))
noncomputable def Vf:Hint:={ tab,hn:=[],loops:=[(3,wi)],outs:=[(3,2,y2)],bj:=[] }
noncomputable def LL:List AK:=[.v (.sl (.int .i64)) .k]
noncomputable def ai0 (N:Nat) (x:aw LL) (kf:aa→Option aa):Option aa:=ak' N x.1 (fun r0=>kf ⟨[⟨(.int .i64),.k,r0⟩],[]⟩)
noncomputable def Qm (N:Nat):=au LL (ai0 N)
noncomputable def Zk (N:Nat):List Entry:=[⟨261,[.val,.val],(Ql N)⟩]
noncomputable def BH:Code:=aI Tryz.f248
noncomputable def Vg (N n:Nat) (key:Nat) (S:St) (K:Ks):Option aa:=bif Nat.beq key 3 then ay wi S (fun x=>pT N x.1 n (fun z0=>K (.x 0) (shape y2 (z0,()))) x.2.1 x.2.2.1) else none
theorem aqd (N key:Nat) (S:St) (K:Ks):Vg N 0 key S K=none:=(bC (aq fun _=>rfl) rfl)
noncomputable def Qn:Code:=(af BH).getD 0 .skip
theorem aqe:af BH=[Qn]:=by kernel_rfl
theorem acy (N:Nat):dB Vf (Zk N) (Vg N) N 3 wi Qn:=fun _ _ _=>by kernel_rfl
theorem aqf (N:Nat):bL LL (ai0 N) Vf (Zk N) (Vg N N) Tryz.f248:=fun _ _=>by kernel_rfl
theorem aqg {Γ:Gl} (N:Nat):Sound Γ Tryz.prog 248 (Qm N):=eZ Vf Tryz.f248 BH (aqd N) aqe (aqf N) (rc (acy N) trivial) ⟨aqc N,trivial⟩
noncomputable def LM:List AK:=[.v (.int .i64) .k,.v bW .k]
noncomputable def ai1 (N:Nat) (x:aw LM) (kf:aa→Option aa):Option aa:=Ta N x.1 x.2.1 (fun r0=>kf ⟨[⟨(.int .i64),.k,r0⟩],[]⟩)
noncomputable def GP (N:Nat):=au LM (ai1 N)
noncomputable def aqh (N:Nat):List Entry:=[⟨248,[.val],(Qm N)⟩]
theorem aqi (N:Nat):bL LM (ai1 N) hq (aqh N) (dO N N) Tryz.f218:=fun _ _=>by kernel_rfl
theorem Zl {Γ:Gl} (N:Nat):Sound Γ Tryz.prog 218 (GP N):=e9 hq Tryz.f218 (aqi N) ⟨aqg N,trivial⟩
noncomputable def wj:List Kd:=.v (.sl bW) .k::dK::dK::.v (.int .i64) .k::.v (.int .i64) .k::dn 45 ([])
noncomputable def y3:List Kd:=.v (.sl bW) .k::dn 49 ([])
noncomputable def y4:List Kd:=dK::dK::.v .bool .k::dn 47 ([])
noncomputable def Vh:Hint:={ tab,hn:=[],loops:=[(3,wj)],outs:=[(3,2,y3),(3,1,y4)],bj:=[] }
noncomputable def LN:List AK:=[.v (.sl bW) .k]
noncomputable def ai2 (N:Nat) (x:aw LN) (kf:aa→Option aa):Option aa:=aeZ N x.1 (fun r0=>kf ⟨[⟨.bool,.k,r0⟩],[]⟩)
noncomputable def GQ (N:Nat):=au LN (ai2 N)
noncomputable def Zm (N:Nat):List Entry:=[⟨218,[.val,.val],(GP N)⟩,⟨195,[.val,.val,.val],(jo N)⟩]
noncomputable def BI:Code:=aI Tryz.f158
noncomputable def Vi (N n:Nat) (key:Nat) (S:St) (K:Ks):Option aa:=bif Nat.beq key 3 then ay wj S (fun x=>pU N x.1 n (K (.x 0) (shape y3 (x.1,()))) (fun z0=>K .r (shape y4 (z0,()))) x.2.1 x.2.2.1) else none
theorem aqj (N key:Nat) (S:St) (K:Ks):Vi N 0 key S K=none:=(bC (aq fun _=>rfl) rfl)
noncomputable def Qo:Code:=(af BI).getD 0 .skip
theorem aqk:af BI=[Qo]:=by kernel_rfl
theorem acz (N:Nat):dB Vh (Zm N) (Vi N) N 3 wj Qo:=fun _ _ _=>by kernel_rfl
theorem aql (N:Nat):bL LN (ai2 N) Vh (Zm N) (Vi N N) Tryz.f158:=fun _ _=>by kernel_rfl
theorem Zn {Γ:Gl} (N:Nat):Sound Γ Tryz.prog 158 (GQ N):=eZ Vh Tryz.f158 BI (aqj N) aqk (aql N) (rc (acz N) trivial) ⟨Zl N,⟨nr N,trivial⟩⟩
noncomputable def ai3:Hint:={ tab,hn:=[],loops:=[],outs:=[],bj:=[(2,(OT.seq [0,2,1,3,4,5] .done)),(3,(OT.seq [1] (.any [0,2,3,4] (OT.seq [5,6] .done))))] }
noncomputable def LO:List AK:=[.v (.sl bW) .k,.v (.int .i64) .k,.v (.int .i64) .k]
noncomputable def ai4 (N:Nat) (x:aw LO) (kf:aa→Option aa):Option aa:=ala N x.1 x.2.1 x.2.2.1 (fun r0 r1=>kf ⟨[⟨(.sl bW),(.o 102 none .k),r0⟩,⟨.bool,.k,r1⟩],[]⟩)
noncomputable def Qp (N:Nat):=au LO (ai4 N)
noncomputable def aqm (N:Nat):List Entry:=[⟨226,[.val],(Qk N)⟩,⟨218,[.val,.val],(GP N)⟩,⟨158,[.val],(GQ N)⟩]
theorem aqn (N:Nat):bL LO (ai4 N) ai3 (aqm N) (dO N N) Tryz.f180:=fun _ _=>by kernel_rfl
theorem aqo {Γ:Gl} (N:Nat):Sound Γ Tryz.prog 180 (Qp N):=e9 ai3 Tryz.f180 (aqn N) ⟨ap' N,⟨Zl N,⟨Zn N,trivial⟩⟩⟩
noncomputable def wk:List Kd:=.v (.sl bo) .k::dK::dK::.v (.int .i64) .k::.v (.int .i64) .k::dn 18 ([])
noncomputable def y5:List Kd:=dn 3 (.v (.int .i64) .k::dn 19 ([]))
noncomputable def Vj:Hint:={ tab,hn:=[],loops:=[(3,wk)],outs:=[(3,2,y5)],bj:=[] }
noncomputable def LP:List AK:=[.v (.sl bo) .k]
noncomputable def ai5 (N:Nat) (x:aw LP) (kf:aa→Option aa):Option aa:=alb N x.1 (fun r0=>kf ⟨[⟨(.int .i64),.k,r0⟩],[]⟩)
noncomputable def Qq (N:Nat):=au LP (ai5 N)
noncomputable def Zo (N:Nat):List Entry:=[⟨175,[.val],(gU N)⟩]
noncomputable def BJ:Code:=aI Tryz.f196
noncomputable def Vk (N n:Nat) (key:Nat) (S:St) (K:Ks):Option aa:=bif Nat.beq key 3 then ay wk S (fun x=>pV N x.1 n (fun z0=>K (.x 0) (shape y5 (z0,()))) x.2.1 x.2.2.1) else none
theorem aqp (N key:Nat) (S:St) (K:Ks):Vk N 0 key S K=none:=(bC (aq fun _=>rfl) rfl)
noncomputable def Qr:Code:=(af BJ).getD 0 .skip
theorem aqq:af BJ=[Qr]:=by kernel_rfl
theorem acA (N:Nat):dB Vj (Zo N) (Vk N) N 3 wk Qr:=fun _ _ _=>by kernel_rfl
theorem aqr (N:Nat):bL LP (ai5 N) Vj (Zo N) (Vk N N) Tryz.f196:=fun _ _=>by kernel_rfl
theorem aqs {Γ:Gl} (N:Nat):Sound Γ Tryz.prog 196 (Qq N):=eZ Vj Tryz.f196 BJ (aqp N) aqq (aqr N) (rc (acA N) trivial) ⟨lG N,trivial⟩
noncomputable def wm:List Kd:=.v (.sl bo) .k::.v (.sl aP) .k::dn 3 (.v (.sl (.int .i64)) (.o 3 none .k)::.v (.int .i64) .k::dn 60 ([]))
noncomputable def y6:List Kd:=.v (.sl bo) .k::dn 4 (.v (.sl (.int .i64)) (.o 3 none .k)::dn 61 ([]))
noncomputable def y7:List Kd:=dn 4 (.v .bool .k::dn 62 ([]))
noncomputable def Vl:Hint:={ tab,hn:=[],loops:=[(3,wm)],outs:=[(3,2,y6),(3,1,y7)],bj:=[(5,(OT.seq [0,1,2,3,4,5,6,7,8,9,10,11,12,13,14,15,16,17,18,19,20,21,22,23,24,25,26,27,28,29,30] .done)),(7,(OT.seq [0,1,2,3,4,5,6,7,8,9,10,11,12,13] .done))] }
noncomputable def LQ:List AK:=[.v (.sl bo) .k,.v (.sl aP) .k]
noncomputable def ai6 (N:Nat) (x:aw LQ) (kf:aa→Option aa):Option aa:=alc N x.1 x.2.1 (fun r0=>kf ⟨[⟨.bool,.k,r0⟩],[]⟩)
noncomputable def Qs (N:Nat):=au LQ (ai6 N)
noncomputable def Zp (N:Nat):List Entry:=[⟨221,[.val,.val,.val],(GN N)⟩,⟨224,[.val,.val],(oA N)⟩,⟨175,[.val],(gU N)⟩]
noncomputable def BK:Code:=aI Tryz.f197
noncomputable def Vm (N n:Nat) (key:Nat) (S:St) (K:Ks):Option aa:=bif Nat.beq key 3 then ay wm S (fun x=>pW N x.1 x.2.1 n (fun z0=>K (.x 0) (shape y6 (x.1,z0,()))) (fun z0=>K .r (shape y7 (z0,()))) x.2.2.1 x.2.2.2.1) else none
theorem aqt (N key:Nat) (S:St) (K:Ks):Vm N 0 key S K=none:=(bC (aq fun _=>rfl) rfl)
noncomputable def Qt:Code:=(af BK).getD 0 .skip
theorem aqu:af BK=[Qt]:=by kernel_rfl
theorem acB (N:Nat):dB Vl (Zp N) (Vm N) N 3 wm Qt:=fun _ _ _=>by kernel_rfl
theorem aqv (N:Nat):bL LQ (ai6 N) Vl (Zp N) (Vm N N) Tryz.f197:=fun _ _=>by kernel_rfl
theorem aqw {Γ:Gl} (N:Nat):Sound Γ Tryz.prog 197 (Qs N):=eZ Vl Tryz.f197 BK (aqt N) aqu (aqv N) (rc (acB N) trivial) ⟨Ze N,⟨yN N,⟨lG N,trivial⟩⟩⟩
noncomputable def wo:List Kd:=.v (.sl bY) .k::.v (.int .i64) .k::dn 3 (.v (.int .i64) .k::dn 14 ([]))
noncomputable def y8:List Kd:=dn 20 ([])
noncomputable def y9:List Kd:=dn 4 (.v (.int .i64) .k::dn 15 ([]))
noncomputable def Vn:Hint:={ tab,hn:=[],loops:=[(2,wo)],outs:=[(2,2,y8),(2,1,y9)],bj:=[] }
noncomputable def LR:List AK:=[.v (.sl bY) .k,.v (.int .i64) .k]
noncomputable def ai7 (N:Nat) (x:aw LR) (kf:aa→Option aa):Option aa:=FE N x.1 x.2.1 (fun r0=>kf ⟨[⟨(.int .i64),.k,r0⟩],[]⟩)
noncomputable def GR (N:Nat):=au LR (ai7 N)
noncomputable def BL:Code:=aI Tryz.f126
noncomputable def Vo (N n:Nat) (key:Nat) (S:St) (K:Ks):Option aa:=bif Nat.beq key 2 then ay wo S (fun x=>pX x.1 x.2.1 n (K (.x 0) (shape y8 ())) (fun z0=>K .r (shape y9 (z0,()))) x.2.2.1) else none
theorem aqx (N key:Nat) (S:St) (K:Ks):Vo N 0 key S K=none:=(bC (aq fun _=>rfl) rfl)
noncomputable def Qu:Code:=(af BL).getD 0 .skip
theorem aqy:af BL=[Qu]:=by kernel_rfl
theorem acC (N:Nat):dB Vn [] (Vo N) N 2 wo Qu:=fun _ _ _=>by kernel_rfl
theorem aqz (N:Nat):bL LR (ai7 N) Vn [] (Vo N N) Tryz.f126:=fun _ _=>by kernel_rfl
theorem Zq {Γ:Gl} (N:Nat):Sound Γ Tryz.prog 126 (GR N):=eZ Vn Tryz.f126 BL (aqx N) aqy (aqz N) (rc (acC N) trivial) trivial
noncomputable def wq:List Kd:=.v (.sl bo) .k::.v (.sl bY) .k::.v (.sl aP) .k::.v (.sl (.int .i64)) .k::dn 5 (.v (.int .i64) .k::dn 48 ([]))
noncomputable def za:List Kd:=dn 58 ([])
noncomputable def zb:List Kd:=dn 8 (.v .bool .k::dn 49 ([]))
noncomputable def Vp:Hint:={ tab,hn:=[],loops:=[(4,wq)],outs:=[(4,2,za),(4,1,zb)],bj:=[(7,(OT.seq [0,1,2,3,4,5,6,7,8,9,10,11,12,13,14,15,16,17,18,19,20,21,22,23,24] .done))] }
noncomputable def LS:List AK:=[.v (.sl bo) .k,.v (.sl bY) .k,.v (.sl aP) .k,.v (.sl (.int .i64)) .k]
noncomputable def ai8 (N:Nat) (x:aw LS) (kf:aa→Option aa):Option aa:=ald N x.1 x.2.1 x.2.2.1 x.2.2.2.1 (fun r0=>kf ⟨[⟨.bool,.k,r0⟩],[]⟩)
noncomputable def Qv (N:Nat):=au LS (ai8 N)
noncomputable def Zr (N:Nat):List Entry:=[⟨178,[.val],(yV N)⟩,⟨126,[.val,.val],(GR N)⟩,⟨224,[.val,.val],(oA N)⟩,⟨225,[.val,.val,.val],(GO N)⟩]
noncomputable def BM:Code:=aI Tryz.f198
noncomputable def Vq (N n:Nat) (key:Nat) (S:St) (K:Ks):Option aa:=bif Nat.beq key 4 then ay wq S (fun x=>pY N x.1 x.2.1 x.2.2.1 x.2.2.2.1 n (K (.x 0) (shape za ())) (fun z0=>K .r (shape zb (z0,()))) x.2.2.2.2.1) else none
theorem aqA (N key:Nat) (S:St) (K:Ks):Vq N 0 key S K=none:=(bC (aq fun _=>rfl) rfl)
noncomputable def Qw:Code:=(af BM).getD 0 .skip
theorem aqB:af BM=[Qw]:=by kernel_rfl
theorem acD (N:Nat):dB Vp (Zr N) (Vq N) N 4 wq Qw:=fun _ _ _=>by kernel_rfl
theorem aqC (N:Nat):bL LS (ai8 N) Vp (Zr N) (Vq N N) Tryz.f198:=fun _ _=>by kernel_rfl
theorem aqD {Γ:Gl} (N:Nat):Sound Γ Tryz.prog 198 (Qv N):=eZ Vp Tryz.f198 BM (aqA N) aqB (aqC N) (rc (acD N) trivial) ⟨LD N,⟨Zq N,⟨yN N,⟨Zh N,trivial⟩⟩⟩⟩
noncomputable def LU:List AK:=[.v dh .k]
noncomputable def ai9 (N:Nat) (x:aw LU) (kf:aa→Option aa):Option aa:=N4 N x.1 (fun r0=>kf ⟨[⟨.bool,.k,r0⟩],[]⟩)
noncomputable def zd (N:Nat):=au LU (ai9 N)
noncomputable def aqE (N:Nat):List Entry:=[⟨195,[.val,.val,.val],(jo N)⟩]
theorem aqF (N:Nat):bL LU (ai9 N) hq (aqE N) (dO N N) Tryz.f199:=fun _ _=>by kernel_rfl
theorem LV {Γ:Gl} (N:Nat):Sound Γ Tryz.prog 199 (zd N):=e9 hq Tryz.f199 (aqF N) ⟨nr N,trivial⟩
end Go.Pv.R
