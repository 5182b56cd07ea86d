/- Each function of the program that the law reaches computes its plain function, part 3. -/
import Derived.Test.YtcpakhaogbempaaGreatSnd2
import Derived.Test.YtcpakhaogbempaaGreatProg
namespace Go.Pv.R
open Go.Proofs
set_option linter.unusedVariables false
set_option maxRecDepth 100000
noncomputable def wu:List Kd:=dK::.v (.ptr bM) (.o 31 none .k)::dK::.v (.ptr dh) (.o 136 none .k)::.v (.int .i64) .k::dn 110 ([])
noncomputable def ze:List Kd:=dn 115 ([])
noncomputable def zf:List Kd:=dK::dK::.v .bool .k::dn 112 ([])
noncomputable def Vr:Hint:={ tab,hn:=[],loops:=[(7,wu)],outs:=[(7,2,ze),(7,1,zf)],bj:=[(1,(OT.seq [0,1,2,3,4,5,6,7,8,9,10,11,12,13,14,15,16,17,18,19,20,21,22,23,24,25,26,27,28,29,30,31,32,33,34,35,36,37,38,39,40,41,42,44,45,43,46,47] .done)),(9,(OT.seq [0,1,2,3,4,5,6,7,8,9,10,11,12,13,14,15,16,17,18,19,20,21,22,23,24,25,26,27,28,29] .done))] }
noncomputable def LW:List AK:=[.v bM .k]
noncomputable def ai' (N:Nat) (x:aw LW) (kf:aa→Option aa):Option aa:=Td N x.1 (fun r0=>kf ⟨[⟨.bool,.k,r0⟩],[]⟩)
noncomputable def zg (N:Nat):=au LW (ai' N)
noncomputable def Zs (N:Nat):List Entry:=[⟨175,[.val],(gU N)⟩,⟨178,[.val],(yV N)⟩,⟨158,[.val],(GQ N)⟩,⟨195,[.val,.val,.val],(jo N)⟩,⟨196,[.val],(Qq N)⟩,⟨197,[.val,.val],(Qs N)⟩,⟨198,[.val,.val,.val,.val],(Qv N)⟩,⟨199,[.val],(zd N)⟩]
noncomputable def BN:Code:=aI Tryz.f122
noncomputable def Vs (N n:Nat) (key:Nat) (S:St) (K:Ks):Option aa:=bif Nat.beq key 7 then ay wu S (fun x=>na N x.1 x.2.1 n (K (.x 0) (shape ze ())) (fun z0=>K .r (shape zf (z0,()))) x.2.2.1) else none
theorem aqG (N key:Nat) (S:St) (K:Ks):Vs N 0 key S K=none:=(bC (aq fun _=>rfl) rfl)
noncomputable def Qx:Code:=(af BN).getD 0 .skip
theorem aqH:af BN=[Qx]:=by kernel_rfl
theorem acE (N:Nat):dB Vr (Zs N) (Vs N) N 7 wu Qx:=fun _ _ _=>by kernel_rfl
theorem aqI (N:Nat):bL LW (ai' N) Vr (Zs N) (Vs N N) Tryz.f122:=fun _ _=>by kernel_rfl
theorem LX {Γ:Gl} (N:Nat):Sound Γ Tryz.prog 122 (zg N):=eZ Vr Tryz.f122 BN (aqG N) aqH (aqI N) (rc (acE N) trivial) ⟨lG N,⟨LD N,⟨Zn N,⟨nr N,⟨aqs N,⟨aqw N,⟨aqD N,⟨LV N,trivial⟩⟩⟩⟩⟩⟩⟩⟩
noncomputable def Vt:List AK:=[.v bM .k,.v bM (.p (.o 46 none (.p .k (.p .k (.p .k (.p .k (.p .k (.o 3 none .k))))))) (.p (.o 80 none (.p .k (.p .k (.o 3 none .k)))) (.p (.o 104 none .k) (.p (.o 3 none .k) (.p (.o 136 none .k) (.p (.o 102 none .k) .k)))))),.v .bool .k,.v (.int .i64) .k,.v (.int .i64) .k]
noncomputable def at1 (N:Nat) (x:aw Vt) (kf:aa→Option aa):Option aa:=S93 N x.1 x.2.1 x.2.2.1 x.2.2.2.1 x.2.2.2.2.1 (fun r0 r1=>kf ⟨[⟨bM,(.p (.o 46 none (.p .k (.p .k (.p .k (.p .k (.p .k (.o 3 none .k))))))) (.p (.o 80 none (.p .k (.p .k (.o 3 none .k)))) (.p (.o 104 none .k) (.p (.o 3 none .k) (.p (.o 136 none .k) (.p (.o 102 none .k) .k)))))),r0⟩,⟨.bool,.k,r1⟩],[]⟩)
noncomputable def qt (N:Nat):=au Vt (at1 N)
noncomputable def ayr (N:Nat):List Entry:=[⟨180,[.val,.val,.val],(Qp N)⟩,⟨122,[.val],(zg N)⟩,⟨90,[.val],(kn N)⟩]
theorem ays (N:Nat):bL Vt (at1 N) hq (ayr N) (dO N N) Tryz.f93:=fun _ _=>by kernel_rfl
theorem BO {Γ:Gl} (N:Nat):Sound Γ Tryz.prog 93 (qt N):=e9 hq Tryz.f93 (ays N) ⟨aqo N,⟨LX N,⟨qq N,trivial⟩⟩⟩
noncomputable def at2:Hint:={ tab,hn:=[],loops:=[],outs:=[],bj:=[(7,(OT.seq [0,1,2,3,4,5,6,7,8,9,10,11,12,13,14,15,16,17,18,19,20,21] .done))] }
noncomputable def Vu:List AK:=[.v bM .k]
noncomputable def at3 (N:Nat) (x:aw Vu) (kf:aa→Option aa):Option aa:=S21 N x.1 (fun r0 r1=>kf ⟨[⟨bM,(.p (.o 46 none (.p .k (.p .k (.p .k (.p .k (.p .k (.o 3 none .k))))))) (.p (.o 80 none (.p .k (.p .k (.o 3 none .k)))) (.p (.o 104 none .k) (.p (.o 3 none .k) (.p (.o 136 none .k) (.p (.o 102 none .k) .k)))))),r0⟩,⟨.bool,.k,r1⟩],[]⟩)
noncomputable def Zt (N:Nat):=au Vu (at3 N)
noncomputable def ayt (N:Nat):List Entry:=[⟨90,[.val],(kn N)⟩,⟨91,[.val],(Zg N)⟩,⟨92,[.val,.val,.val],(Zj N)⟩,⟨94,[.val],(yZ N)⟩,⟨93,[.val,.take,.val,.val,.val],(qt N)⟩]
theorem ayu (N:Nat):bL Vu (at3 N) at2 (ayt N) (dO N N) Tryz.f21:=fun _ _=>by kernel_rfl
theorem ayv {Γ:Gl} (N:Nat):Sound Γ Tryz.prog 21 (Zt N):=e9 at2 Tryz.f21 (ayu N) ⟨qq N,⟨aym N,⟨ayp N,⟨LI N,⟨BO N,trivial⟩⟩⟩⟩⟩
noncomputable def wv:List Kd:=.v (.sl (.int .i64)) .k::.v (.sl (.int .i64)) .k::dn 3 (.v (.int .i64) .k::dn 20 ([]))
noncomputable def zh:List Kd:=dn 26 ([])
noncomputable def zi:List Kd:=dn 4 (.v .bool .k::dn 21 ([]))
noncomputable def Vv:Hint:={ tab,hn:=[],loops:=[(4,wv)],outs:=[(4,2,zh),(4,1,zi)],bj:=[(6,(OT.seq [0,1,2,3,4,5,6,7,8] .done))] }
noncomputable def LY:List AK:=[.v (.sl (.int .i64)) .k,.v (.sl (.int .i64)) .k]
noncomputable def aja (N:Nat) (x:aw LY) (kf:aa→Option aa):Option aa:=aaX N x.1 x.2.1 (fun r0=>kf ⟨[⟨.bool,.k,r0⟩],[]⟩)
noncomputable def zj (N:Nat):=au LY (aja N)
noncomputable def BP:Code:=aI Tryz.f107
noncomputable def Vw (N n:Nat) (key:Nat) (S:St) (K:Ks):Option aa:=bif Nat.beq key 4 then ay wv S (fun x=>p5 x.1 x.2.1 n (K (.x 0) (shape zh ())) (fun z0=>K .r (shape zi (z0,()))) x.2.2.1) else none
theorem aqJ (N key:Nat) (S:St) (K:Ks):Vw N 0 key S K=none:=(bC (aq fun _=>rfl) rfl)
noncomputable def Qy:Code:=(af BP).getD 0 .skip
theorem aqK:af BP=[Qy]:=by kernel_rfl
theorem acF (N:Nat):dB Vv [] (Vw N) N 4 wv Qy:=fun _ _ _=>by kernel_rfl
theorem aqL (N:Nat):bL LY (aja N) Vv [] (Vw N N) Tryz.f107:=fun _ _=>by kernel_rfl
theorem LZ {Γ:Gl} (N:Nat):Sound Γ Tryz.prog 107 (zj N):=eZ Vv Tryz.f107 BP (aqJ N) aqK (aqL N) (rc (acF N) trivial) trivial
noncomputable def L0:List AK:=[.v bo .k,.v bo .k]
noncomputable def ajb (N:Nat) (x:aw L0) (kf:aa→Option aa):Option aa:=ae2 N x.1 x.2.1 (fun r0=>kf ⟨[⟨.bool,.k,r0⟩],[]⟩)
noncomputable def Qz (N:Nat):=au L0 (ajb N)
noncomputable def aqM (N:Nat):List Entry:=[⟨107,[.val,.val],(zj N)⟩]
theorem aqN (N:Nat):bL L0 (ajb N) hq (aqM N) (dO N N) Tryz.f190:=fun _ _=>by kernel_rfl
theorem aqO {Γ:Gl} (N:Nat):Sound Γ Tryz.prog 190 (Qz N):=e9 hq Tryz.f190 (aqN N) ⟨LZ N,trivial⟩
noncomputable def wx:List Kd:=.v (.sl bo) .k::.v (.sl bo) .k::dn 3 (.v (.int .i64) .k::dn 21 ([]))
noncomputable def zk:List Kd:=dn 27 ([])
noncomputable def zm:List Kd:=dn 4 (.v .bool .k::dn 22 ([]))
noncomputable def Vx:Hint:={ tab,hn:=[],loops:=[(4,wx)],outs:=[(4,2,zk),(4,1,zm)],bj:=[(6,(OT.seq [0,1,2,3,4,5,6,7,8,9] .done))] }
noncomputable def L1:List AK:=[.v (.sl bo) .k,.v (.sl bo) .k]
noncomputable def ajc (N:Nat) (x:aw L1) (kf:aa→Option aa):Option aa:=ale N x.1 x.2.1 (fun r0=>kf ⟨[⟨.bool,.k,r0⟩],[]⟩)
noncomputable def QA (N:Nat):=au L1 (ajc N)
noncomputable def Zu (N:Nat):List Entry:=[⟨190,[.val,.val],(Qz N)⟩]
noncomputable def BQ:Code:=aI Tryz.f104
noncomputable def Vy (N n:Nat) (key:Nat) (S:St) (K:Ks):Option aa:=bif Nat.beq key 4 then ay wx S (fun x=>p6 N x.1 x.2.1 n (K (.x 0) (shape zk ())) (fun z0=>K .r (shape zm (z0,()))) x.2.2.1) else none
theorem aqP (N key:Nat) (S:St) (K:Ks):Vy N 0 key S K=none:=(bC (aq fun _=>rfl) rfl)
noncomputable def QD:Code:=(af BQ).getD 0 .skip
theorem aqQ:af BQ=[QD]:=by kernel_rfl
theorem acG (N:Nat):dB Vx (Zu N) (Vy N) N 4 wx QD:=fun _ _ _=>by kernel_rfl
theorem aqR (N:Nat):bL L1 (ajc N) Vx (Zu N) (Vy N N) Tryz.f104:=fun _ _=>by kernel_rfl
theorem aqS {Γ:Gl} (N:Nat):Sound Γ Tryz.prog 104 (QA N):=eZ Vx Tryz.f104 BQ (aqP N) aqQ (aqR N) (rc (acG N) trivial) ⟨aqO N,trivial⟩
noncomputable def L2:List AK:=[.v bY .k,.v bY .k]
noncomputable def ajd (N:Nat) (x:aw L2) (kf:aa→Option aa):Option aa:=ae3 N x.1 x.2.1 (fun r0=>kf ⟨[⟨.bool,.k,r0⟩],[]⟩)
noncomputable def QE (N:Nat):=au L2 (ajd N)
noncomputable def aqT (N:Nat):List Entry:=[⟨107,[.val,.val],(zj N)⟩]
theorem aqU (N:Nat):bL L2 (ajd N) hq (aqT N) (dO N N) Tryz.f191:=fun _ _=>by kernel_rfl
theorem aqV {Γ:Gl} (N:Nat):Sound Γ Tryz.prog 191 (QE N):=e9 hq Tryz.f191 (aqU N) ⟨LZ N,trivial⟩
noncomputable def wy:List Kd:=.v (.sl bY) .k::.v (.sl bY) .k::dn 3 (.v (.int .i64) .k::dn 21 ([]))
noncomputable def zn:List Kd:=dn 27 ([])
noncomputable def zo:List Kd:=dn 4 (.v .bool .k::dn 22 ([]))
noncomputable def Vz:Hint:={ tab,hn:=[],loops:=[(4,wy)],outs:=[(4,2,zn),(4,1,zo)],bj:=[(6,(OT.seq [0,1,2,3,4,5,6,7,8,9] .done))] }
noncomputable def L3:List AK:=[.v (.sl bY) .k,.v (.sl bY) .k]
noncomputable def aje (N:Nat) (x:aw L3) (kf:aa→Option aa):Option aa:=alf N x.1 x.2.1 (fun r0=>kf ⟨[⟨.bool,.k,r0⟩],[]⟩)
noncomputable def QF (N:Nat):=au L3 (aje N)
noncomputable def Zv (N:Nat):List Entry:=[⟨191,[.val,.val],(QE N)⟩]
noncomputable def BR:Code:=aI Tryz.f105
noncomputable def VA (N n:Nat) (key:Nat) (S:St) (K:Ks):Option aa:=bif Nat.beq key 4 then ay wy S (fun x=>p7 N x.1 x.2.1 n (K (.x 0) (shape zn ())) (fun z0=>K .r (shape zo (z0,()))) x.2.2.1) else none
theorem aqW (N key:Nat) (S:St) (K:Ks):VA N 0 key S K=none:=(bC (aq fun _=>rfl) rfl)
noncomputable def QG:Code:=(af BR).getD 0 .skip
theorem aqX:af BR=[QG]:=by kernel_rfl
theorem acH (N:Nat):dB Vz (Zv N) (VA N) N 4 wy QG:=fun _ _ _=>by kernel_rfl
theorem aqY (N:Nat):bL L3 (aje N) Vz (Zv N) (VA N N) Tryz.f105:=fun _ _=>by kernel_rfl
theorem aqZ {Γ:Gl} (N:Nat):Sound Γ Tryz.prog 105 (QF N):=eZ Vz Tryz.f105 BR (aqW N) aqX (aqY N) (rc (acH N) trivial) ⟨aqV N,trivial⟩
noncomputable def L4:List AK:=[.v aP .k,.v aP .k]
noncomputable def ajf (N:Nat) (x:aw L4) (kf:aa→Option aa):Option aa:=ae4 N x.1 x.2.1 (fun r0=>kf ⟨[⟨.bool,.k,r0⟩],[]⟩)
noncomputable def QH (N:Nat):=au L4 (ajf N)
theorem aq0 (N:Nat):bL L4 (ajf N) hq [] (dO N N) Tryz.f192:=fun _ _=>by kernel_rfl
theorem aq1 {Γ:Gl} (N:Nat):Sound Γ Tryz.prog 192 (QH N):=e9 hq Tryz.f192 (aq0 N) trivial
noncomputable def wz:List Kd:=.v (.sl aP) .k::.v (.sl aP) .k::dn 3 (.v (.int .i64) .k::dn 21 ([]))
noncomputable def zp:List Kd:=dn 27 ([])
noncomputable def zq:List Kd:=dn 4 (.v .bool .k::dn 22 ([]))
noncomputable def VB:Hint:={ tab,hn:=[],loops:=[(4,wz)],outs:=[(4,2,zp),(4,1,zq)],bj:=[(6,(OT.seq [0,1,2,3,4,5,6,7,8,9] .done))] }
noncomputable def L5:List AK:=[.v (.sl aP) .k,.v (.sl aP) .k]
noncomputable def ajg (N:Nat) (x:aw L5) (kf:aa→Option aa):Option aa:=alg N x.1 x.2.1 (fun r0=>kf ⟨[⟨.bool,.k,r0⟩],[]⟩)
noncomputable def QI (N:Nat):=au L5 (ajg N)
noncomputable def Zw (N:Nat):List Entry:=[⟨192,[.val,.val],(QH N)⟩]
noncomputable def BS:Code:=aI Tryz.f106
noncomputable def VC (N n:Nat) (key:Nat) (S:St) (K:Ks):Option aa:=bif Nat.beq key 4 then ay wz S (fun x=>p8 N x.1 x.2.1 n (K (.x 0) (shape zp ())) (fun z0=>K .r (shape zq (z0,()))) x.2.2.1) else none
theorem aq2 (N key:Nat) (S:St) (K:Ks):VC N 0 key S K=none:=(bC (aq fun _=>rfl) rfl)
noncomputable def QK:Code:=(af BS).getD 0 .skip
theorem aq3:af BS=[QK]:=by kernel_rfl
theorem acI (N:Nat):dB VB (Zw N) (VC N) N 4 wz QK:=fun _ _ _=>by kernel_rfl
theorem aq4 (N:Nat):bL L5 (ajg N) VB (Zw N) (VC N N) Tryz.f106:=fun _ _=>by kernel_rfl
theorem aq5 {Γ:Gl} (N:Nat):Sound Γ Tryz.prog 106 (QI N):=eZ VB Tryz.f106 BS (aq2 N) aq3 (aq4 N) (rc (acI N) trivial) ⟨aq1 N,trivial⟩
noncomputable def L6:List AK:=[.v dh .k,.v dh .k]
noncomputable def ajh (N:Nat) (x:aw L6) (kf:aa→Option aa):Option aa:=ae5 N x.1 x.2.1 (fun r0=>kf ⟨[⟨.bool,.k,r0⟩],[]⟩)
noncomputable def QM (N:Nat):=au L6 (ajh N)
theorem aq6 (N:Nat):bL L6 (ajh N) hq [] (dO N N) Tryz.f193:=fun _ _=>by kernel_rfl
theorem aq7 {Γ:Gl} (N:Nat):Sound Γ Tryz.prog 193 (QM N):=e9 hq Tryz.f193 (aq6 N) trivial
noncomputable def wA:List Kd:=.v (.sl dh) .k::.v (.sl dh) .k::dn 3 (.v (.int .i64) .k::dn 21 ([]))
noncomputable def zr:List Kd:=dn 27 ([])
noncomputable def zt:List Kd:=dn 4 (.v .bool .k::dn 22 ([]))
noncomputable def VE:Hint:={ tab,hn:=[],loops:=[(4,wA)],outs:=[(4,2,zr),(4,1,zt)],bj:=[(6,(OT.seq [0,1,2,3,4,5,6,7,8,9] .done))] }
noncomputable def L7:List AK:=[.v (.sl dh) .k,.v (.sl dh) .k]
noncomputable def aji (N:Nat) (x:aw L7) (kf:aa→Option aa):Option aa:=alh N x.1 x.2.1 (fun r0=>kf ⟨[⟨.bool,.k,r0⟩],[]⟩)
noncomputable def QN (N:Nat):=au L7 (aji N)
noncomputable def Zx (N:Nat):List Entry:=[⟨193,[.val,.val],(QM N)⟩]
noncomputable def BT:Code:=aI Tryz.f108
noncomputable def VF (N n:Nat) (key:Nat) (S:St) (K:Ks):Option aa:=bif Nat.beq key 4 then ay wA S (fun x=>p9 N x.1 x.2.1 n (K (.x 0) (shape zr ())) (fun z0=>K .r (shape zt (z0,()))) x.2.2.1) else none
theorem aq8 (N key:Nat) (S:St) (K:Ks):VF N 0 key S K=none:=(bC (aq fun _=>rfl) rfl)
noncomputable def QO:Code:=(af BT).getD 0 .skip
theorem aq9:af BT=[QO]:=by kernel_rfl
theorem acJ (N:Nat):dB VE (Zx N) (VF N) N 4 wA QO:=fun _ _ _=>by kernel_rfl
theorem aq' (N:Nat):bL L7 (aji N) VE (Zx N) (VF N N) Tryz.f108:=fun _ _=>by kernel_rfl
theorem ara {Γ:Gl} (N:Nat):Sound Γ Tryz.prog 108 (QN N):=eZ VE Tryz.f108 BT (aq8 N) aq9 (aq' N) (rc (acJ N) trivial) ⟨aq7 N,trivial⟩
noncomputable def L8:List AK:=[.v bW .k,.v bW .k]
noncomputable def ajj (N:Nat) (x:aw L8) (kf:aa→Option aa):Option aa:=ae6 N x.1 x.2.1 (fun r0=>kf ⟨[⟨.bool,.k,r0⟩],[]⟩)
noncomputable def QP (N:Nat):=au L8 (ajj N)
theorem arb (N:Nat):bL L8 (ajj N) hq [] (dO N N) Tryz.f194:=fun _ _=>by kernel_rfl
theorem arc {Γ:Gl} (N:Nat):Sound Γ Tryz.prog 194 (QP N):=e9 hq Tryz.f194 (arb N) trivial
noncomputable def wB:List Kd:=.v (.sl bW) .k::.v (.sl bW) .k::dn 3 (.v (.int .i64) .k::dn 21 ([]))
noncomputable def zu:List Kd:=dn 27 ([])
noncomputable def zw:List Kd:=dn 4 (.v .bool .k::dn 22 ([]))
noncomputable def VG:Hint:={ tab,hn:=[],loops:=[(4,wB)],outs:=[(4,2,zu),(4,1,zw)],bj:=[(6,(OT.seq [0,1,2,3,4,5,6,7,8,9] .done))] }
noncomputable def L9:List AK:=[.v (.sl bW) .k,.v (.sl bW) .k]
noncomputable def ajk (N:Nat) (x:aw L9) (kf:aa→Option aa):Option aa:=ali N x.1 x.2.1 (fun r0=>kf ⟨[⟨.bool,.k,r0⟩],[]⟩)
noncomputable def QQ (N:Nat):=au L9 (ajk N)
noncomputable def Zy (N:Nat):List Entry:=[⟨194,[.val,.val],(QP N)⟩]
noncomputable def BU:Code:=aI Tryz.f109
noncomputable def VH (N n:Nat) (key:Nat) (S:St) (K:Ks):Option aa:=bif Nat.beq key 4 then ay wB S (fun x=>qa N x.1 x.2.1 n (K (.x 0) (shape zu ())) (fun z0=>K .r (shape zw (z0,()))) x.2.2.1) else none
theorem ard (N key:Nat) (S:St) (K:Ks):VH N 0 key S K=none:=(bC (aq fun _=>rfl) rfl)
noncomputable def QR:Code:=(af BU).getD 0 .skip
theorem are:af BU=[QR]:=by kernel_rfl
theorem acK (N:Nat):dB VG (Zy N) (VH N) N 4 wB QR:=fun _ _ _=>by kernel_rfl
theorem arf (N:Nat):bL L9 (ajk N) VG (Zy N) (VH N N) Tryz.f109:=fun _ _=>by kernel_rfl
theorem arh {Γ:Gl} (N:Nat):Sound Γ Tryz.prog 109 (QQ N):=eZ VG Tryz.f109 BU (ard N) are (arf N) (rc (acK N) trivial) ⟨arc N,trivial⟩
noncomputable def VI:List AK:=[.v bM .k,.v bM .k]
noncomputable def at4 (N:Nat) (x:aw VI) (kf:aa→Option aa):Option aa:=L24 N x.1 x.2.1 (fun r0=>kf ⟨[⟨.bool,.k,r0⟩],[]⟩)
noncomputable def Zz (N:Nat):=au VI (at4 N)
noncomputable def ayw (N:Nat):List Entry:=[⟨104,[.val,.val],(QA N)⟩,⟨105,[.val,.val],(QF N)⟩,⟨106,[.val,.val],(QI N)⟩,⟨107,[.val,.val],(zj N)⟩,⟨108,[.val,.val],(QN N)⟩,⟨109,[.val,.val],(QQ N)⟩]
theorem ayx (N:Nat):bL VI (at4 N) hq (ayw N) (dO N N) Tryz.f24:=fun _ _=>by kernel_rfl
theorem ayy {Γ:Gl} (N:Nat):Sound Γ Tryz.prog 24 (Zz N):=e9 hq Tryz.f24 (ayx N) ⟨aqS N,⟨aqZ N,⟨aq5 N,⟨LZ N,⟨ara N,⟨arh N,trivial⟩⟩⟩⟩⟩⟩
noncomputable def wC:List Kd:=.v (.sl (.int .i64)) (.o 3 (some 0) .k)::.v (.int .i64) .k::dn 3 (.v (.int .i64) .k::dn 13 ([]))
noncomputable def zx:List Kd:=.v (.sl (.int .i64)) (.o 3 (some 0) .k)::.v (.int .i64) .k::dn 17 ([])
noncomputable def VJ:Hint:={ tab,hn:=[],loops:=[(2,wC)],outs:=[(2,2,zx)],bj:=[],uj:=some (0,false) }
noncomputable def Ma:List AK:=[.v (.sl (.int .i64)) (.o 3 (some 0) .k),.v (.int .i64) .k]
noncomputable def ajl (N:Nat) (x:aw Ma) (kf:aa→Option aa):Option aa:=ae7 N x.1 x.2.1 (fun r0 z=>kf ⟨[⟨(.int .i64),.k,r0⟩],[⟨(.sl (.int .i64)),(.o 3 (some 0) .k),z⟩]⟩)
noncomputable def zy (N:Nat):=au Ma (ajl N)
noncomputable def BV:Code:=aI Tryz.f113
noncomputable def VK (N n:Nat) (key:Nat) (S:St) (K:Ks):Option aa:=bif Nat.beq key 2 then ay wC S (fun x=>sO n (fun z0 z1=>K (.x 0) (shape zx (z0,z1,()))) x.1 x.2.1 x.2.2.1) else none
theorem ari (N key:Nat) (S:St) (K:Ks):VK N 0 key S K=none:=(bC (aq fun _=>rfl) rfl)
noncomputable def QS:Code:=(af BV).getD 0 .skip
theorem arj:af BV=[QS]:=by kernel_rfl
theorem acL (N:Nat):dB VJ [] (VK N) N 2 wC QS:=fun _ _ _=>by kernel_rfl
theorem ark (N:Nat):bL Ma (ajl N) VJ [] (VK N N) Tryz.f113:=fun _ _=>by kernel_rfl
theorem Mb {Γ:Gl} (N:Nat):Sound Γ Tryz.prog 113 (zy N):=eZ VJ Tryz.f113 BV (ari N) arj (ark N) (rc (acL N) trivial) trivial
noncomputable def wD:List Kd:=.v (.sl bo) (.o 46 (some 0) (.p .k (.p .k (.p .k (.p .k (.p .k (.o 3 none .k)))))))::.v (.int .i64) .k::dn 3 (.v (.int .i64) .k::dn 49 ([]))
noncomputable def zz:List Kd:=.v (.sl bo) (.o 46 (some 0) (.p .k (.p .k (.p .k (.p .k (.p .k (.o 3 none .k)))))))::.v (.int .i64) .k::dn 53 ([])
noncomputable def VL:Hint:={ tab,hn:=[],loops:=[(2,wD)],outs:=[(2,2,zz)],bj:=[],uj:=some (0,false) }
noncomputable def Mc:List AK:=[.v (.sl bo) (.o 46 (some 0) (.p .k (.p .k (.p .k (.p .k (.p .k (.o 3 none .k))))))),.v (.int .i64) .k]
noncomputable def ajm (N:Nat) (x:aw Mc) (kf:aa→Option aa):Option aa:=avm N x.1 x.2.1 (fun r0 z=>kf ⟨[⟨(.int .i64),.k,r0⟩],[⟨(.sl bo),(.o 46 (some 0) (.p .k (.p .k (.p .k (.p .k (.p .k (.o 3 none .k))))))),z⟩]⟩)
noncomputable def QU (N:Nat):=au Mc (ajm N)
noncomputable def ZA (N:Nat):List Entry:=[⟨113,[.ns,.val],(zy N)⟩]
noncomputable def BW:Code:=aI Tryz.f110
noncomputable def VM (N n:Nat) (key:Nat) (S:St) (K:Ks):Option aa:=bif Nat.beq key 2 then ay wD S (fun x=>sQ N n (fun z0 z1=>K (.x 0) (shape zz (z0,z1,()))) x.1 x.2.1 x.2.2.1) else none
theorem arl (N key:Nat) (S:St) (K:Ks):VM N 0 key S K=none:=(bC (aq fun _=>rfl) rfl)
noncomputable def QV:Code:=(af BW).getD 0 .skip
theorem arn:af BW=[QV]:=by kernel_rfl
theorem acM (N:Nat):dB VL (ZA N) (VM N) N 2 wD QV:=fun _ _ _=>by kernel_rfl
theorem aro (N:Nat):bL Mc (ajm N) VL (ZA N) (VM N N) Tryz.f110:=fun _ _=>by kernel_rfl
theorem arp {Γ:Gl} (N:Nat):Sound Γ Tryz.prog 110 (QU N):=eZ VL Tryz.f110 BW (arl N) arn (aro N) (rc (acM N) trivial) ⟨Mb N,trivial⟩
noncomputable def wE:List Kd:=.v (.sl bY) (.o 80 (some 0) (.p .k (.p .k (.o 3 none .k))))::.v (.int .i64) .k::dn 3 (.v (.int .i64) .k::dn 28 ([]))
noncomputable def zA:List Kd:=.v (.sl bY) (.o 80 (some 0) (.p .k (.p .k (.o 3 none .k))))::.v (.int .i64) .k::dn 32 ([])
noncomputable def VN:Hint:={ tab,hn:=[],loops:=[(2,wE)],outs:=[(2,2,zA)],bj:=[],uj:=some (0,false) }
noncomputable def Me:List AK:=[.v (.sl bY) (.o 80 (some 0) (.p .k (.p .k (.o 3 none .k)))),.v (.int .i64) .k]
noncomputable def ajn (N:Nat) (x:aw Me) (kf:aa→Option aa):Option aa:=avn N x.1 x.2.1 (fun r0 z=>kf ⟨[⟨(.int .i64),.k,r0⟩],[⟨(.sl bY),(.o 80 (some 0) (.p .k (.p .k (.o 3 none .k)))),z⟩]⟩)
noncomputable def QW (N:Nat):=au Me (ajn N)
noncomputable def ZB (N:Nat):List Entry:=[⟨113,[.ns,.val],(zy N)⟩]
noncomputable def BX:Code:=aI Tryz.f111
noncomputable def VO (N n:Nat) (key:Nat) (S:St) (K:Ks):Option aa:=bif Nat.beq key 2 then ay wE S (fun x=>sR N n (fun z0 z1=>K (.x 0) (shape zA (z0,z1,()))) x.1 x.2.1 x.2.2.1) else none
theorem arq (N key:Nat) (S:St) (K:Ks):VO N 0 key S K=none:=(bC (aq fun _=>rfl) rfl)
noncomputable def QX:Code:=(af BX).getD 0 .skip
theorem ars:af BX=[QX]:=by kernel_rfl
theorem acN (N:Nat):dB VN (ZB N) (VO N) N 2 wE QX:=fun _ _ _=>by kernel_rfl
theorem art (N:Nat):bL Me (ajn N) VN (ZB N) (VO N N) Tryz.f111:=fun _ _=>by kernel_rfl
theorem aru {Γ:Gl} (N:Nat):Sound Γ Tryz.prog 111 (QW N):=eZ VN Tryz.f111 BX (arq N) ars (art N) (rc (acN N) trivial) ⟨Mb N,trivial⟩
noncomputable def wF:List Kd:=.v (.sl aP) (.o 104 (some 0) .k)::.v (.int .i64) .k::dn 3 (.v (.int .i64) .k::dn 21 ([]))
noncomputable def zB:List Kd:=.v (.sl aP) (.o 104 (some 0) .k)::.v (.int .i64) .k::dn 25 ([])
noncomputable def VP:Hint:={ tab,hn:=[],loops:=[(2,wF)],outs:=[(2,2,zB)],bj:=[],uj:=some (0,false) }
noncomputable def Mf:List AK:=[.v (.sl aP) (.o 104 (some 0) .k),.v (.int .i64) .k]
noncomputable def ajo (N:Nat) (x:aw Mf) (kf:aa→Option aa):Option aa:=avo N x.1 x.2.1 (fun r0 z=>kf ⟨[⟨(.int .i64),.k,r0⟩],[⟨(.sl aP),(.o 104 (some 0) .k),z⟩]⟩)
noncomputable def QY (N:Nat):=au Mf (ajo N)
noncomputable def BY:Code:=aI Tryz.f112
noncomputable def VQ (N n:Nat) (key:Nat) (S:St) (K:Ks):Option aa:=bif Nat.beq key 2 then ay wF S (fun x=>sS n (fun z0 z1=>K (.x 0) (shape zB (z0,z1,()))) x.1 x.2.1 x.2.2.1) else none
theorem arv (N key:Nat) (S:St) (K:Ks):VQ N 0 key S K=none:=(bC (aq fun _=>rfl) rfl)
noncomputable def QZ:Code:=(af BY).getD 0 .skip
theorem arw:af BY=[QZ]:=by kernel_rfl
theorem acO (N:Nat):dB VP [] (VQ N) N 2 wF QZ:=fun _ _ _=>by kernel_rfl
theorem arx (N:Nat):bL Mf (ajo N) VP [] (VQ N N) Tryz.f112:=fun _ _=>by kernel_rfl
theorem ary {Γ:Gl} (N:Nat):Sound Γ Tryz.prog 112 (QY N):=eZ VP Tryz.f112 BY (arv N) arw (arx N) (rc (acO N) trivial) trivial
noncomputable def wG:List Kd:=.v (.sl dh) (.o 136 (some 0) .k)::.v (.int .i64) .k::dn 3 (.v (.int .i64) .k::dn 28 ([]))
noncomputable def zC:List Kd:=.v (.sl dh) (.o 136 (some 0) .k)::.v (.int .i64) .k::dn 32 ([])
noncomputable def VR:Hint:={ tab,hn:=[],loops:=[(2,wG)],outs:=[(2,2,zC)],bj:=[],uj:=some (0,false) }
noncomputable def Mg:List AK:=[.v (.sl dh) (.o 136 (some 0) .k),.v (.int .i64) .k]
noncomputable def ajp (N:Nat) (x:aw Mg) (kf:aa→Option aa):Option aa:=avp N x.1 x.2.1 (fun r0 z=>kf ⟨[⟨(.int .i64),.k,r0⟩],[⟨(.sl dh),(.o 136 (some 0) .k),z⟩]⟩)
noncomputable def Q0 (N:Nat):=au Mg (ajp N)
noncomputable def BZ:Code:=aI Tryz.f114
noncomputable def VS (N n:Nat) (key:Nat) (S:St) (K:Ks):Option aa:=bif Nat.beq key 2 then ay wG S (fun x=>sU n (fun z0 z1=>K (.x 0) (shape zC (z0,z1,()))) x.1 x.2.1 x.2.2.1) else none
theorem arz (N key:Nat) (S:St) (K:Ks):VS N 0 key S K=none:=(bC (aq fun _=>rfl) rfl)
noncomputable def Q1:Code:=(af BZ).getD 0 .skip
theorem arA:af BZ=[Q1]:=by kernel_rfl
theorem acP (N:Nat):dB VR [] (VS N) N 2 wG Q1:=fun _ _ _=>by kernel_rfl
theorem arB (N:Nat):bL Mg (ajp N) VR [] (VS N N) Tryz.f114:=fun _ _=>by kernel_rfl
theorem arC {Γ:Gl} (N:Nat):Sound Γ Tryz.prog 114 (Q0 N):=eZ VR Tryz.f114 BZ (arz N) arA (arB N) (rc (acP N) trivial) trivial
noncomputable def wH:List Kd:=.v (.sl bW) (.o 102 (some 0) .k)::.v (.int .i64) .k::dn 3 (.v (.int .i64) .k::dn 35 ([]))
noncomputable def zD:List Kd:=.v (.sl bW) (.o 102 (some 0) .k)::.v (.int .i64) .k::dn 39 ([])
noncomputable def VT:Hint:={ tab,hn:=[],loops:=[(2,wH)],outs:=[(2,2,zD)],bj:=[],uj:=some (0,false) }
noncomputable def Mh:List AK:=[.v (.sl bW) (.o 102 (some 0) .k),.v (.int .i64) .k]
noncomputable def ajq (N:Nat) (x:aw Mh) (kf:aa→Option aa):Option aa:=avq N x.1 x.2.1 (fun r0 z=>kf ⟨[⟨(.int .i64),.k,r0⟩],[⟨(.sl bW),(.o 102 (some 0) .k),z⟩]⟩)
noncomputable def Q2 (N:Nat):=au Mh (ajq N)
noncomputable def B0:Code:=aI Tryz.f115
noncomputable def VU (N n:Nat) (key:Nat) (S:St) (K:Ks):Option aa:=bif Nat.beq key 2 then ay wH S (fun x=>sV n (fun z0 z1=>K (.x 0) (shape zD (z0,z1,()))) x.1 x.2.1 x.2.2.1) else none
theorem arD (N key:Nat) (S:St) (K:Ks):VU N 0 key S K=none:=(bC (aq fun _=>rfl) rfl)
noncomputable def Q3:Code:=(af B0).getD 0 .skip
theorem arE:af B0=[Q3]:=by kernel_rfl
theorem acQ (N:Nat):dB VT [] (VU N) N 2 wH Q3:=fun _ _ _=>by kernel_rfl
theorem arF (N:Nat):bL Mh (ajq N) VT [] (VU N N) Tryz.f115:=fun _ _=>by kernel_rfl
theorem arG {Γ:Gl} (N:Nat):Sound Γ Tryz.prog 115 (Q2 N):=eZ VT Tryz.f115 B0 (arD N) arE (arF N) (rc (acQ N) trivial) trivial
noncomputable def at5:Hint:={ tab,hn:=[],loops:=[],outs:=[],bj:=[],uj:=some (2,true) }
noncomputable def VV:List AK:=[.v bM (.p (.o 46 (some 0) (.p .k (.p .k (.p .k (.p .k (.p .k (.o 3 none .k))))))) (.p (.o 80 (some 1) (.p .k (.p .k (.o 3 none .k)))) (.p (.o 104 (some 2) .k) (.p (.o 3 (some 3) .k) (.p (.o 136 (some 4) .k) (.p (.o 102 (some 5) .k) .k)))))),.v (.int .i64) .k]
noncomputable def at6 (N:Nat) (x:aw VV) (kf:aa→Option aa):Option aa:=L25 N x.1 x.2.1 (fun r0 z=>kf ⟨[⟨(.int .i64),.k,r0⟩],[⟨bM,(.p (.o 46 (some 0) (.p .k (.p .k (.p .k (.p .k (.p .k (.o 3 none .k))))))) (.p (.o 80 (some 1) (.p .k (.p .k (.o 3 none .k)))) (.p (.o 104 (some 2) .k) (.p (.o 3 (some 3) .k) (.p (.o 136 (some 4) .k) (.p (.o 102 (some 5) .k) .k)))))),z⟩]⟩)
noncomputable def ZC (N:Nat):=au VV (at6 N)
noncomputable def ayz (N:Nat):List Entry:=[⟨110,[.ns,.val],(QU N)⟩,⟨111,[.ns,.val],(QW N)⟩,⟨112,[.ns,.val],(QY N)⟩,⟨113,[.ns,.val],(zy N)⟩,⟨114,[.ns,.val],(Q0 N)⟩,⟨115,[.ns,.val],(Q2 N)⟩]
theorem ayA (N:Nat):bL VV (at6 N) at5 (ayz N) (dO N N) Tryz.f25:=fun _ _=>by kernel_rfl
theorem ayB {Γ:Gl} (N:Nat):Sound Γ Tryz.prog 25 (ZC N):=e9 at5 Tryz.f25 (ayA N) ⟨arp N,⟨aru N,⟨ary N,⟨Mb N,⟨arC N,⟨arG N,trivial⟩⟩⟩⟩⟩⟩
noncomputable def wI:List Kd:=.v (.sl (.int .i64)) .k::.v (.int .i64) .k::dn 3 (.v (.int .i64) .k::dn 15 ([]))
noncomputable def zE:List Kd:=dK::.v (.int .i64) .k::dn 19 ([])
noncomputable def zF:List Kd:=dn 4 (.v (.int .i64) .k::dn 16 ([]))
noncomputable def VW:Hint:={ tab,hn:=[],loops:=[(2,wI)],outs:=[(2,2,zE),(2,1,zF)],bj:=[] }
noncomputable def Mi:List AK:=[.v (.sl (.int .i64)) .k,.v (.int .i64) .k]
noncomputable def ajr (N:Nat) (x:aw Mi) (kf:aa→Option aa):Option aa:=ae9 N x.1 x.2.1 (fun r0=>kf ⟨[⟨(.int .i64),.k,r0⟩],[]⟩)
noncomputable def zG (N:Nat):=au Mi (ajr N)
noncomputable def B2:Code:=aI Tryz.f119
noncomputable def VX (N n:Nat) (key:Nat) (S:St) (K:Ks):Option aa:=bif Nat.beq key 2 then ay wI S (fun x=>sW x.1 n (fun z0=>K (.x 0) (shape zE (z0,()))) (fun z0=>K .r (shape zF (z0,()))) x.2.1 x.2.2.1) else none
theorem arH (N key:Nat) (S:St) (K:Ks):VX N 0 key S K=none:=(bC (aq fun _=>rfl) rfl)
noncomputable def Q4:Code:=(af B2).getD 0 .skip
theorem arI:af B2=[Q4]:=by kernel_rfl
theorem acR (N:Nat):dB VW [] (VX N) N 2 wI Q4:=fun _ _ _=>by kernel_rfl
theorem arJ (N:Nat):bL Mi (ajr N) VW [] (VX N N) Tryz.f119:=fun _ _=>by kernel_rfl
theorem Mj {Γ:Gl} (N:Nat):Sound Γ Tryz.prog 119 (zG N):=eZ VW Tryz.f119 B2 (arH N) arI (arJ N) (rc (acR N) trivial) trivial
noncomputable def wJ:List Kd:=.v (.sl bo) .k::.v (.int .i64) .k::dn 3 (.v (.int .i64) .k::dn 61 ([]))
noncomputable def zH:List Kd:=dK::.v (.int .i64) .k::dn 65 ([])
noncomputable def zI:List Kd:=dn 4 (.v (.int .i64) .k::dn 62 ([]))
noncomputable def VY:Hint:={ tab,hn:=[],loops:=[(2,wJ)],outs:=[(2,2,zH),(2,1,zI)],bj:=[] }
noncomputable def Mk:List AK:=[.v (.sl bo) .k,.v (.int .i64) .k]
noncomputable def ajs (N:Nat) (x:aw Mk) (kf:aa→Option aa):Option aa:=avs N x.1 x.2.1 (fun r0=>kf ⟨[⟨(.int .i64),.k,r0⟩],[]⟩)
noncomputable def Q5 (N:Nat):=au Mk (ajs N)
noncomputable def ZD (N:Nat):List Entry:=[⟨119,[.val,.val],(zG N)⟩]
noncomputable def B3:Code:=aI Tryz.f116
noncomputable def VZ (N n:Nat) (key:Nat) (S:St) (K:Ks):Option aa:=bif Nat.beq key 2 then ay wJ S (fun x=>sX N x.1 n (fun z0=>K (.x 0) (shape zH (z0,()))) (fun z0=>K .r (shape zI (z0,()))) x.2.1 x.2.2.1) else none
theorem arK (N key:Nat) (S:St) (K:Ks):VZ N 0 key S K=none:=(bC (aq fun _=>rfl) rfl)
noncomputable def Q6:Code:=(af B3).getD 0 .skip
theorem arL:af B3=[Q6]:=by kernel_rfl
theorem acS (N:Nat):dB VY (ZD N) (VZ N) N 2 wJ Q6:=fun _ _ _=>by kernel_rfl
theorem arM (N:Nat):bL Mk (ajs N) VY (ZD N) (VZ N N) Tryz.f116:=fun _ _=>by kernel_rfl
theorem arN {Γ:Gl} (N:Nat):Sound Γ Tryz.prog 116 (Q5 N):=eZ VY Tryz.f116 B3 (arK N) arL (arM N) (rc (acS N) trivial) ⟨Mj N,trivial⟩
noncomputable def wK:List Kd:=.v (.sl bY) .k::.v (.int .i64) .k::dn 3 (.v (.int .i64) .k::dn 34 ([]))
noncomputable def zJ:List Kd:=dK::.v (.int .i64) .k::dn 38 ([])
noncomputable def zK:List Kd:=dn 4 (.v (.int .i64) .k::dn 35 ([]))
noncomputable def V0:Hint:={ tab,hn:=[],loops:=[(2,wK)],outs:=[(2,2,zJ),(2,1,zK)],bj:=[] }
noncomputable def Ml:List AK:=[.v (.sl bY) .k,.v (.int .i64) .k]
noncomputable def ajt (N:Nat) (x:aw Ml) (kf:aa→Option aa):Option aa:=avt N x.1 x.2.1 (fun r0=>kf ⟨[⟨(.int .i64),.k,r0⟩],[]⟩)
noncomputable def Q7 (N:Nat):=au Ml (ajt N)
noncomputable def ZE (N:Nat):List Entry:=[⟨119,[.val,.val],(zG N)⟩]
noncomputable def B4:Code:=aI Tryz.f117
noncomputable def V1 (N n:Nat) (key:Nat) (S:St) (K:Ks):Option aa:=bif Nat.beq key 2 then ay wK S (fun x=>sY N x.1 n (fun z0=>K (.x 0) (shape zJ (z0,()))) (fun z0=>K .r (shape zK (z0,()))) x.2.1 x.2.2.1) else none
theorem arO (N key:Nat) (S:St) (K:Ks):V1 N 0 key S K=none:=(bC (aq fun _=>rfl) rfl)
noncomputable def Q8:Code:=(af B4).getD 0 .skip
theorem arP:af B4=[Q8]:=by kernel_rfl
theorem acT (N:Nat):dB V0 (ZE N) (V1 N) N 2 wK Q8:=fun _ _ _=>by kernel_rfl
theorem arQ (N:Nat):bL Ml (ajt N) V0 (ZE N) (V1 N N) Tryz.f117:=fun _ _=>by kernel_rfl
theorem arR {Γ:Gl} (N:Nat):Sound Γ Tryz.prog 117 (Q7 N):=eZ V0 Tryz.f117 B4 (arO N) arP (arQ N) (rc (acT N) trivial) ⟨Mj N,trivial⟩
noncomputable def wL:List Kd:=.v (.sl aP) .k::.v (.int .i64) .k::dn 3 (.v (.int .i64) .k::dn 25 ([]))
noncomputable def zL:List Kd:=dK::.v (.int .i64) .k::dn 29 ([])
noncomputable def zM:List Kd:=dn 4 (.v (.int .i64) .k::dn 26 ([]))
noncomputable def V2:Hint:={ tab,hn:=[],loops:=[(2,wL)],outs:=[(2,2,zL),(2,1,zM)],bj:=[] }
noncomputable def Mm:List AK:=[.v (.sl aP) .k,.v (.int .i64) .k]
noncomputable def aju (N:Nat) (x:aw Mm) (kf:aa→Option aa):Option aa:=avu N x.1 x.2.1 (fun r0=>kf ⟨[⟨(.int .i64),.k,r0⟩],[]⟩)
noncomputable def Q9 (N:Nat):=au Mm (aju N)
noncomputable def B5:Code:=aI Tryz.f118
noncomputable def V3 (N n:Nat) (key:Nat) (S:St) (K:Ks):Option aa:=bif Nat.beq key 2 then ay wL S (fun x=>sZ x.1 n (fun z0=>K (.x 0) (shape zL (z0,()))) (fun z0=>K .r (shape zM (z0,()))) x.2.1 x.2.2.1) else none
theorem arS (N key:Nat) (S:St) (K:Ks):V3 N 0 key S K=none:=(bC (aq fun _=>rfl) rfl)
noncomputable def Q':Code:=(af B5).getD 0 .skip
theorem arT:af B5=[Q']:=by kernel_rfl
theorem acU (N:Nat):dB V2 [] (V3 N) N 2 wL Q':=fun _ _ _=>by kernel_rfl
theorem arU (N:Nat):bL Mm (aju N) V2 [] (V3 N N) Tryz.f118:=fun _ _=>by kernel_rfl
theorem arV {Γ:Gl} (N:Nat):Sound Γ Tryz.prog 118 (Q9 N):=eZ V2 Tryz.f118 B5 (arS N) arT (arU N) (rc (acU N) trivial) trivial
noncomputable def wM:List Kd:=.v (.sl dh) .k::.v (.int .i64) .k::dn 3 (.v (.int .i64) .k::dn 34 ([]))
noncomputable def zN:List Kd:=dK::.v (.int .i64) .k::dn 38 ([])
noncomputable def zO:List Kd:=dn 4 (.v (.int .i64) .k::dn 35 ([]))
noncomputable def V4:Hint:={ tab,hn:=[],loops:=[(2,wM)],outs:=[(2,2,zN),(2,1,zO)],bj:=[] }
noncomputable def Mn:List AK:=[.v (.sl dh) .k,.v (.int .i64) .k]
noncomputable def ajv (N:Nat) (x:aw Mn) (kf:aa→Option aa):Option aa:=avv N x.1 x.2.1 (fun r0=>kf ⟨[⟨(.int .i64),.k,r0⟩],[]⟩)
noncomputable def Ra (N:Nat):=au Mn (ajv N)
noncomputable def B6:Code:=aI Tryz.f120
noncomputable def V5 (N n:Nat) (key:Nat) (S:St) (K:Ks):Option aa:=bif Nat.beq key 2 then ay wM S (fun x=>s4 x.1 n (fun z0=>K (.x 0) (shape zN (z0,()))) (fun z0=>K .r (shape zO (z0,()))) x.2.1 x.2.2.1) else none
theorem arW (N key:Nat) (S:St) (K:Ks):V5 N 0 key S K=none:=(bC (aq fun _=>rfl) rfl)
noncomputable def Rb:Code:=(af B6).getD 0 .skip
theorem arX:af B6=[Rb]:=by kernel_rfl
theorem acV (N:Nat):dB V4 [] (V5 N) N 2 wM Rb:=fun _ _ _=>by kernel_rfl
theorem arY (N:Nat):bL Mn (ajv N) V4 [] (V5 N N) Tryz.f120:=fun _ _=>by kernel_rfl
theorem arZ {Γ:Gl} (N:Nat):Sound Γ Tryz.prog 120 (Ra N):=eZ V4 Tryz.f120 B6 (arW N) arX (arY N) (rc (acV N) trivial) trivial
noncomputable def wN:List Kd:=.v (.sl bW) .k::.v (.int .i64) .k::dn 3 (.v (.int .i64) .k::dn 43 ([]))
noncomputable def zP:List Kd:=dK::.v (.int .i64) .k::dn 47 ([])
noncomputable def zQ:List Kd:=dn 4 (.v (.int .i64) .k::dn 44 ([]))
noncomputable def V6:Hint:={ tab,hn:=[],loops:=[(2,wN)],outs:=[(2,2,zP),(2,1,zQ)],bj:=[] }
noncomputable def Mo:List AK:=[.v (.sl bW) .k,.v (.int .i64) .k]
noncomputable def ajw (N:Nat) (x:aw Mo) (kf:aa→Option aa):Option aa:=avw N x.1 x.2.1 (fun r0=>kf ⟨[⟨(.int .i64),.k,r0⟩],[]⟩)
noncomputable def Rc (N:Nat):=au Mo (ajw N)
noncomputable def B7:Code:=aI Tryz.f121
noncomputable def V7 (N n:Nat) (key:Nat) (S:St) (K:Ks):Option aa:=bif Nat.beq key 2 then ay wN S (fun x=>s5 x.1 n (fun z0=>K (.x 0) (shape zP (z0,()))) (fun z0=>K .r (shape zQ (z0,()))) x.2.1 x.2.2.1) else none
theorem ar0 (N key:Nat) (S:St) (K:Ks):V7 N 0 key S K=none:=(bC (aq fun _=>rfl) rfl)
noncomputable def Re:Code:=(af B7).getD 0 .skip
theorem ar1:af B7=[Re]:=by kernel_rfl
theorem acW (N:Nat):dB V6 [] (V7 N) N 2 wN Re:=fun _ _ _=>by kernel_rfl
theorem ar2 (N:Nat):bL Mo (ajw N) V6 [] (V7 N N) Tryz.f121:=fun _ _=>by kernel_rfl
theorem ar3 {Γ:Gl} (N:Nat):Sound Γ Tryz.prog 121 (Rc N):=eZ V6 Tryz.f121 B7 (ar0 N) ar1 (ar2 N) (rc (acW N) trivial) trivial
noncomputable def V8:List AK:=[.v bM .k,.v (.int .i64) .k]
noncomputable def at7 (N:Nat) (x:aw V8) (kf:aa→Option aa):Option aa:=L26 N x.1 x.2.1 (fun r0=>kf ⟨[⟨(.int .i64),.k,r0⟩],[]⟩)
noncomputable def ZF (N:Nat):=au V8 (at7 N)
noncomputable def ayC (N:Nat):List Entry:=[⟨116,[.val,.val],(Q5 N)⟩,⟨117,[.val,.val],(Q7 N)⟩,⟨118,[.val,.val],(Q9 N)⟩,⟨119,[.val,.val],(zG N)⟩,⟨120,[.val,.val],(Ra N)⟩,⟨121,[.val,.val],(Rc N)⟩]
theorem ayD (N:Nat):bL V8 (at7 N) hq (ayC N) (dO N N) Tryz.f26:=fun _ _=>by kernel_rfl
theorem ayE {Γ:Gl} (N:Nat):Sound Γ Tryz.prog 26 (ZF N):=e9 hq Tryz.f26 (ayD N) ⟨arN N,⟨arR N,⟨arV N,⟨Mj N,⟨arZ N,⟨ar3 N,trivial⟩⟩⟩⟩⟩⟩
noncomputable def wO:List Kd:=dK::.v (.ptr bM) (.o 31 none .k)::dK::.v (.sl (.int .i64)) (.o 3 none .k)::.v (.ptr dh) (.o 136 none .k)::.v (.int .i64) .k::dn 21 ([])
noncomputable def zR:List Kd:=dn 3 (.v (.sl (.int .i64)) (.o 3 none .k)::dn 23 ([]))
noncomputable def V9:Hint:={ tab,hn:=[],loops:=[(4,wO)],outs:=[(4,2,zR)],bj:=[(6,(OT.seq [0,1,2,3,4,5,6] .done))] }
noncomputable def Mp:List AK:=[.v bM .k]
noncomputable def ajx (N:Nat) (x:aw Mp) (kf:aa→Option aa):Option aa:=alj N x.1 (fun r0=>kf ⟨[⟨(.sl (.int .i64)),(.o 3 none .k),r0⟩],[]⟩)
noncomputable def Rf (N:Nat):=au Mp (ajx N)
noncomputable def B8:Code:=aI Tryz.f123
noncomputable def V' (N n:Nat) (key:Nat) (S:St) (K:Ks):Option aa:=bif Nat.beq key 4 then ay wO S (fun x=>nb x.1 x.2.2.1 n (fun z0=>K (.x 0) (shape zR (z0,()))) x.2.1 x.2.2.2.1) else none
theorem ar4 (N key:Nat) (S:St) (K:Ks):V' N 0 key S K=none:=(bC (aq fun _=>rfl) rfl)
noncomputable def Rg:Code:=(af B8).getD 0 .skip
theorem ar5:af B8=[Rg]:=by kernel_rfl
theorem acX (N:Nat):dB V9 [] (V' N) N 4 wO Rg:=fun _ _ _=>by kernel_rfl
theorem ar6 (N:Nat):bL Mp (ajx N) V9 [] (V' N N) Tryz.f123:=fun _ _=>by kernel_rfl
theorem ar7 {Γ:Gl} (N:Nat):Sound Γ Tryz.prog 123 (Rf N):=eZ V9 Tryz.f123 B8 (ar4 N) ar5 (ar6 N) (rc (acX N) trivial) trivial
noncomputable def wP:List Kd:=.v (.sl dh) .k::dK::dK::.v (.int .i64) .k::dn 33 ([])
noncomputable def zS:List Kd:=.v (.sl dh) .k::dn 36 ([])
noncomputable def zT:List Kd:=dK::dK::.v .bool .k::dn 34 ([])
noncomputable def Wa:Hint:={ tab,hn:=[],loops:=[(2,wP)],outs:=[(2,2,zS),(2,1,zT)],bj:=[(4,(OT.seq [0,1,2,3,4,5,6,7,8,9,10,11,12,13,14,15,16,17,18,19,20,21,22,23] .done))] }
noncomputable def Mq:List AK:=[.v (.sl dh) .k]
noncomputable def ajy (N:Nat) (x:aw Mq) (kf:aa→Option aa):Option aa:=Te N x.1 (fun r0=>kf ⟨[⟨.bool,.k,r0⟩],[]⟩)
noncomputable def zU (N:Nat):=au Mq (ajy N)
noncomputable def ZG (N:Nat):List Entry:=[⟨199,[.val],(zd N)⟩]
noncomputable def B9:Code:=aI Tryz.f201
noncomputable def Wb (N n:Nat) (key:Nat) (S:St) (K:Ks):Option aa:=bif Nat.beq key 2 then ay wP S (fun x=>nc N x.1 n (K (.x 0) (shape zS (x.1,()))) (fun z0=>K .r (shape zT (z0,()))) x.2.1) else none
theorem ar8 (N key:Nat) (S:St) (K:Ks):Wb N 0 key S K=none:=(bC (aq fun _=>rfl) rfl)
noncomputable def Rh:Code:=(af B9).getD 0 .skip
theorem ar9:af B9=[Rh]:=by kernel_rfl
theorem acY (N:Nat):dB Wa (ZG N) (Wb N) N 2 wP Rh:=fun _ _ _=>by kernel_rfl
theorem ar' (N:Nat):bL Mq (ajy N) Wa (ZG N) (Wb N N) Tryz.f201:=fun _ _=>by kernel_rfl
theorem Mr {Γ:Gl} (N:Nat):Sound Γ Tryz.prog 201 (zU N):=eZ Wa Tryz.f201 B9 (ar8 N) ar9 (ar' N) (rc (acY N) trivial) ⟨LV N,trivial⟩
noncomputable def Ms:List AK:=[.v dh .k]
noncomputable def ajz (N:Nat) (x:aw Ms) (kf:aa→Option aa):Option aa:=aaY N x.1 (fun r0=>kf ⟨[⟨(.int .i64),.k,r0⟩],[]⟩)
noncomputable def GS (N:Nat):=au Ms (ajz N)
theorem asa (N:Nat):bL Ms (ajz N) hq [] (dO N N) Tryz.f204:=fun _ _=>by kernel_rfl
theorem ZH {Γ:Gl} (N:Nat):Sound Γ Tryz.prog 204 (GS N):=e9 hq Tryz.f204 (asa N) trivial
noncomputable def wQ:List Kd:=.v (.sl dh) .k::.v (.int .i64) .k::dn 3 (.v (.int .i64) .k::.v (.int .i64) .k::dn 20 ([]))
noncomputable def zV:List Kd:=dn 5 (.v (.int .i64) .k::dn 21 ([]))
noncomputable def Wc:Hint:={ tab,hn:=[],loops:=[(3,wQ)],outs:=[(3,2,zV)],bj:=[] }
noncomputable def Mt:List AK:=[.v (.sl dh) .k,.v (.int .i64) .k]
noncomputable def ajA (N:Nat) (x:aw Mt) (kf:aa→Option aa):Option aa:=afa N x.1 x.2.1 (fun r0=>kf ⟨[⟨(.int .i64),.k,r0⟩],[]⟩)
noncomputable def Ri (N:Nat):=au Mt (ajA N)
noncomputable def ZI (N:Nat):List Entry:=[⟨201,[.val],(zU N)⟩,⟨204,[.val],(GS N)⟩]
noncomputable def B':Code:=aI Tryz.f202
noncomputable def Wd (N n:Nat) (key:Nat) (S:St) (K:Ks):Option aa:=bif Nat.beq key 3 then ay wQ S (fun x=>nf N x.1 x.2.1 n (fun z0=>K (.x 0) (shape zV (z0,()))) x.2.2.1 x.2.2.2.1) else none
theorem asb (N key:Nat) (S:St) (K:Ks):Wd N 0 key S K=none:=(bC (aq fun _=>rfl) rfl)
noncomputable def Rj:Code:=(af B').getD 0 .skip
theorem asc:af B'=[Rj]:=by kernel_rfl
theorem acZ (N:Nat):dB Wc (ZI N) (Wd N) N 3 wQ Rj:=fun _ _ _=>by kernel_rfl
theorem asd (N:Nat):bL Mt (ajA N) Wc (ZI N) (Wd N N) Tryz.f202:=fun _ _=>by kernel_rfl
theorem ase {Γ:Gl} (N:Nat):Sound Γ Tryz.prog 202 (Ri N):=eZ Wc Tryz.f202 B' (asb N) asc (asd N) (rc (acZ N) trivial) ⟨Mr N,⟨ZH N,trivial⟩⟩
noncomputable def wR:List Kd:=.v (.sl dh) .k::.v (.int .i64) .k::dn 3 (.v (.int .i64) .k::.v (.int .i64) .k::dn 30 ([]))
noncomputable def zW:List Kd:=dn 5 (.v (.int .i64) .k::dn 31 ([]))
noncomputable def We:Hint:={ tab,hn:=[],loops:=[(3,wR)],outs:=[(3,2,zW)],bj:=[] }
noncomputable def Mu:List AK:=[.v (.sl dh) .k,.v (.int .i64) .k]
noncomputable def ajB (N:Nat) (x:aw Mu) (kf:aa→Option aa):Option aa:=avx N x.1 x.2.1 (fun r0=>kf ⟨[⟨(.int .i64),.k,r0⟩],[]⟩)
noncomputable def Rk (N:Nat):=au Mu (ajB N)
noncomputable def ZJ (N:Nat):List Entry:=[⟨201,[.val],(zU N)⟩]
noncomputable def Ca:Code:=aI Tryz.f203
noncomputable def Wf (N n:Nat) (key:Nat) (S:St) (K:Ks):Option aa:=bif Nat.beq key 3 then ay wR S (fun x=>xD N x.1 x.2.1 n (fun z0=>K (.x 0) (shape zW (z0,()))) x.2.2.1 x.2.2.2.1) else none
theorem asf (N key:Nat) (S:St) (K:Ks):Wf N 0 key S K=none:=(bC (aq fun _=>rfl) rfl)
noncomputable def Rl:Code:=(af Ca).getD 0 .skip
theorem asg:af Ca=[Rl]:=by kernel_rfl
theorem ac0 (N:Nat):dB We (ZJ N) (Wf N) N 3 wR Rl:=fun _ _ _=>by kernel_rfl
theorem ash (N:Nat):bL Mu (ajB N) We (ZJ N) (Wf N N) Tryz.f203:=fun _ _=>by kernel_rfl
theorem asi {Γ:Gl} (N:Nat):Sound Γ Tryz.prog 203 (Rk N):=eZ We Tryz.f203 Ca (asf N) asg (ash N) (rc (ac0 N) trivial) ⟨Mr N,trivial⟩
noncomputable def Mv:List AK:=[.v (.sl dh) .k]
noncomputable def ajC (N:Nat) (x:aw Mv) (kf:aa→Option aa):Option aa:=aaZ N x.1 (fun r0=>kf ⟨[⟨(.int .i64),.k,r0⟩],[]⟩)
noncomputable def Rm (N:Nat):=au Mv (ajC N)
noncomputable def asj (N:Nat):List Entry:=[⟨201,[.val],(zU N)⟩,⟨202,[.val,.val],(Ri N)⟩,⟨203,[.val,.val],(Rk N)⟩,⟨204,[.val],(GS N)⟩]
theorem asl (N:Nat):bL Mv (ajC N) hq (asj N) (dO N N) Tryz.f125:=fun _ _=>by kernel_rfl
theorem asm {Γ:Gl} (N:Nat):Sound Γ Tryz.prog 125 (Rm N):=e9 hq Tryz.f125 (asl N) ⟨Mr N,⟨ase N,⟨asi N,⟨ZH N,trivial⟩⟩⟩⟩
noncomputable def Mw:List AK:=[.v (.sl bo) .k,.v (.int .i64) .k,.v (.int .i64) .k,.v (.int .i64) .k,.v (.int .i64) .k,.v (.int .i64) .k]
noncomputable def ajD (N:Nat) (x:aw Mw) (kf:aa→Option aa):Option aa:=aa0 N x.1 x.2.1 x.2.2.1 x.2.2.2.1 x.2.2.2.2.1 x.2.2.2.2.2.1 (fun r0 r1=>kf ⟨[⟨(.sl bo),(.o 46 none (.p .k (.p .k (.p .k (.p .k (.p .k (.o 3 none .k))))))),r0⟩,⟨.bool,.k,r1⟩],[]⟩)
noncomputable def Rn (N:Nat):=au Mw (ajD N)
noncomputable def asn (N:Nat):List Entry:=[⟨173,[.val],(sw N)⟩,⟨200,[.val,.val],(kJ N)⟩,⟨175,[.val],(gU N)⟩,⟨195,[.val,.val,.val],(jo N)⟩]
theorem aso (N:Nat):bL Mw (ajD N) hq (asn N) (dO N N) Tryz.f124:=fun _ _=>by kernel_rfl
theorem asp {Γ:Gl} (N:Nat):Sound Γ Tryz.prog 124 (Rn N):=e9 hq Tryz.f124 (aso N) ⟨D3 N,⟨qs N,⟨lG N,⟨nr N,trivial⟩⟩⟩⟩
noncomputable def wS:List Kd:=.v (.sl (.int .i64)) .k::.v (.int .i64) .k::dn 3 (.v (.int .i64) .k::dn 41 ([]))
noncomputable def zX:List Kd:=.v (.sl (.int .i64)) .k::.v (.int .i64) .k::dn 3 (.v (.int .i64) .k::dn 41 ([]))
noncomputable def Wg:Hint:={ tab,hn:=[],loops:=[(2,wS)],outs:=[(2,2,zX)],bj:=[(6,(OT.seq [1,2,3,5,8,9,10] (.any [0,4,6] (OT.seq [7,11,12] .done))))] }
noncomputable def My:List AK:=[.v (.sl (.int .i64)) .k,.v (.int .i64) .k]
noncomputable def ajE (N:Nat) (x:aw My) (kf:aa→Option aa):Option aa:=vg N x.1 x.2.1 (fun r0=>kf ⟨[⟨(.sl (.int .i64)),(.o 3 none .k),r0⟩],[]⟩)
noncomputable def Ro (N:Nat):=au My (ajE N)
noncomputable def Cb:Code:=aI Tryz.f127
noncomputable def Wh (N n:Nat) (key:Nat) (S:St) (K:Ks):Option aa:=bif Nat.beq key 2 then ay wS S (fun x=>qb x.1 x.2.1 n (fun z0=>K (.x 0) (shape zX (x.1,x.2.1,z0,()))) x.2.2.1) else none
theorem asq (N key:Nat) (S:St) (K:Ks):Wh N 0 key S K=none:=(bC (aq fun _=>rfl) rfl)
noncomputable def Rp:Code:=(af Cb).getD 0 .skip
theorem asr:af Cb=[Rp]:=by kernel_rfl
theorem ac1 (N:Nat):dB Wg [] (Wh N) N 2 wS Rp:=fun _ _ _=>by kernel_rfl
theorem ass (N:Nat):bL My (ajE N) Wg [] (Wh N N) Tryz.f127:=fun _ _=>by kernel_rfl
theorem ast {Γ:Gl} (N:Nat):Sound Γ Tryz.prog 127 (Ro N):=eZ Wg Tryz.f127 Cb (asq N) asr (ass N) (rc (ac1 N) trivial) trivial
noncomputable def Cc:List Kd:=dK::.v (.ptr bM) (.o 31 none .k)::.v (.ptr bM) (.o 31 none (.p (.o 46 none (.p .k (.p .k (.p .k (.p .k (.p .k (.o 3 none .k))))))) (.p (.o 80 none (.p .k (.p .k (.o 3 none .k)))) (.p (.o 104 none .k) (.p (.o 3 none .k) (.p (.o 136 none .k) (.p (.o 102 none .k) .k)))))))::dK::.v (.ptr bM) (.o 31 none (.p (.o 46 none (.p .k (.p .k (.p .k (.p .k (.p .k (.o 3 none .k))))))) (.p (.o 80 none (.p .k (.p .k (.o 3 none .k)))) (.p (.o 104 none .k) (.p (.o 3 none .k) (.p (.o 136 none .k) (.p (.o 102 none .k) .k)))))))::.v .bool .k::.v (.int .i64) .k::dn 113 ([])
noncomputable def Dm:List Kd:=dK::.v (.ptr bM) (.o 31 none .k)::.v (.ptr bM) (.o 31 none (.p (.o 46 none (.p .k (.p .k (.p .k (.p .k (.p .k (.o 3 none .k))))))) (.p (.o 80 none (.p .k (.p .k (.o 3 none .k)))) (.p (.o 104 none .k) (.p (.o 3 none .k) (.p (.o 136 none .k) (.p (.o 102 none .k) .k)))))))::dK::.v (.ptr bM) (.o 31 none (.p (.o 46 none (.p .k (.p .k (.p .k (.p .k (.p .k (.o 3 none .k))))))) (.p (.o 80 none (.p .k (.p .k (.o 3 none .k)))) (.p (.o 104 none .k) (.p (.o 3 none .k) (.p (.o 136 none .k) (.p (.o 102 none .k) .k)))))))::.v .bool .k::dn 114 ([])
noncomputable def ajF:Hint:={ tab,hn:=[],loops:=[(6,Cc)],outs:=[(6,2,Dm)],bj:=[(9,(OT.seq [0,1,2,3,4,5,6,7,8,9,10,11,12,13,14,17,18,19,20,15,16,21,22,23,24,25,26] .done)),(12,(OT.seq [0,1,2,3,4,5,6,7,8] .done)),(13,(OT.seq [0,1,2,3,4,5,6,7,8,9,10,11,12,13,14,16,17,18,19,20,21,15,22,23,24,25] .done))] }
noncomputable def Wi:List AK:=[.v bM .k]
noncomputable def at8 (N:Nat) (x:aw Wi) (kf:aa→Option aa):Option aa:=S27 N x.1 (fun r0 r1=>kf ⟨[⟨bM,(.p (.o 46 none (.p .k (.p .k (.p .k (.p .k (.p .k (.o 3 none .k))))))) (.p (.o 80 none (.p .k (.p .k (.o 3 none .k)))) (.p (.o 104 none .k) (.p (.o 3 none .k) (.p (.o 136 none .k) (.p (.o 102 none .k) .k)))))),r0⟩,⟨.bool,.k,r1⟩],[]⟩)
noncomputable def ZK (N:Nat):=au Wi (at8 N)
noncomputable def ajG (N:Nat):List Entry:=[⟨90,[.val],(kn N)⟩,⟨122,[.val],(zg N)⟩,⟨94,[.val],(yZ N)⟩,⟨123,[.val],(Rf N)⟩,⟨125,[.val],(Rm N)⟩,⟨124,[.val,.val,.val,.val,.val,.val],(Rn N)⟩,⟨126,[.val,.val],(GR N)⟩,⟨127,[.val,.val],(Ro N)⟩,⟨93,[.val,.take,.val,.val,.val],(qt N)⟩]
noncomputable def GU:Code:=aI Tryz.f27
noncomputable def ajH (N n:Nat) (key:Nat) (S:St) (K:Ks):Option aa:=bif Nat.beq key 6 then ay Cc S (fun x=>rQ N x.1 x.2.1 n (fun z0 z1=>K (.x 0) (shape Dm (x.1,x.2.1,z0,z1,()))) x.2.2.1 x.2.2.2.1 x.2.2.2.2.1) else none
theorem ayF (N key:Nat) (S:St) (K:Ks):ajH N 0 key S K=none:=(bC (aq fun _=>rfl) rfl)
noncomputable def ZL:Code:=(af GU).getD 0 .skip
theorem ayG:af GU=[ZL]:=by kernel_rfl
theorem ajI (N:Nat):dB ajF (ajG N) (ajH N) N 6 Cc ZL:=fun _ _ _=>by kernel_rfl
theorem ayH (N:Nat):bL Wi (at8 N) ajF (ajG N) (ajH N N) Tryz.f27:=fun _ _=>by kernel_rfl
theorem ayI {Γ:Gl} (N:Nat):Sound Γ Tryz.prog 27 (ZK N):=eZ ajF Tryz.f27 GU (ayF N) ayG (ayH N) (rc (ajI N) trivial) ⟨qq N,⟨LX N,⟨LI N,⟨ar7 N,⟨asm N,⟨asp N,⟨Zq N,⟨ast N,⟨BO N,trivial⟩⟩⟩⟩⟩⟩⟩⟩⟩
noncomputable def wT:List Kd:=dK::.v (.int .i64) .k::.v (.int .i64) .k::.v (.ptr bM) (.o 31 none .k)::dK::dK::.v (.ptr bM) (.o 31 none (.p (.o 46 none (.p .k (.p .k (.p .k (.p .k (.p .k (.o 3 none .k))))))) (.p (.o 80 none (.p .k (.p .k (.o 3 none .k)))) (.p (.o 104 none .k) (.p (.o 3 none .k) (.p (.o 136 none .k) (.p (.o 102 none .k) .k)))))))::dK::.v (.ptr bM) (.o 31 none (.p (.o 46 none (.p .k (.p .k (.p .k (.p .k (.p .k (.o 3 none .k))))))) (.p (.o 80 none (.p .k (.p .k (.o 3 none .k)))) (.p (.o 104 none .k) (.p (.o 3 none .k) (.p (.o 136 none .k) (.p (.o 102 none .k) .k)))))))::.v (.int .i64) .k::dn 45 ([])
noncomputable def zY:List Kd:=dK::.v (.int .i64) .k::.v (.int .i64) .k::.v (.ptr bM) (.o 31 none .k)::dK::dK::.v (.ptr bM) (.o 31 none (.p (.o 46 none (.p .k (.p .k (.p .k (.p .k (.p .k (.o 3 none .k))))))) (.p (.o 80 none (.p .k (.p .k (.o 3 none .k)))) (.p (.o 104 none .k) (.p (.o 3 none .k) (.p (.o 136 none .k) (.p (.o 102 none .k) .k)))))))::dK::.v (.ptr bM) (.o 31 none (.p (.o 46 none (.p .k (.p .k (.p .k (.p .k (.p .k (.o 3 none .k))))))) (.p (.o 80 none (.p .k (.p .k (.o 3 none .k)))) (.p (.o 104 none .k) (.p (.o 3 none .k) (.p (.o 136 none .k) (.p (.o 102 none .k) .k)))))))::.v (.int .i64) .k::dn 45 ([])
noncomputable def Wj:Hint:={ tab,hn:=[],loops:=[(3,wT)],outs:=[(3,2,zY)],bj:=[(5,(OT.seq [0,1,2,3,5,6,7,10,12] (.any [4,8,9,11,13] (OT.seq [14,15,16,17] .done)))),(6,(OT.seq [0,1,2,5,3,4,6,7,8,9,10] .done))] }
noncomputable def Mz:List AK:=[.v bM .k,.v (.int .i64) .k,.v (.int .i64) .k]
noncomputable def ajJ (N:Nat) (x:aw Mz) (kf:aa→Option aa):Option aa:=aln N x.1 x.2.1 x.2.2.1 (fun r0 r1=>kf ⟨[⟨bM,(.p (.o 46 none (.p .k (.p .k (.p .k (.p .k (.p .k (.o 3 none .k))))))) (.p (.o 80 none (.p .k (.p .k (.o 3 none .k)))) (.p (.o 104 none .k) (.p (.o 3 none .k) (.p (.o 136 none .k) (.p (.o 102 none .k) .k)))))),r0⟩,⟨.bool,.k,r1⟩],[]⟩)
noncomputable def Rq (N:Nat):=au Mz (ajJ N)
noncomputable def ZM (N:Nat):List Entry:=[⟨90,[.val],(kn N)⟩,⟨173,[.val],(sw N)⟩,⟨94,[.val],(yZ N)⟩,⟨93,[.val,.take,.val,.val,.val],(qt N)⟩]
noncomputable def Cd:Code:=aI Tryz.f141
noncomputable def Wk (N n:Nat) (key:Nat) (S:St) (K:Ks):Option aa:=bif Nat.beq key 3 then ay wT S (fun x=>ng x.1 x.2.1 x.2.2.1 x.2.2.2.1 x.2.2.2.2.1 n (fun z0=>K (.x 0) (shape zY (x.1,x.2.1,x.2.2.1,x.2.2.2.1,x.2.2.2.2.1,z0,()))) x.2.2.2.2.2.1) else none
theorem asu (N key:Nat) (S:St) (K:Ks):Wk N 0 key S K=none:=(bC (aq fun _=>rfl) rfl)
noncomputable def Rr:Code:=(af Cd).getD 0 .skip
theorem asv:af Cd=[Rr]:=by kernel_rfl
theorem ac2 (N:Nat):dB Wj (ZM N) (Wk N) N 3 wT Rr:=fun _ _ _=>by kernel_rfl
theorem asw (N:Nat):bL Mz (ajJ N) Wj (ZM N) (Wk N N) Tryz.f141:=fun _ _=>by kernel_rfl
theorem asx {Γ:Gl} (N:Nat):Sound Γ Tryz.prog 141 (Rq N):=eZ Wj Tryz.f141 Cd (asu N) asv (asw N) (rc (ac2 N) trivial) ⟨qq N,⟨D3 N,⟨LI N,⟨BO N,trivial⟩⟩⟩⟩
noncomputable def wU:List Kd:=dK::.v (.int .i64) .k::.v (.int .i64) .k::.v (.ptr bM) (.o 31 none .k)::dK::dK::.v (.ptr bM) (.o 31 none (.p (.o 46 none (.p .k (.p .k (.p .k (.p .k (.p .k (.o 3 none .k))))))) (.p (.o 80 none (.p .k (.p .k (.o 3 none .k)))) (.p (.o 104 none .k) (.p (.o 3 none .k) (.p (.o 136 none .k) (.p (.o 102 none .k) .k)))))))::dK::.v (.ptr bM) (.o 31 none (.p (.o 46 none (.p .k (.p .k (.p .k (.p .k (.p .k (.o 3 none .k))))))) (.p (.o 80 none (.p .k (.p .k (.o 3 none .k)))) (.p (.o 104 none .k) (.p (.o 3 none .k) (.p (.o 136 none .k) (.p (.o 102 none .k) .k)))))))::.v (.int .i64) .k::dn 42 ([])
noncomputable def zZ:List Kd:=dK::.v (.int .i64) .k::.v (.int .i64) .k::.v (.ptr bM) (.o 31 none .k)::dK::dK::.v (.ptr bM) (.o 31 none (.p (.o 46 none (.p .k (.p .k (.p .k (.p .k (.p .k (.o 3 none .k))))))) (.p (.o 80 none (.p .k (.p .k (.o 3 none .k)))) (.p (.o 104 none .k) (.p (.o 3 none .k) (.p (.o 136 none .k) (.p (.o 102 none .k) .k)))))))::dK::.v (.ptr bM) (.o 31 none (.p (.o 46 none (.p .k (.p .k (.p .k (.p .k (.p .k (.o 3 none .k))))))) (.p (.o 80 none (.p .k (.p .k (.o 3 none .k)))) (.p (.o 104 none .k) (.p (.o 3 none .k) (.p (.o 136 none .k) (.p (.o 102 none .k) .k)))))))::.v (.int .i64) .k::dn 42 ([])
noncomputable def Wl:Hint:={ tab,hn:=[],loops:=[(3,wU)],outs:=[(3,2,zZ)],bj:=[(5,(OT.seq [0,1,2,3,5,6,7,10,12] (.any [4,8,9,11,13] (OT.seq [14,15,16,17] .done))))] }
noncomputable def MA:List AK:=[.v bM .k,.v (.int .i64) .k,.v (.int .i64) .k]
noncomputable def ajK (N:Nat) (x:aw MA) (kf:aa→Option aa):Option aa:=alo N x.1 x.2.1 x.2.2.1 (fun r0 r1=>kf ⟨[⟨bM,(.p (.o 46 none (.p .k (.p .k (.p .k (.p .k (.p .k (.o 3 none .k))))))) (.p (.o 80 none (.p .k (.p .k (.o 3 none .k)))) (.p (.o 104 none .k) (.p (.o 3 none .k) (.p (.o 136 none .k) (.p (.o 102 none .k) .k)))))),r0⟩,⟨.bool,.k,r1⟩],[]⟩)
noncomputable def Rs (N:Nat):=au MA (ajK N)
noncomputable def ZN (N:Nat):List Entry:=[⟨90,[.val],(kn N)⟩,⟨174,[.val],(GJ N)⟩,⟨93,[.val,.take,.val,.val,.val],(qt N)⟩]
noncomputable def Ce:Code:=aI Tryz.f160
noncomputable def Wm (N n:Nat) (key:Nat) (S:St) (K:Ks):Option aa:=bif Nat.beq key 3 then ay wU S (fun x=>nh x.1 x.2.1 x.2.2.1 x.2.2.2.1 x.2.2.2.2.1 n (fun z0=>K (.x 0) (shape zZ (x.1,x.2.1,x.2.2.1,x.2.2.2.1,x.2.2.2.2.1,z0,()))) x.2.2.2.2.2.1) else none
theorem asy (N key:Nat) (S:St) (K:Ks):Wm N 0 key S K=none:=(bC (aq fun _=>rfl) rfl)
noncomputable def Rt:Code:=(af Ce).getD 0 .skip
theorem asz:af Ce=[Rt]:=by kernel_rfl
theorem ac3 (N:Nat):dB Wl (ZN N) (Wm N) N 3 wU Rt:=fun _ _ _=>by kernel_rfl
theorem asA (N:Nat):bL MA (ajK N) Wl (ZN N) (Wm N N) Tryz.f160:=fun _ _=>by kernel_rfl
theorem asB {Γ:Gl} (N:Nat):Sound Γ Tryz.prog 160 (Rs N):=eZ Wl Tryz.f160 Ce (asy N) asz (asA N) (rc (ac3 N) trivial) ⟨qq N,⟨Zc N,⟨BO N,trivial⟩⟩⟩
end Go.Pv.R
