/- Each function of the program that the law reaches computes its plain function, part 2. -/
import Derived.Test.YtcpakhaogbempaaGreatSnd1
import Derived.Test.YtcpakhaogbempaaGreatProg
namespace Go.Pv.R
open Go.Proofs
set_option linter.unusedVariables false
set_option maxRecDepth 100000
noncomputable def wo:List Kd:=.v (.sl cX) .k::dK::dK::.v (.sl cX) (.o 46 none (.p .k (.p .k (.p .k (.p .k (.p .k (.o 3 none .k)))))))::.v (.int .i64) .k::dn 22 ([])
noncomputable def yK:List Kd:=dn 3 (.v (.sl cX) (.o 46 none (.p .k (.p .k (.p .k (.p .k (.p .k (.o 3 none .k)))))))::dn 23 ([]))
noncomputable def TX:Hint:={ tab,hn:=[(6,(.p .k (.p .k (.p .k (.p .k (.p .k (.o 3 none .k)))))))],loops:=[(3,wo)],outs:=[(3,2,yK)],bp:=[] }
noncomputable def Li:List AK:=[.v (.sl cX) .k]
noncomputable def agn (N:Nat) (x:ax Li) (kf:aa→Option aa):Option aa:=Fb N x.1 (fun r0=>kf ⟨[⟨(.sl cX),(.o 46 none (.p .k (.p .k (.p .k (.p .k (.p .k (.o 3 none .k))))))),r0⟩],[]⟩)
noncomputable def s7 (N:Nat):=ao Li (agn N)
noncomputable def Bo:Code:=aJ Tryz.f173
noncomputable def TY (N n:Nat) (key:Nat) (S:St) (K:Ks):Option aa:=bif Nat.beq key 3 then az wo S (fun x=>qd x.1 n (fun z0=>K (.x 0) (shape yK (z0,()))) x.2.1 x.2.2.1) else none
theorem amx (N key:Nat) (S:St) (K:Ks):TY N 0 key S K=none:=(bL (aq fun _=>rfl) rfl)
noncomputable def PM:Code:=(af Bo).getD 0 .skip
theorem amy:af Bo=[PM]:=by kernel_rfl
theorem aax (N:Nat):fi TX [] (TY N) N 3 wo PM:=fun _ _ _=>by kernel_rfl
theorem amz (N:Nat):ca Li (agn N) TX [] (TY N N) Tryz.f173:=fun _ _=>by kernel_rfl
theorem DL {Γ:Gl} (N:Nat):Sound Γ Tryz.prog 173 (s7 N):=gW TX Tryz.f173 Bo (amx N) amy (amz N) (rc (aax N) trivial) trivial
noncomputable def wq:List Kd:=.v (.sl jT) .k::dK::dK::.v (.sl jT) (.o 80 none (.p .k (.p .k (.o 3 none .k))))::.v (.int .i64) .k::dn 22 ([])
noncomputable def yL:List Kd:=dn 3 (.v (.sl jT) (.o 80 none (.p .k (.p .k (.o 3 none .k))))::dn 23 ([]))
noncomputable def TZ:Hint:={ tab,hn:=[(6,(.p .k (.p .k (.o 3 none .k))))],loops:=[(3,wq)],outs:=[(3,2,yL)],bp:=[] }
noncomputable def Lj:List AK:=[.v (.sl jT) .k]
noncomputable def ago (N:Nat) (x:ax Lj) (kf:aa→Option aa):Option aa:=R8 N x.1 (fun r0=>kf ⟨[⟨(.sl jT),(.o 80 none (.p .k (.p .k (.o 3 none .k)))),r0⟩],[]⟩)
noncomputable def Gv (N:Nat):=ao Lj (ago N)
noncomputable def Bp:Code:=aJ Tryz.f174
noncomputable def T4 (N n:Nat) (key:Nat) (S:St) (K:Ks):Option aa:=bif Nat.beq key 3 then az wq S (fun x=>qe x.1 n (fun z0=>K (.x 0) (shape yL (z0,()))) x.2.1 x.2.2.1) else none
theorem amA (N key:Nat) (S:St) (K:Ks):T4 N 0 key S K=none:=(bL (aq fun _=>rfl) rfl)
noncomputable def PN:Code:=(af Bp).getD 0 .skip
theorem amB:af Bp=[PN]:=by kernel_rfl
theorem aay (N:Nat):fi TZ [] (T4 N) N 3 wq PN:=fun _ _ _=>by kernel_rfl
theorem amC (N:Nat):ca Lj (ago N) TZ [] (T4 N N) Tryz.f174:=fun _ _=>by kernel_rfl
theorem Xk {Γ:Gl} (N:Nat):Sound Γ Tryz.prog 174 (Gv N):=gW TZ Tryz.f174 Bp (amA N) amB (amC N) (rc (aay N) trivial) trivial
noncomputable def apO:Hint:={ tab,hn:=[],loops:=[],outs:=[],bp:=[(1,(OT.seq [0,1,3,4,7,8,11,15,19,22] (.any [2,5,6,9,10,12,13,14,16,17,18,20,21,23] (OT.seq [24,25] .done))))] }
noncomputable def T5:List AK:=[.v dd .k]
noncomputable def apP (N:Nat) (x:ax T5) (kf:aa→Option aa):Option aa:=R9 N x.1 (fun r0=>kf ⟨[⟨dd,(.p (.o 46 none (.p .k (.p .k (.p .k (.p .k (.p .k (.o 3 none .k))))))) (.p (.o 80 none (.p .k (.p .k (.o 3 none .k)))) (.p (.o 104 none .k) (.p (.o 3 none .k) (.p (.o 136 none .k) (.p (.o 102 none .k) .k)))))),r0⟩],[]⟩)
noncomputable def kM (N:Nat):=ao T5 (apP N)
noncomputable def ato (N:Nat):List Entry:=[⟨173,[.val],(s7 N)⟩,⟨174,[.val],(Gv N)⟩]
theorem atp (N:Nat):ca T5 (apP N) apO (ato N) (fm N N) Tryz.f90:=fun _ _=>by kernel_rfl
theorem qQ {Γ:Gl} (N:Nat):Sound Γ Tryz.prog 90 (kM N):=gJ apO Tryz.f90 (atp N) ⟨DL N,⟨Xk N,trivial⟩⟩
noncomputable def Lk:List AK:=[.v (.int .i64) .k,.v (.int .i64) .k,.v (.int .i64) .k]
noncomputable def agp (N:Nat) (x:ax Lk) (kf:aa→Option aa):Option aa:=gH N x.1 x.2.1 x.2.2.1 (fun r0=>kf ⟨[⟨.bool,.k,r0⟩],[]⟩)
noncomputable def jR (N:Nat):=ao Lk (agp N)
theorem amD (N:Nat):ca Lk (agp N) hq [] (fm N N) Tryz.f195:=fun _ _=>by kernel_rfl
theorem nL {Γ:Gl} (N:Nat):Sound Γ Tryz.prog 195 (jR N):=gJ hq Tryz.f195 (amD N) trivial
noncomputable def wu:List Kd:=.v (.sl cX) .k::.v (.int .i64) .k::dn 3 (.v (.int .i64) .k::dn 14 ([]))
noncomputable def yM:List Kd:=dn 20 ([])
noncomputable def yN:List Kd:=dn 4 (.v (.int .i64) .k::dn 15 ([]))
noncomputable def T6:Hint:={ tab,hn:=[],loops:=[(2,wu)],outs:=[(2,2,yM),(2,1,yN)],bp:=[] }
noncomputable def Ll:List AK:=[.v (.sl cX) .k,.v (.int .i64) .k]
noncomputable def agq (N:Nat) (x:ax Ll) (kf:aa→Option aa):Option aa:=vA N x.1 x.2.1 (fun r0=>kf ⟨[⟨(.int .i64),.k,r0⟩],[]⟩)
noncomputable def lg (N:Nat):=ao Ll (agq N)
noncomputable def Bq:Code:=aJ Tryz.f200
noncomputable def T7 (N n:Nat) (key:Nat) (S:St) (K:Ks):Option aa:=bif Nat.beq key 2 then az wu S (fun x=>qf x.1 x.2.1 n (K (.x 0) (shape yM ())) (fun z0=>K .r (shape yN (z0,()))) x.2.2.1) else none
theorem amE (N key:Nat) (S:St) (K:Ks):T7 N 0 key S K=none:=(bL (aq fun _=>rfl) rfl)
noncomputable def PO:Code:=(af Bq).getD 0 .skip
theorem amF:af Bq=[PO]:=by kernel_rfl
theorem aaz (N:Nat):fi T6 [] (T7 N) N 2 wu PO:=fun _ _ _=>by kernel_rfl
theorem amG (N:Nat):ca Ll (agq N) T6 [] (T7 N N) Tryz.f200:=fun _ _=>by kernel_rfl
theorem qR {Γ:Gl} (N:Nat):Sound Γ Tryz.prog 200 (lg N):=gW T6 Tryz.f200 Bq (amE N) amF (amG N) (rc (aaz N) trivial) trivial
noncomputable def wv:List Kd:=.v (.sl (.int .i64)) .k::.v (.int .i64) .k::dn 3 (.v (.int .i64) .k::.v (.int .i64) .k::dn 15 ([]))
noncomputable def yO:List Kd:=dn 5 (.v (.int .i64) .k::dn 16 ([]))
noncomputable def T8:Hint:={ tab,hn:=[],loops:=[(3,wv)],outs:=[(3,2,yO)],bp:=[] }
noncomputable def Lm:List AK:=[.v (.sl (.int .i64)) .k,.v (.int .i64) .k]
noncomputable def agr (N:Nat) (x:ax Lm) (kf:aa→Option aa):Option aa:=Sa N x.1 x.2.1 (fun r0=>kf ⟨[⟨(.int .i64),.k,r0⟩],[]⟩)
noncomputable def PQ (N:Nat):=ao Lm (agr N)
noncomputable def Br:Code:=aJ Tryz.f220
noncomputable def T9 (N n:Nat) (key:Nat) (S:St) (K:Ks):Option aa:=bif Nat.beq key 3 then az wv S (fun x=>np x.1 x.2.1 n (fun z0=>K (.x 0) (shape yO (z0,()))) x.2.2.1 x.2.2.2.1) else none
theorem amH (N key:Nat) (S:St) (K:Ks):T9 N 0 key S K=none:=(bL (aq fun _=>rfl) rfl)
noncomputable def PR:Code:=(af Br).getD 0 .skip
theorem amI:af Br=[PR]:=by kernel_rfl
theorem aaA (N:Nat):fi T8 [] (T9 N) N 3 wv PR:=fun _ _ _=>by kernel_rfl
theorem amJ (N:Nat):ca Lm (agr N) T8 [] (T9 N N) Tryz.f220:=fun _ _=>by kernel_rfl
theorem amK {Γ:Gl} (N:Nat):Sound Γ Tryz.prog 220 (PQ N):=gW T8 Tryz.f220 Br (amH N) amI (amJ N) (rc (aaA N) trivial) trivial
noncomputable def wx:List Kd:=.v (.sl cX) .k::dK::dK::.v (.int .i64) .k::.v (.ptr cX) (.o 46 none .k)::.v (.int .i64) .k::dn 109 ([])
noncomputable def yP:List Kd:=.v (.sl cX) .k::dK::dK::.v (.int .i64) .k::dn 111 ([])
noncomputable def yQ:List Kd:=dK::dK::.v .bool .k::dn 112 ([])
noncomputable def wy:List Kd:=.v (.sl cX) .k::dK::dK::.v (.int .i64) .k::dn 111 ([])
noncomputable def yR:List Kd:=.v (.sl cX) .k::dn 114 ([])
noncomputable def yS:List Kd:=dK::dK::.v .bool .k::dn 112 ([])
noncomputable def Ln:Hint:={ tab,hn:=[],loops:=[(8,wx),(2,wy)],outs:=[(8,4,yP),(8,1,yQ),(2,2,yR),(2,1,yS)],bp:=[(5,(OT.seq [0,1,2,3,4,5,6,7,8,9,10,11,12,13,14,15,16,17,18,19,20,21,22,23,24,25,26,27,28,29,30,31,32,33,34,35,36,37,38,39,40,41,42,43,44,45,46,47,48,49,50,51,52,53,54] .done)),(11,(OT.seq [0,1,2,3,4,5,6,7,8,9,10,11,12,13,14,16,17,18,19,20,21,22,15,23,24,25] .done))] }
noncomputable def Lo:List AK:=[.v (.sl cX) .k]
noncomputable def ags (N:Nat) (x:ax Lo) (kf:aa→Option aa):Option aa:=uh N x.1 (fun r0=>kf ⟨[⟨.bool,.k,r0⟩],[]⟩)
noncomputable def ir (N:Nat):=ao Lo (ags N)
noncomputable def Lp (N:Nat):List Entry:=[⟨195,[.val,.val,.val],(jR N)⟩,⟨200,[.val,.val],(lg N)⟩,⟨220,[.val,.val],(PQ N)⟩]
noncomputable def tX:Code:=aJ Tryz.f175
noncomputable def Lq (N n:Nat) (key:Nat) (S:St) (K:Ks):Option aa:=bif Nat.beq key 2 then az wy S (fun x=>nq N x.1 n (K (.x 0) (shape yR (x.1,()))) (fun z0=>K .r (shape yS (z0,()))) x.2.1) else bif Nat.beq key 8 then az wx S (fun x=>jC N x.1 x.2.1 x.2.2.1 n (K (.x 2) (shape yP (x.1,x.2.1,()))) (fun z0=>K .r (shape yQ (z0,()))) x.2.2.2.1) else none
theorem amL (N key:Nat) (S:St) (K:Ks):Lq N 0 key S K=none:=(bL (aq fun _=>rfl) (bL (aq fun _=>rfl) rfl))
noncomputable def PS:Code:=(af tX).getD 0 .skip
noncomputable def PT:Code:=(af tX).getD 1 .skip
theorem amM:af tX=[PS,PT]:=by kernel_rfl
theorem aaB (N:Nat):fi Ln (Lp N) (Lq N) N 8 wx PT:=fun _ _ _=>by kernel_rfl
theorem aaC (N:Nat):fi Ln (Lp N) (Lq N) N 2 wy PS:=fun _ _ _=>by kernel_rfl
theorem amN (N:Nat):ca Lo (ags N) Ln (Lp N) (Lq N N) Tryz.f175:=fun _ _=>by kernel_rfl
theorem l4 {Γ:Gl} (N:Nat):Sound Γ Tryz.prog 175 (ir N):=gW Ln Tryz.f175 tX (amL N) amM (amN N) (rc (aaC N) (rc (aaB N) trivial)) ⟨nL N,⟨qR N,⟨amK N,trivial⟩⟩⟩
noncomputable def Lr:List AK:=[.v cX .k,.v cX .k]
noncomputable def agt (N:Nat) (x:ax Lr) (kf:aa→Option aa):Option aa:=acY N x.1 x.2.1 (fun r0=>kf ⟨[⟨.bool,.k,r0⟩],[]⟩)
noncomputable def Gw (N:Nat):=ao Lr (agt N)
theorem amO (N:Nat):ca Lr (agt N) hq [] (fm N N) Tryz.f223:=fun _ _=>by kernel_rfl
theorem Xl {Γ:Gl} (N:Nat):Sound Γ Tryz.prog 223 (Gw N):=gJ hq Tryz.f223 (amO N) trivial
noncomputable def wz:List Kd:=.v (.sl cX) .k::dK::dK::.v (.sl cX) (.o 46 none .k)::.v (.int .i64) .k::.v (.int .i64) .k::dn 62 ([])
noncomputable def yT:List Kd:=.v (.sl cX) .k::dK::dK::.v (.sl cX) (.o 46 none .k)::.v (.int .i64) .k::.v (.int .i64) .k::dn 62 ([])
noncomputable def wA:List Kd:=.v (.sl cX) .k::dK::dK::.v (.sl cX) (.o 46 none .k)::.v (.int .i64) .k::dn 63 ([])
noncomputable def yU:List Kd:=dn 3 (.v (.sl cX) (.o 46 none .k)::dn 64 ([]))
noncomputable def s8:List Kd:=dn 3 (.v (.sl cX) (.o 46 none .k)::dK::dK::.v (.sl (.int .i64)) (.o 3 none .k)::.v (.int .i64) .k::dn 60 ([]))
noncomputable def uP:List Kd:=dn 6 (.v (.sl (.int .i64)) (.o 3 none .k)::dn 61 ([]))
noncomputable def Gx:Hint:={ tab,hn:=[],loops:=[(6,wz),(3,wA),(11,s8)],outs:=[(6,4,yT),(3,2,yU),(11,6,uP)],bp:=[(6,(OT.seq [0,1,2,3,4,5,6,7,8,9,10,11,12,13] .done)),(8,(OT.seq [1,2,3,5,6,7,11,12,13] (.par [0,4,8,9] [[44,45,46]] (OT.seq [10,14,15] .done))))] }
noncomputable def Ls:List AK:=[.v (.sl cX) .k]
noncomputable def agu (N:Nat) (x:ax Ls) (kf:aa→Option aa):Option aa:=aiV N x.1 (fun r0=>kf ⟨[⟨(.sl (.int .i64)),(.o 3 none .k),r0⟩],[]⟩)
noncomputable def PU (N:Nat):=ao Ls (agu N)
noncomputable def DM (N:Nat):List Entry:=[⟨175,[.val],(ir N)⟩,⟨223,[.val,.val],(Gw N)⟩]
noncomputable def pc:Code:=aJ Tryz.f177
noncomputable def Gy (N n:Nat) (key:Nat) (S:St) (K:Ks):Option aa:=bif Nat.beq key 3 then az wA S (fun x=>qi N x.1 n (fun z0=>K (.x 0) (shape yU (z0,()))) x.2.1 x.2.2.1) else bif Nat.beq key 6 then az wz S (fun x=>qh N x.1 x.2.1 x.2.2.1 n (fun z0=>K (.x 2) (shape yT (x.1,x.2.1,x.2.2.1,z0,()))) x.2.2.2.1) else bif Nat.beq key 11 then az s8 S (fun x=>k8 x.1 n (fun z0=>K (.x 4) (shape uP (z0,()))) x.2.1 x.2.2.1) else none
theorem amP (N key:Nat) (S:St) (K:Ks):Gy N 0 key S K=none:=(bL (aq fun _=>rfl) (bL (aq fun _=>rfl) (bL (aq fun _=>rfl) rfl)))
noncomputable def PV:Code:=(af pc).getD 0 .skip
noncomputable def PW:Code:=(af pc).getD 1 .skip
noncomputable def PX:Code:=(af pc).getD 2 .skip
theorem amQ:af pc=[PV,PW,PX]:=by kernel_rfl
theorem Ua (N:Nat):fi Gx (DM N) (Gy N) N 11 s8 PX:=fun _ _ _=>by kernel_rfl
theorem aaD (N:Nat):fi Gx (DM N) (Gy N) N 6 wz PW:=fun _ _ _=>by kernel_rfl
theorem aaE (N:Nat):fi Gx (DM N) (Gy N) N 3 wA PV:=fun _ _ _=>by kernel_rfl
theorem amR (N:Nat):ca Ls (agu N) Gx (DM N) (Gy N N) Tryz.f177:=fun _ _=>by kernel_rfl
theorem amS {Γ:Gl} (N:Nat):Sound Γ Tryz.prog 177 (PU N):=gW Gx Tryz.f177 pc (amP N) amQ (amR N) (rc (aaE N) (rc (aaD N) (rc (Ua N) trivial))) ⟨l4 N,⟨Xl N,trivial⟩⟩
noncomputable def wB:List Kd:=.v (.sl (.int .i64)) .k::.v (.int .i64) .k::dn 3 (.v (.int .i64) .k::dn 12 ([]))
noncomputable def yV:List Kd:=dn 18 ([])
noncomputable def yW:List Kd:=dn 4 (.v .bool .k::dn 13 ([]))
noncomputable def Ub:Hint:={ tab,hn:=[],loops:=[(2,wB)],outs:=[(2,2,yV),(2,1,yW)],bp:=[] }
noncomputable def Lt:List AK:=[.v (.sl (.int .i64)) .k,.v (.int .i64) .k]
noncomputable def agv (N:Nat) (x:ax Lt) (kf:aa→Option aa):Option aa:=vB N x.1 x.2.1 (fun r0=>kf ⟨[⟨.bool,.k,r0⟩],[]⟩)
noncomputable def pd (N:Nat):=ao Lt (agv N)
noncomputable def Bs:Code:=aJ Tryz.f224
noncomputable def Uc (N n:Nat) (key:Nat) (S:St) (K:Ks):Option aa:=bif Nat.beq key 2 then az wB S (fun x=>qj x.1 x.2.1 n (K (.x 0) (shape yV ())) (fun z0=>K .r (shape yW (z0,()))) x.2.2.1) else none
theorem amT (N key:Nat) (S:St) (K:Ks):Uc N 0 key S K=none:=(bL (aq fun _=>rfl) rfl)
noncomputable def PY:Code:=(af Bs).getD 0 .skip
theorem amU:af Bs=[PY]:=by kernel_rfl
theorem aaF (N:Nat):fi Ub [] (Uc N) N 2 wB PY:=fun _ _ _=>by kernel_rfl
theorem amV (N:Nat):ca Lt (agv N) Ub [] (Uc N N) Tryz.f224:=fun _ _=>by kernel_rfl
theorem yX {Γ:Gl} (N:Nat):Sound Γ Tryz.prog 224 (pd N):=gW Ub Tryz.f224 Bs (amT N) amU (amV N) (rc (aaF N) trivial) trivial
noncomputable def Lu:List AK:=[.v (.sl cX) .k,.v (.int .i64) .k,.v (.int .i64) .k]
noncomputable def agw (N:Nat) (x:ax Lu) (kf:aa→Option aa):Option aa:=aiW N x.1 x.2.1 x.2.2.1 (fun r0=>kf ⟨[⟨.bool,.k,r0⟩],[]⟩)
noncomputable def PZ (N:Nat):=ao Lu (agw N)
noncomputable def amW (N:Nat):List Entry:=[⟨200,[.val,.val],(lg N)⟩,⟨224,[.val,.val],(pd N)⟩]
theorem amX (N:Nat):ca Lu (agw N) hq (amW N) (fm N N) Tryz.f250:=fun _ _=>by kernel_rfl
theorem amY {Γ:Gl} (N:Nat):Sound Γ Tryz.prog 250 (PZ N):=gJ hq Tryz.f250 (amX N) ⟨qR N,⟨yX N,trivial⟩⟩
noncomputable def agx:Hint:={ tab,hn:=[],loops:=[],outs:=[],bp:=[(3,(OT.seq [0,1,2,3,4,5,6,7,8,9,10,11,12,13,14,15,16,17,18,19,20,21,22,23,24,25,26,27,28,29,30,31,32,33,34,35] .done))] }
noncomputable def Lv:List AK:=[.v (.sl cX) .k,.v (.int .i64) .k,.v (.int .i64) .k]
noncomputable def agy (N:Nat) (x:ax Lv) (kf:aa→Option aa):Option aa:=Sb N x.1 x.2.1 x.2.2.1 (fun r0=>kf ⟨[⟨.bool,.k,r0⟩],[]⟩)
noncomputable def Gz (N:Nat):=ao Lv (agy N)
noncomputable def amZ (N:Nat):List Entry:=[⟨200,[.val,.val],(lg N)⟩,⟨175,[.val],(ir N)⟩,⟨250,[.val,.val,.val],(PZ N)⟩]
theorem am0 (N:Nat):ca Lv (agy N) agx (amZ N) (fm N N) Tryz.f221:=fun _ _=>by kernel_rfl
theorem Xm {Γ:Gl} (N:Nat):Sound Γ Tryz.prog 221 (Gz N):=gJ agx Tryz.f221 (am0 N) ⟨qR N,⟨l4 N,⟨amY N,trivial⟩⟩⟩
noncomputable def agz:Hint:={ tab,hn:=[],loops:=[],outs:=[],bp:=[(5,(OT.seq [0,1,2,3,4,5,6,7,8,9,10,11,12,13,14,15,16,17,18,19,20,21,22,23,24,25,26,27,28,29,30,31,32,33,34] .done))] }
noncomputable def Lw:List AK:=[.v (.sl cX) .k,.v (.int .i64) .k,.v (.int .i64) .k]
noncomputable def agA (N:Nat) (x:ax Lw) (kf:aa→Option aa):Option aa:=aiX N x.1 x.2.1 x.2.2.1 (fun r0=>kf ⟨[⟨du,.k,r0⟩],[]⟩)
noncomputable def P1 (N:Nat):=ao Lw (agA N)
noncomputable def am1 (N:Nat):List Entry:=[⟨200,[.val,.val],(lg N)⟩,⟨175,[.val],(ir N)⟩,⟨223,[.val,.val],(Gw N)⟩]
theorem am2 (N:Nat):ca Lw (agA N) agz (am1 N) (fm N N) Tryz.f222:=fun _ _=>by kernel_rfl
theorem am3 {Γ:Gl} (N:Nat):Sound Γ Tryz.prog 222 (P1 N):=gJ agz Tryz.f222 (am2 N) ⟨qR N,⟨l4 N,⟨Xl N,trivial⟩⟩⟩
noncomputable def wC:List Kd:=.v (.sl cX) .k::.v (.sl (.int .i64)) .k::dn 4 (.v (.int .i64) .k::dn 53 ([]))
noncomputable def yY:List Kd:=dn 60 ([])
noncomputable def yZ:List Kd:=dn 4 (.v (.sl du) (.o 104 none .k)::.v .bool .k::dn 54 ([]))
noncomputable def Ud:Hint:={ tab,hn:=[],loops:=[(4,wC)],outs:=[(4,2,yY),(4,1,yZ)],bp:=[(6,(OT.seq [0,1,2,3,4,5,6,7,8,9] .done)),(7,(OT.seq [1,2,3,5,6,7,8,0,4,9,10] .done)),(10,(OT.seq [0,1,2,3,4,5,6,7,10,8,9,11,12,13] .done))] }
noncomputable def DN:List AK:=[.v (.sl cX) .k,.v (.sl (.int .i64)) .k]
noncomputable def agB (N:Nat) (x:ax DN) (kf:aa→Option aa):Option aa:=Se N x.1 x.2.1 (fun r0 r1=>kf ⟨[⟨(.sl du),(.o 104 none .k),r0⟩,⟨.bool,.k,r1⟩],[]⟩)
noncomputable def y2 (N:Nat):=ao DN (agB N)
noncomputable def Lx (N:Nat):List Entry:=[⟨221,[.val,.val,.val],(Gz N)⟩,⟨222,[.val,.val,.val],(P1 N)⟩,⟨176,[.val,.val],(y2 N)⟩]
noncomputable def Bt:Code:=aJ Tryz.f176
noncomputable def Ly (N n:Nat) (key:Nat) (S:St) (K:Ks):Option aa:=bif Nat.beq key 4 then az wC S (fun x=>qk N (Se N) x.1 x.2.1 n (K (.x 0) (shape yY ())) (fun z0 z1=>K .r (shape yZ (z0,z1,()))) x.2.2.1) else none
theorem am4 (N key:Nat) (S:St) (K:Ks):Ly N 0 key S K=none:=(bL (aq fun _=>rfl) rfl)
noncomputable def P3:Code:=(af Bt).getD 0 .skip
theorem am5:af Bt=[P3]:=by kernel_rfl
theorem aaG (N:Nat):fi Ud (Lx N) (Ly N) N 4 wC P3:=fun _ _ _=>by kernel_rfl
theorem am6 (N:Nat) (x:ax DN) (kf:aa→Option aa):agB (N+1) x kf=kd Ud (jf.of (Lx N)) (Ly N N) Tryz.f176 (dz DN x) kf:=by kernel_rfl
theorem Xn {Γ:Gl}:∀ N:Nat,Sound Γ Tryz.prog 176 (y2 N)
 |0=>pM fun al kf=>by
  unfold y2 ao
  split<;>rfl
 |N+1=>jz (hh:=Ud) mixed ly (es:=Lx N) ⟨Xm N,⟨am3 N,⟨Xn N,trivial⟩⟩⟩ (fn:=Tryz.f176) (body:=Bt) (by kernel_rfl) (by kernel_rfl) (by kernel_rfl) (by kernel_rfl) (by kernel_rfl) (Lf:=Ly N) (am4 N) am5 (rc (aaG N) trivial) (N:=N) (by kernel_rfl) (am6 N) (.inl (by kernel_rfl))
noncomputable def Ue:List AK:=[.v (.sl cX) .k]
noncomputable def apQ (N:Nat) (x:ax Ue) (kf:aa→Option aa):Option aa:=S91 N x.1 (fun r0 r1=>kf ⟨[⟨(.sl du),(.o 104 none .k),r0⟩,⟨.bool,.k,r1⟩],[]⟩)
noncomputable def Xo (N:Nat):=ao Ue (apQ N)
noncomputable def atq (N:Nat):List Entry:=[⟨175,[.val],(ir N)⟩,⟨177,[.val],(PU N)⟩,⟨176,[.val,.val],(y2 N)⟩]
theorem atr (N:Nat):ca Ue (apQ N) hq (atq N) (fm N N) Tryz.f91:=fun _ _=>by kernel_rfl
theorem att {Γ:Gl} (N:Nat):Sound Γ Tryz.prog 91 (Xo N):=gJ hq Tryz.f91 (atr N) ⟨l4 N,⟨amS N,⟨Xn N,trivial⟩⟩⟩
noncomputable def wD:List Kd:=.v (.sl jT) .k::dK::dK::.v (.int .i64) .k::.v (.int .i64) .k::dn 87 ([])
noncomputable def y3:List Kd:=.v (.sl jT) .k::dK::dK::.v (.int .i64) .k::dn 88 ([])
noncomputable def y4:List Kd:=dK::dK::.v .bool .k::dn 89 ([])
noncomputable def wE:List Kd:=.v (.sl jT) .k::dK::dK::.v (.int .i64) .k::dn 88 ([])
noncomputable def y5:List Kd:=.v (.sl jT) .k::dn 91 ([])
noncomputable def y6:List Kd:=dK::dK::.v .bool .k::dn 89 ([])
noncomputable def LA:Hint:={ tab,hn:=[],loops:=[(7,wD),(2,wE)],outs:=[(7,4,y3),(7,1,y4),(2,2,y5),(2,1,y6)],bp:=[(4,(OT.seq [0,1,2,3,4,5,6,7,8,9,10,11,12,13,14,15,16,17,18,19,20,21,22,23,24,25,26,27,28,29,30,31,32,33] .done)),(9,(OT.seq [0,1,2,3,4,5,6,7,8,9,10,11,12,13,14,15,16,17,18,19,20,21,22,23,24,25,26,27,28,29,30,31,32,33] .done))] }
noncomputable def LB:List AK:=[.v (.sl jT) .k]
noncomputable def agC (N:Nat) (x:ax LB) (kf:aa→Option aa):Option aa:=Y6 N x.1 (fun r0=>kf ⟨[⟨.bool,.k,r0⟩],[]⟩)
noncomputable def y7 (N:Nat):=ao LB (agC N)
noncomputable def LC (N:Nat):List Entry:=[⟨195,[.val,.val,.val],(jR N)⟩]
noncomputable def tY:Code:=aJ Tryz.f178
noncomputable def LD (N n:Nat) (key:Nat) (S:St) (K:Ks):Option aa:=bif Nat.beq key 2 then az wE S (fun x=>nt N x.1 n (K (.x 0) (shape y5 (x.1,()))) (fun z0=>K .r (shape y6 (z0,()))) x.2.1) else bif Nat.beq key 7 then az wD S (fun x=>iB N x.1 x.2.1 n (K (.x 2) (shape y3 (x.1,x.2.1,()))) (fun z0=>K .r (shape y4 (z0,()))) x.2.2.1) else none
theorem am7 (N key:Nat) (S:St) (K:Ks):LD N 0 key S K=none:=(bL (aq fun _=>rfl) (bL (aq fun _=>rfl) rfl))
noncomputable def P4:Code:=(af tY).getD 0 .skip
noncomputable def P5:Code:=(af tY).getD 1 .skip
theorem am8:af tY=[P4,P5]:=by kernel_rfl
theorem aaH (N:Nat):fi LA (LC N) (LD N) N 7 wD P5:=fun _ _ _=>by kernel_rfl
theorem aaI (N:Nat):fi LA (LC N) (LD N) N 2 wE P4:=fun _ _ _=>by kernel_rfl
theorem am9 (N:Nat):ca LB (agC N) LA (LC N) (LD N N) Tryz.f178:=fun _ _=>by kernel_rfl
theorem LF {Γ:Gl} (N:Nat):Sound Γ Tryz.prog 178 (y7 N):=gW LA Tryz.f178 tY (am7 N) am8 (am9 N) (rc (aaI N) (rc (aaH N) trivial)) ⟨nL N,trivial⟩
noncomputable def agD:Hint:={ tab,hn:=[],loops:=[],outs:=[],bp:=[(3,(OT.seq [0,1,2,3,4,5,6,7,8,9,10,11,12,13,14,15,16,17,18,19,20,21,22,23,24,25,26,27,28,29,30,31,32,33,34,35,36,37,38,39,40,41,42] .done))] }
noncomputable def LG:List AK:=[.v (.sl cX) .k,.v jT .k,.v du .k]
noncomputable def agE (N:Nat) (x:ax LG) (kf:aa→Option aa):Option aa:=Y7 N x.1 x.2.1 x.2.2.1 (fun r0=>kf ⟨[⟨.bool,.k,r0⟩],[]⟩)
noncomputable def GA (N:Nat):=ao LG (agE N)
noncomputable def am' (N:Nat):List Entry:=[⟨200,[.val,.val],(lg N)⟩,⟨224,[.val,.val],(pd N)⟩]
theorem ana (N:Nat):ca LG (agE N) agD (am' N) (fm N N) Tryz.f225:=fun _ _=>by kernel_rfl
theorem Xp {Γ:Gl} (N:Nat):Sound Γ Tryz.prog 225 (GA N):=gJ agD Tryz.f225 (ana N) ⟨qR N,⟨yX N,trivial⟩⟩
noncomputable def wF:List Kd:=.v (.sl cX) .k::.v (.sl jT) .k::.v (.sl du) .k::.v (.sl (.int .i64)) .k::dn 6 (.v (.int .i64) .k::dn 59 ([]))
noncomputable def y8:List Kd:=dn 70 ([])
noncomputable def y9:List Kd:=dn 8 (.v (.sl (.int .i64)) (.o 3 none .k)::.v .bool .k::dn 60 ([]))
noncomputable def Uf:Hint:={ tab,hn:=[],loops:=[(4,wF)],outs:=[(4,2,y8),(4,1,y9)],bp:=[(6,(OT.seq [0,1,2,3,4,5,6,7,8,9,10,11,12,13,14,15,16,17,18] .done)),(7,(OT.seq [5,0,1,2,3,7,8,9,10] (.par [4,6,11,12] [[47,48,49]] (OT.seq [13,14,15,16,17,18,19] .done))))] }
noncomputable def DO:List AK:=[.v (.sl cX) .k,.v (.sl jT) .k,.v (.sl du) .k,.v (.sl (.int .i64)) .k]
noncomputable def agF (N:Nat) (x:ax DO) (kf:aa→Option aa):Option aa:=Sh N x.1 x.2.1 x.2.2.1 x.2.2.2.1 (fun r0 r1=>kf ⟨[⟨(.sl (.int .i64)),(.o 3 none .k),r0⟩,⟨.bool,.k,r1⟩],[]⟩)
noncomputable def za (N:Nat):=ao DO (agF N)
noncomputable def LH (N:Nat):List Entry:=[⟨224,[.val,.val],(pd N)⟩,⟨225,[.val,.val,.val],(GA N)⟩,⟨179,[.val,.val,.val,.val],(za N)⟩]
noncomputable def Bu:Code:=aJ Tryz.f179
noncomputable def LI (N n:Nat) (key:Nat) (S:St) (K:Ks):Option aa:=bif Nat.beq key 4 then az wF S (fun x=>nu N (Sh N) x.1 x.2.1 x.2.2.1 x.2.2.2.1 n (K (.x 0) (shape y8 ())) (fun z0 z1=>K .r (shape y9 (z0,z1,()))) x.2.2.2.2.1) else none
theorem anb (N key:Nat) (S:St) (K:Ks):LI N 0 key S K=none:=(bL (aq fun _=>rfl) rfl)
noncomputable def P6:Code:=(af Bu).getD 0 .skip
theorem anc:af Bu=[P6]:=by kernel_rfl
theorem aaJ (N:Nat):fi Uf (LH N) (LI N) N 4 wF P6:=fun _ _ _=>by kernel_rfl
theorem ane (N:Nat) (x:ax DO) (kf:aa→Option aa):agF (N+1) x kf=kd Uf (jf.of (LH N)) (LI N N) Tryz.f179 (dz DO x) kf:=by kernel_rfl
theorem Xq {Γ:Gl}:∀ N:Nat,Sound Γ Tryz.prog 179 (za N)
 |0=>pM fun al kf=>by
  unfold za ao
  split<;>rfl
 |N+1=>jz (hh:=Uf) mixed ly (es:=LH N) ⟨yX N,⟨Xp N,⟨Xq N,trivial⟩⟩⟩ (fn:=Tryz.f179) (body:=Bu) (by kernel_rfl) (by kernel_rfl) (by kernel_rfl) (by kernel_rfl) (by kernel_rfl) (Lf:=LI N) (anb N) anc (rc (aaJ N) trivial) (N:=N) (by kernel_rfl) (ane N) (.inl (by kernel_rfl))
noncomputable def Ug:List AK:=[.v (.sl cX) .k,.v (.sl jT) .k,.v (.sl du) .k]
noncomputable def apR (N:Nat) (x:ax Ug) (kf:aa→Option aa):Option aa:=S92 N x.1 x.2.1 x.2.2.1 (fun r0 r1=>kf ⟨[⟨(.sl (.int .i64)),(.o 3 none .k),r0⟩,⟨.bool,.k,r1⟩],[]⟩)
noncomputable def Xr (N:Nat):=ao Ug (apR N)
noncomputable def atu (N:Nat):List Entry:=[⟨178,[.val],(y7 N)⟩,⟨175,[.val],(ir N)⟩,⟨179,[.val,.val,.val,.val],(za N)⟩]
theorem atv (N:Nat):ca Ug (apR N) hq (atu N) (fm N N) Tryz.f92:=fun _ _=>by kernel_rfl
theorem atw {Γ:Gl} (N:Nat):Sound Γ Tryz.prog 92 (Xr N):=gJ hq Tryz.f92 (atv N) ⟨LF N,⟨l4 N,⟨Xq N,trivial⟩⟩⟩
noncomputable def Uh:List AK:=[.v dd .k]
noncomputable def apS (N:Nat) (x:ax Uh) (kf:aa→Option aa):Option aa:=S94 N x.1 (fun r0=>kf ⟨[⟨.bool,.k,r0⟩],[]⟩)
noncomputable def zb (N:Nat):=ao Uh (apS N)
theorem atx (N:Nat):ca Uh (apS N) hq [] (fm N N) Tryz.f94:=fun _ _=>by kernel_rfl
theorem LJ {Γ:Gl} (N:Nat):Sound Γ Tryz.prog 94 (zb N):=gJ hq Tryz.f94 (atx N) trivial
noncomputable def LK:List AK:=[.v (.sl iZ) .k]
noncomputable def agG (N:Nat) (x:ax LK) (kf:aa→Option aa):Option aa:=arb N x.1 (fun r0=>kf ⟨[⟨(.int .i64),.k,r0⟩],[]⟩)
noncomputable def P7 (N:Nat):=ao LK (agG N)
theorem anf (N:Nat):ca LK (agG N) hq [] (fm N N) Tryz.f226:=fun _ _=>by kernel_rfl
theorem ang {Γ:Gl} (N:Nat):Sound Γ Tryz.prog 226 (P7 N):=gJ hq Tryz.f226 (anf N) trivial
noncomputable def LL:List AK:=[.v (.int .i64) .k,.v (.int .i64) .k]
noncomputable def agH (N:Nat) (x:ax LL) (kf:aa→Option aa):Option aa:=ac1 N x.1 x.2.1 (fun r0=>kf ⟨[⟨(.int .i64),.k,r0⟩],[]⟩)
noncomputable def P8 (N:Nat):=ao LL (agH N)
noncomputable def anh (N:Nat):List Entry:=[⟨195,[.val,.val,.val],(jR N)⟩]
theorem ani (N:Nat):ca LL (agH N) hq (anh N) (fm N N) Tryz.f261:=fun _ _=>by kernel_rfl
theorem anj {Γ:Gl} (N:Nat):Sound Γ Tryz.prog 261 (P8 N):=gJ hq Tryz.f261 (ani N) ⟨nL N,trivial⟩
noncomputable def wG:List Kd:=.v (.sl (.int .i64)) .k::dK::dK::.v (.int .i64) .k::.v (.int .i64) .k::dn 17 ([])
noncomputable def zd:List Kd:=dn 3 (.v (.int .i64) .k::dn 18 ([]))
noncomputable def Ui:Hint:={ tab,hn:=[],loops:=[(3,wG)],outs:=[(3,2,zd)],bp:=[] }
noncomputable def LM:List AK:=[.v (.sl (.int .i64)) .k]
noncomputable def agI (N:Nat) (x:ax LM) (kf:aa→Option aa):Option aa:=aiY N x.1 (fun r0=>kf ⟨[⟨(.int .i64),.k,r0⟩],[]⟩)
noncomputable def P9 (N:Nat):=ao LM (agI N)
noncomputable def Xs (N:Nat):List Entry:=[⟨261,[.val,.val],(P8 N)⟩]
noncomputable def Bv:Code:=aJ Tryz.f248
noncomputable def Uj (N n:Nat) (key:Nat) (S:St) (K:Ks):Option aa:=bif Nat.beq key 3 then az wG S (fun x=>qo N x.1 n (fun z0=>K (.x 0) (shape zd (z0,()))) x.2.1 x.2.2.1) else none
theorem ank (N key:Nat) (S:St) (K:Ks):Uj N 0 key S K=none:=(bL (aq fun _=>rfl) rfl)
noncomputable def P':Code:=(af Bv).getD 0 .skip
theorem anl:af Bv=[P']:=by kernel_rfl
theorem aaK (N:Nat):fi Ui (Xs N) (Uj N) N 3 wG P':=fun _ _ _=>by kernel_rfl
theorem anm (N:Nat):ca LM (agI N) Ui (Xs N) (Uj N N) Tryz.f248:=fun _ _=>by kernel_rfl
theorem ann {Γ:Gl} (N:Nat):Sound Γ Tryz.prog 248 (P9 N):=gW Ui Tryz.f248 Bv (ank N) anl (anm N) (rc (aaK N) trivial) ⟨anj N,trivial⟩
noncomputable def LN:List AK:=[.v (.int .i64) .k,.v iZ .k]
noncomputable def agJ (N:Nat) (x:ax LN) (kf:aa→Option aa):Option aa:=Si N x.1 x.2.1 (fun r0=>kf ⟨[⟨(.int .i64),.k,r0⟩],[]⟩)
noncomputable def GB (N:Nat):=ao LN (agJ N)
noncomputable def ano (N:Nat):List Entry:=[⟨248,[.val],(P9 N)⟩]
theorem anp (N:Nat):ca LN (agJ N) hq (ano N) (fm N N) Tryz.f218:=fun _ _=>by kernel_rfl
theorem Xt {Γ:Gl} (N:Nat):Sound Γ Tryz.prog 218 (GB N):=gJ hq Tryz.f218 (anp N) ⟨ann N,trivial⟩
noncomputable def wH:List Kd:=.v (.sl iZ) .k::dK::dK::.v (.int .i64) .k::.v (.int .i64) .k::dn 45 ([])
noncomputable def ze:List Kd:=.v (.sl iZ) .k::dn 49 ([])
noncomputable def zf:List Kd:=dK::dK::.v .bool .k::dn 47 ([])
noncomputable def Uk:Hint:={ tab,hn:=[],loops:=[(3,wH)],outs:=[(3,2,ze),(3,1,zf)],bp:=[] }
noncomputable def LO:List AK:=[.v (.sl iZ) .k]
noncomputable def agK (N:Nat) (x:ax LO) (kf:aa→Option aa):Option aa:=Sj N x.1 (fun r0=>kf ⟨[⟨.bool,.k,r0⟩],[]⟩)
noncomputable def zg (N:Nat):=ao LO (agK N)
noncomputable def Xu (N:Nat):List Entry:=[⟨218,[.val,.val],(GB N)⟩,⟨195,[.val,.val,.val],(jR N)⟩]
noncomputable def Bw:Code:=aJ Tryz.f158
noncomputable def Ul (N n:Nat) (key:Nat) (S:St) (K:Ks):Option aa:=bif Nat.beq key 3 then az wH S (fun x=>qp N x.1 n (K (.x 0) (shape ze (x.1,()))) (fun z0=>K .r (shape zf (z0,()))) x.2.1 x.2.2.1) else none
theorem anq (N key:Nat) (S:St) (K:Ks):Ul N 0 key S K=none:=(bL (aq fun _=>rfl) rfl)
noncomputable def Qa:Code:=(af Bw).getD 0 .skip
theorem anr:af Bw=[Qa]:=by kernel_rfl
theorem aaL (N:Nat):fi Uk (Xu N) (Ul N) N 3 wH Qa:=fun _ _ _=>by kernel_rfl
theorem ant (N:Nat):ca LO (agK N) Uk (Xu N) (Ul N N) Tryz.f158:=fun _ _=>by kernel_rfl
theorem LP {Γ:Gl} (N:Nat):Sound Γ Tryz.prog 158 (zg N):=gW Uk Tryz.f158 Bw (anq N) anr (ant N) (rc (aaL N) trivial) ⟨Xt N,⟨nL N,trivial⟩⟩
noncomputable def agL:Hint:={ tab,hn:=[],loops:=[],outs:=[],bp:=[(2,(OT.seq [0,2,1,3,4,5] .done)),(3,(OT.seq [1] (.any [0,2,3,4] (OT.seq [5,6] .done))))] }
noncomputable def LQ:List AK:=[.v (.sl iZ) .k,.v (.int .i64) .k,.v (.int .i64) .k]
noncomputable def agM (N:Nat) (x:ax LQ) (kf:aa→Option aa):Option aa:=Y8 N x.1 x.2.1 x.2.2.1 (fun r0 r1=>kf ⟨[⟨(.sl iZ),(.o 102 none .k),r0⟩,⟨.bool,.k,r1⟩],[]⟩)
noncomputable def GC (N:Nat):=ao LQ (agM N)
noncomputable def anu (N:Nat):List Entry:=[⟨226,[.val],(P7 N)⟩,⟨218,[.val,.val],(GB N)⟩,⟨158,[.val],(zg N)⟩]
theorem anv (N:Nat):ca LQ (agM N) agL (anu N) (fm N N) Tryz.f180:=fun _ _=>by kernel_rfl
theorem Xv {Γ:Gl} (N:Nat):Sound Γ Tryz.prog 180 (GC N):=gJ agL Tryz.f180 (anv N) ⟨ang N,⟨Xt N,⟨LP N,trivial⟩⟩⟩
noncomputable def wI:List Kd:=.v (.sl cX) .k::dK::dK::.v (.int .i64) .k::.v (.int .i64) .k::dn 18 ([])
noncomputable def zh:List Kd:=dn 3 (.v (.int .i64) .k::dn 19 ([]))
noncomputable def Um:Hint:={ tab,hn:=[],loops:=[(3,wI)],outs:=[(3,2,zh)],bp:=[] }
noncomputable def LR:List AK:=[.v (.sl cX) .k]
noncomputable def agN (N:Nat) (x:ax LR) (kf:aa→Option aa):Option aa:=aiZ N x.1 (fun r0=>kf ⟨[⟨(.int .i64),.k,r0⟩],[]⟩)
noncomputable def Qb (N:Nat):=ao LR (agN N)
noncomputable def Xw (N:Nat):List Entry:=[⟨175,[.val],(ir N)⟩]
noncomputable def Bx:Code:=aJ Tryz.f196
noncomputable def Un (N n:Nat) (key:Nat) (S:St) (K:Ks):Option aa:=bif Nat.beq key 3 then az wI S (fun x=>qq N x.1 n (fun z0=>K (.x 0) (shape zh (z0,()))) x.2.1 x.2.2.1) else none
theorem anw (N key:Nat) (S:St) (K:Ks):Un N 0 key S K=none:=(bL (aq fun _=>rfl) rfl)
noncomputable def Qc:Code:=(af Bx).getD 0 .skip
theorem anx:af Bx=[Qc]:=by kernel_rfl
theorem aaM (N:Nat):fi Um (Xw N) (Un N) N 3 wI Qc:=fun _ _ _=>by kernel_rfl
theorem anz (N:Nat):ca LR (agN N) Um (Xw N) (Un N N) Tryz.f196:=fun _ _=>by kernel_rfl
theorem anA {Γ:Gl} (N:Nat):Sound Γ Tryz.prog 196 (Qb N):=gW Um Tryz.f196 Bx (anw N) anx (anz N) (rc (aaM N) trivial) ⟨l4 N,trivial⟩
noncomputable def wJ:List Kd:=.v (.sl cX) .k::.v (.sl du) .k::dn 3 (.v (.sl (.int .i64)) (.o 3 none .k)::.v (.int .i64) .k::dn 60 ([]))
noncomputable def zi:List Kd:=.v (.sl cX) .k::dn 4 (.v (.sl (.int .i64)) (.o 3 none .k)::dn 61 ([]))
noncomputable def zj:List Kd:=dn 4 (.v .bool .k::dn 62 ([]))
noncomputable def Uo:Hint:={ tab,hn:=[],loops:=[(3,wJ)],outs:=[(3,2,zi),(3,1,zj)],bp:=[(5,(OT.seq [0,1,2,3,4,5,6,7,8,9,10,11,12,13,14,15,16,17,18,19,20,21,22,23,24,25,26,27,28,29,30] .done)),(7,(OT.seq [0,1,2,3,4,5,6,7,8,9,10,11,12,13] .done))] }
noncomputable def LS:List AK:=[.v (.sl cX) .k,.v (.sl du) .k]
noncomputable def agO (N:Nat) (x:ax LS) (kf:aa→Option aa):Option aa:=ai0 N x.1 x.2.1 (fun r0=>kf ⟨[⟨.bool,.k,r0⟩],[]⟩)
noncomputable def Qd (N:Nat):=ao LS (agO N)
noncomputable def Xx (N:Nat):List Entry:=[⟨221,[.val,.val,.val],(Gz N)⟩,⟨224,[.val,.val],(pd N)⟩,⟨175,[.val],(ir N)⟩]
noncomputable def By:Code:=aJ Tryz.f197
noncomputable def Up (N n:Nat) (key:Nat) (S:St) (K:Ks):Option aa:=bif Nat.beq key 3 then az wJ S (fun x=>qs N x.1 x.2.1 n (fun z0=>K (.x 0) (shape zi (x.1,z0,()))) (fun z0=>K .r (shape zj (z0,()))) x.2.2.1 x.2.2.2.1) else none
theorem anB (N key:Nat) (S:St) (K:Ks):Up N 0 key S K=none:=(bL (aq fun _=>rfl) rfl)
noncomputable def Qe:Code:=(af By).getD 0 .skip
theorem anC:af By=[Qe]:=by kernel_rfl
theorem aaN (N:Nat):fi Uo (Xx N) (Up N) N 3 wJ Qe:=fun _ _ _=>by kernel_rfl
theorem anD (N:Nat):ca LS (agO N) Uo (Xx N) (Up N N) Tryz.f197:=fun _ _=>by kernel_rfl
theorem anE {Γ:Gl} (N:Nat):Sound Γ Tryz.prog 197 (Qd N):=gW Uo Tryz.f197 By (anB N) anC (anD N) (rc (aaN N) trivial) ⟨Xm N,⟨yX N,⟨l4 N,trivial⟩⟩⟩
noncomputable def wK:List Kd:=.v (.sl jT) .k::.v (.int .i64) .k::dn 3 (.v (.int .i64) .k::dn 14 ([]))
noncomputable def zk:List Kd:=dn 20 ([])
noncomputable def zm:List Kd:=dn 4 (.v (.int .i64) .k::dn 15 ([]))
noncomputable def Uq:Hint:={ tab,hn:=[],loops:=[(2,wK)],outs:=[(2,2,zk),(2,1,zm)],bp:=[] }
noncomputable def LU:List AK:=[.v (.sl jT) .k,.v (.int .i64) .k]
noncomputable def agP (N:Nat) (x:ax LU) (kf:aa→Option aa):Option aa:=Ff N x.1 x.2.1 (fun r0=>kf ⟨[⟨(.int .i64),.k,r0⟩],[]⟩)
noncomputable def GD (N:Nat):=ao LU (agP N)
noncomputable def Bz:Code:=aJ Tryz.f126
noncomputable def Ur (N n:Nat) (key:Nat) (S:St) (K:Ks):Option aa:=bif Nat.beq key 2 then az wK S (fun x=>qt x.1 x.2.1 n (K (.x 0) (shape zk ())) (fun z0=>K .r (shape zm (z0,()))) x.2.2.1) else none
theorem anF (N key:Nat) (S:St) (K:Ks):Ur N 0 key S K=none:=(bL (aq fun _=>rfl) rfl)
noncomputable def Qf:Code:=(af Bz).getD 0 .skip
theorem anG:af Bz=[Qf]:=by kernel_rfl
theorem aaO (N:Nat):fi Uq [] (Ur N) N 2 wK Qf:=fun _ _ _=>by kernel_rfl
theorem anH (N:Nat):ca LU (agP N) Uq [] (Ur N N) Tryz.f126:=fun _ _=>by kernel_rfl
theorem Xy {Γ:Gl} (N:Nat):Sound Γ Tryz.prog 126 (GD N):=gW Uq Tryz.f126 Bz (anF N) anG (anH N) (rc (aaO N) trivial) trivial
noncomputable def wL:List Kd:=.v (.sl cX) .k::.v (.sl jT) .k::.v (.sl du) .k::.v (.sl (.int .i64)) .k::dn 5 (.v (.int .i64) .k::dn 48 ([]))
noncomputable def zn:List Kd:=dn 58 ([])
noncomputable def zo:List Kd:=dn 8 (.v .bool .k::dn 49 ([]))
noncomputable def Us:Hint:={ tab,hn:=[],loops:=[(4,wL)],outs:=[(4,2,zn),(4,1,zo)],bp:=[(7,(OT.seq [0,1,2,3,4,5,6,7,8,9,10,11,12,13,14,15,16,17,18,19,20,21,22,23,24] .done))] }
noncomputable def LV:List AK:=[.v (.sl cX) .k,.v (.sl jT) .k,.v (.sl du) .k,.v (.sl (.int .i64)) .k]
noncomputable def agQ (N:Nat) (x:ax LV) (kf:aa→Option aa):Option aa:=ai1 N x.1 x.2.1 x.2.2.1 x.2.2.2.1 (fun r0=>kf ⟨[⟨.bool,.k,r0⟩],[]⟩)
noncomputable def Qg (N:Nat):=ao LV (agQ N)
noncomputable def Xz (N:Nat):List Entry:=[⟨178,[.val],(y7 N)⟩,⟨126,[.val,.val],(GD N)⟩,⟨224,[.val,.val],(pd N)⟩,⟨225,[.val,.val,.val],(GA N)⟩]
noncomputable def BA:Code:=aJ Tryz.f198
noncomputable def Ut (N n:Nat) (key:Nat) (S:St) (K:Ks):Option aa:=bif Nat.beq key 4 then az wL S (fun x=>qu N x.1 x.2.1 x.2.2.1 x.2.2.2.1 n (K (.x 0) (shape zn ())) (fun z0=>K .r (shape zo (z0,()))) x.2.2.2.2.1) else none
theorem anI (N key:Nat) (S:St) (K:Ks):Ut N 0 key S K=none:=(bL (aq fun _=>rfl) rfl)
noncomputable def Qh:Code:=(af BA).getD 0 .skip
theorem anJ:af BA=[Qh]:=by kernel_rfl
theorem aaP (N:Nat):fi Us (Xz N) (Ut N) N 4 wL Qh:=fun _ _ _=>by kernel_rfl
theorem anK (N:Nat):ca LV (agQ N) Us (Xz N) (Ut N N) Tryz.f198:=fun _ _=>by kernel_rfl
theorem anL {Γ:Gl} (N:Nat):Sound Γ Tryz.prog 198 (Qg N):=gW Us Tryz.f198 BA (anI N) anJ (anK N) (rc (aaP N) trivial) ⟨LF N,⟨Xy N,⟨yX N,⟨Xp N,trivial⟩⟩⟩⟩
noncomputable def LW:List AK:=[.v ux .k]
noncomputable def agR (N:Nat) (x:ax LW) (kf:aa→Option aa):Option aa:=NR N x.1 (fun r0=>kf ⟨[⟨.bool,.k,r0⟩],[]⟩)
noncomputable def zp (N:Nat):=ao LW (agR N)
noncomputable def anM (N:Nat):List Entry:=[⟨195,[.val,.val,.val],(jR N)⟩]
theorem anN (N:Nat):ca LW (agR N) hq (anM N) (fm N N) Tryz.f199:=fun _ _=>by kernel_rfl
theorem LX {Γ:Gl} (N:Nat):Sound Γ Tryz.prog 199 (zp N):=gJ hq Tryz.f199 (anN N) ⟨nL N,trivial⟩
noncomputable def wM:List Kd:=dK::.v (.ptr dd) (.o 31 none .k)::dK::.v (.ptr ux) (.o 136 none .k)::.v (.int .i64) .k::dn 110 ([])
noncomputable def zq:List Kd:=dn 115 ([])
noncomputable def zr:List Kd:=dK::dK::.v .bool .k::dn 112 ([])
noncomputable def Uu:Hint:={ tab,hn:=[],loops:=[(7,wM)],outs:=[(7,2,zq),(7,1,zr)],bp:=[(1,(OT.seq [0,1,2,3,4,5,6,7,8,9,10,11,12,13,14,15,16,17,18,19,20,21,22,23,24,25,26,27,28,29,30,31,32,33,34,35,36,37,38,39,40,41,42,44,45,43,46,47] .done)),(9,(OT.seq [0,1,2,3,4,5,6,7,8,9,10,11,12,13,14,15,16,17,18,19,20,21,22,23,24,25,26,27,28,29] .done))] }
noncomputable def LY:List AK:=[.v dd .k]
noncomputable def agS (N:Nat) (x:ax LY) (kf:aa→Option aa):Option aa:=Sm N x.1 (fun r0=>kf ⟨[⟨.bool,.k,r0⟩],[]⟩)
noncomputable def zt (N:Nat):=ao LY (agS N)
noncomputable def XA (N:Nat):List Entry:=[⟨175,[.val],(ir N)⟩,⟨178,[.val],(y7 N)⟩,⟨158,[.val],(zg N)⟩,⟨195,[.val,.val,.val],(jR N)⟩,⟨196,[.val],(Qb N)⟩,⟨197,[.val,.val],(Qd N)⟩,⟨198,[.val,.val,.val,.val],(Qg N)⟩,⟨199,[.val],(zp N)⟩]
noncomputable def BB:Code:=aJ Tryz.f122
noncomputable def Uv (N n:Nat) (key:Nat) (S:St) (K:Ks):Option aa:=bif Nat.beq key 7 then az wM S (fun x=>nw N x.1 x.2.1 n (K (.x 0) (shape zq ())) (fun z0=>K .r (shape zr (z0,()))) x.2.2.1) else none
theorem anO (N key:Nat) (S:St) (K:Ks):Uv N 0 key S K=none:=(bL (aq fun _=>rfl) rfl)
noncomputable def Qi:Code:=(af BB).getD 0 .skip
theorem anP:af BB=[Qi]:=by kernel_rfl
theorem aaQ (N:Nat):fi Uu (XA N) (Uv N) N 7 wM Qi:=fun _ _ _=>by kernel_rfl
theorem anQ (N:Nat):ca LY (agS N) Uu (XA N) (Uv N N) Tryz.f122:=fun _ _=>by kernel_rfl
theorem LZ {Γ:Gl} (N:Nat):Sound Γ Tryz.prog 122 (zt N):=gW Uu Tryz.f122 BB (anO N) anP (anQ N) (rc (aaQ N) trivial) ⟨l4 N,⟨LF N,⟨LP N,⟨nL N,⟨anA N,⟨anE N,⟨anL N,⟨LX N,trivial⟩⟩⟩⟩⟩⟩⟩⟩
noncomputable def Uw:List AK:=[.v dd .k,.v dd (.p (.o 46 none (.p .k (.p .k (.p .k (.p .k (.p .k (.o 3 none .k))))))) (.p (.o 80 none (.p .k (.p .k (.o 3 none .k)))) (.p (.o 104 none .k) (.p (.o 3 none .k) (.p (.o 136 none .k) (.p (.o 102 none .k) .k)))))),.v .bool .k,.v (.int .i64) .k,.v (.int .i64) .k]
noncomputable def apT (N:Nat) (x:ax Uw) (kf:aa→Option aa):Option aa:=Y9 N x.1 x.2.1 x.2.2.1 x.2.2.2.1 x.2.2.2.2.1 (fun r0 r1=>kf ⟨[⟨dd,(.p (.o 46 none (.p .k (.p .k (.p .k (.p .k (.p .k (.o 3 none .k))))))) (.p (.o 80 none (.p .k (.p .k (.o 3 none .k)))) (.p (.o 104 none .k) (.p (.o 3 none .k) (.p (.o 136 none .k) (.p (.o 102 none .k) .k)))))),r0⟩,⟨.bool,.k,r1⟩],[]⟩)
noncomputable def qS (N:Nat):=ao Uw (apT N)
noncomputable def aty (N:Nat):List Entry:=[⟨180,[.val,.val,.val],(GC N)⟩,⟨122,[.val],(zt N)⟩,⟨90,[.val],(kM N)⟩]
theorem atz (N:Nat):ca Uw (apT N) hq (aty N) (fm N N) Tryz.f93:=fun _ _=>by kernel_rfl
theorem BC {Γ:Gl} (N:Nat):Sound Γ Tryz.prog 93 (qS N):=gJ hq Tryz.f93 (atz N) ⟨Xv N,⟨LZ N,⟨qQ N,trivial⟩⟩⟩
noncomputable def apU:Hint:={ tab,hn:=[],loops:=[],outs:=[],bp:=[(7,(OT.seq [0,1,2,3,4,5,6,7,8,9,10,11,12,13,14,15,16,17,18,19,20,21] .done))] }
noncomputable def Ux:List AK:=[.v dd .k]
noncomputable def apV (N:Nat) (x:ax Ux) (kf:aa→Option aa):Option aa:=S21 N x.1 (fun r0 r1=>kf ⟨[⟨dd,(.p (.o 46 none (.p .k (.p .k (.p .k (.p .k (.p .k (.o 3 none .k))))))) (.p (.o 80 none (.p .k (.p .k (.o 3 none .k)))) (.p (.o 104 none .k) (.p (.o 3 none .k) (.p (.o 136 none .k) (.p (.o 102 none .k) .k)))))),r0⟩,⟨.bool,.k,r1⟩],[]⟩)
noncomputable def XB (N:Nat):=ao Ux (apV N)
noncomputable def atA (N:Nat):List Entry:=[⟨90,[.val],(kM N)⟩,⟨91,[.val],(Xo N)⟩,⟨92,[.val,.val,.val],(Xr N)⟩,⟨94,[.val],(zb N)⟩,⟨93,[.val,.take,.val,.val,.val],(qS N)⟩]
theorem atB (N:Nat):ca Ux (apV N) apU (atA N) (fm N N) Tryz.f21:=fun _ _=>by kernel_rfl
theorem atC {Γ:Gl} (N:Nat):Sound Γ Tryz.prog 21 (XB N):=gJ apU Tryz.f21 (atB N) ⟨qQ N,⟨att N,⟨atw N,⟨LJ N,⟨BC N,trivial⟩⟩⟩⟩⟩
noncomputable def wN:List Kd:=dK::.v (.ptr dd) (.o 31 none .k)::dK::.v (.sl (.int .i64)) (.o 3 none .k)::.v (.ptr ux) (.o 136 none .k)::.v (.int .i64) .k::dn 21 ([])
noncomputable def zu:List Kd:=dn 3 (.v (.sl (.int .i64)) (.o 3 none .k)::dn 23 ([]))
noncomputable def Uy:Hint:={ tab,hn:=[],loops:=[(4,wN)],outs:=[(4,2,zu)],bp:=[(6,(OT.seq [0,1,2,3,4,5,6] .done))] }
noncomputable def L0:List AK:=[.v dd .k]
noncomputable def agT (N:Nat) (x:ax L0) (kf:aa→Option aa):Option aa:=ai2 N x.1 (fun r0=>kf ⟨[⟨(.sl (.int .i64)),(.o 3 none .k),r0⟩],[]⟩)
noncomputable def Qj (N:Nat):=ao L0 (agT N)
noncomputable def BD:Code:=aJ Tryz.f123
noncomputable def Uz (N n:Nat) (key:Nat) (S:St) (K:Ks):Option aa:=bif Nat.beq key 4 then az wN S (fun x=>nx x.1 x.2.2.1 n (fun z0=>K (.x 0) (shape zu (z0,()))) x.2.1 x.2.2.2.1) else none
theorem anR (N key:Nat) (S:St) (K:Ks):Uz N 0 key S K=none:=(bL (aq fun _=>rfl) rfl)
noncomputable def Qk:Code:=(af BD).getD 0 .skip
theorem anS:af BD=[Qk]:=by kernel_rfl
theorem aaR (N:Nat):fi Uy [] (Uz N) N 4 wN Qk:=fun _ _ _=>by kernel_rfl
theorem anT (N:Nat):ca L0 (agT N) Uy [] (Uz N N) Tryz.f123:=fun _ _=>by kernel_rfl
theorem anU {Γ:Gl} (N:Nat):Sound Γ Tryz.prog 123 (Qj N):=gW Uy Tryz.f123 BD (anR N) anS (anT N) (rc (aaR N) trivial) trivial
noncomputable def wO:List Kd:=.v (.sl ux) .k::dK::dK::.v (.int .i64) .k::dn 33 ([])
noncomputable def zw:List Kd:=.v (.sl ux) .k::dn 36 ([])
noncomputable def zx:List Kd:=dK::dK::.v .bool .k::dn 34 ([])
noncomputable def UA:Hint:={ tab,hn:=[],loops:=[(2,wO)],outs:=[(2,2,zw),(2,1,zx)],bp:=[(4,(OT.seq [0,1,2,3,4,5,6,7,8,9,10,11,12,13,14,15,16,17,18,19,20,21,22,23] .done))] }
noncomputable def L1:List AK:=[.v (.sl ux) .k]
noncomputable def agU (N:Nat) (x:ax L1) (kf:aa→Option aa):Option aa:=Sn N x.1 (fun r0=>kf ⟨[⟨.bool,.k,r0⟩],[]⟩)
noncomputable def zy (N:Nat):=ao L1 (agU N)
noncomputable def XC (N:Nat):List Entry:=[⟨199,[.val],(zp N)⟩]
noncomputable def BE:Code:=aJ Tryz.f201
noncomputable def UB (N n:Nat) (key:Nat) (S:St) (K:Ks):Option aa:=bif Nat.beq key 2 then az wO S (fun x=>ny N x.1 n (K (.x 0) (shape zw (x.1,()))) (fun z0=>K .r (shape zx (z0,()))) x.2.1) else none
theorem anV (N key:Nat) (S:St) (K:Ks):UB N 0 key S K=none:=(bL (aq fun _=>rfl) rfl)
noncomputable def Ql:Code:=(af BE).getD 0 .skip
theorem anW:af BE=[Ql]:=by kernel_rfl
theorem aaS (N:Nat):fi UA (XC N) (UB N) N 2 wO Ql:=fun _ _ _=>by kernel_rfl
theorem anX (N:Nat):ca L1 (agU N) UA (XC N) (UB N N) Tryz.f201:=fun _ _=>by kernel_rfl
theorem L2 {Γ:Gl} (N:Nat):Sound Γ Tryz.prog 201 (zy N):=gW UA Tryz.f201 BE (anV N) anW (anX N) (rc (aaS N) trivial) ⟨LX N,trivial⟩
noncomputable def L3:List AK:=[.v ux .k]
noncomputable def agV (N:Nat) (x:ax L3) (kf:aa→Option aa):Option aa:=Y' N x.1 (fun r0=>kf ⟨[⟨(.int .i64),.k,r0⟩],[]⟩)
noncomputable def GF (N:Nat):=ao L3 (agV N)
theorem anY (N:Nat):ca L3 (agV N) hq [] (fm N N) Tryz.f204:=fun _ _=>by kernel_rfl
theorem XD {Γ:Gl} (N:Nat):Sound Γ Tryz.prog 204 (GF N):=gJ hq Tryz.f204 (anY N) trivial
noncomputable def wP:List Kd:=.v (.sl ux) .k::.v (.int .i64) .k::dn 3 (.v (.int .i64) .k::.v (.int .i64) .k::dn 20 ([]))
noncomputable def zz:List Kd:=dn 5 (.v (.int .i64) .k::dn 21 ([]))
noncomputable def UC:Hint:={ tab,hn:=[],loops:=[(3,wP)],outs:=[(3,2,zz)],bp:=[] }
noncomputable def L4:List AK:=[.v (.sl ux) .k,.v (.int .i64) .k]
noncomputable def agW (N:Nat) (x:ax L4) (kf:aa→Option aa):Option aa:=ac4 N x.1 x.2.1 (fun r0=>kf ⟨[⟨(.int .i64),.k,r0⟩],[]⟩)
noncomputable def Qm (N:Nat):=ao L4 (agW N)
noncomputable def XE (N:Nat):List Entry:=[⟨201,[.val],(zy N)⟩,⟨204,[.val],(GF N)⟩]
noncomputable def BF:Code:=aJ Tryz.f202
noncomputable def UD (N n:Nat) (key:Nat) (S:St) (K:Ks):Option aa:=bif Nat.beq key 3 then az wP S (fun x=>nz N x.1 x.2.1 n (fun z0=>K (.x 0) (shape zz (z0,()))) x.2.2.1 x.2.2.2.1) else none
theorem anZ (N key:Nat) (S:St) (K:Ks):UD N 0 key S K=none:=(bL (aq fun _=>rfl) rfl)
noncomputable def Qn:Code:=(af BF).getD 0 .skip
theorem an0:af BF=[Qn]:=by kernel_rfl
theorem aaT (N:Nat):fi UC (XE N) (UD N) N 3 wP Qn:=fun _ _ _=>by kernel_rfl
theorem an1 (N:Nat):ca L4 (agW N) UC (XE N) (UD N N) Tryz.f202:=fun _ _=>by kernel_rfl
theorem an2 {Γ:Gl} (N:Nat):Sound Γ Tryz.prog 202 (Qm N):=gW UC Tryz.f202 BF (anZ N) an0 (an1 N) (rc (aaT N) trivial) ⟨L2 N,⟨XD N,trivial⟩⟩
noncomputable def wQ:List Kd:=.v (.sl ux) .k::.v (.int .i64) .k::dn 3 (.v (.int .i64) .k::.v (.int .i64) .k::dn 30 ([]))
noncomputable def zA:List Kd:=dn 5 (.v (.int .i64) .k::dn 31 ([]))
noncomputable def UE:Hint:={ tab,hn:=[],loops:=[(3,wQ)],outs:=[(3,2,zA)],bp:=[] }
noncomputable def L5:List AK:=[.v (.sl ux) .k,.v (.int .i64) .k]
noncomputable def agX (N:Nat) (x:ax L5) (kf:aa→Option aa):Option aa:=ard N x.1 x.2.1 (fun r0=>kf ⟨[⟨(.int .i64),.k,r0⟩],[]⟩)
noncomputable def Qo (N:Nat):=ao L5 (agX N)
noncomputable def XF (N:Nat):List Entry:=[⟨201,[.val],(zy N)⟩]
noncomputable def BG:Code:=aJ Tryz.f203
noncomputable def UF (N n:Nat) (key:Nat) (S:St) (K:Ks):Option aa:=bif Nat.beq key 3 then az wQ S (fun x=>xI N x.1 x.2.1 n (fun z0=>K (.x 0) (shape zA (z0,()))) x.2.2.1 x.2.2.2.1) else none
theorem an3 (N key:Nat) (S:St) (K:Ks):UF N 0 key S K=none:=(bL (aq fun _=>rfl) rfl)
noncomputable def Qp:Code:=(af BG).getD 0 .skip
theorem an4:af BG=[Qp]:=by kernel_rfl
theorem aaU (N:Nat):fi UE (XF N) (UF N) N 3 wQ Qp:=fun _ _ _=>by kernel_rfl
theorem an5 (N:Nat):ca L5 (agX N) UE (XF N) (UF N N) Tryz.f203:=fun _ _=>by kernel_rfl
theorem an6 {Γ:Gl} (N:Nat):Sound Γ Tryz.prog 203 (Qo N):=gW UE Tryz.f203 BG (an3 N) an4 (an5 N) (rc (aaU N) trivial) ⟨L2 N,trivial⟩
noncomputable def L6:List AK:=[.v (.sl ux) .k]
noncomputable def agY (N:Nat) (x:ax L6) (kf:aa→Option aa):Option aa:=Za N x.1 (fun r0=>kf ⟨[⟨(.int .i64),.k,r0⟩],[]⟩)
noncomputable def Qq (N:Nat):=ao L6 (agY N)
noncomputable def an7 (N:Nat):List Entry:=[⟨201,[.val],(zy N)⟩,⟨202,[.val,.val],(Qm N)⟩,⟨203,[.val,.val],(Qo N)⟩,⟨204,[.val],(GF N)⟩]
theorem an8 (N:Nat):ca L6 (agY N) hq (an7 N) (fm N N) Tryz.f125:=fun _ _=>by kernel_rfl
theorem an9 {Γ:Gl} (N:Nat):Sound Γ Tryz.prog 125 (Qq N):=gJ hq Tryz.f125 (an8 N) ⟨L2 N,⟨an2 N,⟨an6 N,⟨XD N,trivial⟩⟩⟩⟩
noncomputable def L7:List AK:=[.v (.sl cX) .k,.v (.int .i64) .k,.v (.int .i64) .k,.v (.int .i64) .k,.v (.int .i64) .k,.v (.int .i64) .k]
noncomputable def agZ (N:Nat) (x:ax L7) (kf:aa→Option aa):Option aa:=Zb N x.1 x.2.1 x.2.2.1 x.2.2.2.1 x.2.2.2.2.1 x.2.2.2.2.2.1 (fun r0 r1=>kf ⟨[⟨(.sl cX),(.o 46 none (.p .k (.p .k (.p .k (.p .k (.p .k (.o 3 none .k))))))),r0⟩,⟨.bool,.k,r1⟩],[]⟩)
noncomputable def Qr (N:Nat):=ao L7 (agZ N)
noncomputable def an' (N:Nat):List Entry:=[⟨173,[.val],(s7 N)⟩,⟨200,[.val,.val],(lg N)⟩,⟨175,[.val],(ir N)⟩,⟨195,[.val,.val,.val],(jR N)⟩]
theorem aoa (N:Nat):ca L7 (agZ N) hq (an' N) (fm N N) Tryz.f124:=fun _ _=>by kernel_rfl
theorem aob {Γ:Gl} (N:Nat):Sound Γ Tryz.prog 124 (Qr N):=gJ hq Tryz.f124 (aoa N) ⟨DL N,⟨qR N,⟨l4 N,⟨nL N,trivial⟩⟩⟩⟩
end Go.Pv.R
