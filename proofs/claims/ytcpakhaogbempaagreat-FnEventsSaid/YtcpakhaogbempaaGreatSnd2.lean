/- Each function of the program that the law reaches computes its plain function, part 2. -/
import Derived.Test.YtcpakhaogbempaaGreatSnd1
import Derived.Test.YtcpakhaogbempaaGreatProg
namespace Go.Pv.R
open Go.Proofs
set_option linter.unusedVariables false
set_option maxRecDepth 100000
noncomputable def By:List Kd:=.v (.sl mO) .k::.v (.sl mO) .k::dn 10 (.v (.int .i64) .k::.v (.int .i64) .k::dn 12 ([]))
noncomputable def C2:List Kd:=dn 26 ([])
noncomputable def C3:List Kd:=dn 4 (.v .bool .k::dn 21 ([]))
noncomputable def agL:Hint:={ tab,hn:=[],loops:=[(4,By)],outs:=[(4,2,C2),(4,1,C3)],bj:=[(6,(OT.seq [0,1,2,3,4,5,6,7,8] .done))] }
noncomputable def Un:List AK:=[.v (.sl mO) .k,.v (.sl mO) .k]
noncomputable def aqd (N:Nat) (x:ax Un) (kf:aa→Option aa):Option aa:=S76 N x.1 x.2.1 (fun r0=>kf ⟨[⟨.bool,.k,r0⟩],[]⟩)
noncomputable def XT (N:Nat):=ar Un (aqd N)
noncomputable def GC:Code:=aL Tryz.f76
noncomputable def agM (N n:Nat) (key:Nat) (S:St) (K:Ks):Option aa:=bif Nat.beq key 4 then az By S (fun x=>vF x.1 x.2.1 x.2.2.1 n (K (.x 0) (shape C2 ())) (fun z0=>K .r (shape C3 (z0,()))) x.2.2.2.1) else none
theorem atS (N key:Nat) (S:St) (K:Ks):agM N 0 key S K=none:=(bO (au fun _=>rfl) rfl)
noncomputable def XU:Code:=(af GC).getD 0 .skip
theorem atT:af GC=[XU]:=by kernel_rfl
theorem agN (N:Nat):fD agL [] (agM N) N 4 By XU:=fun _ _ _=>by kernel_rfl
theorem atU (N:Nat):cn Un (aqd N) agL [] (agM N N) Tryz.f76:=fun _ _=>by kernel_rfl
theorem atV {Γ:Gl} (N:Nat):Sound Γ Tryz.prog 76 (XT N):=iH agL Tryz.f76 GC (atS N) atT (atU N) (rc (agN N) trivial) trivial
noncomputable def wu:List Kd:=.v (.sl cS) .k::dK::dK::.v (.sl cS) (.o 46 none (.p .k (.p .k (.p .k (.p .k (.p .k (.o 3 none .k)))))))::.v (.int .i64) .k::dn 22 ([])
noncomputable def yK:List Kd:=dn 3 (.v (.sl cS) (.o 46 none (.p .k (.p .k (.p .k (.p .k (.p .k (.o 3 none .k)))))))::dn 23 ([]))
noncomputable def Uo:Hint:={ tab,hn:=[(6,(.p .k (.p .k (.p .k (.p .k (.p .k (.o 3 none .k)))))))],loops:=[(3,wu)],outs:=[(3,2,yK)],bj:=[] }
noncomputable def Ls:List AK:=[.v (.sl cS) .k]
noncomputable def agO (N:Nat) (x:ax Ls) (kf:aa→Option aa):Option aa:=Fj N x.1 (fun r0=>kf ⟨[⟨(.sl cS),(.o 46 none (.p .k (.p .k (.p .k (.p .k (.p .k (.o 3 none .k))))))),r0⟩],[]⟩)
noncomputable def yL (N:Nat):=ar Ls (agO N)
noncomputable def Bz:Code:=aL Tryz.f173
noncomputable def Up (N n:Nat) (key:Nat) (S:St) (K:Ks):Option aa:=bif Nat.beq key 3 then az wu S (fun x=>qo x.1 n (fun z0=>K (.x 0) (shape yK (z0,()))) x.2.1 x.2.2.1) else none
theorem amG (N key:Nat) (S:St) (K:Ks):Up N 0 key S K=none:=(bO (au fun _=>rfl) rfl)
noncomputable def PU:Code:=(af Bz).getD 0 .skip
theorem amH:af Bz=[PU]:=by kernel_rfl
theorem aaX (N:Nat):fD Uo [] (Up N) N 3 wu PU:=fun _ _ _=>by kernel_rfl
theorem amI (N:Nat):cn Ls (agO N) Uo [] (Up N N) Tryz.f173:=fun _ _=>by kernel_rfl
theorem Lt {Γ:Gl} (N:Nat):Sound Γ Tryz.prog 173 (yL N):=iH Uo Tryz.f173 Bz (amG N) amH (amI N) (rc (aaX N) trivial) trivial
noncomputable def wv:List Kd:=.v (.sl iN) .k::dK::dK::.v (.sl iN) (.o 80 none (.p .k (.p .k (.o 3 none .k))))::.v (.int .i64) .k::dn 22 ([])
noncomputable def yM:List Kd:=dn 3 (.v (.sl iN) (.o 80 none (.p .k (.p .k (.o 3 none .k))))::dn 23 ([]))
noncomputable def Uq:Hint:={ tab,hn:=[(6,(.p .k (.p .k (.o 3 none .k))))],loops:=[(3,wv)],outs:=[(3,2,yM)],bj:=[] }
noncomputable def Lu:List AK:=[.v (.sl iN) .k]
noncomputable def agP (N:Nat) (x:ax Lu) (kf:aa→Option aa):Option aa:=Ss N x.1 (fun r0=>kf ⟨[⟨(.sl iN),(.o 80 none (.p .k (.p .k (.o 3 none .k)))),r0⟩],[]⟩)
noncomputable def GD (N:Nat):=ar Lu (agP N)
noncomputable def BA:Code:=aL Tryz.f174
noncomputable def Ur (N n:Nat) (key:Nat) (S:St) (K:Ks):Option aa:=bif Nat.beq key 3 then az wv S (fun x=>qp x.1 n (fun z0=>K (.x 0) (shape yM (z0,()))) x.2.1 x.2.2.1) else none
theorem amJ (N key:Nat) (S:St) (K:Ks):Ur N 0 key S K=none:=(bO (au fun _=>rfl) rfl)
noncomputable def PV:Code:=(af BA).getD 0 .skip
theorem amK:af BA=[PV]:=by kernel_rfl
theorem aaY (N:Nat):fD Uq [] (Ur N) N 3 wv PV:=fun _ _ _=>by kernel_rfl
theorem amL (N:Nat):cn Lu (agP N) Uq [] (Ur N N) Tryz.f174:=fun _ _=>by kernel_rfl
theorem XV {Γ:Gl} (N:Nat):Sound Γ Tryz.prog 174 (GD N):=iH Uq Tryz.f174 BA (amJ N) amK (amL N) (rc (aaY N) trivial) trivial
noncomputable def aqe:Hint:={ tab,hn:=[],loops:=[],outs:=[],bj:=[(1,(OT.seq [0,1,3,4,7,8,11,15,19,22] (.any [2,5,6,9,10,12,13,14,16,17,18,20,21,23] (OT.seq [24,25] .done))))] }
noncomputable def Us:List AK:=[.v c6 .k]
noncomputable def aqf (N:Nat) (x:ax Us) (kf:aa→Option aa):Option aa:=V1 N x.1 (fun r0=>kf ⟨[⟨c6,(.p (.o 46 none (.p .k (.p .k (.p .k (.p .k (.p .k (.o 3 none .k))))))) (.p (.o 80 none (.p .k (.p .k (.o 3 none .k)))) (.p (.o 104 none .k) (.p (.o 3 none .k) (.p (.o 136 none .k) (.p (.o 102 none .k) .k)))))),r0⟩],[]⟩)
noncomputable def qZ (N:Nat):=ar Us (aqf N)
noncomputable def atW (N:Nat):List Entry:=[⟨173,[.val],(yL N)⟩,⟨174,[.val],(GD N)⟩]
theorem atX (N:Nat):cn Us (aqf N) aqe (atW N) (fC N N) Tryz.f90:=fun _ _=>by kernel_rfl
theorem BB {Γ:Gl} (N:Nat):Sound Γ Tryz.prog 90 (qZ N):=gX aqe Tryz.f90 (atX N) ⟨Lt N,⟨XV N,trivial⟩⟩
noncomputable def Lv:List AK:=[.v (.int .i64) .k,.v (.int .i64) .k,.v (.int .i64) .k]
noncomputable def agQ (N:Nat) (x:ax Lv) (kf:aa→Option aa):Option aa:=gT N x.1 x.2.1 x.2.2.1 (fun r0=>kf ⟨[⟨.bool,.k,r0⟩],[]⟩)
noncomputable def jT (N:Nat):=ar Lv (agQ N)
theorem amM (N:Nat):cn Lv (agQ N) hq [] (fC N N) Tryz.f195:=fun _ _=>by kernel_rfl
theorem nY {Γ:Gl} (N:Nat):Sound Γ Tryz.prog 195 (jT N):=gX hq Tryz.f195 (amM N) trivial
noncomputable def wx:List Kd:=.v (.sl cS) .k::.v (.int .i64) .k::dn 3 (.v (.int .i64) .k::dn 14 ([]))
noncomputable def yN:List Kd:=dn 20 ([])
noncomputable def yO:List Kd:=dn 4 (.v (.int .i64) .k::dn 15 ([]))
noncomputable def Ut:Hint:={ tab,hn:=[],loops:=[(2,wx)],outs:=[(2,2,yN),(2,1,yO)],bj:=[] }
noncomputable def Lw:List AK:=[.v (.sl cS) .k,.v (.int .i64) .k]
noncomputable def agR (N:Nat) (x:ax Lw) (kf:aa→Option aa):Option aa:=vG N x.1 x.2.1 (fun r0=>kf ⟨[⟨(.int .i64),.k,r0⟩],[]⟩)
noncomputable def ni (N:Nat):=ar Lw (agR N)
noncomputable def BC:Code:=aL Tryz.f200
noncomputable def Uu (N n:Nat) (key:Nat) (S:St) (K:Ks):Option aa:=bif Nat.beq key 2 then az wx S (fun x=>qq x.1 x.2.1 n (K (.x 0) (shape yN ())) (fun z0=>K .r (shape yO (z0,()))) x.2.2.1) else none
theorem amN (N key:Nat) (S:St) (K:Ks):Uu N 0 key S K=none:=(bO (au fun _=>rfl) rfl)
noncomputable def PW:Code:=(af BC).getD 0 .skip
theorem amO:af BC=[PW]:=by kernel_rfl
theorem aaZ (N:Nat):fD Ut [] (Uu N) N 2 wx PW:=fun _ _ _=>by kernel_rfl
theorem amP (N:Nat):cn Lw (agR N) Ut [] (Uu N N) Tryz.f200:=fun _ _=>by kernel_rfl
theorem tY {Γ:Gl} (N:Nat):Sound Γ Tryz.prog 200 (ni N):=iH Ut Tryz.f200 BC (amN N) amO (amP N) (rc (aaZ N) trivial) trivial
noncomputable def wy:List Kd:=.v (.sl (.int .i64)) .k::.v (.int .i64) .k::dn 3 (.v (.int .i64) .k::.v (.int .i64) .k::dn 15 ([]))
noncomputable def yP:List Kd:=dn 5 (.v (.int .i64) .k::dn 16 ([]))
noncomputable def Uv:Hint:={ tab,hn:=[],loops:=[(3,wy)],outs:=[(3,2,yP)],bj:=[] }
noncomputable def Lx:List AK:=[.v (.sl (.int .i64)) .k,.v (.int .i64) .k]
noncomputable def agS (N:Nat) (x:ax Lx) (kf:aa→Option aa):Option aa:=Su N x.1 x.2.1 (fun r0=>kf ⟨[⟨(.int .i64),.k,r0⟩],[]⟩)
noncomputable def PX (N:Nat):=ar Lx (agS N)
noncomputable def BD:Code:=aL Tryz.f220
noncomputable def Uw (N n:Nat) (key:Nat) (S:St) (K:Ks):Option aa:=bif Nat.beq key 3 then az wy S (fun x=>nI x.1 x.2.1 n (fun z0=>K (.x 0) (shape yP (z0,()))) x.2.2.1 x.2.2.2.1) else none
theorem amQ (N key:Nat) (S:St) (K:Ks):Uw N 0 key S K=none:=(bO (au fun _=>rfl) rfl)
noncomputable def PY:Code:=(af BD).getD 0 .skip
theorem amR:af BD=[PY]:=by kernel_rfl
theorem aa0 (N:Nat):fD Uv [] (Uw N) N 3 wy PY:=fun _ _ _=>by kernel_rfl
theorem amS (N:Nat):cn Lx (agS N) Uv [] (Uw N N) Tryz.f220:=fun _ _=>by kernel_rfl
theorem amT {Γ:Gl} (N:Nat):Sound Γ Tryz.prog 220 (PX N):=iH Uv Tryz.f220 BD (amQ N) amR (amS N) (rc (aa0 N) trivial) trivial
noncomputable def wz:List Kd:=.v (.sl cS) .k::dK::dK::.v (.int .i64) .k::.v (.ptr cS) (.o 46 none .k)::.v (.int .i64) .k::dn 109 ([])
noncomputable def yQ:List Kd:=.v (.sl cS) .k::dK::dK::.v (.int .i64) .k::dn 111 ([])
noncomputable def yR:List Kd:=dK::dK::.v .bool .k::dn 112 ([])
noncomputable def wA:List Kd:=.v (.sl cS) .k::dK::dK::.v (.int .i64) .k::dn 111 ([])
noncomputable def yS:List Kd:=.v (.sl cS) .k::dn 114 ([])
noncomputable def yT:List Kd:=dK::dK::.v .bool .k::dn 112 ([])
noncomputable def Ly:Hint:={ tab,hn:=[],loops:=[(8,wz),(2,wA)],outs:=[(8,4,yQ),(8,1,yR),(2,2,yS),(2,1,yT)],bj:=[(5,(OT.seq [0,1,2,3,4,5,6,7,8,9,10,11,12,13,14,15,16,17,18,19,20,21,22,23,24,25,26,27,28,29,30,31,32,33,34,35,36,37,38,39,40,41,42,43,44,45,46,47,48,49,50,51,52,53,54] .done)),(11,(OT.seq [0,1,2,3,4,5,6,7,8,9,10,11,12,13,14,16,17,18,19,20,21,22,15,23,24,25] .done))] }
noncomputable def LA:List AK:=[.v (.sl cS) .k]
noncomputable def agT (N:Nat) (x:ax LA) (kf:aa→Option aa):Option aa:=uj N x.1 (fun r0=>kf ⟨[⟨.bool,.k,r0⟩],[]⟩)
noncomputable def iw (N:Nat):=ar LA (agT N)
noncomputable def LB (N:Nat):List Entry:=[⟨195,[.val,.val,.val],(jT N)⟩,⟨200,[.val,.val],(ni N)⟩,⟨220,[.val,.val],(PX N)⟩]
noncomputable def tZ:Code:=aL Tryz.f175
noncomputable def LC (N n:Nat) (key:Nat) (S:St) (K:Ks):Option aa:=bif Nat.beq key 2 then az wA S (fun x=>nJ N x.1 n (K (.x 0) (shape yS (x.1,()))) (fun z0=>K .r (shape yT (z0,()))) x.2.1) else bif Nat.beq key 8 then az wz S (fun x=>jK N x.1 x.2.1 x.2.2.1 n (K (.x 2) (shape yQ (x.1,x.2.1,()))) (fun z0=>K .r (shape yR (z0,()))) x.2.2.2.1) else none
theorem amU (N key:Nat) (S:St) (K:Ks):LC N 0 key S K=none:=(bO (au fun _=>rfl) (bO (au fun _=>rfl) rfl))
noncomputable def PZ:Code:=(af tZ).getD 0 .skip
noncomputable def P1:Code:=(af tZ).getD 1 .skip
theorem amV:af tZ=[PZ,P1]:=by kernel_rfl
theorem aa1 (N:Nat):fD Ly (LB N) (LC N) N 8 wz P1:=fun _ _ _=>by kernel_rfl
theorem aa2 (N:Nat):fD Ly (LB N) (LC N) N 2 wA PZ:=fun _ _ _=>by kernel_rfl
theorem amW (N:Nat):cn LA (agT N) Ly (LB N) (LC N N) Tryz.f175:=fun _ _=>by kernel_rfl
theorem mf {Γ:Gl} (N:Nat):Sound Γ Tryz.prog 175 (iw N):=iH Ly Tryz.f175 tZ (amU N) amV (amW N) (rc (aa2 N) (rc (aa1 N) trivial)) ⟨nY N,⟨tY N,⟨amT N,trivial⟩⟩⟩
noncomputable def LD:List AK:=[.v cS .k,.v cS .k]
noncomputable def agU (N:Nat) (x:ax LD) (kf:aa→Option aa):Option aa:=ads N x.1 x.2.1 (fun r0=>kf ⟨[⟨.bool,.k,r0⟩],[]⟩)
noncomputable def GF (N:Nat):=ar LD (agU N)
theorem amX (N:Nat):cn LD (agU N) hq [] (fC N N) Tryz.f223:=fun _ _=>by kernel_rfl
theorem XW {Γ:Gl} (N:Nat):Sound Γ Tryz.prog 223 (GF N):=gX hq Tryz.f223 (amX N) trivial
noncomputable def wB:List Kd:=.v (.sl cS) .k::dK::dK::.v (.sl cS) (.o 46 none .k)::.v (.int .i64) .k::.v (.int .i64) .k::dn 62 ([])
noncomputable def yU:List Kd:=.v (.sl cS) .k::dK::dK::.v (.sl cS) (.o 46 none .k)::.v (.int .i64) .k::.v (.int .i64) .k::dn 62 ([])
noncomputable def wC:List Kd:=.v (.sl cS) .k::dK::dK::.v (.sl cS) (.o 46 none .k)::.v (.int .i64) .k::dn 63 ([])
noncomputable def yV:List Kd:=dn 3 (.v (.sl cS) (.o 46 none .k)::dn 64 ([]))
noncomputable def td:List Kd:=dn 3 (.v (.sl cS) (.o 46 none .k)::dK::dK::.v (.sl (.int .i64)) (.o 3 none .k)::.v (.int .i64) .k::dn 60 ([]))
noncomputable def uR:List Kd:=dn 6 (.v (.sl (.int .i64)) (.o 3 none .k)::dn 61 ([]))
noncomputable def GG:Hint:={ tab,hn:=[],loops:=[(6,wB),(3,wC),(11,td)],outs:=[(6,4,yU),(3,2,yV),(11,6,uR)],bj:=[(6,(OT.seq [0,1,2,3,4,5,6,7,8,9,10,11,12,13] .done)),(8,(OT.seq [1,2,3,5,6,7,11,12,13] (.par [0,4,8,9] [[44,45,46]] (OT.seq [10,14,15] .done))))] }
noncomputable def LF:List AK:=[.v (.sl cS) .k]
noncomputable def agV (N:Nat) (x:ax LF) (kf:aa→Option aa):Option aa:=aiX N x.1 (fun r0=>kf ⟨[⟨(.sl (.int .i64)),(.o 3 none .k),r0⟩],[]⟩)
noncomputable def P3 (N:Nat):=ar LF (agV N)
noncomputable def DP (N:Nat):List Entry:=[⟨175,[.val],(iw N)⟩,⟨223,[.val,.val],(GF N)⟩]
noncomputable def pz:Code:=aL Tryz.f177
noncomputable def GH (N n:Nat) (key:Nat) (S:St) (K:Ks):Option aa:=bif Nat.beq key 3 then az wC S (fun x=>qu N x.1 n (fun z0=>K (.x 0) (shape yV (z0,()))) x.2.1 x.2.2.1) else bif Nat.beq key 6 then az wB S (fun x=>qt N x.1 x.2.1 x.2.2.1 n (fun z0=>K (.x 2) (shape yU (x.1,x.2.1,x.2.2.1,z0,()))) x.2.2.2.1) else bif Nat.beq key 11 then az td S (fun x=>lh x.1 n (fun z0=>K (.x 4) (shape uR (z0,()))) x.2.1 x.2.2.1) else none
theorem amY (N key:Nat) (S:St) (K:Ks):GH N 0 key S K=none:=(bO (au fun _=>rfl) (bO (au fun _=>rfl) (bO (au fun _=>rfl) rfl)))
noncomputable def P4:Code:=(af pz).getD 0 .skip
noncomputable def P5:Code:=(af pz).getD 1 .skip
noncomputable def P6:Code:=(af pz).getD 2 .skip
theorem amZ:af pz=[P4,P5,P6]:=by kernel_rfl
theorem Ux (N:Nat):fD GG (DP N) (GH N) N 11 td P6:=fun _ _ _=>by kernel_rfl
theorem aa3 (N:Nat):fD GG (DP N) (GH N) N 6 wB P5:=fun _ _ _=>by kernel_rfl
theorem aa4 (N:Nat):fD GG (DP N) (GH N) N 3 wC P4:=fun _ _ _=>by kernel_rfl
theorem am0 (N:Nat):cn LF (agV N) GG (DP N) (GH N N) Tryz.f177:=fun _ _=>by kernel_rfl
theorem am1 {Γ:Gl} (N:Nat):Sound Γ Tryz.prog 177 (P3 N):=iH GG Tryz.f177 pz (amY N) amZ (am0 N) (rc (aa4 N) (rc (aa3 N) (rc (Ux N) trivial))) ⟨mf N,⟨XW N,trivial⟩⟩
noncomputable def wD:List Kd:=.v (.sl (.int .i64)) .k::.v (.int .i64) .k::dn 3 (.v (.int .i64) .k::dn 12 ([]))
noncomputable def yW:List Kd:=dn 18 ([])
noncomputable def yX:List Kd:=dn 4 (.v .bool .k::dn 13 ([]))
noncomputable def Uy:Hint:={ tab,hn:=[],loops:=[(2,wD)],outs:=[(2,2,yW),(2,1,yX)],bj:=[] }
noncomputable def LG:List AK:=[.v (.sl (.int .i64)) .k,.v (.int .i64) .k]
noncomputable def agW (N:Nat) (x:ax LG) (kf:aa→Option aa):Option aa:=vH N x.1 x.2.1 (fun r0=>kf ⟨[⟨.bool,.k,r0⟩],[]⟩)
noncomputable def pA (N:Nat):=ar LG (agW N)
noncomputable def BE:Code:=aL Tryz.f224
noncomputable def Uz (N n:Nat) (key:Nat) (S:St) (K:Ks):Option aa:=bif Nat.beq key 2 then az wD S (fun x=>qv x.1 x.2.1 n (K (.x 0) (shape yW ())) (fun z0=>K .r (shape yX (z0,()))) x.2.2.1) else none
theorem am2 (N key:Nat) (S:St) (K:Ks):Uz N 0 key S K=none:=(bO (au fun _=>rfl) rfl)
noncomputable def P7:Code:=(af BE).getD 0 .skip
theorem am3:af BE=[P7]:=by kernel_rfl
theorem aa5 (N:Nat):fD Uy [] (Uz N) N 2 wD P7:=fun _ _ _=>by kernel_rfl
theorem am4 (N:Nat):cn LG (agW N) Uy [] (Uz N N) Tryz.f224:=fun _ _=>by kernel_rfl
theorem yY {Γ:Gl} (N:Nat):Sound Γ Tryz.prog 224 (pA N):=iH Uy Tryz.f224 BE (am2 N) am3 (am4 N) (rc (aa5 N) trivial) trivial
noncomputable def LH:List AK:=[.v (.sl cS) .k,.v (.int .i64) .k,.v (.int .i64) .k]
noncomputable def agX (N:Nat) (x:ax LH) (kf:aa→Option aa):Option aa:=aiY N x.1 x.2.1 x.2.2.1 (fun r0=>kf ⟨[⟨.bool,.k,r0⟩],[]⟩)
noncomputable def P8 (N:Nat):=ar LH (agX N)
noncomputable def am5 (N:Nat):List Entry:=[⟨200,[.val,.val],(ni N)⟩,⟨224,[.val,.val],(pA N)⟩]
theorem am6 (N:Nat):cn LH (agX N) hq (am5 N) (fC N N) Tryz.f250:=fun _ _=>by kernel_rfl
theorem am7 {Γ:Gl} (N:Nat):Sound Γ Tryz.prog 250 (P8 N):=gX hq Tryz.f250 (am6 N) ⟨tY N,⟨yY N,trivial⟩⟩
noncomputable def agY:Hint:={ tab,hn:=[],loops:=[],outs:=[],bj:=[(3,(OT.seq [0,1,2,3,4,5,6,7,8,9,10,11,12,13,14,15,16,17,18,19,20,21,22,23,24,25,26,27,28,29,30,31,32,33,34,35] .done))] }
noncomputable def LI:List AK:=[.v (.sl cS) .k,.v (.int .i64) .k,.v (.int .i64) .k]
noncomputable def agZ (N:Nat) (x:ax LI) (kf:aa→Option aa):Option aa:=Sv N x.1 x.2.1 x.2.2.1 (fun r0=>kf ⟨[⟨.bool,.k,r0⟩],[]⟩)
noncomputable def GI (N:Nat):=ar LI (agZ N)
noncomputable def am8 (N:Nat):List Entry:=[⟨200,[.val,.val],(ni N)⟩,⟨175,[.val],(iw N)⟩,⟨250,[.val,.val,.val],(P8 N)⟩]
theorem am9 (N:Nat):cn LI (agZ N) agY (am8 N) (fC N N) Tryz.f221:=fun _ _=>by kernel_rfl
theorem XX {Γ:Gl} (N:Nat):Sound Γ Tryz.prog 221 (GI N):=gX agY Tryz.f221 (am9 N) ⟨tY N,⟨mf N,⟨am7 N,trivial⟩⟩⟩
noncomputable def ag0:Hint:={ tab,hn:=[],loops:=[],outs:=[],bj:=[(5,(OT.seq [0,1,2,3,4,5,6,7,8,9,10,11,12,13,14,15,16,17,18,19,20,21,22,23,24,25,26,27,28,29,30,31,32,33,34] .done))] }
noncomputable def LJ:List AK:=[.v (.sl cS) .k,.v (.int .i64) .k,.v (.int .i64) .k]
noncomputable def ag3 (N:Nat) (x:ax LJ) (kf:aa→Option aa):Option aa:=aiZ N x.1 x.2.1 x.2.2.1 (fun r0=>kf ⟨[⟨c9,.k,r0⟩],[]⟩)
noncomputable def P9 (N:Nat):=ar LJ (ag3 N)
noncomputable def am' (N:Nat):List Entry:=[⟨200,[.val,.val],(ni N)⟩,⟨175,[.val],(iw N)⟩,⟨223,[.val,.val],(GF N)⟩]
theorem ana (N:Nat):cn LJ (ag3 N) ag0 (am' N) (fC N N) Tryz.f222:=fun _ _=>by kernel_rfl
theorem anb {Γ:Gl} (N:Nat):Sound Γ Tryz.prog 222 (P9 N):=gX ag0 Tryz.f222 (ana N) ⟨tY N,⟨mf N,⟨XW N,trivial⟩⟩⟩
noncomputable def wE:List Kd:=.v (.sl cS) .k::.v (.sl (.int .i64)) .k::dn 4 (.v (.int .i64) .k::dn 53 ([]))
noncomputable def yZ:List Kd:=dn 60 ([])
noncomputable def y2:List Kd:=dn 4 (.v (.sl c9) (.o 104 none .k)::.v .bool .k::dn 54 ([]))
noncomputable def UA:Hint:={ tab,hn:=[],loops:=[(4,wE)],outs:=[(4,2,yZ),(4,1,y2)],bj:=[(6,(OT.seq [0,1,2,3,4,5,6,7,8,9] .done)),(7,(OT.seq [1,2,3,5,6,7,8,0,4,9,10] .done)),(10,(OT.seq [0,1,2,3,4,5,6,7,10,8,9,11,12,13] .done))] }
noncomputable def DQ:List AK:=[.v (.sl cS) .k,.v (.sl (.int .i64)) .k]
noncomputable def ag4 (N:Nat) (x:ax DQ) (kf:aa→Option aa):Option aa:=Sy N x.1 x.2.1 (fun r0 r1=>kf ⟨[⟨(.sl c9),(.o 104 none .k),r0⟩,⟨.bool,.k,r1⟩],[]⟩)
noncomputable def y3 (N:Nat):=ar DQ (ag4 N)
noncomputable def LK (N:Nat):List Entry:=[⟨221,[.val,.val,.val],(GI N)⟩,⟨222,[.val,.val,.val],(P9 N)⟩,⟨176,[.val,.val],(y3 N)⟩]
noncomputable def BF:Code:=aL Tryz.f176
noncomputable def LL (N n:Nat) (key:Nat) (S:St) (K:Ks):Option aa:=bif Nat.beq key 4 then az wE S (fun x=>qw N (Sy N) x.1 x.2.1 n (K (.x 0) (shape yZ ())) (fun z0 z1=>K .r (shape y2 (z0,z1,()))) x.2.2.1) else none
theorem anc (N key:Nat) (S:St) (K:Ks):LL N 0 key S K=none:=(bO (au fun _=>rfl) rfl)
noncomputable def P':Code:=(af BF).getD 0 .skip
theorem ane:af BF=[P']:=by kernel_rfl
theorem aa6 (N:Nat):fD UA (LK N) (LL N) N 4 wE P':=fun _ _ _=>by kernel_rfl
theorem anf (N:Nat) (x:ax DQ) (kf:aa→Option aa):ag4 (N+1) x kf=km UA (jt.of (LK N)) (LL N N) Tryz.f176 (dG DQ x) kf:=by kernel_rfl
theorem XY {Γ:Gl}:∀ N:Nat,Sound Γ Tryz.prog 176 (y3 N)
 |0=>pX fun al kf=>by
  unfold y3 ar
  split<;>rfl
 |N+1=>jH (hh:=UA) mixed lL (es:=LK N) ⟨XX N,⟨anb N,⟨XY N,trivial⟩⟩⟩ (fn:=Tryz.f176) (body:=BF) (by kernel_rfl) (by kernel_rfl) (by kernel_rfl) (by kernel_rfl) (by kernel_rfl) (Lf:=LL N) (anc N) ane (rc (aa6 N) trivial) (N:=N) (by kernel_rfl) (anf N) (.inl (by kernel_rfl))
noncomputable def UB:List AK:=[.v (.sl cS) .k]
noncomputable def aqg (N:Nat) (x:ax UB) (kf:aa→Option aa):Option aa:=S91 N x.1 (fun r0 r1=>kf ⟨[⟨(.sl c9),(.o 104 none .k),r0⟩,⟨.bool,.k,r1⟩],[]⟩)
noncomputable def XZ (N:Nat):=ar UB (aqg N)
noncomputable def atY (N:Nat):List Entry:=[⟨175,[.val],(iw N)⟩,⟨177,[.val],(P3 N)⟩,⟨176,[.val,.val],(y3 N)⟩]
theorem atZ (N:Nat):cn UB (aqg N) hq (atY N) (fC N N) Tryz.f91:=fun _ _=>by kernel_rfl
theorem at0 {Γ:Gl} (N:Nat):Sound Γ Tryz.prog 91 (XZ N):=gX hq Tryz.f91 (atZ N) ⟨mf N,⟨am1 N,⟨XY N,trivial⟩⟩⟩
noncomputable def wF:List Kd:=.v (.sl iN) .k::dK::dK::.v (.int .i64) .k::.v (.int .i64) .k::dn 87 ([])
noncomputable def y4:List Kd:=.v (.sl iN) .k::dK::dK::.v (.int .i64) .k::dn 88 ([])
noncomputable def y5:List Kd:=dK::dK::.v .bool .k::dn 89 ([])
noncomputable def wG:List Kd:=.v (.sl iN) .k::dK::dK::.v (.int .i64) .k::dn 88 ([])
noncomputable def y6:List Kd:=.v (.sl iN) .k::dn 91 ([])
noncomputable def y7:List Kd:=dK::dK::.v .bool .k::dn 89 ([])
noncomputable def LM:Hint:={ tab,hn:=[],loops:=[(7,wF),(2,wG)],outs:=[(7,4,y4),(7,1,y5),(2,2,y6),(2,1,y7)],bj:=[(4,(OT.seq [0,1,2,3,4,5,6,7,8,9,10,11,12,13,14,15,16,17,18,19,20,21,22,23,24,25,26,27,28,29,30,31,32,33] .done)),(9,(OT.seq [0,1,2,3,4,5,6,7,8,9,10,11,12,13,14,15,16,17,18,19,20,21,22,23,24,25,26,27,28,29,30,31,32,33] .done))] }
noncomputable def LN:List AK:=[.v (.sl iN) .k]
noncomputable def ag5 (N:Nat) (x:ax LN) (kf:aa→Option aa):Option aa:=Zu N x.1 (fun r0=>kf ⟨[⟨.bool,.k,r0⟩],[]⟩)
noncomputable def y8 (N:Nat):=ar LN (ag5 N)
noncomputable def LO (N:Nat):List Entry:=[⟨195,[.val,.val,.val],(jT N)⟩]
noncomputable def ua:Code:=aL Tryz.f178
noncomputable def LP (N n:Nat) (key:Nat) (S:St) (K:Ks):Option aa:=bif Nat.beq key 2 then az wG S (fun x=>nM N x.1 n (K (.x 0) (shape y6 (x.1,()))) (fun z0=>K .r (shape y7 (z0,()))) x.2.1) else bif Nat.beq key 7 then az wF S (fun x=>iE N x.1 x.2.1 n (K (.x 2) (shape y4 (x.1,x.2.1,()))) (fun z0=>K .r (shape y5 (z0,()))) x.2.2.1) else none
theorem ang (N key:Nat) (S:St) (K:Ks):LP N 0 key S K=none:=(bO (au fun _=>rfl) (bO (au fun _=>rfl) rfl))
noncomputable def Qa:Code:=(af ua).getD 0 .skip
noncomputable def Qb:Code:=(af ua).getD 1 .skip
theorem anh:af ua=[Qa,Qb]:=by kernel_rfl
theorem aa7 (N:Nat):fD LM (LO N) (LP N) N 7 wF Qb:=fun _ _ _=>by kernel_rfl
theorem aa8 (N:Nat):fD LM (LO N) (LP N) N 2 wG Qa:=fun _ _ _=>by kernel_rfl
theorem ani (N:Nat):cn LN (ag5 N) LM (LO N) (LP N N) Tryz.f178:=fun _ _=>by kernel_rfl
theorem LQ {Γ:Gl} (N:Nat):Sound Γ Tryz.prog 178 (y8 N):=iH LM Tryz.f178 ua (ang N) anh (ani N) (rc (aa8 N) (rc (aa7 N) trivial)) ⟨nY N,trivial⟩
noncomputable def ag6:Hint:={ tab,hn:=[],loops:=[],outs:=[],bj:=[(3,(OT.seq [0,1,2,3,4,5,6,7,8,9,10,11,12,13,14,15,16,17,18,19,20,21,22,23,24,25,26,27,28,29,30,31,32,33,34,35,36,37,38,39,40,41,42] .done))] }
noncomputable def LR:List AK:=[.v (.sl cS) .k,.v iN .k,.v c9 .k]
noncomputable def ag7 (N:Nat) (x:ax LR) (kf:aa→Option aa):Option aa:=Zv N x.1 x.2.1 x.2.2.1 (fun r0=>kf ⟨[⟨.bool,.k,r0⟩],[]⟩)
noncomputable def GJ (N:Nat):=ar LR (ag7 N)
noncomputable def anj (N:Nat):List Entry:=[⟨200,[.val,.val],(ni N)⟩,⟨224,[.val,.val],(pA N)⟩]
theorem ank (N:Nat):cn LR (ag7 N) ag6 (anj N) (fC N N) Tryz.f225:=fun _ _=>by kernel_rfl
theorem X0 {Γ:Gl} (N:Nat):Sound Γ Tryz.prog 225 (GJ N):=gX ag6 Tryz.f225 (ank N) ⟨tY N,⟨yY N,trivial⟩⟩
noncomputable def wH:List Kd:=.v (.sl cS) .k::.v (.sl iN) .k::.v (.sl c9) .k::.v (.sl (.int .i64)) .k::dn 6 (.v (.int .i64) .k::dn 59 ([]))
noncomputable def y9:List Kd:=dn 70 ([])
noncomputable def za:List Kd:=dn 8 (.v (.sl (.int .i64)) (.o 3 none .k)::.v .bool .k::dn 60 ([]))
noncomputable def UC:Hint:={ tab,hn:=[],loops:=[(4,wH)],outs:=[(4,2,y9),(4,1,za)],bj:=[(6,(OT.seq [0,1,2,3,4,5,6,7,8,9,10,11,12,13,14,15,16,17,18] .done)),(7,(OT.seq [5,0,1,2,3,7,8,9,10] (.par [4,6,11,12] [[47,48,49]] (OT.seq [13,14,15,16,17,18,19] .done))))] }
noncomputable def DR:List AK:=[.v (.sl cS) .k,.v (.sl iN) .k,.v (.sl c9) .k,.v (.sl (.int .i64)) .k]
noncomputable def ag8 (N:Nat) (x:ax DR) (kf:aa→Option aa):Option aa:=SB N x.1 x.2.1 x.2.2.1 x.2.2.2.1 (fun r0 r1=>kf ⟨[⟨(.sl (.int .i64)),(.o 3 none .k),r0⟩,⟨.bool,.k,r1⟩],[]⟩)
noncomputable def zb (N:Nat):=ar DR (ag8 N)
noncomputable def LS (N:Nat):List Entry:=[⟨224,[.val,.val],(pA N)⟩,⟨225,[.val,.val,.val],(GJ N)⟩,⟨179,[.val,.val,.val,.val],(zb N)⟩]
noncomputable def BG:Code:=aL Tryz.f179
noncomputable def LU (N n:Nat) (key:Nat) (S:St) (K:Ks):Option aa:=bif Nat.beq key 4 then az wH S (fun x=>nN N (SB N) x.1 x.2.1 x.2.2.1 x.2.2.2.1 n (K (.x 0) (shape y9 ())) (fun z0 z1=>K .r (shape za (z0,z1,()))) x.2.2.2.2.1) else none
theorem anl (N key:Nat) (S:St) (K:Ks):LU N 0 key S K=none:=(bO (au fun _=>rfl) rfl)
noncomputable def Qc:Code:=(af BG).getD 0 .skip
theorem anm:af BG=[Qc]:=by kernel_rfl
theorem aa9 (N:Nat):fD UC (LS N) (LU N) N 4 wH Qc:=fun _ _ _=>by kernel_rfl
theorem ann (N:Nat) (x:ax DR) (kf:aa→Option aa):ag8 (N+1) x kf=km UC (jt.of (LS N)) (LU N N) Tryz.f179 (dG DR x) kf:=by kernel_rfl
theorem X1 {Γ:Gl}:∀ N:Nat,Sound Γ Tryz.prog 179 (zb N)
 |0=>pX fun al kf=>by
  unfold zb ar
  split<;>rfl
 |N+1=>jH (hh:=UC) mixed lL (es:=LS N) ⟨yY N,⟨X0 N,⟨X1 N,trivial⟩⟩⟩ (fn:=Tryz.f179) (body:=BG) (by kernel_rfl) (by kernel_rfl) (by kernel_rfl) (by kernel_rfl) (by kernel_rfl) (Lf:=LU N) (anl N) anm (rc (aa9 N) trivial) (N:=N) (by kernel_rfl) (ann N) (.inl (by kernel_rfl))
noncomputable def UD:List AK:=[.v (.sl cS) .k,.v (.sl iN) .k,.v (.sl c9) .k]
noncomputable def aqh (N:Nat) (x:ax UD) (kf:aa→Option aa):Option aa:=S92 N x.1 x.2.1 x.2.2.1 (fun r0 r1=>kf ⟨[⟨(.sl (.int .i64)),(.o 3 none .k),r0⟩,⟨.bool,.k,r1⟩],[]⟩)
noncomputable def X4 (N:Nat):=ar UD (aqh N)
noncomputable def at1 (N:Nat):List Entry:=[⟨178,[.val],(y8 N)⟩,⟨175,[.val],(iw N)⟩,⟨179,[.val,.val,.val,.val],(zb N)⟩]
theorem at2 (N:Nat):cn UD (aqh N) hq (at1 N) (fC N N) Tryz.f92:=fun _ _=>by kernel_rfl
theorem at3 {Γ:Gl} (N:Nat):Sound Γ Tryz.prog 92 (X4 N):=gX hq Tryz.f92 (at2 N) ⟨LQ N,⟨mf N,⟨X1 N,trivial⟩⟩⟩
noncomputable def UE:List AK:=[.v c6 .k]
noncomputable def aqi (N:Nat) (x:ax UE) (kf:aa→Option aa):Option aa:=S94 N x.1 (fun r0=>kf ⟨[⟨.bool,.k,r0⟩],[]⟩)
noncomputable def DS (N:Nat):=ar UE (aqi N)
theorem at4 (N:Nat):cn UE (aqi N) hq [] (fC N N) Tryz.f94:=fun _ _=>by kernel_rfl
theorem UF {Γ:Gl} (N:Nat):Sound Γ Tryz.prog 94 (DS N):=gX hq Tryz.f94 (at4 N) trivial
noncomputable def LV:List AK:=[.v (.sl mO) .k]
noncomputable def ag9 (N:Nat) (x:ax LV) (kf:aa→Option aa):Option aa:=arz N x.1 (fun r0=>kf ⟨[⟨(.int .i64),.k,r0⟩],[]⟩)
noncomputable def Qd (N:Nat):=ar LV (ag9 N)
theorem ano (N:Nat):cn LV (ag9 N) hq [] (fC N N) Tryz.f226:=fun _ _=>by kernel_rfl
theorem anp {Γ:Gl} (N:Nat):Sound Γ Tryz.prog 226 (Qd N):=gX hq Tryz.f226 (ano N) trivial
noncomputable def LW:List AK:=[.v (.int .i64) .k,.v (.int .i64) .k]
noncomputable def ag' (N:Nat) (x:ax LW) (kf:aa→Option aa):Option aa:=adv N x.1 x.2.1 (fun r0=>kf ⟨[⟨(.int .i64),.k,r0⟩],[]⟩)
noncomputable def Qe (N:Nat):=ar LW (ag' N)
noncomputable def anq (N:Nat):List Entry:=[⟨195,[.val,.val,.val],(jT N)⟩]
theorem anr (N:Nat):cn LW (ag' N) hq (anq N) (fC N N) Tryz.f261:=fun _ _=>by kernel_rfl
theorem ant {Γ:Gl} (N:Nat):Sound Γ Tryz.prog 261 (Qe N):=gX hq Tryz.f261 (anr N) ⟨nY N,trivial⟩
noncomputable def wI:List Kd:=.v (.sl (.int .i64)) .k::dK::dK::.v (.int .i64) .k::.v (.int .i64) .k::dn 17 ([])
noncomputable def zd:List Kd:=dn 3 (.v (.int .i64) .k::dn 18 ([]))
noncomputable def UG:Hint:={ tab,hn:=[],loops:=[(3,wI)],outs:=[(3,2,zd)],bj:=[] }
noncomputable def LX:List AK:=[.v (.sl (.int .i64)) .k]
noncomputable def aha (N:Nat) (x:ax LX) (kf:aa→Option aa):Option aa:=ai0 N x.1 (fun r0=>kf ⟨[⟨(.int .i64),.k,r0⟩],[]⟩)
noncomputable def Qf (N:Nat):=ar LX (aha N)
noncomputable def X5 (N:Nat):List Entry:=[⟨261,[.val,.val],(Qe N)⟩]
noncomputable def BH:Code:=aL Tryz.f248
noncomputable def UH (N n:Nat) (key:Nat) (S:St) (K:Ks):Option aa:=bif Nat.beq key 3 then az wI S (fun x=>qz N x.1 n (fun z0=>K (.x 0) (shape zd (z0,()))) x.2.1 x.2.2.1) else none
theorem anu (N key:Nat) (S:St) (K:Ks):UH N 0 key S K=none:=(bO (au fun _=>rfl) rfl)
noncomputable def Qg:Code:=(af BH).getD 0 .skip
theorem anv:af BH=[Qg]:=by kernel_rfl
theorem aa' (N:Nat):fD UG (X5 N) (UH N) N 3 wI Qg:=fun _ _ _=>by kernel_rfl
theorem anw (N:Nat):cn LX (aha N) UG (X5 N) (UH N N) Tryz.f248:=fun _ _=>by kernel_rfl
theorem anx {Γ:Gl} (N:Nat):Sound Γ Tryz.prog 248 (Qf N):=iH UG Tryz.f248 BH (anu N) anv (anw N) (rc (aa' N) trivial) ⟨ant N,trivial⟩
noncomputable def LY:List AK:=[.v (.int .i64) .k,.v mO .k]
noncomputable def ahb (N:Nat) (x:ax LY) (kf:aa→Option aa):Option aa:=SC N x.1 x.2.1 (fun r0=>kf ⟨[⟨(.int .i64),.k,r0⟩],[]⟩)
noncomputable def GK (N:Nat):=ar LY (ahb N)
noncomputable def anz (N:Nat):List Entry:=[⟨248,[.val],(Qf N)⟩]
theorem anA (N:Nat):cn LY (ahb N) hq (anz N) (fC N N) Tryz.f218:=fun _ _=>by kernel_rfl
theorem X6 {Γ:Gl} (N:Nat):Sound Γ Tryz.prog 218 (GK N):=gX hq Tryz.f218 (anA N) ⟨anx N,trivial⟩
noncomputable def wJ:List Kd:=.v (.sl mO) .k::dK::dK::.v (.int .i64) .k::.v (.int .i64) .k::dn 45 ([])
noncomputable def ze:List Kd:=.v (.sl mO) .k::dn 49 ([])
noncomputable def zf:List Kd:=dK::dK::.v .bool .k::dn 47 ([])
noncomputable def UI:Hint:={ tab,hn:=[],loops:=[(3,wJ)],outs:=[(3,2,ze),(3,1,zf)],bj:=[] }
noncomputable def LZ:List AK:=[.v (.sl mO) .k]
noncomputable def ahc (N:Nat) (x:ax LZ) (kf:aa→Option aa):Option aa:=adw N x.1 (fun r0=>kf ⟨[⟨.bool,.k,r0⟩],[]⟩)
noncomputable def GL (N:Nat):=ar LZ (ahc N)
noncomputable def X7 (N:Nat):List Entry:=[⟨218,[.val,.val],(GK N)⟩,⟨195,[.val,.val,.val],(jT N)⟩]
noncomputable def BI:Code:=aL Tryz.f158
noncomputable def UJ (N n:Nat) (key:Nat) (S:St) (K:Ks):Option aa:=bif Nat.beq key 3 then az wJ S (fun x=>qA N x.1 n (K (.x 0) (shape ze (x.1,()))) (fun z0=>K .r (shape zf (z0,()))) x.2.1 x.2.2.1) else none
theorem anB (N key:Nat) (S:St) (K:Ks):UJ N 0 key S K=none:=(bO (au fun _=>rfl) rfl)
noncomputable def Qh:Code:=(af BI).getD 0 .skip
theorem anC:af BI=[Qh]:=by kernel_rfl
theorem aba (N:Nat):fD UI (X7 N) (UJ N) N 3 wJ Qh:=fun _ _ _=>by kernel_rfl
theorem anD (N:Nat):cn LZ (ahc N) UI (X7 N) (UJ N N) Tryz.f158:=fun _ _=>by kernel_rfl
theorem X8 {Γ:Gl} (N:Nat):Sound Γ Tryz.prog 158 (GL N):=iH UI Tryz.f158 BI (anB N) anC (anD N) (rc (aba N) trivial) ⟨X6 N,⟨nY N,trivial⟩⟩
noncomputable def ahd:Hint:={ tab,hn:=[],loops:=[],outs:=[],bj:=[(2,(OT.seq [0,2,1,3,4,5] .done)),(3,(OT.seq [1] (.any [0,2,3,4] (OT.seq [5,6] .done))))] }
noncomputable def L0:List AK:=[.v (.sl mO) .k,.v (.int .i64) .k,.v (.int .i64) .k]
noncomputable def ahe (N:Nat) (x:ax L0) (kf:aa→Option aa):Option aa:=ai1 N x.1 x.2.1 x.2.2.1 (fun r0 r1=>kf ⟨[⟨(.sl mO),(.o 102 none .k),r0⟩,⟨.bool,.k,r1⟩],[]⟩)
noncomputable def Qi (N:Nat):=ar L0 (ahe N)
noncomputable def anE (N:Nat):List Entry:=[⟨226,[.val],(Qd N)⟩,⟨218,[.val,.val],(GK N)⟩,⟨158,[.val],(GL N)⟩]
theorem anF (N:Nat):cn L0 (ahe N) ahd (anE N) (fC N N) Tryz.f180:=fun _ _=>by kernel_rfl
theorem anG {Γ:Gl} (N:Nat):Sound Γ Tryz.prog 180 (Qi N):=gX ahd Tryz.f180 (anF N) ⟨anp N,⟨X6 N,⟨X8 N,trivial⟩⟩⟩
noncomputable def wK:List Kd:=.v (.sl cS) .k::dK::dK::.v (.int .i64) .k::.v (.int .i64) .k::dn 18 ([])
noncomputable def zg:List Kd:=dn 3 (.v (.int .i64) .k::dn 19 ([]))
noncomputable def UK:Hint:={ tab,hn:=[],loops:=[(3,wK)],outs:=[(3,2,zg)],bj:=[] }
noncomputable def L1:List AK:=[.v (.sl cS) .k]
noncomputable def ahf (N:Nat) (x:ax L1) (kf:aa→Option aa):Option aa:=ai2 N x.1 (fun r0=>kf ⟨[⟨(.int .i64),.k,r0⟩],[]⟩)
noncomputable def Qj (N:Nat):=ar L1 (ahf N)
noncomputable def X9 (N:Nat):List Entry:=[⟨175,[.val],(iw N)⟩]
noncomputable def BJ:Code:=aL Tryz.f196
noncomputable def UL (N n:Nat) (key:Nat) (S:St) (K:Ks):Option aa:=bif Nat.beq key 3 then az wK S (fun x=>qB N x.1 n (fun z0=>K (.x 0) (shape zg (z0,()))) x.2.1 x.2.2.1) else none
theorem anH (N key:Nat) (S:St) (K:Ks):UL N 0 key S K=none:=(bO (au fun _=>rfl) rfl)
noncomputable def Qk:Code:=(af BJ).getD 0 .skip
theorem anI:af BJ=[Qk]:=by kernel_rfl
theorem abb (N:Nat):fD UK (X9 N) (UL N) N 3 wK Qk:=fun _ _ _=>by kernel_rfl
theorem anJ (N:Nat):cn L1 (ahf N) UK (X9 N) (UL N N) Tryz.f196:=fun _ _=>by kernel_rfl
theorem anK {Γ:Gl} (N:Nat):Sound Γ Tryz.prog 196 (Qj N):=iH UK Tryz.f196 BJ (anH N) anI (anJ N) (rc (abb N) trivial) ⟨mf N,trivial⟩
noncomputable def wL:List Kd:=.v (.sl cS) .k::.v (.sl c9) .k::dn 3 (.v (.sl (.int .i64)) (.o 3 none .k)::.v (.int .i64) .k::dn 60 ([]))
noncomputable def zh:List Kd:=.v (.sl cS) .k::dn 4 (.v (.sl (.int .i64)) (.o 3 none .k)::dn 61 ([]))
noncomputable def zi:List Kd:=dn 4 (.v .bool .k::dn 62 ([]))
noncomputable def UM:Hint:={ tab,hn:=[],loops:=[(3,wL)],outs:=[(3,2,zh),(3,1,zi)],bj:=[(5,(OT.seq [0,1,2,3,4,5,6,7,8,9,10,11,12,13,14,15,16,17,18,19,20,21,22,23,24,25,26,27,28,29,30] .done)),(7,(OT.seq [0,1,2,3,4,5,6,7,8,9,10,11,12,13] .done))] }
noncomputable def L2:List AK:=[.v (.sl cS) .k,.v (.sl c9) .k]
noncomputable def ahg (N:Nat) (x:ax L2) (kf:aa→Option aa):Option aa:=ai3 N x.1 x.2.1 (fun r0=>kf ⟨[⟨.bool,.k,r0⟩],[]⟩)
noncomputable def Ql (N:Nat):=ar L2 (ahg N)
noncomputable def Ya (N:Nat):List Entry:=[⟨221,[.val,.val,.val],(GI N)⟩,⟨224,[.val,.val],(pA N)⟩,⟨175,[.val],(iw N)⟩]
noncomputable def BK:Code:=aL Tryz.f197
noncomputable def UN (N n:Nat) (key:Nat) (S:St) (K:Ks):Option aa:=bif Nat.beq key 3 then az wL S (fun x=>qC N x.1 x.2.1 n (fun z0=>K (.x 0) (shape zh (x.1,z0,()))) (fun z0=>K .r (shape zi (z0,()))) x.2.2.1 x.2.2.2.1) else none
theorem anL (N key:Nat) (S:St) (K:Ks):UN N 0 key S K=none:=(bO (au fun _=>rfl) rfl)
noncomputable def Qm:Code:=(af BK).getD 0 .skip
theorem anM:af BK=[Qm]:=by kernel_rfl
theorem abc (N:Nat):fD UM (Ya N) (UN N) N 3 wL Qm:=fun _ _ _=>by kernel_rfl
theorem anN (N:Nat):cn L2 (ahg N) UM (Ya N) (UN N N) Tryz.f197:=fun _ _=>by kernel_rfl
theorem anO {Γ:Gl} (N:Nat):Sound Γ Tryz.prog 197 (Ql N):=iH UM Tryz.f197 BK (anL N) anM (anN N) (rc (abc N) trivial) ⟨XX N,⟨yY N,⟨mf N,trivial⟩⟩⟩
noncomputable def wM:List Kd:=.v (.sl iN) .k::.v (.int .i64) .k::dn 3 (.v (.int .i64) .k::dn 14 ([]))
noncomputable def zj:List Kd:=dn 20 ([])
noncomputable def zk:List Kd:=dn 4 (.v (.int .i64) .k::dn 15 ([]))
noncomputable def UO:Hint:={ tab,hn:=[],loops:=[(2,wM)],outs:=[(2,2,zj),(2,1,zk)],bj:=[] }
noncomputable def L3:List AK:=[.v (.sl iN) .k,.v (.int .i64) .k]
noncomputable def ahh (N:Nat) (x:ax L3) (kf:aa→Option aa):Option aa:=Fo N x.1 x.2.1 (fun r0=>kf ⟨[⟨(.int .i64),.k,r0⟩],[]⟩)
noncomputable def GM (N:Nat):=ar L3 (ahh N)
noncomputable def BL:Code:=aL Tryz.f126
noncomputable def UP (N n:Nat) (key:Nat) (S:St) (K:Ks):Option aa:=bif Nat.beq key 2 then az wM S (fun x=>qD x.1 x.2.1 n (K (.x 0) (shape zj ())) (fun z0=>K .r (shape zk (z0,()))) x.2.2.1) else none
theorem anP (N key:Nat) (S:St) (K:Ks):UP N 0 key S K=none:=(bO (au fun _=>rfl) rfl)
noncomputable def Qn:Code:=(af BL).getD 0 .skip
theorem anQ:af BL=[Qn]:=by kernel_rfl
theorem abd (N:Nat):fD UO [] (UP N) N 2 wM Qn:=fun _ _ _=>by kernel_rfl
theorem anR (N:Nat):cn L3 (ahh N) UO [] (UP N N) Tryz.f126:=fun _ _=>by kernel_rfl
theorem Yb {Γ:Gl} (N:Nat):Sound Γ Tryz.prog 126 (GM N):=iH UO Tryz.f126 BL (anP N) anQ (anR N) (rc (abd N) trivial) trivial
noncomputable def wN:List Kd:=.v (.sl cS) .k::.v (.sl iN) .k::.v (.sl c9) .k::.v (.sl (.int .i64)) .k::dn 5 (.v (.int .i64) .k::dn 48 ([]))
noncomputable def zm:List Kd:=dn 58 ([])
noncomputable def zn:List Kd:=dn 8 (.v .bool .k::dn 49 ([]))
noncomputable def UQ:Hint:={ tab,hn:=[],loops:=[(4,wN)],outs:=[(4,2,zm),(4,1,zn)],bj:=[(7,(OT.seq [0,1,2,3,4,5,6,7,8,9,10,11,12,13,14,15,16,17,18,19,20,21,22,23,24] .done))] }
noncomputable def L4:List AK:=[.v (.sl cS) .k,.v (.sl iN) .k,.v (.sl c9) .k,.v (.sl (.int .i64)) .k]
noncomputable def ahi (N:Nat) (x:ax L4) (kf:aa→Option aa):Option aa:=ai4 N x.1 x.2.1 x.2.2.1 x.2.2.2.1 (fun r0=>kf ⟨[⟨.bool,.k,r0⟩],[]⟩)
noncomputable def Qo (N:Nat):=ar L4 (ahi N)
noncomputable def Yc (N:Nat):List Entry:=[⟨178,[.val],(y8 N)⟩,⟨126,[.val,.val],(GM N)⟩,⟨224,[.val,.val],(pA N)⟩,⟨225,[.val,.val,.val],(GJ N)⟩]
noncomputable def BM:Code:=aL Tryz.f198
noncomputable def UR (N n:Nat) (key:Nat) (S:St) (K:Ks):Option aa:=bif Nat.beq key 4 then az wN S (fun x=>qE N x.1 x.2.1 x.2.2.1 x.2.2.2.1 n (K (.x 0) (shape zm ())) (fun z0=>K .r (shape zn (z0,()))) x.2.2.2.2.1) else none
theorem anS (N key:Nat) (S:St) (K:Ks):UR N 0 key S K=none:=(bO (au fun _=>rfl) rfl)
noncomputable def Qp:Code:=(af BM).getD 0 .skip
theorem anT:af BM=[Qp]:=by kernel_rfl
theorem abe (N:Nat):fD UQ (Yc N) (UR N) N 4 wN Qp:=fun _ _ _=>by kernel_rfl
theorem anU (N:Nat):cn L4 (ahi N) UQ (Yc N) (UR N N) Tryz.f198:=fun _ _=>by kernel_rfl
theorem anV {Γ:Gl} (N:Nat):Sound Γ Tryz.prog 198 (Qo N):=iH UQ Tryz.f198 BM (anS N) anT (anU N) (rc (abe N) trivial) ⟨LQ N,⟨Yb N,⟨yY N,⟨X0 N,trivial⟩⟩⟩⟩
noncomputable def L5:List AK:=[.v rI .k]
noncomputable def ahj (N:Nat) (x:ax L5) (kf:aa→Option aa):Option aa:=N4 N x.1 (fun r0=>kf ⟨[⟨.bool,.k,r0⟩],[]⟩)
noncomputable def zo (N:Nat):=ar L5 (ahj N)
noncomputable def anW (N:Nat):List Entry:=[⟨195,[.val,.val,.val],(jT N)⟩]
theorem anX (N:Nat):cn L5 (ahj N) hq (anW N) (fC N N) Tryz.f199:=fun _ _=>by kernel_rfl
theorem L6 {Γ:Gl} (N:Nat):Sound Γ Tryz.prog 199 (zo N):=gX hq Tryz.f199 (anX N) ⟨nY N,trivial⟩
noncomputable def wO:List Kd:=dK::.v (.ptr c6) (.o 31 none .k)::dK::.v (.ptr rI) (.o 136 none .k)::.v (.int .i64) .k::dn 110 ([])
noncomputable def zp:List Kd:=dn 115 ([])
noncomputable def zq:List Kd:=dK::dK::.v .bool .k::dn 112 ([])
noncomputable def US:Hint:={ tab,hn:=[],loops:=[(7,wO)],outs:=[(7,2,zp),(7,1,zq)],bj:=[(1,(OT.seq [0,1,2,3,4,5,6,7,8,9,10,11,12,13,14,15,16,17,18,19,20,21,22,23,24,25,26,27,28,29,30,31,32,33,34,35,36,37,38,39,40,41,42,44,45,43,46,47] .done)),(9,(OT.seq [0,1,2,3,4,5,6,7,8,9,10,11,12,13,14,15,16,17,18,19,20,21,22,23,24,25,26,27,28,29] .done))] }
noncomputable def L8:List AK:=[.v c6 .k]
noncomputable def ahk (N:Nat) (x:ax L8) (kf:aa→Option aa):Option aa:=SF N x.1 (fun r0=>kf ⟨[⟨.bool,.k,r0⟩],[]⟩)
noncomputable def zr (N:Nat):=ar L8 (ahk N)
noncomputable def Yd (N:Nat):List Entry:=[⟨175,[.val],(iw N)⟩,⟨178,[.val],(y8 N)⟩,⟨158,[.val],(GL N)⟩,⟨195,[.val,.val,.val],(jT N)⟩,⟨196,[.val],(Qj N)⟩,⟨197,[.val,.val],(Ql N)⟩,⟨198,[.val,.val,.val,.val],(Qo N)⟩,⟨199,[.val],(zo N)⟩]
noncomputable def BN:Code:=aL Tryz.f122
noncomputable def UT (N n:Nat) (key:Nat) (S:St) (K:Ks):Option aa:=bif Nat.beq key 7 then az wO S (fun x=>nO N x.1 x.2.1 n (K (.x 0) (shape zp ())) (fun z0=>K .r (shape zq (z0,()))) x.2.2.1) else none
theorem anY (N key:Nat) (S:St) (K:Ks):UT N 0 key S K=none:=(bO (au fun _=>rfl) rfl)
noncomputable def Qq:Code:=(af BN).getD 0 .skip
theorem anZ:af BN=[Qq]:=by kernel_rfl
theorem abf (N:Nat):fD US (Yd N) (UT N) N 7 wO Qq:=fun _ _ _=>by kernel_rfl
theorem an0 (N:Nat):cn L8 (ahk N) US (Yd N) (UT N N) Tryz.f122:=fun _ _=>by kernel_rfl
theorem L9 {Γ:Gl} (N:Nat):Sound Γ Tryz.prog 122 (zr N):=iH US Tryz.f122 BN (anY N) anZ (an0 N) (rc (abf N) trivial) ⟨mf N,⟨LQ N,⟨X8 N,⟨nY N,⟨anK N,⟨anO N,⟨anV N,⟨L6 N,trivial⟩⟩⟩⟩⟩⟩⟩⟩
noncomputable def UU:List AK:=[.v c6 .k,.v c6 (.p (.o 46 none (.p .k (.p .k (.p .k (.p .k (.p .k (.o 3 none .k))))))) (.p (.o 80 none (.p .k (.p .k (.o 3 none .k)))) (.p (.o 104 none .k) (.p (.o 3 none .k) (.p (.o 136 none .k) (.p (.o 102 none .k) .k)))))),.v .bool .k,.v (.int .i64) .k,.v (.int .i64) .k]
noncomputable def aqj (N:Nat) (x:ax UU) (kf:aa→Option aa):Option aa:=Zw N x.1 x.2.1 x.2.2.1 x.2.2.2.1 x.2.2.2.2.1 (fun r0 r1=>kf ⟨[⟨c6,(.p (.o 46 none (.p .k (.p .k (.p .k (.p .k (.p .k (.o 3 none .k))))))) (.p (.o 80 none (.p .k (.p .k (.o 3 none .k)))) (.p (.o 104 none .k) (.p (.o 3 none .k) (.p (.o 136 none .k) (.p (.o 102 none .k) .k)))))),r0⟩,⟨.bool,.k,r1⟩],[]⟩)
noncomputable def ub (N:Nat):=ar UU (aqj N)
noncomputable def at5 (N:Nat):List Entry:=[⟨180,[.val,.val,.val],(Qi N)⟩,⟨122,[.val],(zr N)⟩,⟨90,[.val],(qZ N)⟩]
theorem at6 (N:Nat):cn UU (aqj N) hq (at5 N) (fC N N) Tryz.f93:=fun _ _=>by kernel_rfl
theorem GN {Γ:Gl} (N:Nat):Sound Γ Tryz.prog 93 (ub N):=gX hq Tryz.f93 (at6 N) ⟨anG N,⟨L9 N,⟨BB N,trivial⟩⟩⟩
noncomputable def aqk:Hint:={ tab,hn:=[],loops:=[],outs:=[],bj:=[(7,(OT.seq [0,1,2,3,4,5,6,7,8,9,10,11,12,13,14,15,16,17,18,19,20,21] .done))] }
noncomputable def UW:List AK:=[.v c6 .k]
noncomputable def aql (N:Nat) (x:ax UW) (kf:aa→Option aa):Option aa:=S21 N x.1 (fun r0 r1=>kf ⟨[⟨c6,(.p (.o 46 none (.p .k (.p .k (.p .k (.p .k (.p .k (.o 3 none .k))))))) (.p (.o 80 none (.p .k (.p .k (.o 3 none .k)))) (.p (.o 104 none .k) (.p (.o 3 none .k) (.p (.o 136 none .k) (.p (.o 102 none .k) .k)))))),r0⟩,⟨.bool,.k,r1⟩],[]⟩)
noncomputable def Ye (N:Nat):=ar UW (aql N)
noncomputable def at7 (N:Nat):List Entry:=[⟨90,[.val],(qZ N)⟩,⟨91,[.val],(XZ N)⟩,⟨92,[.val,.val,.val],(X4 N)⟩,⟨94,[.val],(DS N)⟩,⟨93,[.val,.take,.val,.val,.val],(ub N)⟩]
theorem at8 (N:Nat):cn UW (aql N) aqk (at7 N) (fC N N) Tryz.f21:=fun _ _=>by kernel_rfl
theorem at9 {Γ:Gl} (N:Nat):Sound Γ Tryz.prog 21 (Ye N):=gX aqk Tryz.f21 (at8 N) ⟨BB N,⟨at0 N,⟨at3 N,⟨UF N,⟨GN N,trivial⟩⟩⟩⟩⟩
noncomputable def wP:List Kd:=dK::.v (.ptr c6) (.o 31 none .k)::dK::.v (.sl (.int .i64)) (.o 3 none .k)::.v (.ptr rI) (.o 136 none .k)::.v (.int .i64) .k::dn 21 ([])
noncomputable def zt:List Kd:=dn 3 (.v (.sl (.int .i64)) (.o 3 none .k)::dn 23 ([]))
noncomputable def UX:Hint:={ tab,hn:=[],loops:=[(4,wP)],outs:=[(4,2,zt)],bj:=[(6,(OT.seq [0,1,2,3,4,5,6] .done))] }
noncomputable def Ma:List AK:=[.v c6 .k]
noncomputable def ahl (N:Nat) (x:ax Ma) (kf:aa→Option aa):Option aa:=adz N x.1 (fun r0=>kf ⟨[⟨(.sl (.int .i64)),(.o 3 none .k),r0⟩],[]⟩)
noncomputable def GO (N:Nat):=ar Ma (ahl N)
noncomputable def BO:Code:=aL Tryz.f123
noncomputable def UY (N n:Nat) (key:Nat) (S:St) (K:Ks):Option aa:=bif Nat.beq key 4 then az wP S (fun x=>nP x.1 x.2.2.1 n (fun z0=>K (.x 0) (shape zt (z0,()))) x.2.1 x.2.2.2.1) else none
theorem an1 (N key:Nat) (S:St) (K:Ks):UY N 0 key S K=none:=(bO (au fun _=>rfl) rfl)
noncomputable def Qr:Code:=(af BO).getD 0 .skip
theorem an2:af BO=[Qr]:=by kernel_rfl
theorem abg (N:Nat):fD UX [] (UY N) N 4 wP Qr:=fun _ _ _=>by kernel_rfl
theorem an3 (N:Nat):cn Ma (ahl N) UX [] (UY N N) Tryz.f123:=fun _ _=>by kernel_rfl
theorem Yf {Γ:Gl} (N:Nat):Sound Γ Tryz.prog 123 (GO N):=iH UX Tryz.f123 BO (an1 N) an2 (an3 N) (rc (abg N) trivial) trivial
noncomputable def wQ:List Kd:=.v (.sl rI) .k::dK::dK::.v (.int .i64) .k::dn 33 ([])
noncomputable def zu:List Kd:=.v (.sl rI) .k::dn 36 ([])
noncomputable def zw:List Kd:=dK::dK::.v .bool .k::dn 34 ([])
noncomputable def UZ:Hint:={ tab,hn:=[],loops:=[(2,wQ)],outs:=[(2,2,zu),(2,1,zw)],bj:=[(4,(OT.seq [0,1,2,3,4,5,6,7,8,9,10,11,12,13,14,15,16,17,18,19,20,21,22,23] .done))] }
noncomputable def Mb:List AK:=[.v (.sl rI) .k]
noncomputable def ahm (N:Nat) (x:ax Mb) (kf:aa→Option aa):Option aa:=SG N x.1 (fun r0=>kf ⟨[⟨.bool,.k,r0⟩],[]⟩)
noncomputable def zx (N:Nat):=ar Mb (ahm N)
noncomputable def Yg (N:Nat):List Entry:=[⟨199,[.val],(zo N)⟩]
noncomputable def BP:Code:=aL Tryz.f201
noncomputable def U0 (N n:Nat) (key:Nat) (S:St) (K:Ks):Option aa:=bif Nat.beq key 2 then az wQ S (fun x=>nQ N x.1 n (K (.x 0) (shape zu (x.1,()))) (fun z0=>K .r (shape zw (z0,()))) x.2.1) else none
theorem an4 (N key:Nat) (S:St) (K:Ks):U0 N 0 key S K=none:=(bO (au fun _=>rfl) rfl)
noncomputable def Qs:Code:=(af BP).getD 0 .skip
theorem an5:af BP=[Qs]:=by kernel_rfl
theorem abh (N:Nat):fD UZ (Yg N) (U0 N) N 2 wQ Qs:=fun _ _ _=>by kernel_rfl
theorem an6 (N:Nat):cn Mb (ahm N) UZ (Yg N) (U0 N N) Tryz.f201:=fun _ _=>by kernel_rfl
theorem Mc {Γ:Gl} (N:Nat):Sound Γ Tryz.prog 201 (zx N):=iH UZ Tryz.f201 BP (an4 N) an5 (an6 N) (rc (abh N) trivial) ⟨L6 N,trivial⟩
noncomputable def Me:List AK:=[.v rI .k]
noncomputable def ahn (N:Nat) (x:ax Me) (kf:aa→Option aa):Option aa:=Zx N x.1 (fun r0=>kf ⟨[⟨(.int .i64),.k,r0⟩],[]⟩)
noncomputable def GP (N:Nat):=ar Me (ahn N)
theorem an7 (N:Nat):cn Me (ahn N) hq [] (fC N N) Tryz.f204:=fun _ _=>by kernel_rfl
theorem Yh {Γ:Gl} (N:Nat):Sound Γ Tryz.prog 204 (GP N):=gX hq Tryz.f204 (an7 N) trivial
noncomputable def wR:List Kd:=.v (.sl rI) .k::.v (.int .i64) .k::dn 3 (.v (.int .i64) .k::.v (.int .i64) .k::dn 20 ([]))
noncomputable def zy:List Kd:=dn 5 (.v (.int .i64) .k::dn 21 ([]))
noncomputable def U1:Hint:={ tab,hn:=[],loops:=[(3,wR)],outs:=[(3,2,zy)],bj:=[] }
noncomputable def Mf:List AK:=[.v (.sl rI) .k,.v (.int .i64) .k]
noncomputable def aho (N:Nat) (x:ax Mf) (kf:aa→Option aa):Option aa:=adB N x.1 x.2.1 (fun r0=>kf ⟨[⟨(.int .i64),.k,r0⟩],[]⟩)
noncomputable def Qt (N:Nat):=ar Mf (aho N)
noncomputable def Yi (N:Nat):List Entry:=[⟨201,[.val],(zx N)⟩,⟨204,[.val],(GP N)⟩]
noncomputable def BQ:Code:=aL Tryz.f202
noncomputable def U2 (N n:Nat) (key:Nat) (S:St) (K:Ks):Option aa:=bif Nat.beq key 3 then az wR S (fun x=>nR N x.1 x.2.1 n (fun z0=>K (.x 0) (shape zy (z0,()))) x.2.2.1 x.2.2.2.1) else none
theorem an8 (N key:Nat) (S:St) (K:Ks):U2 N 0 key S K=none:=(bO (au fun _=>rfl) rfl)
noncomputable def Qu:Code:=(af BQ).getD 0 .skip
theorem an9:af BQ=[Qu]:=by kernel_rfl
theorem abi (N:Nat):fD U1 (Yi N) (U2 N) N 3 wR Qu:=fun _ _ _=>by kernel_rfl
theorem an' (N:Nat):cn Mf (aho N) U1 (Yi N) (U2 N N) Tryz.f202:=fun _ _=>by kernel_rfl
theorem aoa {Γ:Gl} (N:Nat):Sound Γ Tryz.prog 202 (Qt N):=iH U1 Tryz.f202 BQ (an8 N) an9 (an' N) (rc (abi N) trivial) ⟨Mc N,⟨Yh N,trivial⟩⟩
noncomputable def wS:List Kd:=.v (.sl rI) .k::.v (.int .i64) .k::dn 3 (.v (.int .i64) .k::.v (.int .i64) .k::dn 30 ([]))
noncomputable def zz:List Kd:=dn 5 (.v (.int .i64) .k::dn 31 ([]))
noncomputable def U3:Hint:={ tab,hn:=[],loops:=[(3,wS)],outs:=[(3,2,zz)],bj:=[] }
noncomputable def Mg:List AK:=[.v (.sl rI) .k,.v (.int .i64) .k]
noncomputable def ahp (N:Nat) (x:ax Mg) (kf:aa→Option aa):Option aa:=arB N x.1 x.2.1 (fun r0=>kf ⟨[⟨(.int .i64),.k,r0⟩],[]⟩)
noncomputable def Qv (N:Nat):=ar Mg (ahp N)
noncomputable def Yj (N:Nat):List Entry:=[⟨201,[.val],(zx N)⟩]
noncomputable def BR:Code:=aL Tryz.f203
noncomputable def U4 (N n:Nat) (key:Nat) (S:St) (K:Ks):Option aa:=bif Nat.beq key 3 then az wS S (fun x=>xJ N x.1 x.2.1 n (fun z0=>K (.x 0) (shape zz (z0,()))) x.2.2.1 x.2.2.2.1) else none
theorem aob (N key:Nat) (S:St) (K:Ks):U4 N 0 key S K=none:=(bO (au fun _=>rfl) rfl)
noncomputable def Qw:Code:=(af BR).getD 0 .skip
theorem aoc:af BR=[Qw]:=by kernel_rfl
theorem abj (N:Nat):fD U3 (Yj N) (U4 N) N 3 wS Qw:=fun _ _ _=>by kernel_rfl
theorem aod (N:Nat):cn Mg (ahp N) U3 (Yj N) (U4 N N) Tryz.f203:=fun _ _=>by kernel_rfl
theorem aoe {Γ:Gl} (N:Nat):Sound Γ Tryz.prog 203 (Qv N):=iH U3 Tryz.f203 BR (aob N) aoc (aod N) (rc (abj N) trivial) ⟨Mc N,trivial⟩
noncomputable def Mh:List AK:=[.v (.sl rI) .k]
noncomputable def ahq (N:Nat) (x:ax Mh) (kf:aa→Option aa):Option aa:=Zy N x.1 (fun r0=>kf ⟨[⟨(.int .i64),.k,r0⟩],[]⟩)
noncomputable def Qx (N:Nat):=ar Mh (ahq N)
noncomputable def aof (N:Nat):List Entry:=[⟨201,[.val],(zx N)⟩,⟨202,[.val,.val],(Qt N)⟩,⟨203,[.val,.val],(Qv N)⟩,⟨204,[.val],(GP N)⟩]
theorem aog (N:Nat):cn Mh (ahq N) hq (aof N) (fC N N) Tryz.f125:=fun _ _=>by kernel_rfl
theorem aoh {Γ:Gl} (N:Nat):Sound Γ Tryz.prog 125 (Qx N):=gX hq Tryz.f125 (aog N) ⟨Mc N,⟨aoa N,⟨aoe N,⟨Yh N,trivial⟩⟩⟩⟩
end Go.Pv.R
