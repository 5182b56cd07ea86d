/- Each function of the program that the law reaches computes its plain function, part 3. -/
import Derived.Test.YtcpakhaogbempaaGreatSnd2
import Derived.Test.YtcpakhaogbempaaGreatProg
namespace Go.Pv.R
open Go.Proofs
set_option linter.unusedVariables false
set_option maxRecDepth 100000
noncomputable def wa:List Kd:=dK::.v (.ptr bY) (.o 31 none .k)::dK::.v (.ptr de) (.o 136 none .k)::.v (.int .i64) .k::dn 110 ([])
noncomputable def yZ:List Kd:=dn 115 ([])
noncomputable def y2:List Kd:=dK::dK::.v .bool .k::dn 112 ([])
noncomputable def UR:Hint:={ tab,hn:=[],loops:=[(7,wa)],outs:=[(7,2,yZ),(7,1,y2)],bp:=[(1,(OT.seq [0,1,2,3,4,5,6,7,8,9,10,11,12,13,14,15,16,17,18,19,20,21,22,23,24,25,26,27,28,29,30,31,32,33,34,35,36,37,38,39,40,41,42,44,45,43,46,47] .done)),(9,(OT.seq [0,1,2,3,4,5,6,7,8,9,10,11,12,13,14,15,16,17,18,19,20,21,22,23,24,25,26,27,28,29] .done))] }
noncomputable def Lo:List AK:=[.v bY .k]
noncomputable def aio (N:Nat) (x:ay Lo) (kf:aa→Option aa):Option aa:=SA N x.1 (fun r0=>kf ⟨[⟨.bool,.k,r0⟩],[]⟩)
noncomputable def y3 (N:Nat):=ar Lo (aio N)
noncomputable def YL (N:Nat):List Entry:=[⟨175,[.val],(gQ N)⟩,⟨178,[.val],(yJ N)⟩,⟨158,[.val],(Gm N)⟩,⟨195,[.val,.val,.val],(jo N)⟩,⟨196,[.val],(PU N)⟩,⟨197,[.val,.val],(PW N)⟩,⟨198,[.val,.val,.val,.val],(PZ N)⟩,⟨199,[.val],(yY N)⟩]
noncomputable def BB:Code:=aI Tryz.f122
noncomputable def US (N n:Nat) (key:Nat) (S:St) (K:Ks):Option aa:=bif Nat.beq key 7 then az wa S (fun x=>m7 N x.1 x.2.1 n (K (.x 0) (shape yZ ())) (fun z0=>K .r (shape y2 (z0,()))) x.2.2.1) else none
theorem apB (N key:Nat) (S:St) (K:Ks):US N 0 key S K=none:=(bE (aq fun _=>rfl) rfl)
noncomputable def P3:Code:=(af BB).getD 0 .skip
theorem apC:af BB=[P3]:=by kernel_rfl
theorem abO (N:Nat):dU UR (YL N) (US N) N 7 wa P3:=fun _ _ _=>by kernel_rfl
theorem apD (N:Nat):bQ Lo (aio N) UR (YL N) (US N N) Tryz.f122:=fun _ _=>by kernel_rfl
theorem Lp {Γ:Gl} (N:Nat):Sound Γ Tryz.prog 122 (y3 N):=fq UR Tryz.f122 BB (apB N) apC (apD N) (rc (abO N) trivial) ⟨lF N,⟨K6 N,⟨YG N,⟨nm N,⟨apm N,⟨apr N,⟨apy N,⟨Ln N,trivial⟩⟩⟩⟩⟩⟩⟩⟩
noncomputable def UT:List AK:=[.v bY .k,.v bY (.p (.o 46 none (.p .k (.p .k (.p .k (.p .k (.p .k (.o 3 none .k))))))) (.p (.o 80 none (.p .k (.p .k (.o 3 none .k)))) (.p (.o 104 none .k) (.p (.o 3 none .k) (.p (.o 136 none .k) (.p (.o 102 none .k) .k)))))),.v .bool .k,.v (.int .i64) .k,.v (.int .i64) .k]
noncomputable def asU (N:Nat) (x:ay UT) (kf:aa→Option aa):Option aa:=S93 N x.1 x.2.1 x.2.2.1 x.2.2.2.1 x.2.2.2.2.1 (fun r0 r1=>kf ⟨[⟨bY,(.p (.o 46 none (.p .k (.p .k (.p .k (.p .k (.p .k (.o 3 none .k))))))) (.p (.o 80 none (.p .k (.p .k (.o 3 none .k)))) (.p (.o 104 none .k) (.p (.o 3 none .k) (.p (.o 136 none .k) (.p (.o 102 none .k) .k)))))),r0⟩,⟨.bool,.k,r1⟩],[]⟩)
noncomputable def qj (N:Nat):=ar UT (asU N)
noncomputable def aw' (N:Nat):List Entry:=[⟨180,[.val,.val,.val],(PT N)⟩,⟨122,[.val],(y3 N)⟩,⟨90,[.val],(lE N)⟩]
theorem axa (N:Nat):bQ UT (asU N) hq (aw' N) (dP N N) Tryz.f93:=fun _ _=>by kernel_rfl
theorem BC {Γ:Gl} (N:Nat):Sound Γ Tryz.prog 93 (qj N):=fo hq Tryz.f93 (axa N) ⟨api N,⟨Lp N,⟨sk N,trivial⟩⟩⟩
noncomputable def asV:Hint:={ tab,hn:=[],loops:=[],outs:=[],bp:=[(7,(OT.seq [0,1,2,3,4,5,6,7,8,9,10,11,12,13,14,15,16,17,18,19,20,21] .done))] }
noncomputable def UU:List AK:=[.v bY .k]
noncomputable def asW (N:Nat) (x:ay UU) (kf:aa→Option aa):Option aa:=S21 N x.1 (fun r0 r1=>kf ⟨[⟨bY,(.p (.o 46 none (.p .k (.p .k (.p .k (.p .k (.p .k (.o 3 none .k))))))) (.p (.o 80 none (.p .k (.p .k (.o 3 none .k)))) (.p (.o 104 none .k) (.p (.o 3 none .k) (.p (.o 136 none .k) (.p (.o 102 none .k) .k)))))),r0⟩,⟨.bool,.k,r1⟩],[]⟩)
noncomputable def YM (N:Nat):=ar UU (asW N)
noncomputable def axb (N:Nat):List Entry:=[⟨90,[.val],(lE N)⟩,⟨91,[.val],(Yz N)⟩,⟨92,[.val,.val,.val],(YC N)⟩,⟨94,[.val],(yN N)⟩,⟨93,[.val,.take,.val,.val,.val],(qj N)⟩]
theorem axc (N:Nat):bQ UU (asW N) asV (axb N) (dP N N) Tryz.f21:=fun _ _=>by kernel_rfl
theorem axd {Γ:Gl} (N:Nat):Sound Γ Tryz.prog 21 (YM N):=fo asV Tryz.f21 (axc N) ⟨sk N,⟨aw5 N,⟨aw8 N,⟨La N,⟨BC N,trivial⟩⟩⟩⟩⟩
noncomputable def wb:List Kd:=.v (.sl (.int .i64)) .k::.v (.sl (.int .i64)) .k::dn 3 (.v (.int .i64) .k::dn 20 ([]))
noncomputable def y4:List Kd:=dn 26 ([])
noncomputable def y5:List Kd:=dn 4 (.v .bool .k::dn 21 ([]))
noncomputable def UW:Hint:={ tab,hn:=[],loops:=[(4,wb)],outs:=[(4,2,y4),(4,1,y5)],bp:=[(6,(OT.seq [0,1,2,3,4,5,6,7,8] .done))] }
noncomputable def Lq:List AK:=[.v (.sl (.int .i64)) .k,.v (.sl (.int .i64)) .k]
noncomputable def aip (N:Nat) (x:ay Lq) (kf:aa→Option aa):Option aa:=aaa N x.1 x.2.1 (fun r0=>kf ⟨[⟨.bool,.k,r0⟩],[]⟩)
noncomputable def y6 (N:Nat):=ar Lq (aip N)
noncomputable def BD:Code:=aI Tryz.f107
noncomputable def UX (N n:Nat) (key:Nat) (S:St) (K:Ks):Option aa:=bif Nat.beq key 4 then az wb S (fun x=>pW x.1 x.2.1 n (K (.x 0) (shape y4 ())) (fun z0=>K .r (shape y5 (z0,()))) x.2.2.1) else none
theorem apE (N key:Nat) (S:St) (K:Ks):UX N 0 key S K=none:=(bE (aq fun _=>rfl) rfl)
noncomputable def P4:Code:=(af BD).getD 0 .skip
theorem apF:af BD=[P4]:=by kernel_rfl
theorem abP (N:Nat):dU UW [] (UX N) N 4 wb P4:=fun _ _ _=>by kernel_rfl
theorem apG (N:Nat):bQ Lq (aip N) UW [] (UX N N) Tryz.f107:=fun _ _=>by kernel_rfl
theorem Lr {Γ:Gl} (N:Nat):Sound Γ Tryz.prog 107 (y6 N):=fq UW Tryz.f107 BD (apE N) apF (apG N) (rc (abP N) trivial) trivial
noncomputable def Ls:List AK:=[.v bj .k,.v bj .k]
noncomputable def aiq (N:Nat) (x:ay Ls) (kf:aa→Option aa):Option aa:=aei N x.1 x.2.1 (fun r0=>kf ⟨[⟨.bool,.k,r0⟩],[]⟩)
noncomputable def P5 (N:Nat):=ar Ls (aiq N)
noncomputable def apH (N:Nat):List Entry:=[⟨107,[.val,.val],(y6 N)⟩]
theorem apI (N:Nat):bQ Ls (aiq N) hq (apH N) (dP N N) Tryz.f190:=fun _ _=>by kernel_rfl
theorem apJ {Γ:Gl} (N:Nat):Sound Γ Tryz.prog 190 (P5 N):=fo hq Tryz.f190 (apI N) ⟨Lr N,trivial⟩
noncomputable def wc:List Kd:=.v (.sl bj) .k::.v (.sl bj) .k::dn 3 (.v (.int .i64) .k::dn 21 ([]))
noncomputable def y7:List Kd:=dn 27 ([])
noncomputable def y8:List Kd:=dn 4 (.v .bool .k::dn 22 ([]))
noncomputable def UY:Hint:={ tab,hn:=[],loops:=[(4,wc)],outs:=[(4,2,y7),(4,1,y8)],bp:=[(6,(OT.seq [0,1,2,3,4,5,6,7,8,9] .done))] }
noncomputable def Lt:List AK:=[.v (.sl bj) .k,.v (.sl bj) .k]
noncomputable def air (N:Nat) (x:ay Lt) (kf:aa→Option aa):Option aa:=akb N x.1 x.2.1 (fun r0=>kf ⟨[⟨.bool,.k,r0⟩],[]⟩)
noncomputable def P6 (N:Nat):=ar Lt (air N)
noncomputable def YN (N:Nat):List Entry:=[⟨190,[.val,.val],(P5 N)⟩]
noncomputable def BE:Code:=aI Tryz.f104
noncomputable def UZ (N n:Nat) (key:Nat) (S:St) (K:Ks):Option aa:=bif Nat.beq key 4 then az wc S (fun x=>pX N x.1 x.2.1 n (K (.x 0) (shape y7 ())) (fun z0=>K .r (shape y8 (z0,()))) x.2.2.1) else none
theorem apK (N key:Nat) (S:St) (K:Ks):UZ N 0 key S K=none:=(bE (aq fun _=>rfl) rfl)
noncomputable def P7:Code:=(af BE).getD 0 .skip
theorem apL:af BE=[P7]:=by kernel_rfl
theorem abQ (N:Nat):dU UY (YN N) (UZ N) N 4 wc P7:=fun _ _ _=>by kernel_rfl
theorem apM (N:Nat):bQ Lt (air N) UY (YN N) (UZ N N) Tryz.f104:=fun _ _=>by kernel_rfl
theorem apN {Γ:Gl} (N:Nat):Sound Γ Tryz.prog 104 (P6 N):=fq UY Tryz.f104 BE (apK N) apL (apM N) (rc (abQ N) trivial) ⟨apJ N,trivial⟩
noncomputable def Lu:List AK:=[.v bS .k,.v bS .k]
noncomputable def ais (N:Nat) (x:ay Lu) (kf:aa→Option aa):Option aa:=aej N x.1 x.2.1 (fun r0=>kf ⟨[⟨.bool,.k,r0⟩],[]⟩)
noncomputable def P8 (N:Nat):=ar Lu (ais N)
noncomputable def apO (N:Nat):List Entry:=[⟨107,[.val,.val],(y6 N)⟩]
theorem apP (N:Nat):bQ Lu (ais N) hq (apO N) (dP N N) Tryz.f191:=fun _ _=>by kernel_rfl
theorem apQ {Γ:Gl} (N:Nat):Sound Γ Tryz.prog 191 (P8 N):=fo hq Tryz.f191 (apP N) ⟨Lr N,trivial⟩
noncomputable def we:List Kd:=.v (.sl bS) .k::.v (.sl bS) .k::dn 3 (.v (.int .i64) .k::dn 21 ([]))
noncomputable def y9:List Kd:=dn 27 ([])
noncomputable def za:List Kd:=dn 4 (.v .bool .k::dn 22 ([]))
noncomputable def U0:Hint:={ tab,hn:=[],loops:=[(4,we)],outs:=[(4,2,y9),(4,1,za)],bp:=[(6,(OT.seq [0,1,2,3,4,5,6,7,8,9] .done))] }
noncomputable def Lv:List AK:=[.v (.sl bS) .k,.v (.sl bS) .k]
noncomputable def ait (N:Nat) (x:ay Lv) (kf:aa→Option aa):Option aa:=akc N x.1 x.2.1 (fun r0=>kf ⟨[⟨.bool,.k,r0⟩],[]⟩)
noncomputable def P9 (N:Nat):=ar Lv (ait N)
noncomputable def YO (N:Nat):List Entry:=[⟨191,[.val,.val],(P8 N)⟩]
noncomputable def BF:Code:=aI Tryz.f105
noncomputable def U1 (N n:Nat) (key:Nat) (S:St) (K:Ks):Option aa:=bif Nat.beq key 4 then az we S (fun x=>pY N x.1 x.2.1 n (K (.x 0) (shape y9 ())) (fun z0=>K .r (shape za (z0,()))) x.2.2.1) else none
theorem apR (N key:Nat) (S:St) (K:Ks):U1 N 0 key S K=none:=(bE (aq fun _=>rfl) rfl)
noncomputable def P':Code:=(af BF).getD 0 .skip
theorem apS:af BF=[P']:=by kernel_rfl
theorem abR (N:Nat):dU U0 (YO N) (U1 N) N 4 we P':=fun _ _ _=>by kernel_rfl
theorem apT (N:Nat):bQ Lv (ait N) U0 (YO N) (U1 N N) Tryz.f105:=fun _ _=>by kernel_rfl
theorem apU {Γ:Gl} (N:Nat):Sound Γ Tryz.prog 105 (P9 N):=fq U0 Tryz.f105 BF (apR N) apS (apT N) (rc (abR N) trivial) ⟨apQ N,trivial⟩
noncomputable def Lw:List AK:=[.v aM .k,.v aM .k]
noncomputable def aiu (N:Nat) (x:ay Lw) (kf:aa→Option aa):Option aa:=aek N x.1 x.2.1 (fun r0=>kf ⟨[⟨.bool,.k,r0⟩],[]⟩)
noncomputable def Qa (N:Nat):=ar Lw (aiu N)
theorem apV (N:Nat):bQ Lw (aiu N) hq [] (dP N N) Tryz.f192:=fun _ _=>by kernel_rfl
theorem apW {Γ:Gl} (N:Nat):Sound Γ Tryz.prog 192 (Qa N):=fo hq Tryz.f192 (apV N) trivial
noncomputable def wg:List Kd:=.v (.sl aM) .k::.v (.sl aM) .k::dn 3 (.v (.int .i64) .k::dn 21 ([]))
noncomputable def zb:List Kd:=dn 27 ([])
noncomputable def zd:List Kd:=dn 4 (.v .bool .k::dn 22 ([]))
noncomputable def U2:Hint:={ tab,hn:=[],loops:=[(4,wg)],outs:=[(4,2,zb),(4,1,zd)],bp:=[(6,(OT.seq [0,1,2,3,4,5,6,7,8,9] .done))] }
noncomputable def Lx:List AK:=[.v (.sl aM) .k,.v (.sl aM) .k]
noncomputable def aiv (N:Nat) (x:ay Lx) (kf:aa→Option aa):Option aa:=akd N x.1 x.2.1 (fun r0=>kf ⟨[⟨.bool,.k,r0⟩],[]⟩)
noncomputable def Qb (N:Nat):=ar Lx (aiv N)
noncomputable def YP (N:Nat):List Entry:=[⟨192,[.val,.val],(Qa N)⟩]
noncomputable def BG:Code:=aI Tryz.f106
noncomputable def U3 (N n:Nat) (key:Nat) (S:St) (K:Ks):Option aa:=bif Nat.beq key 4 then az wg S (fun x=>pZ N x.1 x.2.1 n (K (.x 0) (shape zb ())) (fun z0=>K .r (shape zd (z0,()))) x.2.2.1) else none
theorem apX (N key:Nat) (S:St) (K:Ks):U3 N 0 key S K=none:=(bE (aq fun _=>rfl) rfl)
noncomputable def Qc:Code:=(af BG).getD 0 .skip
theorem apY:af BG=[Qc]:=by kernel_rfl
theorem abS (N:Nat):dU U2 (YP N) (U3 N) N 4 wg Qc:=fun _ _ _=>by kernel_rfl
theorem apZ (N:Nat):bQ Lx (aiv N) U2 (YP N) (U3 N N) Tryz.f106:=fun _ _=>by kernel_rfl
theorem ap0 {Γ:Gl} (N:Nat):Sound Γ Tryz.prog 106 (Qb N):=fq U2 Tryz.f106 BG (apX N) apY (apZ N) (rc (abS N) trivial) ⟨apW N,trivial⟩
noncomputable def Ly:List AK:=[.v de .k,.v de .k]
noncomputable def aiw (N:Nat) (x:ay Ly) (kf:aa→Option aa):Option aa:=ael N x.1 x.2.1 (fun r0=>kf ⟨[⟨.bool,.k,r0⟩],[]⟩)
noncomputable def Qd (N:Nat):=ar Ly (aiw N)
theorem ap1 (N:Nat):bQ Ly (aiw N) hq [] (dP N N) Tryz.f193:=fun _ _=>by kernel_rfl
theorem ap2 {Γ:Gl} (N:Nat):Sound Γ Tryz.prog 193 (Qd N):=fo hq Tryz.f193 (ap1 N) trivial
noncomputable def wh:List Kd:=.v (.sl de) .k::.v (.sl de) .k::dn 3 (.v (.int .i64) .k::dn 21 ([]))
noncomputable def ze:List Kd:=dn 27 ([])
noncomputable def zf:List Kd:=dn 4 (.v .bool .k::dn 22 ([]))
noncomputable def U4:Hint:={ tab,hn:=[],loops:=[(4,wh)],outs:=[(4,2,ze),(4,1,zf)],bp:=[(6,(OT.seq [0,1,2,3,4,5,6,7,8,9] .done))] }
noncomputable def LA:List AK:=[.v (.sl de) .k,.v (.sl de) .k]
noncomputable def aix (N:Nat) (x:ay LA) (kf:aa→Option aa):Option aa:=ake N x.1 x.2.1 (fun r0=>kf ⟨[⟨.bool,.k,r0⟩],[]⟩)
noncomputable def Qe (N:Nat):=ar LA (aix N)
noncomputable def YQ (N:Nat):List Entry:=[⟨193,[.val,.val],(Qd N)⟩]
noncomputable def BH:Code:=aI Tryz.f108
noncomputable def U5 (N n:Nat) (key:Nat) (S:St) (K:Ks):Option aa:=bif Nat.beq key 4 then az wh S (fun x=>p5 N x.1 x.2.1 n (K (.x 0) (shape ze ())) (fun z0=>K .r (shape zf (z0,()))) x.2.2.1) else none
theorem ap3 (N key:Nat) (S:St) (K:Ks):U5 N 0 key S K=none:=(bE (aq fun _=>rfl) rfl)
noncomputable def Qf:Code:=(af BH).getD 0 .skip
theorem ap4:af BH=[Qf]:=by kernel_rfl
theorem abT (N:Nat):dU U4 (YQ N) (U5 N) N 4 wh Qf:=fun _ _ _=>by kernel_rfl
theorem ap5 (N:Nat):bQ LA (aix N) U4 (YQ N) (U5 N N) Tryz.f108:=fun _ _=>by kernel_rfl
theorem ap6 {Γ:Gl} (N:Nat):Sound Γ Tryz.prog 108 (Qe N):=fq U4 Tryz.f108 BH (ap3 N) ap4 (ap5 N) (rc (abT N) trivial) ⟨ap2 N,trivial⟩
noncomputable def LB:List AK:=[.v df .k,.v df .k]
noncomputable def aiy (N:Nat) (x:ay LB) (kf:aa→Option aa):Option aa:=aem N x.1 x.2.1 (fun r0=>kf ⟨[⟨.bool,.k,r0⟩],[]⟩)
noncomputable def Qg (N:Nat):=ar LB (aiy N)
theorem ap7 (N:Nat):bQ LB (aiy N) hq [] (dP N N) Tryz.f194:=fun _ _=>by kernel_rfl
theorem ap8 {Γ:Gl} (N:Nat):Sound Γ Tryz.prog 194 (Qg N):=fo hq Tryz.f194 (ap7 N) trivial
noncomputable def wi:List Kd:=.v (.sl df) .k::.v (.sl df) .k::dn 3 (.v (.int .i64) .k::dn 21 ([]))
noncomputable def zg:List Kd:=dn 27 ([])
noncomputable def zh:List Kd:=dn 4 (.v .bool .k::dn 22 ([]))
noncomputable def U6:Hint:={ tab,hn:=[],loops:=[(4,wi)],outs:=[(4,2,zg),(4,1,zh)],bp:=[(6,(OT.seq [0,1,2,3,4,5,6,7,8,9] .done))] }
noncomputable def LC:List AK:=[.v (.sl df) .k,.v (.sl df) .k]
noncomputable def aiz (N:Nat) (x:ay LC) (kf:aa→Option aa):Option aa:=akf N x.1 x.2.1 (fun r0=>kf ⟨[⟨.bool,.k,r0⟩],[]⟩)
noncomputable def Qh (N:Nat):=ar LC (aiz N)
noncomputable def YR (N:Nat):List Entry:=[⟨194,[.val,.val],(Qg N)⟩]
noncomputable def BI:Code:=aI Tryz.f109
noncomputable def U7 (N n:Nat) (key:Nat) (S:St) (K:Ks):Option aa:=bif Nat.beq key 4 then az wi S (fun x=>p6 N x.1 x.2.1 n (K (.x 0) (shape zg ())) (fun z0=>K .r (shape zh (z0,()))) x.2.2.1) else none
theorem ap9 (N key:Nat) (S:St) (K:Ks):U7 N 0 key S K=none:=(bE (aq fun _=>rfl) rfl)
noncomputable def Qi:Code:=(af BI).getD 0 .skip
theorem ap':af BI=[Qi]:=by kernel_rfl
theorem abU (N:Nat):dU U6 (YR N) (U7 N) N 4 wi Qi:=fun _ _ _=>by kernel_rfl
theorem aqa (N:Nat):bQ LC (aiz N) U6 (YR N) (U7 N N) Tryz.f109:=fun _ _=>by kernel_rfl
theorem aqb {Γ:Gl} (N:Nat):Sound Γ Tryz.prog 109 (Qh N):=fq U6 Tryz.f109 BI (ap9 N) ap' (aqa N) (rc (abU N) trivial) ⟨ap8 N,trivial⟩
noncomputable def U8:List AK:=[.v bY .k,.v bY .k]
noncomputable def asX (N:Nat) (x:ay U8) (kf:aa→Option aa):Option aa:=L24 N x.1 x.2.1 (fun r0=>kf ⟨[⟨.bool,.k,r0⟩],[]⟩)
noncomputable def YS (N:Nat):=ar U8 (asX N)
noncomputable def axe (N:Nat):List Entry:=[⟨104,[.val,.val],(P6 N)⟩,⟨105,[.val,.val],(P9 N)⟩,⟨106,[.val,.val],(Qb N)⟩,⟨107,[.val,.val],(y6 N)⟩,⟨108,[.val,.val],(Qe N)⟩,⟨109,[.val,.val],(Qh N)⟩]
theorem axf (N:Nat):bQ U8 (asX N) hq (axe N) (dP N N) Tryz.f24:=fun _ _=>by kernel_rfl
theorem axg {Γ:Gl} (N:Nat):Sound Γ Tryz.prog 24 (YS N):=fo hq Tryz.f24 (axf N) ⟨apN N,⟨apU N,⟨ap0 N,⟨Lr N,⟨ap6 N,⟨aqb N,trivial⟩⟩⟩⟩⟩⟩
noncomputable def wj:List Kd:=.v (.sl (.int .i64)) (.o 3 (some 0) .k)::.v (.int .i64) .k::dn 3 (.v (.int .i64) .k::dn 13 ([]))
noncomputable def zi:List Kd:=.v (.sl (.int .i64)) (.o 3 (some 0) .k)::.v (.int .i64) .k::dn 17 ([])
noncomputable def U9:Hint:={ tab,hn:=[],loops:=[(2,wj)],outs:=[(2,2,zi)],bp:=[],wN:=some (0,false) }
noncomputable def LD:List AK:=[.v (.sl (.int .i64)) (.o 3 (some 0) .k),.v (.int .i64) .k]
noncomputable def aiA (N:Nat) (x:ay LD) (kf:aa→Option aa):Option aa:=aen N x.1 x.2.1 (fun r0 z=>kf ⟨[⟨(.int .i64),.k,r0⟩],[⟨(.sl (.int .i64)),(.o 3 (some 0) .k),z⟩]⟩)
noncomputable def zj (N:Nat):=ar LD (aiA N)
noncomputable def BJ:Code:=aI Tryz.f113
noncomputable def U' (N n:Nat) (key:Nat) (S:St) (K:Ks):Option aa:=bif Nat.beq key 2 then az wj S (fun x=>sG n (fun z0 z1=>K (.x 0) (shape zi (z0,z1,()))) x.1 x.2.1 x.2.2.1) else none
theorem aqc (N key:Nat) (S:St) (K:Ks):U' N 0 key S K=none:=(bE (aq fun _=>rfl) rfl)
noncomputable def Qj:Code:=(af BJ).getD 0 .skip
theorem aqd:af BJ=[Qj]:=by kernel_rfl
theorem abV (N:Nat):dU U9 [] (U' N) N 2 wj Qj:=fun _ _ _=>by kernel_rfl
theorem aqe (N:Nat):bQ LD (aiA N) U9 [] (U' N N) Tryz.f113:=fun _ _=>by kernel_rfl
theorem LF {Γ:Gl} (N:Nat):Sound Γ Tryz.prog 113 (zj N):=fq U9 Tryz.f113 BJ (aqc N) aqd (aqe N) (rc (abV N) trivial) trivial
noncomputable def wk:List Kd:=.v (.sl bj) (.o 46 (some 0) (.p .k (.p .k (.p .k (.p .k (.p .k (.o 3 none .k)))))))::.v (.int .i64) .k::dn 3 (.v (.int .i64) .k::dn 49 ([]))
noncomputable def zk:List Kd:=.v (.sl bj) (.o 46 (some 0) (.p .k (.p .k (.p .k (.p .k (.p .k (.o 3 none .k)))))))::.v (.int .i64) .k::dn 53 ([])
noncomputable def Va:Hint:={ tab,hn:=[],loops:=[(2,wk)],outs:=[(2,2,zk)],bp:=[],wN:=some (0,false) }
noncomputable def LG:List AK:=[.v (.sl bj) (.o 46 (some 0) (.p .k (.p .k (.p .k (.p .k (.p .k (.o 3 none .k))))))),.v (.int .i64) .k]
noncomputable def aiB (N:Nat) (x:ay LG) (kf:aa→Option aa):Option aa:=at' N x.1 x.2.1 (fun r0 z=>kf ⟨[⟨(.int .i64),.k,r0⟩],[⟨(.sl bj),(.o 46 (some 0) (.p .k (.p .k (.p .k (.p .k (.p .k (.o 3 none .k))))))),z⟩]⟩)
noncomputable def Qk (N:Nat):=ar LG (aiB N)
noncomputable def YT (N:Nat):List Entry:=[⟨113,[.nH,.val],(zj N)⟩]
noncomputable def BK:Code:=aI Tryz.f110
noncomputable def Vb (N n:Nat) (key:Nat) (S:St) (K:Ks):Option aa:=bif Nat.beq key 2 then az wk S (fun x=>sH N n (fun z0 z1=>K (.x 0) (shape zk (z0,z1,()))) x.1 x.2.1 x.2.2.1) else none
theorem aqf (N key:Nat) (S:St) (K:Ks):Vb N 0 key S K=none:=(bE (aq fun _=>rfl) rfl)
noncomputable def Ql:Code:=(af BK).getD 0 .skip
theorem aqg:af BK=[Ql]:=by kernel_rfl
theorem abW (N:Nat):dU Va (YT N) (Vb N) N 2 wk Ql:=fun _ _ _=>by kernel_rfl
theorem aqh (N:Nat):bQ LG (aiB N) Va (YT N) (Vb N N) Tryz.f110:=fun _ _=>by kernel_rfl
theorem aqi {Γ:Gl} (N:Nat):Sound Γ Tryz.prog 110 (Qk N):=fq Va Tryz.f110 BK (aqf N) aqg (aqh N) (rc (abW N) trivial) ⟨LF N,trivial⟩
noncomputable def wm:List Kd:=.v (.sl bS) (.o 80 (some 0) (.p .k (.p .k (.o 3 none .k))))::.v (.int .i64) .k::dn 3 (.v (.int .i64) .k::dn 28 ([]))
noncomputable def zm:List Kd:=.v (.sl bS) (.o 80 (some 0) (.p .k (.p .k (.o 3 none .k))))::.v (.int .i64) .k::dn 32 ([])
noncomputable def Vc:Hint:={ tab,hn:=[],loops:=[(2,wm)],outs:=[(2,2,zm)],bp:=[],wN:=some (0,false) }
noncomputable def LH:List AK:=[.v (.sl bS) (.o 80 (some 0) (.p .k (.p .k (.o 3 none .k)))),.v (.int .i64) .k]
noncomputable def aiC (N:Nat) (x:ay LH) (kf:aa→Option aa):Option aa:=aua N x.1 x.2.1 (fun r0 z=>kf ⟨[⟨(.int .i64),.k,r0⟩],[⟨(.sl bS),(.o 80 (some 0) (.p .k (.p .k (.o 3 none .k)))),z⟩]⟩)
noncomputable def Qm (N:Nat):=ar LH (aiC N)
noncomputable def YU (N:Nat):List Entry:=[⟨113,[.nH,.val],(zj N)⟩]
noncomputable def BL:Code:=aI Tryz.f111
noncomputable def Vd (N n:Nat) (key:Nat) (S:St) (K:Ks):Option aa:=bif Nat.beq key 2 then az wm S (fun x=>sI N n (fun z0 z1=>K (.x 0) (shape zm (z0,z1,()))) x.1 x.2.1 x.2.2.1) else none
theorem aqj (N key:Nat) (S:St) (K:Ks):Vd N 0 key S K=none:=(bE (aq fun _=>rfl) rfl)
noncomputable def Qn:Code:=(af BL).getD 0 .skip
theorem aqk:af BL=[Qn]:=by kernel_rfl
theorem abX (N:Nat):dU Vc (YU N) (Vd N) N 2 wm Qn:=fun _ _ _=>by kernel_rfl
theorem aql (N:Nat):bQ LH (aiC N) Vc (YU N) (Vd N N) Tryz.f111:=fun _ _=>by kernel_rfl
theorem aqm {Γ:Gl} (N:Nat):Sound Γ Tryz.prog 111 (Qm N):=fq Vc Tryz.f111 BL (aqj N) aqk (aql N) (rc (abX N) trivial) ⟨LF N,trivial⟩
noncomputable def wo:List Kd:=.v (.sl aM) (.o 104 (some 0) .k)::.v (.int .i64) .k::dn 3 (.v (.int .i64) .k::dn 21 ([]))
noncomputable def zn:List Kd:=.v (.sl aM) (.o 104 (some 0) .k)::.v (.int .i64) .k::dn 25 ([])
noncomputable def Ve:Hint:={ tab,hn:=[],loops:=[(2,wo)],outs:=[(2,2,zn)],bp:=[],wN:=some (0,false) }
noncomputable def LI:List AK:=[.v (.sl aM) (.o 104 (some 0) .k),.v (.int .i64) .k]
noncomputable def aiD (N:Nat) (x:ay LI) (kf:aa→Option aa):Option aa:=aub N x.1 x.2.1 (fun r0 z=>kf ⟨[⟨(.int .i64),.k,r0⟩],[⟨(.sl aM),(.o 104 (some 0) .k),z⟩]⟩)
noncomputable def Qo (N:Nat):=ar LI (aiD N)
noncomputable def BM:Code:=aI Tryz.f112
noncomputable def Vf (N n:Nat) (key:Nat) (S:St) (K:Ks):Option aa:=bif Nat.beq key 2 then az wo S (fun x=>sJ n (fun z0 z1=>K (.x 0) (shape zn (z0,z1,()))) x.1 x.2.1 x.2.2.1) else none
theorem aqn (N key:Nat) (S:St) (K:Ks):Vf N 0 key S K=none:=(bE (aq fun _=>rfl) rfl)
noncomputable def Qp:Code:=(af BM).getD 0 .skip
theorem aqo:af BM=[Qp]:=by kernel_rfl
theorem abY (N:Nat):dU Ve [] (Vf N) N 2 wo Qp:=fun _ _ _=>by kernel_rfl
theorem aqp (N:Nat):bQ LI (aiD N) Ve [] (Vf N N) Tryz.f112:=fun _ _=>by kernel_rfl
theorem aqq {Γ:Gl} (N:Nat):Sound Γ Tryz.prog 112 (Qo N):=fq Ve Tryz.f112 BM (aqn N) aqo (aqp N) (rc (abY N) trivial) trivial
noncomputable def wq:List Kd:=.v (.sl de) (.o 136 (some 0) .k)::.v (.int .i64) .k::dn 3 (.v (.int .i64) .k::dn 28 ([]))
noncomputable def zo:List Kd:=.v (.sl de) (.o 136 (some 0) .k)::.v (.int .i64) .k::dn 32 ([])
noncomputable def Vg:Hint:={ tab,hn:=[],loops:=[(2,wq)],outs:=[(2,2,zo)],bp:=[],wN:=some (0,false) }
noncomputable def LJ:List AK:=[.v (.sl de) (.o 136 (some 0) .k),.v (.int .i64) .k]
noncomputable def aiE (N:Nat) (x:ay LJ) (kf:aa→Option aa):Option aa:=auc N x.1 x.2.1 (fun r0 z=>kf ⟨[⟨(.int .i64),.k,r0⟩],[⟨(.sl de),(.o 136 (some 0) .k),z⟩]⟩)
noncomputable def Qq (N:Nat):=ar LJ (aiE N)
noncomputable def BN:Code:=aI Tryz.f114
noncomputable def Vh (N n:Nat) (key:Nat) (S:St) (K:Ks):Option aa:=bif Nat.beq key 2 then az wq S (fun x=>sK n (fun z0 z1=>K (.x 0) (shape zo (z0,z1,()))) x.1 x.2.1 x.2.2.1) else none
theorem aqr (N key:Nat) (S:St) (K:Ks):Vh N 0 key S K=none:=(bE (aq fun _=>rfl) rfl)
noncomputable def Qr:Code:=(af BN).getD 0 .skip
theorem aqs:af BN=[Qr]:=by kernel_rfl
theorem abZ (N:Nat):dU Vg [] (Vh N) N 2 wq Qr:=fun _ _ _=>by kernel_rfl
theorem aqt (N:Nat):bQ LJ (aiE N) Vg [] (Vh N N) Tryz.f114:=fun _ _=>by kernel_rfl
theorem aqu {Γ:Gl} (N:Nat):Sound Γ Tryz.prog 114 (Qq N):=fq Vg Tryz.f114 BN (aqr N) aqs (aqt N) (rc (abZ N) trivial) trivial
noncomputable def wu:List Kd:=.v (.sl df) (.o 102 (some 0) .k)::.v (.int .i64) .k::dn 3 (.v (.int .i64) .k::dn 35 ([]))
noncomputable def zp:List Kd:=.v (.sl df) (.o 102 (some 0) .k)::.v (.int .i64) .k::dn 39 ([])
noncomputable def Vi:Hint:={ tab,hn:=[],loops:=[(2,wu)],outs:=[(2,2,zp)],bp:=[],wN:=some (0,false) }
noncomputable def LK:List AK:=[.v (.sl df) (.o 102 (some 0) .k),.v (.int .i64) .k]
noncomputable def aiF (N:Nat) (x:ay LK) (kf:aa→Option aa):Option aa:=aud N x.1 x.2.1 (fun r0 z=>kf ⟨[⟨(.int .i64),.k,r0⟩],[⟨(.sl df),(.o 102 (some 0) .k),z⟩]⟩)
noncomputable def Qs (N:Nat):=ar LK (aiF N)
noncomputable def BO:Code:=aI Tryz.f115
noncomputable def Vj (N n:Nat) (key:Nat) (S:St) (K:Ks):Option aa:=bif Nat.beq key 2 then az wu S (fun x=>sL n (fun z0 z1=>K (.x 0) (shape zp (z0,z1,()))) x.1 x.2.1 x.2.2.1) else none
theorem aqv (N key:Nat) (S:St) (K:Ks):Vj N 0 key S K=none:=(bE (aq fun _=>rfl) rfl)
noncomputable def Qt:Code:=(af BO).getD 0 .skip
theorem aqw:af BO=[Qt]:=by kernel_rfl
theorem ab0 (N:Nat):dU Vi [] (Vj N) N 2 wu Qt:=fun _ _ _=>by kernel_rfl
theorem aqx (N:Nat):bQ LK (aiF N) Vi [] (Vj N N) Tryz.f115:=fun _ _=>by kernel_rfl
theorem aqy {Γ:Gl} (N:Nat):Sound Γ Tryz.prog 115 (Qs N):=fq Vi Tryz.f115 BO (aqv N) aqw (aqx N) (rc (ab0 N) trivial) trivial
noncomputable def asY:Hint:={ tab,hn:=[],loops:=[],outs:=[],bp:=[],wN:=some (2,true) }
noncomputable def Vk:List AK:=[.v bY (.p (.o 46 (some 0) (.p .k (.p .k (.p .k (.p .k (.p .k (.o 3 none .k))))))) (.p (.o 80 (some 1) (.p .k (.p .k (.o 3 none .k)))) (.p (.o 104 (some 2) .k) (.p (.o 3 (some 3) .k) (.p (.o 136 (some 4) .k) (.p (.o 102 (some 5) .k) .k)))))),.v (.int .i64) .k]
noncomputable def asZ (N:Nat) (x:ay Vk) (kf:aa→Option aa):Option aa:=L25 N x.1 x.2.1 (fun r0 z=>kf ⟨[⟨(.int .i64),.k,r0⟩],[⟨bY,(.p (.o 46 (some 0) (.p .k (.p .k (.p .k (.p .k (.p .k (.o 3 none .k))))))) (.p (.o 80 (some 1) (.p .k (.p .k (.o 3 none .k)))) (.p (.o 104 (some 2) .k) (.p (.o 3 (some 3) .k) (.p (.o 136 (some 4) .k) (.p (.o 102 (some 5) .k) .k)))))),z⟩]⟩)
noncomputable def YV (N:Nat):=ar Vk (asZ N)
noncomputable def axh (N:Nat):List Entry:=[⟨110,[.nH,.val],(Qk N)⟩,⟨111,[.nH,.val],(Qm N)⟩,⟨112,[.nH,.val],(Qo N)⟩,⟨113,[.nH,.val],(zj N)⟩,⟨114,[.nH,.val],(Qq N)⟩,⟨115,[.nH,.val],(Qs N)⟩]
theorem axi (N:Nat):bQ Vk (asZ N) asY (axh N) (dP N N) Tryz.f25:=fun _ _=>by kernel_rfl
theorem axj {Γ:Gl} (N:Nat):Sound Γ Tryz.prog 25 (YV N):=fo asY Tryz.f25 (axi N) ⟨aqi N,⟨aqm N,⟨aqq N,⟨LF N,⟨aqu N,⟨aqy N,trivial⟩⟩⟩⟩⟩⟩
noncomputable def wv:List Kd:=.v (.sl (.int .i64)) .k::.v (.int .i64) .k::dn 3 (.v (.int .i64) .k::dn 15 ([]))
noncomputable def zq:List Kd:=dK::.v (.int .i64) .k::dn 19 ([])
noncomputable def zr:List Kd:=dn 4 (.v (.int .i64) .k::dn 16 ([]))
noncomputable def Vl:Hint:={ tab,hn:=[],loops:=[(2,wv)],outs:=[(2,2,zq),(2,1,zr)],bp:=[] }
noncomputable def LL:List AK:=[.v (.sl (.int .i64)) .k,.v (.int .i64) .k]
noncomputable def aiG (N:Nat) (x:ay LL) (kf:aa→Option aa):Option aa:=aeq N x.1 x.2.1 (fun r0=>kf ⟨[⟨(.int .i64),.k,r0⟩],[]⟩)
noncomputable def zt (N:Nat):=ar LL (aiG N)
noncomputable def BP:Code:=aI Tryz.f119
noncomputable def Vm (N n:Nat) (key:Nat) (S:St) (K:Ks):Option aa:=bif Nat.beq key 2 then az wv S (fun x=>sM x.1 n (fun z0=>K (.x 0) (shape zq (z0,()))) (fun z0=>K .r (shape zr (z0,()))) x.2.1 x.2.2.1) else none
theorem aqz (N key:Nat) (S:St) (K:Ks):Vm N 0 key S K=none:=(bE (aq fun _=>rfl) rfl)
noncomputable def Qu:Code:=(af BP).getD 0 .skip
theorem aqA:af BP=[Qu]:=by kernel_rfl
theorem ab1 (N:Nat):dU Vl [] (Vm N) N 2 wv Qu:=fun _ _ _=>by kernel_rfl
theorem aqB (N:Nat):bQ LL (aiG N) Vl [] (Vm N N) Tryz.f119:=fun _ _=>by kernel_rfl
theorem LM {Γ:Gl} (N:Nat):Sound Γ Tryz.prog 119 (zt N):=fq Vl Tryz.f119 BP (aqz N) aqA (aqB N) (rc (ab1 N) trivial) trivial
noncomputable def wx:List Kd:=.v (.sl bj) .k::.v (.int .i64) .k::dn 3 (.v (.int .i64) .k::dn 61 ([]))
noncomputable def zu:List Kd:=dK::.v (.int .i64) .k::dn 65 ([])
noncomputable def zw:List Kd:=dn 4 (.v (.int .i64) .k::dn 62 ([]))
noncomputable def Vn:Hint:={ tab,hn:=[],loops:=[(2,wx)],outs:=[(2,2,zu),(2,1,zw)],bp:=[] }
noncomputable def LN:List AK:=[.v (.sl bj) .k,.v (.int .i64) .k]
noncomputable def aiH (N:Nat) (x:ay LN) (kf:aa→Option aa):Option aa:=auf N x.1 x.2.1 (fun r0=>kf ⟨[⟨(.int .i64),.k,r0⟩],[]⟩)
noncomputable def Qv (N:Nat):=ar LN (aiH N)
noncomputable def YW (N:Nat):List Entry:=[⟨119,[.val,.val],(zt N)⟩]
noncomputable def BQ:Code:=aI Tryz.f116
noncomputable def Vo (N n:Nat) (key:Nat) (S:St) (K:Ks):Option aa:=bif Nat.beq key 2 then az wx S (fun x=>sO N x.1 n (fun z0=>K (.x 0) (shape zu (z0,()))) (fun z0=>K .r (shape zw (z0,()))) x.2.1 x.2.2.1) else none
theorem aqC (N key:Nat) (S:St) (K:Ks):Vo N 0 key S K=none:=(bE (aq fun _=>rfl) rfl)
noncomputable def Qw:Code:=(af BQ).getD 0 .skip
theorem aqD:af BQ=[Qw]:=by kernel_rfl
theorem ab2 (N:Nat):dU Vn (YW N) (Vo N) N 2 wx Qw:=fun _ _ _=>by kernel_rfl
theorem aqE (N:Nat):bQ LN (aiH N) Vn (YW N) (Vo N N) Tryz.f116:=fun _ _=>by kernel_rfl
theorem aqF {Γ:Gl} (N:Nat):Sound Γ Tryz.prog 116 (Qv N):=fq Vn Tryz.f116 BQ (aqC N) aqD (aqE N) (rc (ab2 N) trivial) ⟨LM N,trivial⟩
noncomputable def wy:List Kd:=.v (.sl bS) .k::.v (.int .i64) .k::dn 3 (.v (.int .i64) .k::dn 34 ([]))
noncomputable def zx:List Kd:=dK::.v (.int .i64) .k::dn 38 ([])
noncomputable def zy:List Kd:=dn 4 (.v (.int .i64) .k::dn 35 ([]))
noncomputable def Vp:Hint:={ tab,hn:=[],loops:=[(2,wy)],outs:=[(2,2,zx),(2,1,zy)],bp:=[] }
noncomputable def LO:List AK:=[.v (.sl bS) .k,.v (.int .i64) .k]
noncomputable def aiI (N:Nat) (x:ay LO) (kf:aa→Option aa):Option aa:=aug N x.1 x.2.1 (fun r0=>kf ⟨[⟨(.int .i64),.k,r0⟩],[]⟩)
noncomputable def Qx (N:Nat):=ar LO (aiI N)
noncomputable def YX (N:Nat):List Entry:=[⟨119,[.val,.val],(zt N)⟩]
noncomputable def BR:Code:=aI Tryz.f117
noncomputable def Vq (N n:Nat) (key:Nat) (S:St) (K:Ks):Option aa:=bif Nat.beq key 2 then az wy S (fun x=>sQ N x.1 n (fun z0=>K (.x 0) (shape zx (z0,()))) (fun z0=>K .r (shape zy (z0,()))) x.2.1 x.2.2.1) else none
theorem aqG (N key:Nat) (S:St) (K:Ks):Vq N 0 key S K=none:=(bE (aq fun _=>rfl) rfl)
noncomputable def Qy:Code:=(af BR).getD 0 .skip
theorem aqH:af BR=[Qy]:=by kernel_rfl
theorem ab3 (N:Nat):dU Vp (YX N) (Vq N) N 2 wy Qy:=fun _ _ _=>by kernel_rfl
theorem aqI (N:Nat):bQ LO (aiI N) Vp (YX N) (Vq N N) Tryz.f117:=fun _ _=>by kernel_rfl
theorem aqJ {Γ:Gl} (N:Nat):Sound Γ Tryz.prog 117 (Qx N):=fq Vp Tryz.f117 BR (aqG N) aqH (aqI N) (rc (ab3 N) trivial) ⟨LM N,trivial⟩
noncomputable def wz:List Kd:=.v (.sl aM) .k::.v (.int .i64) .k::dn 3 (.v (.int .i64) .k::dn 25 ([]))
noncomputable def zz:List Kd:=dK::.v (.int .i64) .k::dn 29 ([])
noncomputable def zA:List Kd:=dn 4 (.v (.int .i64) .k::dn 26 ([]))
noncomputable def Vr:Hint:={ tab,hn:=[],loops:=[(2,wz)],outs:=[(2,2,zz),(2,1,zA)],bp:=[] }
noncomputable def LP:List AK:=[.v (.sl aM) .k,.v (.int .i64) .k]
noncomputable def aiJ (N:Nat) (x:ay LP) (kf:aa→Option aa):Option aa:=auh N x.1 x.2.1 (fun r0=>kf ⟨[⟨(.int .i64),.k,r0⟩],[]⟩)
noncomputable def Qz (N:Nat):=ar LP (aiJ N)
noncomputable def BS:Code:=aI Tryz.f118
noncomputable def Vs (N n:Nat) (key:Nat) (S:St) (K:Ks):Option aa:=bif Nat.beq key 2 then az wz S (fun x=>sR x.1 n (fun z0=>K (.x 0) (shape zz (z0,()))) (fun z0=>K .r (shape zA (z0,()))) x.2.1 x.2.2.1) else none
theorem aqK (N key:Nat) (S:St) (K:Ks):Vs N 0 key S K=none:=(bE (aq fun _=>rfl) rfl)
noncomputable def QA:Code:=(af BS).getD 0 .skip
theorem aqL:af BS=[QA]:=by kernel_rfl
theorem ab4 (N:Nat):dU Vr [] (Vs N) N 2 wz QA:=fun _ _ _=>by kernel_rfl
theorem aqM (N:Nat):bQ LP (aiJ N) Vr [] (Vs N N) Tryz.f118:=fun _ _=>by kernel_rfl
theorem aqN {Γ:Gl} (N:Nat):Sound Γ Tryz.prog 118 (Qz N):=fq Vr Tryz.f118 BS (aqK N) aqL (aqM N) (rc (ab4 N) trivial) trivial
noncomputable def wA:List Kd:=.v (.sl de) .k::.v (.int .i64) .k::dn 3 (.v (.int .i64) .k::dn 34 ([]))
noncomputable def zB:List Kd:=dK::.v (.int .i64) .k::dn 38 ([])
noncomputable def zC:List Kd:=dn 4 (.v (.int .i64) .k::dn 35 ([]))
noncomputable def Vt:Hint:={ tab,hn:=[],loops:=[(2,wA)],outs:=[(2,2,zB),(2,1,zC)],bp:=[] }
noncomputable def LQ:List AK:=[.v (.sl de) .k,.v (.int .i64) .k]
noncomputable def aiK (N:Nat) (x:ay LQ) (kf:aa→Option aa):Option aa:=aui N x.1 x.2.1 (fun r0=>kf ⟨[⟨(.int .i64),.k,r0⟩],[]⟩)
noncomputable def QD (N:Nat):=ar LQ (aiK N)
noncomputable def BT:Code:=aI Tryz.f120
noncomputable def Vu (N n:Nat) (key:Nat) (S:St) (K:Ks):Option aa:=bif Nat.beq key 2 then az wA S (fun x=>sS x.1 n (fun z0=>K (.x 0) (shape zB (z0,()))) (fun z0=>K .r (shape zC (z0,()))) x.2.1 x.2.2.1) else none
theorem aqO (N key:Nat) (S:St) (K:Ks):Vu N 0 key S K=none:=(bE (aq fun _=>rfl) rfl)
noncomputable def QE:Code:=(af BT).getD 0 .skip
theorem aqP:af BT=[QE]:=by kernel_rfl
theorem ab5 (N:Nat):dU Vt [] (Vu N) N 2 wA QE:=fun _ _ _=>by kernel_rfl
theorem aqQ (N:Nat):bQ LQ (aiK N) Vt [] (Vu N N) Tryz.f120:=fun _ _=>by kernel_rfl
theorem aqR {Γ:Gl} (N:Nat):Sound Γ Tryz.prog 120 (QD N):=fq Vt Tryz.f120 BT (aqO N) aqP (aqQ N) (rc (ab5 N) trivial) trivial
noncomputable def wB:List Kd:=.v (.sl df) .k::.v (.int .i64) .k::dn 3 (.v (.int .i64) .k::dn 43 ([]))
noncomputable def zD:List Kd:=dK::.v (.int .i64) .k::dn 47 ([])
noncomputable def zE:List Kd:=dn 4 (.v (.int .i64) .k::dn 44 ([]))
noncomputable def Vv:Hint:={ tab,hn:=[],loops:=[(2,wB)],outs:=[(2,2,zD),(2,1,zE)],bp:=[] }
noncomputable def LR:List AK:=[.v (.sl df) .k,.v (.int .i64) .k]
noncomputable def aiL (N:Nat) (x:ay LR) (kf:aa→Option aa):Option aa:=auj N x.1 x.2.1 (fun r0=>kf ⟨[⟨(.int .i64),.k,r0⟩],[]⟩)
noncomputable def QF (N:Nat):=ar LR (aiL N)
noncomputable def BU:Code:=aI Tryz.f121
noncomputable def Vw (N n:Nat) (key:Nat) (S:St) (K:Ks):Option aa:=bif Nat.beq key 2 then az wB S (fun x=>sU x.1 n (fun z0=>K (.x 0) (shape zD (z0,()))) (fun z0=>K .r (shape zE (z0,()))) x.2.1 x.2.2.1) else none
theorem aqS (N key:Nat) (S:St) (K:Ks):Vw N 0 key S K=none:=(bE (aq fun _=>rfl) rfl)
noncomputable def QG:Code:=(af BU).getD 0 .skip
theorem aqT:af BU=[QG]:=by kernel_rfl
theorem ab6 (N:Nat):dU Vv [] (Vw N) N 2 wB QG:=fun _ _ _=>by kernel_rfl
theorem aqU (N:Nat):bQ LR (aiL N) Vv [] (Vw N N) Tryz.f121:=fun _ _=>by kernel_rfl
theorem aqV {Γ:Gl} (N:Nat):Sound Γ Tryz.prog 121 (QF N):=fq Vv Tryz.f121 BU (aqS N) aqT (aqU N) (rc (ab6 N) trivial) trivial
noncomputable def Vx:List AK:=[.v bY .k,.v (.int .i64) .k]
noncomputable def as0 (N:Nat) (x:ay Vx) (kf:aa→Option aa):Option aa:=L26 N x.1 x.2.1 (fun r0=>kf ⟨[⟨(.int .i64),.k,r0⟩],[]⟩)
noncomputable def YY (N:Nat):=ar Vx (as0 N)
noncomputable def axk (N:Nat):List Entry:=[⟨116,[.val,.val],(Qv N)⟩,⟨117,[.val,.val],(Qx N)⟩,⟨118,[.val,.val],(Qz N)⟩,⟨119,[.val,.val],(zt N)⟩,⟨120,[.val,.val],(QD N)⟩,⟨121,[.val,.val],(QF N)⟩]
theorem axl (N:Nat):bQ Vx (as0 N) hq (axk N) (dP N N) Tryz.f26:=fun _ _=>by kernel_rfl
theorem axm {Γ:Gl} (N:Nat):Sound Γ Tryz.prog 26 (YY N):=fo hq Tryz.f26 (axl N) ⟨aqF N,⟨aqJ N,⟨aqN N,⟨LM N,⟨aqR N,⟨aqV N,trivial⟩⟩⟩⟩⟩⟩
noncomputable def wC:List Kd:=dK::.v (.ptr bY) (.o 31 none .k)::dK::.v (.sl (.int .i64)) (.o 3 none .k)::.v (.ptr de) (.o 136 none .k)::.v (.int .i64) .k::dn 21 ([])
noncomputable def zF:List Kd:=dn 3 (.v (.sl (.int .i64)) (.o 3 none .k)::dn 23 ([]))
noncomputable def Vy:Hint:={ tab,hn:=[],loops:=[(4,wC)],outs:=[(4,2,zF)],bp:=[(6,(OT.seq [0,1,2,3,4,5,6] .done))] }
noncomputable def LS:List AK:=[.v bY .k]
noncomputable def aiM (N:Nat) (x:ay LS) (kf:aa→Option aa):Option aa:=akg N x.1 (fun r0=>kf ⟨[⟨(.sl (.int .i64)),(.o 3 none .k),r0⟩],[]⟩)
noncomputable def QH (N:Nat):=ar LS (aiM N)
noncomputable def BV:Code:=aI Tryz.f123
noncomputable def Vz (N n:Nat) (key:Nat) (S:St) (K:Ks):Option aa:=bif Nat.beq key 4 then az wC S (fun x=>m8 x.1 x.2.2.1 n (fun z0=>K (.x 0) (shape zF (z0,()))) x.2.1 x.2.2.2.1) else none
theorem aqW (N key:Nat) (S:St) (K:Ks):Vz N 0 key S K=none:=(bE (aq fun _=>rfl) rfl)
noncomputable def QI:Code:=(af BV).getD 0 .skip
theorem aqX:af BV=[QI]:=by kernel_rfl
theorem ab7 (N:Nat):dU Vy [] (Vz N) N 4 wC QI:=fun _ _ _=>by kernel_rfl
theorem aqY (N:Nat):bQ LS (aiM N) Vy [] (Vz N N) Tryz.f123:=fun _ _=>by kernel_rfl
theorem aqZ {Γ:Gl} (N:Nat):Sound Γ Tryz.prog 123 (QH N):=fq Vy Tryz.f123 BV (aqW N) aqX (aqY N) (rc (ab7 N) trivial) trivial
noncomputable def wD:List Kd:=.v (.sl de) .k::dK::dK::.v (.int .i64) .k::dn 33 ([])
noncomputable def zG:List Kd:=.v (.sl de) .k::dn 36 ([])
noncomputable def zH:List Kd:=dK::dK::.v .bool .k::dn 34 ([])
noncomputable def VA:Hint:={ tab,hn:=[],loops:=[(2,wD)],outs:=[(2,2,zG),(2,1,zH)],bp:=[(4,(OT.seq [0,1,2,3,4,5,6,7,8,9,10,11,12,13,14,15,16,17,18,19,20,21,22,23] .done))] }
noncomputable def LU:List AK:=[.v (.sl de) .k]
noncomputable def aiN (N:Nat) (x:ay LU) (kf:aa→Option aa):Option aa:=SB N x.1 (fun r0=>kf ⟨[⟨.bool,.k,r0⟩],[]⟩)
noncomputable def zI (N:Nat):=ar LU (aiN N)
noncomputable def YZ (N:Nat):List Entry:=[⟨199,[.val],(yY N)⟩]
noncomputable def BW:Code:=aI Tryz.f201
noncomputable def VB (N n:Nat) (key:Nat) (S:St) (K:Ks):Option aa:=bif Nat.beq key 2 then az wD S (fun x=>m9 N x.1 n (K (.x 0) (shape zG (x.1,()))) (fun z0=>K .r (shape zH (z0,()))) x.2.1) else none
theorem aq0 (N key:Nat) (S:St) (K:Ks):VB N 0 key S K=none:=(bE (aq fun _=>rfl) rfl)
noncomputable def QK:Code:=(af BW).getD 0 .skip
theorem aq1:af BW=[QK]:=by kernel_rfl
theorem ab8 (N:Nat):dU VA (YZ N) (VB N) N 2 wD QK:=fun _ _ _=>by kernel_rfl
theorem aq2 (N:Nat):bQ LU (aiN N) VA (YZ N) (VB N N) Tryz.f201:=fun _ _=>by kernel_rfl
theorem LV {Γ:Gl} (N:Nat):Sound Γ Tryz.prog 201 (zI N):=fq VA Tryz.f201 BW (aq0 N) aq1 (aq2 N) (rc (ab8 N) trivial) ⟨Ln N,trivial⟩
noncomputable def LW:List AK:=[.v de .k]
noncomputable def aiO (N:Nat) (x:ay LW) (kf:aa→Option aa):Option aa:=aab N x.1 (fun r0=>kf ⟨[⟨(.int .i64),.k,r0⟩],[]⟩)
noncomputable def Gp (N:Nat):=ar LW (aiO N)
theorem aq3 (N:Nat):bQ LW (aiO N) hq [] (dP N N) Tryz.f204:=fun _ _=>by kernel_rfl
theorem Y0 {Γ:Gl} (N:Nat):Sound Γ Tryz.prog 204 (Gp N):=fo hq Tryz.f204 (aq3 N) trivial
noncomputable def wE:List Kd:=.v (.sl de) .k::.v (.int .i64) .k::dn 3 (.v (.int .i64) .k::.v (.int .i64) .k::dn 20 ([]))
noncomputable def zJ:List Kd:=dn 5 (.v (.int .i64) .k::dn 21 ([]))
noncomputable def VC:Hint:={ tab,hn:=[],loops:=[(3,wE)],outs:=[(3,2,zJ)],bp:=[] }
noncomputable def LX:List AK:=[.v (.sl de) .k,.v (.int .i64) .k]
noncomputable def aiP (N:Nat) (x:ay LX) (kf:aa→Option aa):Option aa:=aes N x.1 x.2.1 (fun r0=>kf ⟨[⟨(.int .i64),.k,r0⟩],[]⟩)
noncomputable def QM (N:Nat):=ar LX (aiP N)
noncomputable def Y1 (N:Nat):List Entry:=[⟨201,[.val],(zI N)⟩,⟨204,[.val],(Gp N)⟩]
noncomputable def BX:Code:=aI Tryz.f202
noncomputable def VE (N n:Nat) (key:Nat) (S:St) (K:Ks):Option aa:=bif Nat.beq key 3 then az wE S (fun x=>na N x.1 x.2.1 n (fun z0=>K (.x 0) (shape zJ (z0,()))) x.2.2.1 x.2.2.2.1) else none
theorem aq4 (N key:Nat) (S:St) (K:Ks):VE N 0 key S K=none:=(bE (aq fun _=>rfl) rfl)
noncomputable def QN:Code:=(af BX).getD 0 .skip
theorem aq5:af BX=[QN]:=by kernel_rfl
theorem ab9 (N:Nat):dU VC (Y1 N) (VE N) N 3 wE QN:=fun _ _ _=>by kernel_rfl
theorem aq6 (N:Nat):bQ LX (aiP N) VC (Y1 N) (VE N N) Tryz.f202:=fun _ _=>by kernel_rfl
theorem aq7 {Γ:Gl} (N:Nat):Sound Γ Tryz.prog 202 (QM N):=fq VC Tryz.f202 BX (aq4 N) aq5 (aq6 N) (rc (ab9 N) trivial) ⟨LV N,⟨Y0 N,trivial⟩⟩
noncomputable def wF:List Kd:=.v (.sl de) .k::.v (.int .i64) .k::dn 3 (.v (.int .i64) .k::.v (.int .i64) .k::dn 30 ([]))
noncomputable def zK:List Kd:=dn 5 (.v (.int .i64) .k::dn 31 ([]))
noncomputable def VF:Hint:={ tab,hn:=[],loops:=[(3,wF)],outs:=[(3,2,zK)],bp:=[] }
noncomputable def LY:List AK:=[.v (.sl de) .k,.v (.int .i64) .k]
noncomputable def aiQ (N:Nat) (x:ay LY) (kf:aa→Option aa):Option aa:=auk N x.1 x.2.1 (fun r0=>kf ⟨[⟨(.int .i64),.k,r0⟩],[]⟩)
noncomputable def QO (N:Nat):=ar LY (aiQ N)
noncomputable def Y2 (N:Nat):List Entry:=[⟨201,[.val],(zI N)⟩]
noncomputable def BY:Code:=aI Tryz.f203
noncomputable def VG (N n:Nat) (key:Nat) (S:St) (K:Ks):Option aa:=bif Nat.beq key 3 then az wF S (fun x=>xr N x.1 x.2.1 n (fun z0=>K (.x 0) (shape zK (z0,()))) x.2.2.1 x.2.2.2.1) else none
theorem aq8 (N key:Nat) (S:St) (K:Ks):VG N 0 key S K=none:=(bE (aq fun _=>rfl) rfl)
noncomputable def QP:Code:=(af BY).getD 0 .skip
theorem aq9:af BY=[QP]:=by kernel_rfl
theorem ab' (N:Nat):dU VF (Y2 N) (VG N) N 3 wF QP:=fun _ _ _=>by kernel_rfl
theorem aq' (N:Nat):bQ LY (aiQ N) VF (Y2 N) (VG N N) Tryz.f203:=fun _ _=>by kernel_rfl
theorem ara {Γ:Gl} (N:Nat):Sound Γ Tryz.prog 203 (QO N):=fq VF Tryz.f203 BY (aq8 N) aq9 (aq' N) (rc (ab' N) trivial) ⟨LV N,trivial⟩
noncomputable def LZ:List AK:=[.v (.sl de) .k]
noncomputable def aiR (N:Nat) (x:ay LZ) (kf:aa→Option aa):Option aa:=aac N x.1 (fun r0=>kf ⟨[⟨(.int .i64),.k,r0⟩],[]⟩)
noncomputable def QQ (N:Nat):=ar LZ (aiR N)
noncomputable def arb (N:Nat):List Entry:=[⟨201,[.val],(zI N)⟩,⟨202,[.val,.val],(QM N)⟩,⟨203,[.val,.val],(QO N)⟩,⟨204,[.val],(Gp N)⟩]
theorem arc (N:Nat):bQ LZ (aiR N) hq (arb N) (dP N N) Tryz.f125:=fun _ _=>by kernel_rfl
theorem ard {Γ:Gl} (N:Nat):Sound Γ Tryz.prog 125 (QQ N):=fo hq Tryz.f125 (arc N) ⟨LV N,⟨aq7 N,⟨ara N,⟨Y0 N,trivial⟩⟩⟩⟩
noncomputable def L0:List AK:=[.v (.sl bj) .k,.v (.int .i64) .k,.v (.int .i64) .k,.v (.int .i64) .k,.v (.int .i64) .k,.v (.int .i64) .k]
noncomputable def aiS (N:Nat) (x:ay L0) (kf:aa→Option aa):Option aa:=aad N x.1 x.2.1 x.2.2.1 x.2.2.2.1 x.2.2.2.2.1 x.2.2.2.2.2.1 (fun r0 r1=>kf ⟨[⟨(.sl bj),(.o 46 none (.p .k (.p .k (.p .k (.p .k (.p .k (.o 3 none .k))))))),r0⟩,⟨.bool,.k,r1⟩],[]⟩)
noncomputable def QR (N:Nat):=ar L0 (aiS N)
noncomputable def are (N:Nat):List Entry:=[⟨173,[.val],(sj N)⟩,⟨200,[.val,.val],(kE N)⟩,⟨175,[.val],(gQ N)⟩,⟨195,[.val,.val,.val],(jo N)⟩]
theorem arf (N:Nat):bQ L0 (aiS N) hq (are N) (dP N N) Tryz.f124:=fun _ _=>by kernel_rfl
theorem arh {Γ:Gl} (N:Nat):Sound Γ Tryz.prog 124 (QR N):=fo hq Tryz.f124 (arf N) ⟨DF N,⟨qi N,⟨lF N,⟨nm N,trivial⟩⟩⟩⟩
noncomputable def wG:List Kd:=.v (.sl (.int .i64)) .k::.v (.int .i64) .k::dn 3 (.v (.int .i64) .k::dn 41 ([]))
noncomputable def zL:List Kd:=.v (.sl (.int .i64)) .k::.v (.int .i64) .k::dn 3 (.v (.int .i64) .k::dn 41 ([]))
noncomputable def VH:Hint:={ tab,hn:=[],loops:=[(2,wG)],outs:=[(2,2,zL)],bp:=[(6,(OT.seq [1,2,3,5,8,9,10] (.any [0,4,6] (OT.seq [7,11,12] .done))))] }
noncomputable def L1:List AK:=[.v (.sl (.int .i64)) .k,.v (.int .i64) .k]
noncomputable def aiT (N:Nat) (x:ay L1) (kf:aa→Option aa):Option aa:=u5 N x.1 x.2.1 (fun r0=>kf ⟨[⟨(.sl (.int .i64)),(.o 3 none .k),r0⟩],[]⟩)
noncomputable def QS (N:Nat):=ar L1 (aiT N)
noncomputable def BZ:Code:=aI Tryz.f127
noncomputable def VI (N n:Nat) (key:Nat) (S:St) (K:Ks):Option aa:=bif Nat.beq key 2 then az wG S (fun x=>p7 x.1 x.2.1 n (fun z0=>K (.x 0) (shape zL (x.1,x.2.1,z0,()))) x.2.2.1) else none
theorem ari (N key:Nat) (S:St) (K:Ks):VI N 0 key S K=none:=(bE (aq fun _=>rfl) rfl)
noncomputable def QU:Code:=(af BZ).getD 0 .skip
theorem arj:af BZ=[QU]:=by kernel_rfl
theorem aca (N:Nat):dU VH [] (VI N) N 2 wG QU:=fun _ _ _=>by kernel_rfl
theorem ark (N:Nat):bQ L1 (aiT N) VH [] (VI N N) Tryz.f127:=fun _ _=>by kernel_rfl
theorem arl {Γ:Gl} (N:Nat):Sound Γ Tryz.prog 127 (QS N):=fq VH Tryz.f127 BZ (ari N) arj (ark N) (rc (aca N) trivial) trivial
noncomputable def B0:List Kd:=dK::.v (.ptr bY) (.o 31 none .k)::.v (.ptr bY) (.o 31 none (.p (.o 46 none (.p .k (.p .k (.p .k (.p .k (.p .k (.o 3 none .k))))))) (.p (.o 80 none (.p .k (.p .k (.o 3 none .k)))) (.p (.o 104 none .k) (.p (.o 3 none .k) (.p (.o 136 none .k) (.p (.o 102 none .k) .k)))))))::dK::.v (.ptr bY) (.o 31 none (.p (.o 46 none (.p .k (.p .k (.p .k (.p .k (.p .k (.o 3 none .k))))))) (.p (.o 80 none (.p .k (.p .k (.o 3 none .k)))) (.p (.o 104 none .k) (.p (.o 3 none .k) (.p (.o 136 none .k) (.p (.o 102 none .k) .k)))))))::.v .bool .k::.v (.int .i64) .k::dn 113 ([])
noncomputable def C5:List Kd:=dK::.v (.ptr bY) (.o 31 none .k)::.v (.ptr bY) (.o 31 none (.p (.o 46 none (.p .k (.p .k (.p .k (.p .k (.p .k (.o 3 none .k))))))) (.p (.o 80 none (.p .k (.p .k (.o 3 none .k)))) (.p (.o 104 none .k) (.p (.o 3 none .k) (.p (.o 136 none .k) (.p (.o 102 none .k) .k)))))))::dK::.v (.ptr bY) (.o 31 none (.p (.o 46 none (.p .k (.p .k (.p .k (.p .k (.p .k (.o 3 none .k))))))) (.p (.o 80 none (.p .k (.p .k (.o 3 none .k)))) (.p (.o 104 none .k) (.p (.o 3 none .k) (.p (.o 136 none .k) (.p (.o 102 none .k) .k)))))))::.v .bool .k::dn 114 ([])
noncomputable def aiU:Hint:={ tab,hn:=[],loops:=[(6,B0)],outs:=[(6,2,C5)],bp:=[(9,(OT.seq [0,1,2,3,4,5,6,7,8,9,10,11,12,13,14,17,18,19,20,15,16,21,22,23,24,25,26] .done)),(12,(OT.seq [0,1,2,3,4,5,6,7,8] .done)),(13,(OT.seq [0,1,2,3,4,5,6,7,8,9,10,11,12,13,14,16,17,18,19,20,21,15,22,23,24,25] .done))] }
noncomputable def VJ:List AK:=[.v bY .k]
noncomputable def as1 (N:Nat) (x:ay VJ) (kf:aa→Option aa):Option aa:=S27 N x.1 (fun r0 r1=>kf ⟨[⟨bY,(.p (.o 46 none (.p .k (.p .k (.p .k (.p .k (.p .k (.o 3 none .k))))))) (.p (.o 80 none (.p .k (.p .k (.o 3 none .k)))) (.p (.o 104 none .k) (.p (.o 3 none .k) (.p (.o 136 none .k) (.p (.o 102 none .k) .k)))))),r0⟩,⟨.bool,.k,r1⟩],[]⟩)
noncomputable def Y3 (N:Nat):=ar VJ (as1 N)
noncomputable def aiV (N:Nat):List Entry:=[⟨90,[.val],(lE N)⟩,⟨122,[.val],(y3 N)⟩,⟨94,[.val],(yN N)⟩,⟨123,[.val],(QH N)⟩,⟨125,[.val],(QQ N)⟩,⟨124,[.val,.val,.val,.val,.val,.val],(QR N)⟩,⟨126,[.val,.val],(Gn N)⟩,⟨127,[.val,.val],(QS N)⟩,⟨93,[.val,.take,.val,.val,.val],(qj N)⟩]
noncomputable def Gq:Code:=aI Tryz.f27
noncomputable def aiW (N n:Nat) (key:Nat) (S:St) (K:Ks):Option aa:=bif Nat.beq key 6 then az B0 S (fun x=>rF N x.1 x.2.1 n (fun z0 z1=>K (.x 0) (shape C5 (x.1,x.2.1,z0,z1,()))) x.2.2.1 x.2.2.2.1 x.2.2.2.2.1) else none
theorem axn (N key:Nat) (S:St) (K:Ks):aiW N 0 key S K=none:=(bE (aq fun _=>rfl) rfl)
noncomputable def Y4:Code:=(af Gq).getD 0 .skip
theorem axo:af Gq=[Y4]:=by kernel_rfl
theorem aiX (N:Nat):dU aiU (aiV N) (aiW N) N 6 B0 Y4:=fun _ _ _=>by kernel_rfl
theorem axp (N:Nat):bQ VJ (as1 N) aiU (aiV N) (aiW N N) Tryz.f27:=fun _ _=>by kernel_rfl
theorem axq {Γ:Gl} (N:Nat):Sound Γ Tryz.prog 27 (Y3 N):=fq aiU Tryz.f27 Gq (axn N) axo (axp N) (rc (aiX N) trivial) ⟨sk N,⟨Lp N,⟨La N,⟨aqZ N,⟨ard N,⟨arh N,⟨YJ N,⟨arl N,⟨BC N,trivial⟩⟩⟩⟩⟩⟩⟩⟩⟩
noncomputable def wH:List Kd:=dK::.v (.int .i64) .k::.v (.int .i64) .k::.v (.ptr bY) (.o 31 none .k)::dK::dK::.v (.ptr bY) (.o 31 none (.p (.o 46 none (.p .k (.p .k (.p .k (.p .k (.p .k (.o 3 none .k))))))) (.p (.o 80 none (.p .k (.p .k (.o 3 none .k)))) (.p (.o 104 none .k) (.p (.o 3 none .k) (.p (.o 136 none .k) (.p (.o 102 none .k) .k)))))))::dK::.v (.ptr bY) (.o 31 none (.p (.o 46 none (.p .k (.p .k (.p .k (.p .k (.p .k (.o 3 none .k))))))) (.p (.o 80 none (.p .k (.p .k (.o 3 none .k)))) (.p (.o 104 none .k) (.p (.o 3 none .k) (.p (.o 136 none .k) (.p (.o 102 none .k) .k)))))))::.v (.int .i64) .k::dn 45 ([])
noncomputable def zM:List Kd:=dK::.v (.int .i64) .k::.v (.int .i64) .k::.v (.ptr bY) (.o 31 none .k)::dK::dK::.v (.ptr bY) (.o 31 none (.p (.o 46 none (.p .k (.p .k (.p .k (.p .k (.p .k (.o 3 none .k))))))) (.p (.o 80 none (.p .k (.p .k (.o 3 none .k)))) (.p (.o 104 none .k) (.p (.o 3 none .k) (.p (.o 136 none .k) (.p (.o 102 none .k) .k)))))))::dK::.v (.ptr bY) (.o 31 none (.p (.o 46 none (.p .k (.p .k (.p .k (.p .k (.p .k (.o 3 none .k))))))) (.p (.o 80 none (.p .k (.p .k (.o 3 none .k)))) (.p (.o 104 none .k) (.p (.o 3 none .k) (.p (.o 136 none .k) (.p (.o 102 none .k) .k)))))))::.v (.int .i64) .k::dn 45 ([])
noncomputable def VK:Hint:={ tab,hn:=[],loops:=[(3,wH)],outs:=[(3,2,zM)],bp:=[(5,(OT.seq [0,1,2,3,5,6,7,10,12] (.any [4,8,9,11,13] (OT.seq [14,15,16,17] .done)))),(6,(OT.seq [0,1,2,5,3,4,6,7,8,9,10] .done))] }
noncomputable def L2:List AK:=[.v bY .k,.v (.int .i64) .k,.v (.int .i64) .k]
noncomputable def aiY (N:Nat) (x:ay L2) (kf:aa→Option aa):Option aa:=akj N x.1 x.2.1 x.2.2.1 (fun r0 r1=>kf ⟨[⟨bY,(.p (.o 46 none (.p .k (.p .k (.p .k (.p .k (.p .k (.o 3 none .k))))))) (.p (.o 80 none (.p .k (.p .k (.o 3 none .k)))) (.p (.o 104 none .k) (.p (.o 3 none .k) (.p (.o 136 none .k) (.p (.o 102 none .k) .k)))))),r0⟩,⟨.bool,.k,r1⟩],[]⟩)
noncomputable def QV (N:Nat):=ar L2 (aiY N)
noncomputable def Y5 (N:Nat):List Entry:=[⟨90,[.val],(lE N)⟩,⟨173,[.val],(sj N)⟩,⟨94,[.val],(yN N)⟩,⟨93,[.val,.take,.val,.val,.val],(qj N)⟩]
noncomputable def B2:Code:=aI Tryz.f141
noncomputable def VL (N n:Nat) (key:Nat) (S:St) (K:Ks):Option aa:=bif Nat.beq key 3 then az wH S (fun x=>nb x.1 x.2.1 x.2.2.1 x.2.2.2.1 x.2.2.2.2.1 n (fun z0=>K (.x 0) (shape zM (x.1,x.2.1,x.2.2.1,x.2.2.2.1,x.2.2.2.2.1,z0,()))) x.2.2.2.2.2.1) else none
theorem arn (N key:Nat) (S:St) (K:Ks):VL N 0 key S K=none:=(bE (aq fun _=>rfl) rfl)
noncomputable def QW:Code:=(af B2).getD 0 .skip
theorem aro:af B2=[QW]:=by kernel_rfl
theorem acb (N:Nat):dU VK (Y5 N) (VL N) N 3 wH QW:=fun _ _ _=>by kernel_rfl
theorem arp (N:Nat):bQ L2 (aiY N) VK (Y5 N) (VL N N) Tryz.f141:=fun _ _=>by kernel_rfl
theorem arq {Γ:Gl} (N:Nat):Sound Γ Tryz.prog 141 (QV N):=fq VK Tryz.f141 B2 (arn N) aro (arp N) (rc (acb N) trivial) ⟨sk N,⟨DF N,⟨La N,⟨BC N,trivial⟩⟩⟩⟩
noncomputable def wI:List Kd:=dK::.v (.int .i64) .k::.v (.int .i64) .k::.v (.ptr bY) (.o 31 none .k)::dK::dK::.v (.ptr bY) (.o 31 none (.p (.o 46 none (.p .k (.p .k (.p .k (.p .k (.p .k (.o 3 none .k))))))) (.p (.o 80 none (.p .k (.p .k (.o 3 none .k)))) (.p (.o 104 none .k) (.p (.o 3 none .k) (.p (.o 136 none .k) (.p (.o 102 none .k) .k)))))))::dK::.v (.ptr bY) (.o 31 none (.p (.o 46 none (.p .k (.p .k (.p .k (.p .k (.p .k (.o 3 none .k))))))) (.p (.o 80 none (.p .k (.p .k (.o 3 none .k)))) (.p (.o 104 none .k) (.p (.o 3 none .k) (.p (.o 136 none .k) (.p (.o 102 none .k) .k)))))))::.v (.int .i64) .k::dn 42 ([])
noncomputable def zN:List Kd:=dK::.v (.int .i64) .k::.v (.int .i64) .k::.v (.ptr bY) (.o 31 none .k)::dK::dK::.v (.ptr bY) (.o 31 none (.p (.o 46 none (.p .k (.p .k (.p .k (.p .k (.p .k (.o 3 none .k))))))) (.p (.o 80 none (.p .k (.p .k (.o 3 none .k)))) (.p (.o 104 none .k) (.p (.o 3 none .k) (.p (.o 136 none .k) (.p (.o 102 none .k) .k)))))))::dK::.v (.ptr bY) (.o 31 none (.p (.o 46 none (.p .k (.p .k (.p .k (.p .k (.p .k (.o 3 none .k))))))) (.p (.o 80 none (.p .k (.p .k (.o 3 none .k)))) (.p (.o 104 none .k) (.p (.o 3 none .k) (.p (.o 136 none .k) (.p (.o 102 none .k) .k)))))))::.v (.int .i64) .k::dn 42 ([])
noncomputable def VM:Hint:={ tab,hn:=[],loops:=[(3,wI)],outs:=[(3,2,zN)],bp:=[(5,(OT.seq [0,1,2,3,5,6,7,10,12] (.any [4,8,9,11,13] (OT.seq [14,15,16,17] .done))))] }
noncomputable def L3:List AK:=[.v bY .k,.v (.int .i64) .k,.v (.int .i64) .k]
noncomputable def aiZ (N:Nat) (x:ay L3) (kf:aa→Option aa):Option aa:=akk N x.1 x.2.1 x.2.2.1 (fun r0 r1=>kf ⟨[⟨bY,(.p (.o 46 none (.p .k (.p .k (.p .k (.p .k (.p .k (.o 3 none .k))))))) (.p (.o 80 none (.p .k (.p .k (.o 3 none .k)))) (.p (.o 104 none .k) (.p (.o 3 none .k) (.p (.o 136 none .k) (.p (.o 102 none .k) .k)))))),r0⟩,⟨.bool,.k,r1⟩],[]⟩)
noncomputable def QX (N:Nat):=ar L3 (aiZ N)
noncomputable def Y6 (N:Nat):List Entry:=[⟨90,[.val],(lE N)⟩,⟨174,[.val],(Ge N)⟩,⟨93,[.val,.take,.val,.val,.val],(qj N)⟩]
noncomputable def B3:Code:=aI Tryz.f160
noncomputable def VN (N n:Nat) (key:Nat) (S:St) (K:Ks):Option aa:=bif Nat.beq key 3 then az wI S (fun x=>nc x.1 x.2.1 x.2.2.1 x.2.2.2.1 x.2.2.2.2.1 n (fun z0=>K (.x 0) (shape zN (x.1,x.2.1,x.2.2.1,x.2.2.2.1,x.2.2.2.2.1,z0,()))) x.2.2.2.2.2.1) else none
theorem ars (N key:Nat) (S:St) (K:Ks):VN N 0 key S K=none:=(bE (aq fun _=>rfl) rfl)
noncomputable def QY:Code:=(af B3).getD 0 .skip
theorem art:af B3=[QY]:=by kernel_rfl
theorem acd (N:Nat):dU VM (Y6 N) (VN N) N 3 wI QY:=fun _ _ _=>by kernel_rfl
theorem aru (N:Nat):bQ L3 (aiZ N) VM (Y6 N) (VN N N) Tryz.f160:=fun _ _=>by kernel_rfl
theorem arv {Γ:Gl} (N:Nat):Sound Γ Tryz.prog 160 (QX N):=fq VM Tryz.f160 B3 (ars N) art (aru N) (rc (acd N) trivial) ⟨sk N,⟨Yv N,⟨BC N,trivial⟩⟩⟩
end Go.Pv.R
