/- Each function of the program that the law reaches computes its plain function, part 4. -/
import Derived.Test.YtcpakhaogbempaaGreatSnd3
import Derived.Test.YtcpakhaogbempaaGreatProg
namespace Go.Pv.R
open Go.Proofs
set_option linter.unusedVariables false
set_option maxRecDepth 100000
noncomputable def ajL:Hint:={ tab,hn:=[],loops:=[],outs:=[],bj:=[(3,(OT.seq [0,1,2,3,4,5,6,7,8,9,10,11,12,13,14,15,16,17,18,19,20] .done)),(5,(OT.seq [0,1,2,3,4,5,6,7,8,9,10,11,12] .done)),(6,(OT.seq [0,1,2,3,4,5,6,8,9,10,11,12,7,13,14,15,16,17] .done))] }
noncomputable def MB:List AK:=[.v bM .k,.v (.int .i64) .k,.v (.int .i64) .k,.v (.int .i64) .k]
noncomputable def ajM (N:Nat) (x:aw MB) (kf:aa→Option aa):Option aa:=alp N x.1 x.2.1 x.2.2.1 x.2.2.2.1 (fun r0 r1=>kf ⟨[⟨bM,(.p (.o 46 none (.p .k (.p .k (.p .k (.p .k (.p .k (.o 3 none .k))))))) (.p (.o 80 none (.p .k (.p .k (.o 3 none .k)))) (.p (.o 104 none .k) (.p (.o 3 none .k) (.p (.o 136 none .k) (.p (.o 102 none .k) .k)))))),r0⟩,⟨.bool,.k,r1⟩],[]⟩)
noncomputable def Ru (N:Nat):=au MB (ajM N)
noncomputable def asC (N:Nat):List Entry:=[⟨90,[.val],(kn N)⟩,⟨122,[.val],(zg N)⟩,⟨195,[.val,.val,.val],(jo N)⟩,⟨199,[.val],(zd N)⟩,⟨93,[.val,.take,.val,.val,.val],(qt N)⟩]
theorem asD (N:Nat):bL MB (ajM N) ajL (asC N) (dO N N) Tryz.f139:=fun _ _=>by kernel_rfl
theorem asE {Γ:Gl} (N:Nat):Sound Γ Tryz.prog 139 (Ru N):=e9 ajL Tryz.f139 (asD N) ⟨qq N,⟨LX N,⟨nr N,⟨LV N,⟨BO N,trivial⟩⟩⟩⟩⟩
noncomputable def Cf:List Kd:=dn 4 (.v (.ptr bM) (.o 31 none (.p (.o 46 none (.p .k (.p .k (.p .k (.p .k (.p .k (.o 3 none .k))))))) (.p (.o 80 none (.p .k (.p .k (.o 3 none .k)))) (.p (.o 104 none .k) (.p (.o 3 none .k) (.p (.o 136 none .k) (.p (.o 102 none .k) .k)))))))::.v (.ptr bM) (.o 31 none (.p (.o 46 none (.p .k (.p .k (.p .k (.p .k (.p .k (.o 3 none .k))))))) (.p (.o 80 none (.p .k (.p .k (.o 3 none .k)))) (.p (.o 104 none .k) (.p (.o 3 none .k) (.p (.o 136 none .k) (.p (.o 102 none .k) .k)))))))::dn 4 (.v (.sl bW) .k::.v (.int .i64) .k::.v (.int .i64) .k::dn 11 ([])))
noncomputable def Dn:List Kd:=dn 4 (.v (.ptr bM) (.o 31 none (.p (.o 46 none (.p .k (.p .k (.p .k (.p .k (.p .k (.o 3 none .k))))))) (.p (.o 80 none (.p .k (.p .k (.o 3 none .k)))) (.p (.o 104 none .k) (.p (.o 3 none .k) (.p (.o 136 none .k) (.p (.o 102 none .k) .k)))))))::.v (.ptr bM) (.o 31 none (.p (.o 46 none (.p .k (.p .k (.p .k (.p .k (.p .k (.o 3 none .k))))))) (.p (.o 80 none (.p .k (.p .k (.o 3 none .k)))) (.p (.o 104 none .k) (.p (.o 3 none .k) (.p (.o 136 none .k) (.p (.o 102 none .k) .k)))))))::dn 18 ([]))
noncomputable def ajN:Hint:={ tab,hn:=[],loops:=[(3,Cf)],outs:=[(3,2,Dn)],bj:=[] }
noncomputable def Wn:List AK:=[.v bM .k,.v (.sl bW) .k]
noncomputable def at9 (N:Nat) (x:aw Wn) (kf:aa→Option aa):Option aa:=I43 N x.1 x.2.1 (fun r0=>kf ⟨[⟨bM,(.p (.o 46 none (.p .k (.p .k (.p .k (.p .k (.p .k (.o 3 none .k))))))) (.p (.o 80 none (.p .k (.p .k (.o 3 none .k)))) (.p (.o 104 none .k) (.p (.o 3 none .k) (.p (.o 136 none .k) (.p (.o 102 none .k) .k)))))),r0⟩],[]⟩)
noncomputable def ZO (N:Nat):=au Wn (at9 N)
noncomputable def ajO (N:Nat):List Entry:=[⟨70,[.val],(km N)⟩,⟨13,[.val,.val],(YT N)⟩]
noncomputable def GV:Code:=aI Tryz.f43
noncomputable def ajP (N n:Nat) (key:Nat) (S:St) (K:Ks):Option aa:=bif Nat.beq key 3 then ay Cf S (fun x=>vi N x.1 x.2.2.1 x.2.2.2.1 n (fun z0=>K (.x 0) (shape Dn (x.1,z0,()))) x.2.1 x.2.2.2.2.1) else none
theorem ayJ (N key:Nat) (S:St) (K:Ks):ajP N 0 key S K=none:=(bC (aq fun _=>rfl) rfl)
noncomputable def ZP:Code:=(af GV).getD 0 .skip
theorem ayK:af GV=[ZP]:=by kernel_rfl
theorem ajQ (N:Nat):dB ajN (ajO N) (ajP N) N 3 Cf ZP:=fun _ _ _=>by kernel_rfl
theorem ayL (N:Nat):bL Wn (at9 N) ajN (ajO N) (ajP N N) Tryz.f43:=fun _ _=>by kernel_rfl
theorem ayM {Γ:Gl} (N:Nat):Sound Γ Tryz.prog 43 (ZO N):=eZ ajN Tryz.f43 GV (ayJ N) ayK (ayL N) (rc (ajQ N) trivial) ⟨qo N,⟨axE N,trivial⟩⟩
noncomputable def ajR:Hint:={ tab,hn:=[],loops:=[],outs:=[],bj:=[(5,(OT.seq [0,1,2,3,5,6,7,8,9,4,10,11,12,13] .done))] }
noncomputable def MC:List AK:=[.v bM .k,.v (.int .i64) .k]
noncomputable def ajS (N:Nat) (x:aw MC) (kf:aa→Option aa):Option aa:=alq N x.1 x.2.1 (fun r0 r1=>kf ⟨[⟨bM,(.p (.o 46 none (.p .k (.p .k (.p .k (.p .k (.p .k (.o 3 none .k))))))) (.p (.o 80 none (.p .k (.p .k (.o 3 none .k)))) (.p (.o 104 none .k) (.p (.o 3 none .k) (.p (.o 136 none .k) (.p (.o 102 none .k) .k)))))),r0⟩,⟨.bool,.k,r1⟩],[]⟩)
noncomputable def Rv (N:Nat):=au MC (ajS N)
noncomputable def asF (N:Nat):List Entry:=[⟨90,[.val],(kn N)⟩,⟨200,[.val,.val],(kJ N)⟩,⟨94,[.val],(yZ N)⟩,⟨173,[.val],(sw N)⟩,⟨93,[.val,.take,.val,.val,.val],(qt N)⟩]
theorem asG (N:Nat):bL MC (ajS N) ajR (asF N) (dO N N) Tryz.f161:=fun _ _=>by kernel_rfl
theorem asH {Γ:Gl} (N:Nat):Sound Γ Tryz.prog 161 (Rv N):=e9 ajR Tryz.f161 (asG N) ⟨qq N,⟨qs N,⟨LI N,⟨D3 N,⟨BO N,trivial⟩⟩⟩⟩⟩
noncomputable def Wo:List AK:=[.v bM .k,.v bW .k]
noncomputable def at' (N:Nat) (x:aw Wo) (kf:aa→Option aa):Option aa:=S60 N x.1 x.2.1 (fun r0 r1=>kf ⟨[⟨bM,(.p (.o 46 none (.p .k (.p .k (.p .k (.p .k (.p .k (.o 3 none .k))))))) (.p (.o 80 none (.p .k (.p .k (.o 3 none .k)))) (.p (.o 104 none .k) (.p (.o 3 none .k) (.p (.o 136 none .k) (.p (.o 102 none .k) .k)))))),r0⟩,⟨.bool,.k,r1⟩],[]⟩)
noncomputable def ZQ (N:Nat):=au Wo (at' N)
noncomputable def ayN (N:Nat):List Entry:=[⟨141,[.val,.val,.val],(Rq N)⟩,⟨160,[.val,.val,.val],(Rs N)⟩,⟨21,[.val],(Zt N)⟩,⟨139,[.val,.val,.val,.val],(Ru N)⟩,⟨27,[.val],(ZK N)⟩,⟨161,[.val,.val],(Rv N)⟩,⟨90,[.val],(kn N)⟩]
theorem ayO (N:Nat):bL Wo (at' N) hq (ayN N) (dO N N) Tryz.f60:=fun _ _=>by kernel_rfl
theorem ayP {Γ:Gl} (N:Nat):Sound Γ Tryz.prog 60 (ZQ N):=e9 hq Tryz.f60 (ayO N) ⟨asx N,⟨asB N,⟨ayv N,⟨asE N,⟨ayI N,⟨asH N,⟨qq N,trivial⟩⟩⟩⟩⟩⟩⟩
noncomputable def Cg:List Kd:=dK::.v (.sl bW) .k::dK::dK::.v (.ptr bM) (.o 31 none (.p (.o 46 none (.p .k (.p .k (.p .k (.p .k (.p .k (.o 3 none .k))))))) (.p (.o 80 none (.p .k (.p .k (.o 3 none .k)))) (.p (.o 104 none .k) (.p (.o 3 none .k) (.p (.o 136 none .k) (.p (.o 102 none .k) .k)))))))::.v (.ptr bM) (.o 31 none (.p (.o 46 none (.p .k (.p .k (.p .k (.p .k (.p .k (.o 3 none .k))))))) (.p (.o 80 none (.p .k (.p .k (.o 3 none .k)))) (.p (.o 104 none .k) (.p (.o 3 none .k) (.p (.o 136 none .k) (.p (.o 102 none .k) .k)))))))::.v (.int .i64) .k::dn 18 ([])
noncomputable def Dp:List Kd:=dn 4 (.v (.ptr bM) (.o 31 none (.p (.o 46 none (.p .k (.p .k (.p .k (.p .k (.p .k (.o 3 none .k))))))) (.p (.o 80 none (.p .k (.p .k (.o 3 none .k)))) (.p (.o 104 none .k) (.p (.o 3 none .k) (.p (.o 136 none .k) (.p (.o 102 none .k) .k)))))))::.v (.ptr bM) (.o 31 none (.p (.o 46 none (.p .k (.p .k (.p .k (.p .k (.p .k (.o 3 none .k))))))) (.p (.o 80 none (.p .k (.p .k (.o 3 none .k)))) (.p (.o 104 none .k) (.p (.o 3 none .k) (.p (.o 136 none .k) (.p (.o 102 none .k) .k)))))))::dn 19 ([]))
noncomputable def ajT:Hint:={ tab,hn:=[],loops:=[(3,Cg)],outs:=[(3,2,Dp)],bj:=[(5,(OT.seq [0,1,2,3,4,5,6,7,8,9] .done))] }
noncomputable def Wp:List AK:=[.v bM .k,.v (.sl bW) .k]
noncomputable def aua (N:Nat) (x:aw Wp) (kf:aa→Option aa):Option aa:=S63 N x.1 x.2.1 (fun r0=>kf ⟨[⟨bM,(.p (.o 46 none (.p .k (.p .k (.p .k (.p .k (.p .k (.o 3 none .k))))))) (.p (.o 80 none (.p .k (.p .k (.o 3 none .k)))) (.p (.o 104 none .k) (.p (.o 3 none .k) (.p (.o 136 none .k) (.p (.o 102 none .k) .k)))))),r0⟩],[]⟩)
noncomputable def ZR (N:Nat):=au Wp (aua N)
noncomputable def ajU (N:Nat):List Entry:=[⟨90,[.val],(kn N)⟩,⟨60,[.val,.val],(ZQ N)⟩]
noncomputable def GW:Code:=aI Tryz.f63
noncomputable def ajV (N n:Nat) (key:Nat) (S:St) (K:Ks):Option aa:=bif Nat.beq key 3 then ay Cg S (fun x=>vj N x.1 x.2.1 n (fun z0=>K (.x 0) (shape Dp (x.2.1,z0,()))) x.2.2.1 x.2.2.2.1) else none
theorem ayQ (N key:Nat) (S:St) (K:Ks):ajV N 0 key S K=none:=(bC (aq fun _=>rfl) rfl)
noncomputable def ZS:Code:=(af GW).getD 0 .skip
theorem ayR:af GW=[ZS]:=by kernel_rfl
theorem ajW (N:Nat):dB ajT (ajU N) (ajV N) N 3 Cg ZS:=fun _ _ _=>by kernel_rfl
theorem ayS (N:Nat):bL Wp (aua N) ajT (ajU N) (ajV N N) Tryz.f63:=fun _ _=>by kernel_rfl
theorem ayT {Γ:Gl} (N:Nat):Sound Γ Tryz.prog 63 (ZR N):=eZ ajT Tryz.f63 GW (ayQ N) ayR (ayS N) (rc (ajW N) trivial) ⟨qq N,⟨ayP N,trivial⟩⟩
noncomputable def Wq:List AK:=[.v bW .k]
noncomputable def aub (N:Nat) (x:aw Wq) (kf:aa→Option aa):Option aa:=L61 N x.1 (fun r0=>kf ⟨[⟨bW,.k,r0⟩],[]⟩)
noncomputable def ZT (N:Nat):=au Wq (aub N)
theorem ayU (N:Nat):bL Wq (aub N) hq [] (dO N N) Tryz.f61:=fun _ _=>by kernel_rfl
theorem ayV {Γ:Gl} (N:Nat):Sound Γ Tryz.prog 61 (ZT N):=e9 hq Tryz.f61 (ayU N) trivial
noncomputable def Ws:List AK:=[.v (.sl bW) .k,.v (.int .i64) .k]
noncomputable def auc (N:Nat) (x:aw Ws) (kf:aa→Option aa):Option aa:=L62 N x.1 x.2.1 (fun r0=>kf ⟨[⟨(.int .i64),.k,r0⟩],[]⟩)
noncomputable def ZU (N:Nat):=au Ws (auc N)
theorem ayW (N:Nat):bL Ws (auc N) hq [] (dO N N) Tryz.f62:=fun _ _=>by kernel_rfl
theorem ayX {Γ:Gl} (N:Nat):Sound Γ Tryz.prog 62 (ZU N):=e9 hq Tryz.f62 (ayW N) trivial
noncomputable def Ch:List Kd:=.v (.sl bW) .k::dK::dK::.v (.sl bW) (.o 38 none .k)::.v (.int .i64) .k::dn 18 ([])
noncomputable def Dq:List Kd:=dn 3 (.v (.sl bW) (.o 38 none .k)::dn 19 ([]))
noncomputable def ajX:Hint:={ tab,hn:=[],loops:=[(3,Ch)],outs:=[(3,2,Dq)],bj:=[] }
noncomputable def Wt:List AK:=[.v (.sl bW) .k]
noncomputable def aud (N:Nat) (x:aw Wt) (kf:aa→Option aa):Option aa:=L64 N x.1 (fun r0=>kf ⟨[⟨(.sl bW),(.o 38 none .k),r0⟩],[]⟩)
noncomputable def ZV (N:Nat):=au Wt (aud N)
noncomputable def ajY (N:Nat):List Entry:=[⟨61,[.val],(ZT N)⟩]
noncomputable def GX:Code:=aI Tryz.f64
noncomputable def ajZ (N n:Nat) (key:Nat) (S:St) (K:Ks):Option aa:=bif Nat.beq key 3 then ay Ch S (fun x=>vk N x.1 n (fun z0=>K (.x 0) (shape Dq (z0,()))) x.2.1 x.2.2.1) else none
theorem ayY (N key:Nat) (S:St) (K:Ks):ajZ N 0 key S K=none:=(bC (aq fun _=>rfl) rfl)
noncomputable def ZW:Code:=(af GX).getD 0 .skip
theorem ayZ:af GX=[ZW]:=by kernel_rfl
theorem aj0 (N:Nat):dB ajX (ajY N) (ajZ N) N 3 Ch ZW:=fun _ _ _=>by kernel_rfl
theorem ay0 (N:Nat):bL Wt (aud N) ajX (ajY N) (ajZ N N) Tryz.f64:=fun _ _=>by kernel_rfl
theorem ay1 {Γ:Gl} (N:Nat):Sound Γ Tryz.prog 64 (ZV N):=eZ ajX Tryz.f64 GX (ayY N) ayZ (ay0 N) (rc (aj0 N) trivial) ⟨ayV N,trivial⟩
noncomputable def MD:List AK:=[.v bW .k,.v bW .k]
noncomputable def aj1 (N:Nat) (x:aw MD) (kf:aa→Option aa):Option aa:=afe N x.1 x.2.1 (fun r0=>kf ⟨[⟨.bool,.k,r0⟩],[]⟩)
noncomputable def Rw (N:Nat):=au MD (aj1 N)
theorem asI (N:Nat):bL MD (aj1 N) hq [] (dO N N) Tryz.f162:=fun _ _=>by kernel_rfl
theorem asJ {Γ:Gl} (N:Nat):Sound Γ Tryz.prog 162 (Rw N):=e9 hq Tryz.f162 (asI N) trivial
noncomputable def Ci:List Kd:=.v (.sl bW) .k::.v (.sl bW) .k::dn 3 (.v (.int .i64) .k::dn 21 ([]))
noncomputable def Dr:List Kd:=dn 27 ([])
noncomputable def Ds:List Kd:=dn 4 (.v .bool .k::dn 22 ([]))
noncomputable def aj2:Hint:={ tab,hn:=[],loops:=[(4,Ci)],outs:=[(4,2,Dr),(4,1,Ds)],bj:=[(6,(OT.seq [0,1,2,3,4,5,6,7,8,9] .done))] }
noncomputable def Wu:List AK:=[.v (.sl bW) .k,.v (.sl bW) .k]
noncomputable def aue (N:Nat) (x:aw Wu) (kf:aa→Option aa):Option aa:=L65 N x.1 x.2.1 (fun r0=>kf ⟨[⟨.bool,.k,r0⟩],[]⟩)
noncomputable def ZX (N:Nat):=au Wu (aue N)
noncomputable def aj3 (N:Nat):List Entry:=[⟨162,[.val,.val],(Rw N)⟩]
noncomputable def GY:Code:=aI Tryz.f65
noncomputable def aj4 (N n:Nat) (key:Nat) (S:St) (K:Ks):Option aa:=bif Nat.beq key 4 then ay Ci S (fun x=>vl N x.1 x.2.1 n (K (.x 0) (shape Dr ())) (fun z0=>K .r (shape Ds (z0,()))) x.2.2.1) else none
theorem ay2 (N key:Nat) (S:St) (K:Ks):aj4 N 0 key S K=none:=(bC (aq fun _=>rfl) rfl)
noncomputable def ZY:Code:=(af GY).getD 0 .skip
theorem ay3:af GY=[ZY]:=by kernel_rfl
theorem aj5 (N:Nat):dB aj2 (aj3 N) (aj4 N) N 4 Ci ZY:=fun _ _ _=>by kernel_rfl
theorem ay4 (N:Nat):bL Wu (aue N) aj2 (aj3 N) (aj4 N N) Tryz.f65:=fun _ _=>by kernel_rfl
theorem ay5 {Γ:Gl} (N:Nat):Sound Γ Tryz.prog 65 (ZX N):=eZ aj2 Tryz.f65 GY (ay2 N) ay3 (ay4 N) (rc (aj5 N) trivial) ⟨asJ N,trivial⟩
noncomputable def Cj:List Kd:=.v (.sl bW) (.o 38 (some 0) .k)::.v (.int .i64) .k::dn 3 (.v (.int .i64) .k::dn 35 ([]))
noncomputable def Dt:List Kd:=.v (.sl bW) (.o 38 (some 0) .k)::.v (.int .i64) .k::dn 39 ([])
noncomputable def aj6:Hint:={ tab,hn:=[],loops:=[(2,Cj)],outs:=[(2,2,Dt)],bj:=[],uj:=some (0,false) }
noncomputable def Wv:List AK:=[.v (.sl bW) (.o 38 (some 0) .k),.v (.int .i64) .k]
noncomputable def auf (N:Nat) (x:aw Wv) (kf:aa→Option aa):Option aa:=L66 N x.1 x.2.1 (fun r0 z=>kf ⟨[⟨(.int .i64),.k,r0⟩],[⟨(.sl bW),(.o 38 (some 0) .k),z⟩]⟩)
noncomputable def ZZ (N:Nat):=au Wv (auf N)
noncomputable def GZ:Code:=aI Tryz.f66
noncomputable def aj7 (N n:Nat) (key:Nat) (S:St) (K:Ks):Option aa:=bif Nat.beq key 2 then ay Cj S (fun x=>AP n (fun z0 z1=>K (.x 0) (shape Dt (z0,z1,()))) x.1 x.2.1 x.2.2.1) else none
theorem ay6 (N key:Nat) (S:St) (K:Ks):aj7 N 0 key S K=none:=(bC (aq fun _=>rfl) rfl)
noncomputable def Z0:Code:=(af GZ).getD 0 .skip
theorem ay7:af GZ=[Z0]:=by kernel_rfl
theorem aj8 (N:Nat):dB aj6 [] (aj7 N) N 2 Cj Z0:=fun _ _ _=>by kernel_rfl
theorem ay8 (N:Nat):bL Wv (auf N) aj6 [] (aj7 N N) Tryz.f66:=fun _ _=>by kernel_rfl
theorem ay9 {Γ:Gl} (N:Nat):Sound Γ Tryz.prog 66 (ZZ N):=eZ aj6 Tryz.f66 GZ (ay6 N) ay7 (ay8 N) (rc (aj8 N) trivial) trivial
noncomputable def aug:Hint:={ tab,hn:=[],loops:=[],outs:=[],bj:=[(14,(OT.seq [0,1,2,3,4] .done))] }
noncomputable def Ww:List AK:=[.v bM .k,.v (.sl bW) .k]
noncomputable def auh (N:Nat) (x:aw Ww) (kf:aa→Option aa):Option aa:=L10 N x.1 x.2.1 (fun r0=>kf ⟨[⟨.bool,.k,r0⟩],[]⟩)
noncomputable def D7 (N:Nat):=au Ww (auh N)
noncomputable def ay' (N:Nat):List Entry:=[⟨20,[.val,.val],(Y1 N)⟩,⟨62,[.val,.val],(ZU N)⟩,⟨22,[.val],(Zb N)⟩,⟨64,[.val],(ZV N)⟩,⟨63,[.val,.val],(ZR N)⟩,⟨43,[.val,.val],(ZO N)⟩,⟨24,[.val,.val],(Zz N)⟩,⟨65,[.val,.val],(ZX N)⟩,⟨25,[.ns,.val],(ZC N)⟩,⟨66,[.ns,.val],(ZZ N)⟩,⟨26,[.val,.val],(ZF N)⟩]
noncomputable def G0:Code:=aI Tryz.f10
theorem aza:af G0=[]:=by kernel_rfl
theorem azb (N:Nat):bL Ww (auh N) aug (ay' N) (dO N N) Tryz.f10:=fun _ _=>by kernel_rfl
theorem azc {Γ:Gl} (N:Nat):Sound Γ Tryz.prog 10 (D7 N):=eZ aug Tryz.f10 G0 (TG N) aza (azb N) trivial ⟨axW N,⟨ayX N,⟨ayh N,⟨ay1 N,⟨ayT N,⟨ayM N,⟨ayy N,⟨ay5 N,⟨ayB N,⟨ay9 N,⟨ayE N,trivial⟩⟩⟩⟩⟩⟩⟩⟩⟩⟩⟩
end Go.Pv.R
