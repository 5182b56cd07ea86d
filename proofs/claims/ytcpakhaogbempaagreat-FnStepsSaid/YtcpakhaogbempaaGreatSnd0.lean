/- Each function of the program that the law reaches computes its plain function, part 0. -/
import Derived.Test.YtcpakhaogbempaaGreatPlRes
import Derived.Test.YtcpakhaogbempaaGreatGro
import Derived.Test.YtcpakhaogbempaaGreatProg
namespace Go.Pv.R
open Go.Proofs
set_option linter.unusedVariables false
set_option maxRecDepth 100000
noncomputable abbrev dK:Kd:=.dead
noncomputable abbrev dR (n:Nat):List Kd:=List.replicate n .dead
noncomputable def tab:ee:=[⟨2,(.int .i64),0,[]⟩,⟨3,(.int .i64),0,[]⟩,⟨4,.bool,0,[]⟩,⟨5,(.int .u8),0,[]⟩,⟨9,.str,0,[]⟩,⟨12,(.int .u64),0,[]⟩,⟨21,(.int .i32),0,[]⟩,⟨22,(.sl (.int .u8)),5,[]⟩,⟨24,(.sl dC),46,[]⟩,⟨25,(.sl jL),80,[]⟩,⟨26,(.sl dQ),104,[]⟩,⟨27,(.sl (.int .i64)),3,[]⟩,⟨28,(.sl sD),136,[]⟩,⟨29,(.sl vq),102,[]⟩,⟨30,bU,0,[24,25,26,27,28,29,3]⟩,⟨31,bU,0,[24,25,26,27,28,29,3]⟩,⟨32,(.sl vq),38,[]⟩,⟨37,vq,0,[3,3,3,3]⟩,⟨38,vq,0,[3,3,3,3]⟩,⟨45,dC,0,[3,3,3,3,3,27]⟩,⟨46,dC,0,[3,3,3,3,3,27]⟩,⟨47,(.sl dC),171,[]⟩,⟨48,(.sl jL),173,[]⟩,⟨49,(.sl dQ),182,[]⟩,⟨50,(.sl sD),184,[]⟩,⟨51,(.sl vq),186,[]⟩,⟨52,bU,0,[47,48,49,27,50,51,3]⟩,⟨53,bU,0,[47,48,49,27,50,51,3]⟩,⟨79,jL,0,[3,3,27]⟩,⟨80,jL,0,[3,3,27]⟩,⟨88,vq,0,[3,3,3,3]⟩,⟨91,(.sl vq),88,[]⟩,⟨101,vq,0,[3,3,3,3]⟩,⟨102,vq,0,[3,3,3,3]⟩,⟨103,dQ,0,[3,3]⟩,⟨104,dQ,0,[3,3]⟩,⟨135,sD,0,[3,3,3]⟩,⟨136,sD,0,[3,3,3]⟩,⟨162,eL,0,[22,3,3]⟩,⟨163,eL,0,[22,3,3]⟩,⟨171,dC,0,[3,3,3,3,3,27]⟩,⟨173,jL,0,[3,3,27]⟩,⟨182,dQ,0,[3,3]⟩,⟨184,sD,0,[3,3,3]⟩,⟨186,vq,0,[3,3,3,3]⟩,⟨194,(.int .u64),0,[]⟩,⟨207,(.int .i64),0,[]⟩,⟨216,(.int .u32),0,[]⟩,⟨218,(.int .u64),0,[]⟩,⟨219,(.sl (.sl (.int .i64))),27,[]⟩,⟨222,(.int .u64),0,[]⟩]
theorem mixed:Tryz.prog.follows .mixedOrders=true:=by kernel_rfl
theorem mA:dv Tryz.prog tab=true:=by kernel_rfl
noncomputable def gw (N n:Nat) (key:Nat) (S:St) (K:Ks):Option ab:=none
theorem TT (N key:Nat) (S:St) (K:Ks):gw N 0 key S K=none:=rfl
noncomputable def bw (f:Func):Code:=match f.body with |some c=>c |none=>.skip
noncomputable def dn:Nat→List Kd→List Kd
 |0,l=>l
 |n+1,l=>dK::dn n l
def cX (sg:List AK) (F:aL sg→(ab→Option ab)→Option ab) (h:Hint) (es:List Entry) (L:Nat→St→Ks→Option ab) (f:Func):Prop:=∀ (x:aL sg) (kf:ab→Option ab),F x kf=ko h (jS.of es) L f (eB sg x) kf
def hZ (h:Hint) (es:List Entry) (L:Nat→Nat→St→Ks→Option ab) (N key:Nat) (ks:List Kd) (c:Code):Prop:=∀ (n:Nat) (x:sw ks) (K:Ks),L (n+1) key (shape ks x) (h.gT key K)=lI h (jS.of es) (u6 L N n key) c (shape ks x) (h.gT key K)
theorem rc {hh:Hint} {es:List Entry} {Lf:Nat→Nat→St→Ks→Option ab} {N key:Nat} {ks:List Kd} {c:Code} {l:List Code} (h:hZ hh es Lf N key ks c) (hr:td hh (jS.of es) Lf N l) (hk:keyOf c=key:=by kernel_rfl) (hh1:pn hh.loops key=some ks:=by kernel_rfl):td hh (jS.of es) Lf N (c::l):=SD hk hh1 h hr
theorem kh {Γ:Gl} (hh:Hint) {es:List Entry} {f:FuncId} (fn:Func) (body:Code) {N:Nat} {Lf:Nat→Nat→St→Ks→Option ab} (h0:∀ k S K,Lf 0 k S K=none) {ls:List Code} (hls:ak body=ls) {l:List AK} {F:aL l→(ab→Option ab)→Option ab} (hF:cX l F hh es (Lf N) fn) (cR:td hh (jS.of es) Lf N ls) (hO:EOK Γ Tryz.prog es)
  (hT : dv Tryz.prog hh.tab = true := by exact mA) (hf : Tryz.prog.funcs[f]? = some fn := by kernel_rfl) (hb : fn.body = some body := by kernel_rfl) (V0 : (fn.name == "runtime.NumGoroutine") = false := by kernel_rfl) (xN : fK hh (jS.of es) body = true := by kernel_rfl) (hky : nz body = true := by kernel_rfl) (hlen : Nat.ble l.length fn.ntmps = true := by kernel_rfl) (SE : ic body = true := by kernel_rfl) : Sound Γ Tryz.prog f (aF l F) :=
 kJ mixed hT hO hf hb V0 xN hky h0 hls cR hlen hF (.inl SE)
theorem iQ {Γ:Gl} (hh:Hint) {es:List Entry} {f:FuncId} (fn:Func) {N:Nat} {l:List AK} {F:aL l→(ab→Option ab)→Option ab} (hF:cX l F hh es (gw N N) fn) (hO:EOK Γ Tryz.prog es)
  (hls : ak (bw fn) = [] := by kernel_rfl) (hT : dv Tryz.prog hh.tab = true := by exact mA) (hf : Tryz.prog.funcs[f]? = some fn := by kernel_rfl) (hb : fn.body = some (bw fn) := by kernel_rfl) (V0 : (fn.name == "runtime.NumGoroutine") = false := by kernel_rfl) (xN : fK hh (jS.of es) (bw fn) = true := by kernel_rfl) (hky : nz (bw fn) = true := by kernel_rfl) (hlen : Nat.ble l.length fn.ntmps = true := by kernel_rfl) (SE : ic (bw fn) = true := by kernel_rfl) : Sound Γ Tryz.prog f (aF l F) :=
 kJ mixed hT hO hf hb V0 xN hky (TT N) hls trivial hlen hF (.inl SE)
noncomputable def hq:Hint:={ tab,hn:=[],loops:=[],outs:=[],b5:=[] }
noncomputable def KJ:List AK:=[.v (.sl (.int .u8)) .k]
noncomputable def apT (N:Nat) (x:aL KJ) (kf:ab→Option ab):Option ab:=L11 N x.1 (fun r0=>kf ⟨[⟨.bool,.k,r0⟩],[]⟩)
noncomputable def W9 (N:Nat):=aF KJ (apT N)
theorem asD (N:Nat):cX KJ (apT N) hq [] (gw N N) Tryz.f11:=fun _ _=>by kernel_rfl
theorem asE {Γ:Gl} (N:Nat):Sound Γ Tryz.prog 11 (W9 N):=iQ hq Tryz.f11 (asD N) trivial
noncomputable def BK:List Kd:=.v (.sl (.int .u8)) .k::dK::dK::.v (.int .i64) .k::.v (.int .i64) .k::dn 27 ([])
noncomputable def Dd:List Kd:=.v (.sl (.int .u8)) .k::dK::dK::.v (.int .i64) .k::dn 28 ([])
noncomputable def aeY:Hint:={ tab,hn:=[],loops:=[(3,BK)],outs:=[(3,2,Dd)],b5:=[] }
noncomputable def TU:List AK:=[.v (.sl (.int .u8)) .k]
noncomputable def apU (N:Nat) (x:aL TU) (kf:ab→Option ab):Option ab:=S67 N x.1 (fun r0=>kf ⟨[⟨(.ptr eL),(.o 163 none .k),r0⟩],[]⟩)
noncomputable def rS (N:Nat):=aF TU (apU N)
noncomputable def GG:Code:=bw Tryz.f67
noncomputable def aeZ (N n:Nat) (key:Nat) (S:St) (K:Ks):Option ab:=bif Nat.beq key 3 then aQ BK S (fun x=>Bn x.1 n (fun z0=>K (.x 0) (shape Dd (x.1,z0,()))) x.2.1 x.2.2.1) else none
theorem asF (N key:Nat) (S:St) (K:Ks):aeZ N 0 key S K=none:=(cH (aJ fun _=>rfl) rfl)
noncomputable def Xa:Code:=(ak GG).getD 0 .skip
theorem asG:ak GG=[Xa]:=by kernel_rfl
theorem ae0 (N:Nat):hZ aeY [] (aeZ N) N 3 BK Xa:=fun _ _ _=>by kernel_rfl
theorem asH (N:Nat):cX TU (apU N) aeY [] (aeZ N N) Tryz.f67:=fun _ _=>by kernel_rfl
theorem BL {Γ:Gl} (N:Nat):Sound Γ Tryz.prog 67 (rS N):=kh aeY Tryz.f67 GG (asF N) asG (asH N) (rc (ae0 N) trivial) trivial
noncomputable def TW:List AK:=[]
noncomputable def apV (N:Nat) (x:aL TW) (kf:ab→Option ab):Option ab:=S68 N (fun r0=>kf ⟨[⟨bU,(.p (.o 46 none (.p .k (.p .k (.p .k (.p .k (.p .k (.o 3 none .k))))))) (.p (.o 80 none (.p .k (.p .k (.o 3 none .k)))) (.p (.o 104 none .k) (.p (.o 3 none .k) (.p (.o 136 none .k) (.p (.o 102 none .k) .k)))))),r0⟩],[]⟩)
noncomputable def Xb (N:Nat):=aF TW (apV N)
theorem asI (N:Nat):cX TW (apV N) hq [] (gw N N) Tryz.f68:=fun _ _=>by kernel_rfl
theorem asJ {Γ:Gl} (N:Nat):Sound Γ Tryz.prog 68 (Xb N):=iQ hq Tryz.f68 (asI N) trivial
noncomputable def ae1:Hint:={ tab,hn:=[],loops:=[],outs:=[],b5:=[(2,(OT.seq [0,1,2,3,4,5,6,7,8,9,10,11,12] .done)),(3,(OT.seq [0,1,2,3,4,5,6,7,8,9] .done)),(4,(OT.seq [0,1,2,3,4,5,6,7,8,9,10,11,12,13,14] .done))],AR:=some (0,false) }
noncomputable def KK:List AK:=[.v (.ptr eL) (.o 163 (some 0) .k)]
noncomputable def ae2 (N:Nat) (x:aL KK) (kf:ab→Option ab):Option ab:=SG N x.1 (fun r0 z=>kf ⟨[⟨(.int .i64),.k,r0⟩],[⟨(.ptr eL),(.o 163 (some 0) .k),z⟩]⟩)
noncomputable def PD (N:Nat):=aF KK (ae2 N)
theorem ako (N:Nat):cX KK (ae2 N) ae1 [] (gw N N) Tryz.f216:=fun _ _=>by kernel_rfl
theorem akp {Γ:Gl} (N:Nat):Sound Γ Tryz.prog 216 (PD N):=iQ ae1 Tryz.f216 (ako N) trivial
noncomputable def ae3:Hint:={ tab,hn:=[],loops:=[],outs:=[],b5:=[],AR:=some (0,false) }
noncomputable def KL:List AK:=[.v (.ptr eL) (.o 163 (some 0) .k),.v (.int .i64) .k]
noncomputable def ae4 (N:Nat) (x:aL KL) (kf:ab→Option ab):Option ab:=ve N x.1 x.2.1 (fun r0 z=>kf ⟨[⟨(.int .i64),.k,r0⟩],[⟨(.ptr eL),(.o 163 (some 0) .k),z⟩]⟩)
noncomputable def qd (N:Nat):=aF KL (ae4 N)
noncomputable def akq (N:Nat):List Entry:=[⟨216,[.kj],(PD N)⟩]
theorem akr (N:Nat):cX KL (ae4 N) ae3 (akq N) (gw N N) Tryz.f137:=fun _ _=>by kernel_rfl
theorem yO {Γ:Gl} (N:Nat):Sound Γ Tryz.prog 137 (qd N):=iQ ae3 Tryz.f137 (akr N) ⟨akp N,trivial⟩
noncomputable def ae5:Hint:={ tab,hn:=[],loops:=[],outs:=[],b5:=[],AR:=some (0,false) }
noncomputable def KM:List AK:=[.v (.ptr eL) (.o 163 (some 0) .k),.v (.int .i64) .k]
noncomputable def ae6 (N:Nat) (x:aL KM) (kf:ab→Option ab):Option ab:=ait N x.1 x.2.1 (fun r0 z=>kf ⟨[⟨.bool,.k,r0⟩],[⟨(.ptr eL),(.o 163 (some 0) .k),z⟩]⟩)
noncomputable def PE (N:Nat):=aF KM (ae6 N)
noncomputable def aks (N:Nat):List Entry:=[⟨137,[.kj,.val],(qd N)⟩]
theorem akt (N:Nat):cX KM (ae6 N) ae5 (aks N) (gw N N) Tryz.f140:=fun _ _=>by kernel_rfl
theorem aku {Γ:Gl} (N:Nat):Sound Γ Tryz.prog 140 (PE N):=iQ ae5 Tryz.f140 (akt N) ⟨yO N,trivial⟩
noncomputable def ae7:Hint:={ tab,hn:=[],loops:=[],outs:=[],b5:=[],AR:=some (0,false) }
noncomputable def KN:List AK:=[.v (.ptr eL) (.o 163 (some 0) .k),.v (.sl (.int .i64)) .k]
noncomputable def ae8 (N:Nat) (x:aL KN) (kf:ab→Option ab):Option ab:=Bq N x.1 x.2.1 (fun r0 z=>kf ⟨[⟨(.int .i64),.k,r0⟩],[⟨(.ptr eL),(.o 163 (some 0) .k),z⟩]⟩)
noncomputable def qe (N:Nat):=aF KN (ae8 N)
noncomputable def akv (N:Nat):List Entry:=[⟨137,[.kj,.val],(qd N)⟩]
theorem akw (N:Nat):cX KN (ae8 N) ae7 (akv N) (gw N N) Tryz.f134:=fun _ _=>by kernel_rfl
theorem yP {Γ:Gl} (N:Nat):Sound Γ Tryz.prog 134 (qe N):=iQ ae7 Tryz.f134 (akw N) ⟨yO N,trivial⟩
noncomputable def ae9:Hint:={ tab,hn:=[],loops:=[],outs:=[],b5:=[] }
noncomputable def Ea:List AK:=[.v (.sl (.int .i64)) .k]
noncomputable def KO (N:Nat) (x:aL Ea) (kf:ab→Option ab):Option ab:=JF N x.1 (fun r0=>kf ⟨[⟨(.sl (.int .i64)),(.o 3 none .k),r0⟩],[]⟩)
noncomputable def tY (N:Nat):=aF Ea (KO N)
noncomputable def I3:Code:=bw Tryz.f166
theorem akx:ak I3=[]:=by kernel_rfl
theorem aky (N:Nat):cX Ea (KO N) ae9 [] (gw N N) Tryz.f166:=fun _ _=>by kernel_rfl
theorem ae' (N:Nat) (x:aL Ea):dp (KO N x):=by
 obtain⟨l,u⟩:=x
 unfold KO JF
 cases l with
 |nil=>exact⟨some _,fun K=>m8 _⟩
 |cons a l=>
  simp only[List.isEmpty_cons,cond_false]
  exact dp.bif _ (dp.pure _) dp.none
theorem Eb {Γ:Gl} (N:Nat):Sound Γ Tryz.prog 166 (tY N):=kJ (hh:=ae9) mixed mA (es:=[]) trivial (fn:=Tryz.f166) (body:=I3) (by kernel_rfl) (by kernel_rfl) (by kernel_rfl) (by kernel_rfl) (by kernel_rfl) (Lf:=gw N) (TT N) akx trivial (N:=N) (by kernel_rfl) (aky N) (.inr (ae' N))
noncomputable def wP:List Kd:=dn 3 (.v (.sl dC) (.o 46 none (.p .k (.p .k (.p .k (.p .k (.p .k (.o 3 none .k)))))))::dn 3 (.v (.sl dC) .k::.v (.int .i64) .k::.v (.int .i64) .k::dn 13 ([])))
noncomputable def yQ:List Kd:=dn 3 (.v (.sl dC) (.o 46 none (.p .k (.p .k (.p .k (.p .k (.p .k (.o 3 none .k)))))))::dn 19 ([]))
noncomputable def TX:Hint:={ tab,hn:=[(6,(.p .k (.p .k (.p .k (.p .k (.p .k (.o 3 none .k)))))))],loops:=[(3,wP)],outs:=[(3,2,yQ)],b5:=[] }
noncomputable def KP:List AK:=[.v (.sl dC) .k]
noncomputable def afa (N:Nat) (x:aL KP) (kf:ab→Option ab):Option ab:=SH N x.1 (fun r0=>kf ⟨[⟨(.sl dC),(.o 46 none (.p .k (.p .k (.p .k (.p .k (.p .k (.o 3 none .k))))))),r0⟩],[]⟩)
noncomputable def GH (N:Nat):=aF KP (afa N)
noncomputable def Xc (N:Nat):List Entry:=[⟨166,[.val],(tY N)⟩]
noncomputable def BM:Code:=bw Tryz.f163
noncomputable def TY (N n:Nat) (key:Nat) (S:St) (K:Ks):Option ab:=bif Nat.beq key 3 then aQ wP S (fun x=>qH N x.2.1 x.2.2.1 n (fun z0=>K (.x 0) (shape yQ (z0,()))) x.1 x.2.2.2.1) else none
theorem akz (N key:Nat) (S:St) (K:Ks):TY N 0 key S K=none:=(cH (aJ fun _=>rfl) rfl)
noncomputable def PF:Code:=(ak BM).getD 0 .skip
theorem akA:ak BM=[PF]:=by kernel_rfl
theorem aaN (N:Nat):hZ TX (Xc N) (TY N) N 3 wP PF:=fun _ _ _=>by kernel_rfl
theorem akB (N:Nat):cX KP (afa N) TX (Xc N) (TY N N) Tryz.f163:=fun _ _=>by kernel_rfl
theorem Xd {Γ:Gl} (N:Nat):Sound Γ Tryz.prog 163 (GH N):=kh TX Tryz.f163 BM (akz N) akA (akB N) (rc (aaN N) trivial) ⟨Eb N,trivial⟩
noncomputable def wQ:List Kd:=dn 3 (.v (.sl jL) (.o 80 none (.p .k (.p .k (.o 3 none .k))))::dn 3 (.v (.sl jL) .k::.v (.int .i64) .k::.v (.int .i64) .k::dn 13 ([])))
noncomputable def yR:List Kd:=dn 3 (.v (.sl jL) (.o 80 none (.p .k (.p .k (.o 3 none .k))))::dn 19 ([]))
noncomputable def TZ:Hint:={ tab,hn:=[(6,(.p .k (.p .k (.o 3 none .k))))],loops:=[(3,wQ)],outs:=[(3,2,yR)],b5:=[] }
noncomputable def KQ:List AK:=[.v (.sl jL) .k]
noncomputable def afb (N:Nat) (x:aL KQ) (kf:ab→Option ab):Option ab:=aiu N x.1 (fun r0=>kf ⟨[⟨(.sl jL),(.o 80 none (.p .k (.p .k (.o 3 none .k)))),r0⟩],[]⟩)
noncomputable def PG (N:Nat):=aF KQ (afb N)
noncomputable def Xe (N:Nat):List Entry:=[⟨166,[.val],(tY N)⟩]
noncomputable def BN:Code:=bw Tryz.f164
noncomputable def T4 (N n:Nat) (key:Nat) (S:St) (K:Ks):Option ab:=bif Nat.beq key 3 then aQ wQ S (fun x=>qI N x.2.1 x.2.2.1 n (fun z0=>K (.x 0) (shape yR (z0,()))) x.1 x.2.2.2.1) else none
theorem akC (N key:Nat) (S:St) (K:Ks):T4 N 0 key S K=none:=(cH (aJ fun _=>rfl) rfl)
noncomputable def PH:Code:=(ak BN).getD 0 .skip
theorem akD:ak BN=[PH]:=by kernel_rfl
theorem aaO (N:Nat):hZ TZ (Xe N) (T4 N) N 3 wQ PH:=fun _ _ _=>by kernel_rfl
theorem akE (N:Nat):cX KQ (afb N) TZ (Xe N) (T4 N N) Tryz.f164:=fun _ _=>by kernel_rfl
theorem akF {Γ:Gl} (N:Nat):Sound Γ Tryz.prog 164 (PG N):=kh TZ Tryz.f164 BN (akC N) akD (akE N) (rc (aaO N) trivial) ⟨Eb N,trivial⟩
noncomputable def afc:Hint:={ tab,hn:=[],loops:=[],outs:=[],b5:=[] }
noncomputable def Ee:List AK:=[.v (.sl dQ) .k]
noncomputable def KR (N:Nat) (x:aL Ee) (kf:ab→Option ab):Option ab:=aiv N x.1 (fun r0=>kf ⟨[⟨(.sl dQ),(.o 104 none .k),r0⟩],[]⟩)
noncomputable def PI (N:Nat):=aF Ee (KR N)
noncomputable def I4:Code:=bw Tryz.f165
theorem akG:ak I4=[]:=by kernel_rfl
theorem akH (N:Nat):cX Ee (KR N) afc [] (gw N N) Tryz.f165:=fun _ _=>by kernel_rfl
theorem afd (N:Nat) (x:aL Ee):dp (KR N x):=by
 obtain⟨l,u⟩:=x
 unfold KR aiv
 cases l with
 |nil=>exact⟨some _,fun K=>m8 _⟩
 |cons a l=>
  simp only[List.isEmpty_cons,cond_false]
  exact dp.bif _ (dp.pure _) dp.none
theorem akI {Γ:Gl} (N:Nat):Sound Γ Tryz.prog 165 (PI N):=kJ (hh:=afc) mixed mA (es:=[]) trivial (fn:=Tryz.f165) (body:=I4) (by kernel_rfl) (by kernel_rfl) (by kernel_rfl) (by kernel_rfl) (by kernel_rfl) (Lf:=gw N) (TT N) akG trivial (N:=N) (by kernel_rfl) (akH N) (.inr (afd N))
noncomputable def afe:Hint:={ tab,hn:=[],loops:=[],outs:=[],b5:=[] }
noncomputable def Ef:List AK:=[.v (.sl sD) .k]
noncomputable def KT (N:Nat) (x:aL Ef) (kf:ab→Option ab):Option ab:=aiw N x.1 (fun r0=>kf ⟨[⟨(.sl sD),(.o 136 none .k),r0⟩],[]⟩)
noncomputable def PJ (N:Nat):=aF Ef (KT N)
noncomputable def I5:Code:=bw Tryz.f167
theorem akJ:ak I5=[]:=by kernel_rfl
theorem akK (N:Nat):cX Ef (KT N) afe [] (gw N N) Tryz.f167:=fun _ _=>by kernel_rfl
theorem aff (N:Nat) (x:aL Ef):dp (KT N x):=by
 obtain⟨l,u⟩:=x
 unfold KT aiw
 cases l with
 |nil=>exact⟨some _,fun K=>m8 _⟩
 |cons a l=>
  simp only[List.isEmpty_cons,cond_false]
  exact dp.bif _ (dp.pure _) dp.none
theorem akL {Γ:Gl} (N:Nat):Sound Γ Tryz.prog 167 (PJ N):=kJ (hh:=afe) mixed mA (es:=[]) trivial (fn:=Tryz.f167) (body:=I5) (by kernel_rfl) (by kernel_rfl) (by kernel_rfl) (by kernel_rfl) (by kernel_rfl) (Lf:=gw N) (TT N) akJ trivial (N:=N) (by kernel_rfl) (akK N) (.inr (aff N))
noncomputable def afg:Hint:={ tab,hn:=[],loops:=[],outs:=[],b5:=[] }
noncomputable def Eg:List AK:=[.v (.sl vq) .k]
noncomputable def KU (N:Nat) (x:aL Eg) (kf:ab→Option ab):Option ab:=Zt N x.1 (fun r0=>kf ⟨[⟨(.sl vq),(.o 102 none .k),r0⟩],[]⟩)
noncomputable def GI (N:Nat):=aF Eg (KU N)
noncomputable def I6:Code:=bw Tryz.f168
theorem akM:ak I6=[]:=by kernel_rfl
theorem akN (N:Nat):cX Eg (KU N) afg [] (gw N N) Tryz.f168:=fun _ _=>by kernel_rfl
theorem afh (N:Nat) (x:aL Eg):dp (KU N x):=by
 obtain⟨l,u⟩:=x
 unfold KU Zt
 cases l with
 |nil=>exact⟨some _,fun K=>m8 _⟩
 |cons a l=>
  simp only[List.isEmpty_cons,cond_false]
  exact dp.bif _ (dp.pure _) dp.none
theorem Xf {Γ:Gl} (N:Nat):Sound Γ Tryz.prog 168 (GI N):=kJ (hh:=afg) mixed mA (es:=[]) trivial (fn:=Tryz.f168) (body:=I6) (by kernel_rfl) (by kernel_rfl) (by kernel_rfl) (by kernel_rfl) (by kernel_rfl) (Lf:=gw N) (TT N) akM trivial (N:=N) (by kernel_rfl) (akN N) (.inr (afh N))
noncomputable def apW:Hint:={ tab,hn:=[],loops:=[],outs:=[],b5:=[(1,(OT.seq [0,1,3,4,2,6,5,7,8,9] .done)),(2,(OT.seq [0,1,3,4,6,7,9,10,2,12,5,8,11,13,14,15,16,17,18,19] .done))] }
noncomputable def T5:List AK:=[.v bU .k]
noncomputable def apX (N:Nat) (x:aL T5) (kf:ab→Option ab):Option ab:=JG N x.1 (fun r0=>kf ⟨[⟨bU,(.p (.o 46 none (.p .k (.p .k (.p .k (.p .k (.p .k (.o 3 none .k))))))) (.p (.o 80 none (.p .k (.p .k (.o 3 none .k)))) (.p (.o 104 none .k) (.p (.o 3 none .k) (.p (.o 136 none .k) (.p (.o 102 none .k) .k)))))),r0⟩],[]⟩)
noncomputable def oQ (N:Nat):=aF T5 (apX N)
noncomputable def asK (N:Nat):List Entry:=[⟨163,[.val],(GH N)⟩,⟨164,[.val],(PG N)⟩,⟨165,[.val],(PI N)⟩,⟨166,[.val],(tY N)⟩,⟨167,[.val],(PJ N)⟩,⟨168,[.val],(GI N)⟩]
theorem asL (N:Nat):cX T5 (apX N) apW (asK N) (gw N N) Tryz.f70:=fun _ _=>by kernel_rfl
theorem wR {Γ:Gl} (N:Nat):Sound Γ Tryz.prog 70 (oQ N):=iQ apW Tryz.f70 (asL N) ⟨Xd N,⟨akF N,⟨akI N,⟨Eb N,⟨akL N,⟨Xf N,trivial⟩⟩⟩⟩⟩⟩
noncomputable def KV:List AK:=[.v dC .k,.v (.ptr (.int .i64)) .k]
noncomputable def afi (N:Nat) (x:aL KV) (kf:ab→Option ab):Option ab:=aix N x.1 x.2.1 (fun r0=>kf ⟨[⟨.bool,.k,r0⟩],[]⟩)
noncomputable def PK (N:Nat):=aF KV (afi N)
theorem akO (N:Nat):cX KV (afi N) hq [] (gw N N) Tryz.f147:=fun _ _=>by kernel_rfl
theorem akP {Γ:Gl} (N:Nat):Sound Γ Tryz.prog 147 (PK N):=iQ hq Tryz.f147 (akO N) trivial
noncomputable def wS:List Kd:=.v (.sl dC) .k::.mg 147 [.kv (.ptr (.int .i64))]::dn 5 (.v (.int .i64) .k::.v (.int .i64) .k::dn 10 ([]))
noncomputable def yS:List Kd:=dn 19 ([])
noncomputable def yT:List Kd:=dn 4 (.v (.int .i64) .k::dn 14 ([]))
noncomputable def T6:Hint:={ tab,hn:=[],loops:=[(2,wS)],outs:=[(2,2,yS),(2,1,yT)],b5:=[] }
noncomputable def KW:List AK:=[.v (.sl dC) .k,.fn 147 [(.ptr (.int .i64))]]
noncomputable def afj (N:Nat) (x:aL KW) (kf:ab→Option ab):Option ab:=ark N x.1 x.2.1.1 (fun r0=>kf ⟨[⟨(.int .i64),.k,r0⟩],[]⟩)
noncomputable def PL (N:Nat):=aF KW (afj N)
noncomputable def Xg (N:Nat):List Entry:=[⟨147,[.val],(PK N)⟩]
noncomputable def BO:Code:=bw Tryz.f146
noncomputable def T7 (N n:Nat) (key:Nat) (S:St) (K:Ks):Option ab:=bif Nat.beq key 2 then aQ wS S (fun x=>qJ N x.1 x.2.1.1 x.2.2.1 n (K (.x 0) (shape yS ())) (fun z0=>K .r (shape yT (z0,()))) x.2.2.2.1) else none
theorem akQ (N key:Nat) (S:St) (K:Ks):T7 N 0 key S K=none:=(cH (aJ fun _=>rfl) rfl)
noncomputable def PM:Code:=(ak BO).getD 0 .skip
theorem akR:ak BO=[PM]:=by kernel_rfl
theorem aaP (N:Nat):hZ T6 (Xg N) (T7 N) N 2 wS PM:=fun _ _ _=>by kernel_rfl
theorem akS (N:Nat):cX KW (afj N) T6 (Xg N) (T7 N N) Tryz.f146:=fun _ _=>by kernel_rfl
theorem akT {Γ:Gl} (N:Nat):Sound Γ Tryz.prog 146 (PL N):=kh T6 Tryz.f146 BO (akQ N) akR (akS N) (rc (aaP N) trivial) ⟨akP N,trivial⟩
noncomputable def KX:List AK:=[.v (.sl dC) .k,.v (.int .i64) .k]
noncomputable def apY (N:Nat) (x:aL KX) (kf:ab→Option ab):Option ab:=HN N x.1 x.2.1 (fun r0=>kf ⟨[⟨(.int .i64),.k,r0⟩],[]⟩)
noncomputable def lQ (N:Nat):=aF KX (apY N)
noncomputable def asM (N:Nat):List Entry:=[⟨146,[.val,.val],(PL N)⟩]
theorem asN (N:Nat):cX KX (apY N) hq (asM N) (gw N N) Tryz.f40:=fun _ _=>by kernel_rfl
theorem rT {Γ:Gl} (N:Nat):Sound Γ Tryz.prog 40 (lQ N):=iQ hq Tryz.f40 (asN N) ⟨akT N,trivial⟩
noncomputable def KY:List AK:=[.v bU .k]
noncomputable def apZ (N:Nat) (x:aL KY) (kf:ab→Option ab):Option ab:=Om N x.1 (fun r0=>kf ⟨[⟨.bool,.k,r0⟩],[]⟩)
noncomputable def rU (N:Nat):=aF KY (apZ N)
theorem asO (N:Nat):cX KY (apZ N) hq [] (gw N N) Tryz.f16:=fun _ _=>by kernel_rfl
theorem BP {Γ:Gl} (N:Nat):Sound Γ Tryz.prog 16 (rU N):=iQ hq Tryz.f16 (asO N) trivial
def afk:Go.Shelf.Ren:=⟨fun n=>bif Nat.beq n 22 then 135 else bif Nat.beq n 29 then 212 else bif Nat.beq n 30 then 213 else n,fun n=>bif Nat.beq n 0 then 0 else bif Nat.beq n 3 then 3 else bif Nat.beq n 4 then 4 else bif Nat.beq n 9 then 46 else bif Nat.beq n 24 then 24 else n,fun n=>n⟩
def akU:Array Value:=#[.int .i64 0,.int .i64 0,.int .i64 0,.int .i64 0,.int .i64 0,.slice none 0 0]
noncomputable def akV:TypeInfo:=(Tryz.prog.info? 46).get (by kernel_rfl)
theorem afl:IZ Tryz.prog afk (Ty.size dC) akU akV:={ FB:=⟨Tryz.f135.name,by kernel_rfl,by kernel_rfl⟩,FO:=⟨Tryz.f212,by kernel_rfl,by kernel_rfl,by kernel_rfl,by kernel_rfl,by kernel_rfl⟩,mixed:=by kernel_rfl,t0:=by kernel_rfl,a0:=fun w=>by kernel_rfl,z0:=fun w=>by kernel_rfl,v0:=fun w=>by kernel_rfl,t3:=by kernel_rfl,a3:=fun w=>by kernel_rfl,z3:=fun w=>by kernel_rfl,v3:=fun w=>by kernel_rfl,t4:=by kernel_rfl,a4:=fun w=>by kernel_rfl,z4:=fun w=>by kernel_rfl,v4:=fun w=>by kernel_rfl,t24:=by kernel_rfl,a24:=fun w=>by kernel_rfl,z24:=fun w=>by kernel_rfl,v24:=fun w=>by kernel_rfl,z9:=fun w=>by kernel_rfl,hz:=by kernel_rfl,hzo:=by kernel_rfl,JB:=by kernel_rfl,hz0:=by kernel_rfl,Jp:=by kernel_rfl,hby:=Nat.le_of_ble_eq_true (by kernel_rfl),DH:=Nat.le_of_ble_eq_true (by kernel_rfl) }
noncomputable def Xh:List AK:=[.v (.sl dC) (.o 46 none (.p .k (.p .k (.p .k (.p .k (.p .k (.o 3 none .k))))))),.v (.int .i64) .k,.v (.sl dC) (.o 46 none (.p .k (.p .k (.p .k (.p .k (.p .k (.o 3 none .k)))))))]
noncomputable def asP (N:Nat) (x:aL Xh) (kf:ab→Option ab):Option ab:=aiy N x.1 x.2.1 x.2.2.1 (fun r0=>kf ⟨[⟨(.sl dC),(.o 46 none (.p .k (.p .k (.p .k (.p .k (.p .k (.o 3 none .k))))))),r0⟩],[]⟩)
noncomputable def PN (N:Nat):=aF Xh (asP N)
theorem akW {Γ:Gl} (N:Nat):Sound Γ Tryz.prog 135 (PN N):=yN afl (.p .k (.p .k (.p .k (.p .k (.p .k (.o 3 none .k)))))) (by kernel_rfl)
noncomputable def KZ:List AK:=[.v (.sl vq) .k]
noncomputable def afm (N:Nat) (x:aL KZ) (kf:ab→Option ab):Option ab:=arl N x.1 (fun r0=>kf ⟨[⟨(.int .i64),.k,r0⟩],[]⟩)
noncomputable def PO (N:Nat):=aF KZ (afm N)
theorem akX (N:Nat):cX KZ (afm N) hq [] (gw N N) Tryz.f234:=fun _ _=>by kernel_rfl
theorem akY {Γ:Gl} (N:Nat):Sound Γ Tryz.prog 234 (PO N):=iQ hq Tryz.f234 (akX N) trivial
noncomputable def K0:List AK:=[.v (.int .i64) .k,.v (.int .i64) .k,.v (.int .i64) .k]
noncomputable def afn (N:Nat) (x:aL K0) (kf:ab→Option ab):Option ab:=fR N x.1 x.2.1 x.2.2.1 (fun r0=>kf ⟨[⟨.bool,.k,r0⟩],[]⟩)
noncomputable def mf (N:Nat):=aF K0 (afn N)
theorem akZ (N:Nat):cX K0 (afn N) hq [] (gw N N) Tryz.f144:=fun _ _=>by kernel_rfl
theorem rV {Γ:Gl} (N:Nat):Sound Γ Tryz.prog 144 (mf N):=iQ hq Tryz.f144 (akZ N) trivial
noncomputable def K1:List AK:=[.v (.int .i64) .k,.v (.int .i64) .k]
noncomputable def afo (N:Nat) (x:aL K1) (kf:ab→Option ab):Option ab:=aiz N x.1 x.2.1 (fun r0=>kf ⟨[⟨(.int .i64),.k,r0⟩],[]⟩)
noncomputable def PQ (N:Nat):=aF K1 (afo N)
noncomputable def ak0 (N:Nat):List Entry:=[⟨144,[.val,.val,.val],(mf N)⟩]
theorem ak1 (N:Nat):cX K1 (afo N) hq (ak0 N) (gw N N) Tryz.f262:=fun _ _=>by kernel_rfl
theorem ak2 {Γ:Gl} (N:Nat):Sound Γ Tryz.prog 262 (PQ N):=iQ hq Tryz.f262 (ak1 N) ⟨rV N,trivial⟩
noncomputable def K2:List AK:=[.v (.int .i64) .k,.v (.int .i64) .k]
noncomputable def afp (N:Nat) (x:aL K2) (kf:ab→Option ab):Option ab:=aiA N x.1 x.2.1 (fun r0=>kf ⟨[⟨(.int .i64),.k,r0⟩],[]⟩)
noncomputable def PR (N:Nat):=aF K2 (afp N)
noncomputable def ak3 (N:Nat):List Entry:=[⟨262,[.val,.val],(PQ N)⟩]
theorem ak4 (N:Nat):cX K2 (afp N) hq (ak3 N) (gw N N) Tryz.f249:=fun _ _=>by kernel_rfl
theorem ak5 {Γ:Gl} (N:Nat):Sound Γ Tryz.prog 249 (PR N):=iQ hq Tryz.f249 (ak4 N) ⟨ak2 N,trivial⟩
noncomputable def wT:List Kd:=dn 3 (.v (.int .i64) .k::dK::dK::.v (.sl (.int .i64)) .k::.v (.int .i64) .k::.v (.int .i64) .k::dn 8 ([]))
noncomputable def yU:List Kd:=dn 3 (.v (.int .i64) .k::dn 13 ([]))
noncomputable def T8:Hint:={ tab,hn:=[],loops:=[(3,wT)],outs:=[(3,2,yU)],b5:=[] }
noncomputable def K3:List AK:=[.v (.sl (.int .i64)) .k]
noncomputable def afq (N:Nat) (x:aL K3) (kf:ab→Option ab):Option ab:=aiB N x.1 (fun r0=>kf ⟨[⟨(.int .i64),.k,r0⟩],[]⟩)
noncomputable def PS (N:Nat):=aF K3 (afq N)
noncomputable def Xi (N:Nat):List Entry:=[⟨249,[.val,.val],(PR N)⟩]
noncomputable def BQ:Code:=bw Tryz.f219
noncomputable def T9 (N n:Nat) (key:Nat) (S:St) (K:Ks):Option ab:=bif Nat.beq key 3 then aQ wT S (fun x=>qK N x.2.1 x.2.2.1 n (fun z0=>K (.x 0) (shape yU (z0,()))) x.1 x.2.2.2.1) else none
theorem ak6 (N key:Nat) (S:St) (K:Ks):T9 N 0 key S K=none:=(cH (aJ fun _=>rfl) rfl)
noncomputable def PT:Code:=(ak BQ).getD 0 .skip
theorem ak7:ak BQ=[PT]:=by kernel_rfl
theorem aaQ (N:Nat):hZ T8 (Xi N) (T9 N) N 3 wT PT:=fun _ _ _=>by kernel_rfl
theorem ak8 (N:Nat):cX K3 (afq N) T8 (Xi N) (T9 N N) Tryz.f219:=fun _ _=>by kernel_rfl
theorem ak9 {Γ:Gl} (N:Nat):Sound Γ Tryz.prog 219 (PS N):=kh T8 Tryz.f219 BQ (ak6 N) ak7 (ak8 N) (rc (aaQ N) trivial) ⟨ak5 N,trivial⟩
noncomputable def K4:List AK:=[.v (.int .i64) .k,.v vq .k]
noncomputable def afr (N:Nat) (x:aL K4) (kf:ab→Option ab):Option ab:=SI N x.1 x.2.1 (fun r0=>kf ⟨[⟨(.int .i64),.k,r0⟩],[]⟩)
noncomputable def GJ (N:Nat):=aF K4 (afr N)
noncomputable def ak' (N:Nat):List Entry:=[⟨219,[.val],(PS N)⟩]
theorem ala (N:Nat):cX K4 (afr N) hq (ak' N) (gw N N) Tryz.f169:=fun _ _=>by kernel_rfl
theorem Xj {Γ:Gl} (N:Nat):Sound Γ Tryz.prog 169 (GJ N):=iQ hq Tryz.f169 (ala N) ⟨ak9 N,trivial⟩
noncomputable def BR:List Kd:=dn 3 (.v (.int .i64) .k::dn 5 (.v (.sl vq) .k::.v (.int .i64) .k::.v (.int .i64) .k::dn 32 ([])))
noncomputable def De:List Kd:=dn 44 ([])
noncomputable def Df:List Kd:=dK::dK::.v .bool .k::dn 41 ([])
noncomputable def afs:Hint:={ tab,hn:=[],loops:=[(5,BR)],outs:=[(5,2,De),(5,1,Df)],b5:=[(7,(OT.seq [0,1,2,3,4,5,6,7,8,9,10,11,12,13,14,15,16,17,18,19,20,21,22,23,24] .done))] }
noncomputable def Ua:List AK:=[.v (.sl vq) .k]
noncomputable def ap0 (N:Nat) (x:aL Ua) (kf:ab→Option ab):Option ab:=I75 N x.1 (fun r0=>kf ⟨[⟨.bool,.k,r0⟩],[]⟩)
noncomputable def Eh (N:Nat):=aF Ua (ap0 N)
noncomputable def aft (N:Nat):List Entry:=[⟨144,[.val,.val,.val],(mf N)⟩,⟨169,[.val,.val],(GJ N)⟩]
noncomputable def GK:Code:=bw Tryz.f75
noncomputable def afu (N n:Nat) (key:Nat) (S:St) (K:Ks):Option ab:=bif Nat.beq key 5 then aQ BR S (fun x=>wk N x.2.1 x.2.2.1 n (K (.x 0) (shape De ())) (fun z0=>K .r (shape Df (z0,()))) x.1 x.2.2.2.1) else none
theorem asQ (N key:Nat) (S:St) (K:Ks):afu N 0 key S K=none:=(cH (aJ fun _=>rfl) rfl)
noncomputable def Xk:Code:=(ak GK).getD 0 .skip
theorem asR:ak GK=[Xk]:=by kernel_rfl
theorem afv (N:Nat):hZ afs (aft N) (afu N) N 5 BR Xk:=fun _ _ _=>by kernel_rfl
theorem asS (N:Nat):cX Ua (ap0 N) afs (aft N) (afu N N) Tryz.f75:=fun _ _=>by kernel_rfl
theorem Ub {Γ:Gl} (N:Nat):Sound Γ Tryz.prog 75 (Eh N):=kh afs Tryz.f75 GK (asQ N) asR (asS N) (rc (afv N) trivial) ⟨rV N,⟨Xj N,trivial⟩⟩
noncomputable def afw:Hint:={ tab,hn:=[],loops:=[],outs:=[],b5:=[(2,(OT.seq [0,2,1,3,4,5] .done)),(3,(OT.seq [0,2] (.any [1,3] (OT.seq [4,5] .done))))] }
noncomputable def K5:List AK:=[.v (.sl vq) .k,.v (.int .i64) .k,.v (.int .i64) .k]
noncomputable def afx (N:Nat) (x:aL K5) (kf:ab→Option ab):Option ab:=aiC N x.1 x.2.1 x.2.2.1 (fun r0 r1=>kf ⟨[⟨(.sl vq),(.o 102 none .k),r0⟩,⟨.bool,.k,r1⟩],[]⟩)
noncomputable def PU (N:Nat):=aF K5 (afx N)
noncomputable def alb (N:Nat):List Entry:=[⟨234,[.val],(PO N)⟩,⟨169,[.val,.val],(GJ N)⟩,⟨168,[.val],(GI N)⟩,⟨75,[.val],(Eh N)⟩]
theorem alc (N:Nat):cX K5 (afx N) afw (alb N) (gw N N) Tryz.f189:=fun _ _=>by kernel_rfl
theorem ald {Γ:Gl} (N:Nat):Sound Γ Tryz.prog 189 (PU N):=iQ afw Tryz.f189 (alc N) ⟨akY N,⟨Xj N,⟨Xf N,⟨Ub N,trivial⟩⟩⟩⟩
noncomputable def BS:List Kd:=dK::.v (.int .i64) .k::dn 3 (.v (.int .i64) .k::dK::dK::.v (.sl (.int .i64)) .k::.v (.int .i64) .k::.v (.int .i64) .k::dn 10 ([]))
noncomputable def Dg:List Kd:=dn 5 (.v (.int .i64) .k::dn 15 ([]))
noncomputable def afy:Hint:={ tab,hn:=[],loops:=[(3,BS)],outs:=[(3,2,Dg)],b5:=[] }
noncomputable def Uc:List AK:=[.v (.sl (.int .i64)) .k,.v (.int .i64) .k]
noncomputable def ap1 (N:Nat) (x:aL Uc) (kf:ab→Option ab):Option ab:=I78 N x.1 x.2.1 (fun r0=>kf ⟨[⟨(.int .i64),.k,r0⟩],[]⟩)
noncomputable def K6 (N:Nat):=aF Uc (ap1 N)
noncomputable def GL:Code:=bw Tryz.f78
noncomputable def afz (N n:Nat) (key:Nat) (S:St) (K:Ks):Option ab:=bif Nat.beq key 3 then aQ BS S (fun x=>tp x.1 x.2.2.1 x.2.2.2.1 n (fun z0=>K (.x 0) (shape Dg (z0,()))) x.2.1 x.2.2.2.2.1) else none
theorem asT (N key:Nat) (S:St) (K:Ks):afz N 0 key S K=none:=(cH (aJ fun _=>rfl) rfl)
noncomputable def Xl:Code:=(ak GL).getD 0 .skip
theorem asU:ak GL=[Xl]:=by kernel_rfl
theorem afA (N:Nat):hZ afy [] (afz N) N 3 BS Xl:=fun _ _ _=>by kernel_rfl
theorem asV (N:Nat):cX Uc (ap1 N) afy [] (afz N N) Tryz.f78:=fun _ _=>by kernel_rfl
theorem afB {Γ:Gl} (N:Nat):Sound Γ Tryz.prog 78 (K6 N):=kh afy Tryz.f78 GL (asT N) asU (asV N) (rc (afA N) trivial) trivial
noncomputable def tZ:List Kd:=.v (.sl dC) .k::dn 3 (.v (.ptr dC) (.o 46 none .k)::dn 7 (.v (.sl dC) .k::.v (.int .i64) .k::.v (.int .i64) .k::dn 57 (.v (.sl (.int .i64)) .k::.v (.int .i64) .k::.v (.int .i64) .k::dn 31 ([]))))
noncomputable def vH:List Kd:=.v (.sl dC) .k::dn 11 (.v (.sl dC) .k::.v (.int .i64) .k::.v (.int .i64) .k::dn 91 ([]))
noncomputable def vI:List Kd:=dK::dK::.v .bool .k::dn 103 ([])
noncomputable def wU:List Kd:=.v (.sl dC) .k::dn 11 (.v (.sl dC) .k::.v (.int .i64) .k::.v (.int .i64) .k::dn 91 ([]))
noncomputable def yV:List Kd:=dn 106 ([])
noncomputable def yW:List Kd:=dK::dK::.v .bool .k::dn 103 ([])
noncomputable def K7:Hint:={ tab,hn:=[],loops:=[(10,tZ),(4,wU)],outs:=[(10,4,vH),(10,1,vI),(4,2,yV),(4,1,yW)],b5:=[(7,(OT.seq [0,1,2,3,4,5,6,7,8,9,10,11,12,13,14,15,16,17,18,19,20,21,22,23,24,25,26,27,28,29,30,31,32,33,34,35,36,37,38,39,40,41,42,43,44,45,46,47,48] .done)),(13,(OT.seq [0,1,2,3,4,5,6,7,8,9,10,11,13,14,15,16,17,18,19,12,20,21,22] .done))] }
noncomputable def K8:List AK:=[.v (.sl dC) .k]
noncomputable def afC (N:Nat) (x:aL K8) (kf:ab→Option ab):Option ab:=Bt N x.1 (fun r0=>kf ⟨[⟨.bool,.k,r0⟩],[]⟩)
noncomputable def kV (N:Nat):=aF K8 (afC N)
noncomputable def K9 (N:Nat):List Entry:=[⟨144,[.val,.val,.val],(mf N)⟩,⟨40,[.val,.val],(lQ N)⟩,⟨78,[.val,.val],(K6 N)⟩]
noncomputable def uO:Code:=bw Tryz.f143
noncomputable def La (N n:Nat) (key:Nat) (S:St) (K:Ks):Option ab:=bif Nat.beq key 4 then aQ wU S (fun x=>oc N x.1 x.2.1 x.2.2.1 n (K (.x 0) (shape yV ())) (fun z0=>K .r (shape yW (z0,()))) x.2.2.2.1) else bif Nat.beq key 10 then aQ tZ S (fun x=>jo N x.1 x.2.1 x.2.2.1 x.2.2.2.1 x.2.2.2.2.1 x.2.2.2.2.2.1 x.2.2.2.2.2.2.1 n (K (.x 2) (shape vH (x.1,x.2.2.1,x.2.2.2.1,x.2.2.2.2.1,()))) (fun z0=>K .r (shape vI (z0,()))) x.2.2.2.2.2.2.2.1) else none
theorem ale (N key:Nat) (S:St) (K:Ks):La N 0 key S K=none:=(cH (aJ fun _=>rfl) (cH (aJ fun _=>rfl) rfl))
noncomputable def PV:Code:=(ak uO).getD 0 .skip
noncomputable def PW:Code:=(ak uO).getD 1 .skip
theorem alf:ak uO=[PV,PW]:=by kernel_rfl
theorem Ud (N:Nat):hZ K7 (K9 N) (La N) N 10 tZ PW:=fun _ _ _=>by kernel_rfl
theorem aaR (N:Nat):hZ K7 (K9 N) (La N) N 4 wU PV:=fun _ _ _=>by kernel_rfl
theorem alg (N:Nat):cX K8 (afC N) K7 (K9 N) (La N N) Tryz.f143:=fun _ _=>by kernel_rfl
theorem oS {Γ:Gl} (N:Nat):Sound Γ Tryz.prog 143 (kV N):=kh K7 Tryz.f143 uO (ale N) alf (alg N) (rc (aaR N) (rc (Ud N) trivial)) ⟨rV N,⟨rT N,⟨afB N,trivial⟩⟩⟩
noncomputable def BT:List Kd:=.v (.sl jL) .k::dn 3 (.v (.ptr jL) (.o 80 none .k)::dn 5 (.v (.sl jL) .k::.v (.int .i64) .k::.v (.int .i64) .k::dn 30 (.v (.sl (.int .i64)) .k::.v (.int .i64) .k::.v (.int .i64) .k::dn 23 ([]))))
noncomputable def Dh:List Kd:=.v (.sl jL) .k::dn 9 (.v (.sl jL) .k::.v (.int .i64) .k::.v (.int .i64) .k::dn 56 ([]))
noncomputable def Di:List Kd:=dK::dK::.v .bool .k::dn 66 ([])
noncomputable def BU:List Kd:=.v (.sl jL) .k::dn 9 (.v (.sl jL) .k::.v (.int .i64) .k::.v (.int .i64) .k::dn 56 ([]))
noncomputable def Dj:List Kd:=dn 69 ([])
noncomputable def Dk:List Kd:=dK::dK::.v .bool .k::dn 66 ([])
noncomputable def Xm:Hint:={ tab,hn:=[],loops:=[(9,BT),(4,BU)],outs:=[(9,4,Dh),(9,1,Di),(4,2,Dj),(4,1,Dk)],b5:=[(6,(OT.seq [0,1,2,3,4,5,6,7,8,9,10,11,12,13,14,15,16,17,18,19,20,21,22,23,24] .done))] }
noncomputable def Ue:List AK:=[.v (.sl jL) .k]
noncomputable def ap2 (N:Nat) (x:aL Ue) (kf:ab→Option ab):Option ab:=I79 N x.1 (fun r0=>kf ⟨[⟨.bool,.k,r0⟩],[]⟩)
noncomputable def Ei (N:Nat):=aF Ue (ap2 N)
noncomputable def Uf (N:Nat):List Entry:=[⟨144,[.val,.val,.val],(mf N)⟩]
noncomputable def yX:Code:=bw Tryz.f79
noncomputable def Xn (N n:Nat) (key:Nat) (S:St) (K:Ks):Option ab:=bif Nat.beq key 4 then aQ BU S (fun x=>tq N x.1 x.2.1 x.2.2.1 n (K (.x 0) (shape Dj ())) (fun z0=>K .r (shape Dk (z0,()))) x.2.2.2.1) else bif Nat.beq key 9 then aQ BT S (fun x=>nC N x.1 x.2.1 x.2.2.1 x.2.2.2.1 x.2.2.2.2.1 x.2.2.2.2.2.1 x.2.2.2.2.2.2.1 n (K (.x 2) (shape Dh (x.1,x.2.2.1,x.2.2.2.1,x.2.2.2.2.1,()))) (fun z0=>K .r (shape Di (z0,()))) x.2.2.2.2.2.2.2.1) else none
theorem asW (N key:Nat) (S:St) (K:Ks):Xn N 0 key S K=none:=(cH (aJ fun _=>rfl) (cH (aJ fun _=>rfl) rfl))
noncomputable def Xo:Code:=(ak yX).getD 0 .skip
noncomputable def Xp:Code:=(ak yX).getD 1 .skip
theorem asX:ak yX=[Xo,Xp]:=by kernel_rfl
theorem afD (N:Nat):hZ Xm (Uf N) (Xn N) N 9 BT Xp:=fun _ _ _=>by kernel_rfl
theorem afE (N:Nat):hZ Xm (Uf N) (Xn N) N 4 BU Xo:=fun _ _ _=>by kernel_rfl
theorem asY (N:Nat):cX Ue (ap2 N) Xm (Uf N) (Xn N N) Tryz.f79:=fun _ _=>by kernel_rfl
theorem Ug {Γ:Gl} (N:Nat):Sound Γ Tryz.prog 79 (Ei N):=kh Xm Tryz.f79 yX (asW N) asX (asY N) (rc (afE N) (rc (afD N) trivial)) ⟨rV N,trivial⟩
noncomputable def wV:List Kd:=.v (.sl (.int .i64)) .k::.v (.int .i64) .k::dn 5 (.v (.int .i64) .k::.v (.int .i64) .k::dn 10 ([]))
noncomputable def yY:List Kd:=dn 19 ([])
noncomputable def yZ:List Kd:=dn 4 (.v (.int .i64) .k::dn 14 ([]))
noncomputable def Uh:Hint:={ tab,hn:=[],loops:=[(2,wV)],outs:=[(2,2,yY),(2,1,yZ)],b5:=[] }
noncomputable def Lb:List AK:=[.v (.sl (.int .i64)) .k,.v (.int .i64) .k]
noncomputable def afF (N:Nat) (x:aL Lb) (kf:ab→Option ab):Option ab:=SQ N x.1 x.2.1 (fun r0=>kf ⟨[⟨(.int .i64),.k,r0⟩],[]⟩)
noncomputable def GM (N:Nat):=aF Lb (afF N)
noncomputable def BV:Code:=bw Tryz.f170
noncomputable def Ui (N n:Nat) (key:Nat) (S:St) (K:Ks):Option ab:=bif Nat.beq key 2 then aQ wV S (fun x=>qR x.1 x.2.1 x.2.2.1 n (K (.x 0) (shape yY ())) (fun z0=>K .r (shape yZ (z0,()))) x.2.2.2.1) else none
theorem alh (N key:Nat) (S:St) (K:Ks):Ui N 0 key S K=none:=(cH (aJ fun _=>rfl) rfl)
noncomputable def PX:Code:=(ak BV).getD 0 .skip
theorem ali:ak BV=[PX]:=by kernel_rfl
theorem aaS (N:Nat):hZ Uh [] (Ui N) N 2 wV PX:=fun _ _ _=>by kernel_rfl
theorem alj (N:Nat):cX Lb (afF N) Uh [] (Ui N N) Tryz.f170:=fun _ _=>by kernel_rfl
theorem Xq {Γ:Gl} (N:Nat):Sound Γ Tryz.prog 170 (GM N):=kh Uh Tryz.f170 BV (alh N) ali (alj N) (rc (aaS N) trivial) trivial
noncomputable def Uj:List AK:=[.v (.sl (.int .i64)) .k,.v (.int .i64) .k]
noncomputable def ap3 (N:Nat) (x:aL Uj) (kf:ab→Option ab):Option ab:=S82 N x.1 x.2.1 (fun r0=>kf ⟨[⟨.bool,.k,r0⟩],[]⟩)
noncomputable def y2 (N:Nat):=aF Uj (ap3 N)
noncomputable def asZ (N:Nat):List Entry:=[⟨170,[.val,.val],(GM N)⟩]
theorem as0 (N:Nat):cX Uj (ap3 N) hq (asZ N) (gw N N) Tryz.f82:=fun _ _=>by kernel_rfl
theorem Lc {Γ:Gl} (N:Nat):Sound Γ Tryz.prog 82 (y2 N):=iQ hq Tryz.f82 (as0 N) ⟨Xq N,trivial⟩
noncomputable def Uk:List AK:=[.v (.sl dC) .k,.v (.int .i64) .k,.v (.int .i64) .k]
noncomputable def ap4 (N:Nat) (x:aL Uk) (kf:ab→Option ab):Option ab:=I19 N x.1 x.2.1 x.2.2.1 (fun r0=>kf ⟨[⟨.bool,.k,r0⟩],[]⟩)
noncomputable def Xr (N:Nat):=aF Uk (ap4 N)
noncomputable def as1 (N:Nat):List Entry:=[⟨40,[.val,.val],(lQ N)⟩,⟨82,[.val,.val],(y2 N)⟩]
theorem as2 (N:Nat):cX Uk (ap4 N) hq (as1 N) (gw N N) Tryz.f19:=fun _ _=>by kernel_rfl
theorem as3 {Γ:Gl} (N:Nat):Sound Γ Tryz.prog 19 (Xr N):=iQ hq Tryz.f19 (as2 N) ⟨rT N,⟨Lc N,trivial⟩⟩
noncomputable def ap5:Hint:={ tab,hn:=[],loops:=[],outs:=[],b5:=[(2,(OT.seq [0,1,2,3,4,5,6,7,8,9,10,11,12,13,14,15,16,17,18,19,20,21,22,23,24,25,26,27,28,29,30,31,32,33,34,35] .done))] }
noncomputable def Ul:List AK:=[.v (.sl dC) .k,.v (.int .i64) .k,.v (.int .i64) .k]
noncomputable def ap6 (N:Nat) (x:aL Ul) (kf:ab→Option ab):Option ab:=I77 N x.1 x.2.1 x.2.2.1 (fun r0=>kf ⟨[⟨.bool,.k,r0⟩],[]⟩)
noncomputable def Ld (N:Nat):=aF Ul (ap6 N)
noncomputable def as4 (N:Nat):List Entry:=[⟨40,[.val,.val],(lQ N)⟩,⟨143,[.val],(kV N)⟩,⟨19,[.val,.val,.val],(Xr N)⟩]
theorem as5 (N:Nat):cX Ul (ap6 N) ap5 (as4 N) (gw N N) Tryz.f77:=fun _ _=>by kernel_rfl
theorem afG {Γ:Gl} (N:Nat):Sound Γ Tryz.prog 77 (Ld N):=iQ ap5 Tryz.f77 (as5 N) ⟨rT N,⟨oS N,⟨as3 N,trivial⟩⟩⟩
noncomputable def BW:List Kd:=.v (.sl dC) .k::dn 4 (.v (.sl (.int .i64)) (.o 3 none .k)::dn 5 (.v (.sl dQ) .k::.v (.int .i64) .k::.v (.int .i64) .k::dn 30 ([])))
noncomputable def Dl:List Kd:=.v (.sl dC) .k::dn 4 (.v (.sl (.int .i64)) (.o 3 none .k)::dn 38 ([]))
noncomputable def Dm:List Kd:=dn 4 (.v .bool .k::dn 39 ([]))
noncomputable def wW:List Kd:=dn 5 (.v (.sl (.int .i64)) (.o 3 none .k)::dn 26 (.v (.sl dC) .k::.v (.int .i64) .k::.v (.int .i64) .k::dn 9 ([])))
noncomputable def y3:List Kd:=dn 44 ([])
noncomputable def y4:List Kd:=dn 4 (.v .bool .k::dn 39 ([]))
noncomputable def Xs:Hint:={ tab,hn:=[],loops:=[(3,BW),(10,wW)],outs:=[(3,2,Dl),(3,1,Dm),(10,4,y3),(10,1,y4)],b5:=[] }
noncomputable def Um:List AK:=[.v (.sl dC) .k,.v (.sl dQ) .k]
noncomputable def ap7 (N:Nat) (x:aL Um) (kf:ab→Option ab):Option ab:=I17 N x.1 x.2.1 (fun r0=>kf ⟨[⟨.bool,.k,r0⟩],[]⟩)
noncomputable def Xt (N:Nat):=aF Um (ap7 N)
noncomputable def Un (N:Nat):List Entry:=[⟨77,[.val,.val,.val],(Ld N)⟩,⟨78,[.val,.val],(K6 N)⟩]
noncomputable def y5:Code:=bw Tryz.f17
noncomputable def Xu (N n:Nat) (key:Nat) (S:St) (K:Ks):Option ab:=bif Nat.beq key 3 then aQ BW S (fun x=>wo N x.1 x.2.2.1 x.2.2.2.1 n (fun z0=>K (.x 0) (shape Dl (x.1,z0,()))) (fun z0=>K .r (shape Dm (z0,()))) x.2.1 x.2.2.2.2.1) else bif Nat.beq key 10 then aQ wW S (fun x=>qS N x.1 x.2.1 x.2.2.1 n (K (.x 2) (shape y3 ())) (fun z0=>K .r (shape y4 (z0,()))) x.2.2.2.1) else none
theorem as6 (N key:Nat) (S:St) (K:Ks):Xu N 0 key S K=none:=(cH (aJ fun _=>rfl) (cH (aJ fun _=>rfl) rfl))
noncomputable def Xv:Code:=(ak y5).getD 0 .skip
noncomputable def Xw:Code:=(ak y5).getD 1 .skip
theorem as7:ak y5=[Xv,Xw]:=by kernel_rfl
theorem aaT (N:Nat):hZ Xs (Un N) (Xu N) N 10 wW Xw:=fun _ _ _=>by kernel_rfl
theorem afH (N:Nat):hZ Xs (Un N) (Xu N) N 3 BW Xv:=fun _ _ _=>by kernel_rfl
theorem as8 (N:Nat):cX Um (ap7 N) Xs (Un N) (Xu N N) Tryz.f17:=fun _ _=>by kernel_rfl
theorem as9 {Γ:Gl} (N:Nat):Sound Γ Tryz.prog 17 (Xt N):=kh Xs Tryz.f17 y5 (as6 N) as7 (as8 N) (rc (afH N) (rc (aaT N) trivial)) ⟨afG N,⟨afB N,trivial⟩⟩
noncomputable def Uo:List AK:=[.v jL .k,.v (.ptr (.int .i64)) .k]
noncomputable def ap8 (N:Nat) (x:aL Uo) (kf:ab→Option ab):Option ab:=I81 N x.1 x.2.1 (fun r0=>kf ⟨[⟨.bool,.k,r0⟩],[]⟩)
noncomputable def Xx (N:Nat):=aF Uo (ap8 N)
theorem as' (N:Nat):cX Uo (ap8 N) hq [] (gw N N) Tryz.f81:=fun _ _=>by kernel_rfl
theorem ata {Γ:Gl} (N:Nat):Sound Γ Tryz.prog 81 (Xx N):=iQ hq Tryz.f81 (as' N) trivial
noncomputable def BX:List Kd:=.v (.sl jL) .k::.mg 81 [.kv (.ptr (.int .i64))]::dn 5 (.v (.int .i64) .k::.v (.int .i64) .k::dn 10 ([]))
noncomputable def Dn:List Kd:=dn 19 ([])
noncomputable def Dp:List Kd:=dn 4 (.v (.int .i64) .k::dn 14 ([]))
noncomputable def afI:Hint:={ tab,hn:=[],loops:=[(2,BX)],outs:=[(2,2,Dn),(2,1,Dp)],b5:=[] }
noncomputable def Up:List AK:=[.v (.sl jL) .k,.fn 81 [(.ptr (.int .i64))]]
noncomputable def ap9 (N:Nat) (x:aL Up) (kf:ab→Option ab):Option ab:=S80 N x.1 x.2.1.1 (fun r0=>kf ⟨[⟨(.int .i64),.k,r0⟩],[]⟩)
noncomputable def Xy (N:Nat):=aF Up (ap9 N)
noncomputable def afJ (N:Nat):List Entry:=[⟨81,[.val],(Xx N)⟩]
noncomputable def GN:Code:=bw Tryz.f80
noncomputable def afK (N n:Nat) (key:Nat) (S:St) (K:Ks):Option ab:=bif Nat.beq key 2 then aQ BX S (fun x=>wq N x.1 x.2.1.1 x.2.2.1 n (K (.x 0) (shape Dn ())) (fun z0=>K .r (shape Dp (z0,()))) x.2.2.2.1) else none
theorem atb (N key:Nat) (S:St) (K:Ks):afK N 0 key S K=none:=(cH (aJ fun _=>rfl) rfl)
noncomputable def Xz:Code:=(ak GN).getD 0 .skip
theorem atc:ak GN=[Xz]:=by kernel_rfl
theorem afL (N:Nat):hZ afI (afJ N) (afK N) N 2 BX Xz:=fun _ _ _=>by kernel_rfl
theorem atd (N:Nat):cX Up (ap9 N) afI (afJ N) (afK N N) Tryz.f80:=fun _ _=>by kernel_rfl
theorem ate {Γ:Gl} (N:Nat):Sound Γ Tryz.prog 80 (Xy N):=kh afI Tryz.f80 GN (atb N) atc (atd N) (rc (afL N) trivial) ⟨ata N,trivial⟩
noncomputable def BY:List Kd:=.v (.sl dC) .k::dn 3 (.v (.ptr jL) (.o 80 none .k)::dn 9 (.v (.sl (.int .i64)) (.o 3 none .k)::.v (.int .i64) .k::.v (.int .i64) .k::dn 25 ([])))
noncomputable def Dq:List Kd:=dn 42 ([])
noncomputable def Dr:List Kd:=dn 6 (.v .bool .k::dn 35 ([]))
noncomputable def afM:Hint:={ tab,hn:=[],loops:=[(2,BY)],outs:=[(2,2,Dq),(2,1,Dr)],b5:=[(5,(OT.seq [0,1,2,3,4,5,6,7,8,9,10,11,12,13,14,15,16,17] .done))] }
noncomputable def Uq:List AK:=[.v (.sl dC) .k,.v jL .k,.v dQ .k]
noncomputable def ap' (N:Nat) (x:aL Uq) (kf:ab→Option ab):Option ab:=I83 N x.1 x.2.1 x.2.2.1 (fun r0=>kf ⟨[⟨.bool,.k,r0⟩],[]⟩)
noncomputable def Le (N:Nat):=aF Uq (ap' N)
noncomputable def afN (N:Nat):List Entry:=[⟨40,[.val,.val],(lQ N)⟩,⟨82,[.val,.val],(y2 N)⟩]
noncomputable def GO:Code:=bw Tryz.f83
noncomputable def afO (N n:Nat) (key:Nat) (S:St) (K:Ks):Option ab:=bif Nat.beq key 2 then aQ BY S (fun x=>wu N x.1 x.2.1 x.2.2.1 x.2.2.2.1 n (K (.x 0) (shape Dq ())) (fun z0=>K .r (shape Dr (z0,()))) x.2.2.2.2.1) else none
theorem atf (N key:Nat) (S:St) (K:Ks):afO N 0 key S K=none:=(cH (aJ fun _=>rfl) rfl)
noncomputable def XA:Code:=(ak GO).getD 0 .skip
theorem atg:ak GO=[XA]:=by kernel_rfl
theorem afP (N:Nat):hZ afM (afN N) (afO N) N 2 BY XA:=fun _ _ _=>by kernel_rfl
theorem ath (N:Nat):cX Uq (ap' N) afM (afN N) (afO N N) Tryz.f83:=fun _ _=>by kernel_rfl
theorem afQ {Γ:Gl} (N:Nat):Sound Γ Tryz.prog 83 (Le N):=kh afM Tryz.f83 GO (atf N) atg (ath N) (rc (afP N) trivial) ⟨rT N,⟨Lc N,trivial⟩⟩
noncomputable def BZ:List Kd:=.v (.sl dC) .k::.v (.sl jL) .k::.v (.sl dQ) .k::.v (.sl (.int .i64)) .k::dn 18 (.v (.sl (.int .i64)) .k::.v (.int .i64) .k::.v (.int .i64) .k::dn 30 ([]))
noncomputable def Ds:List Kd:=dn 55 ([])
noncomputable def Dt:List Kd:=dn 8 (.v .bool .k::dn 46 ([]))
noncomputable def afR:Hint:={ tab,hn:=[],loops:=[(4,BZ)],outs:=[(4,2,Ds),(4,1,Dt)],b5:=[(7,(OT.seq [0,1,2,3,4,5,6,7,8,9,10,11,12,13,14,15,16,17,18,19,20,21] .done))] }
noncomputable def Ur:List AK:=[.v (.sl dC) .k,.v (.sl jL) .k,.v (.sl dQ) .k,.v (.sl (.int .i64)) .k]
noncomputable def aqa (N:Nat) (x:aL Ur) (kf:ab→Option ab):Option ab:=I18 N x.1 x.2.1 x.2.2.1 x.2.2.2.1 (fun r0=>kf ⟨[⟨.bool,.k,r0⟩],[]⟩)
noncomputable def XB (N:Nat):=aF Ur (aqa N)
noncomputable def afS (N:Nat):List Entry:=[⟨79,[.val],(Ei N)⟩,⟨80,[.val,.val],(Xy N)⟩,⟨82,[.val,.val],(y2 N)⟩,⟨83,[.val,.val,.val],(Le N)⟩]
noncomputable def GP:Code:=bw Tryz.f18
noncomputable def afT (N n:Nat) (key:Nat) (S:St) (K:Ks):Option ab:=bif Nat.beq key 4 then aQ BZ S (fun x=>wv N x.1 x.2.1 x.2.2.1 x.2.2.2.1 x.2.2.2.2.1 x.2.2.2.2.2.1 n (K (.x 0) (shape Ds ())) (fun z0=>K .r (shape Dt (z0,()))) x.2.2.2.2.2.2.1) else none
theorem ati (N key:Nat) (S:St) (K:Ks):afT N 0 key S K=none:=(cH (aJ fun _=>rfl) rfl)
noncomputable def XC:Code:=(ak GP).getD 0 .skip
theorem atj:ak GP=[XC]:=by kernel_rfl
theorem afU (N:Nat):hZ afR (afS N) (afT N) N 4 BZ XC:=fun _ _ _=>by kernel_rfl
theorem atk (N:Nat):cX Ur (aqa N) afR (afS N) (afT N N) Tryz.f18:=fun _ _=>by kernel_rfl
theorem atl {Γ:Gl} (N:Nat):Sound Γ Tryz.prog 18 (XB N):=kh afR Tryz.f18 GP (ati N) atj (atk N) (rc (afU N) trivial) ⟨Ug N,⟨ate N,⟨Lc N,⟨afQ N,trivial⟩⟩⟩⟩
noncomputable def Lg:List AK:=[.v sD .k]
noncomputable def afV (N:Nat) (x:aL Lg) (kf:ab→Option ab):Option ab:=Ov N x.1 (fun r0=>kf ⟨[⟨.bool,.k,r0⟩],[]⟩)
noncomputable def y6 (N:Nat):=aF Lg (afV N)
noncomputable def alk (N:Nat):List Entry:=[⟨144,[.val,.val,.val],(mf N)⟩]
theorem alm (N:Nat):cX Lg (afV N) hq (alk N) (gw N N) Tryz.f138:=fun _ _=>by kernel_rfl
theorem Lh {Γ:Gl} (N:Nat):Sound Γ Tryz.prog 138 (y6 N):=iQ hq Tryz.f138 (alm N) ⟨rV N,trivial⟩
noncomputable def wX:List Kd:=dn 3 (.v (.int .i64) .k::dn 6 (.v (.sl dC) .k::.v (.int .i64) .k::.v (.int .i64) .k::dn 9 ([])))
noncomputable def y7:List Kd:=dn 3 (.v (.int .i64) .k::dn 18 ([]))
noncomputable def Us:Hint:={ tab,hn:=[],loops:=[(5,wX)],outs:=[(5,2,y7)],b5:=[] }
noncomputable def Li:List AK:=[.v (.sl dC) .k]
noncomputable def afW (N:Nat) (x:aL Li) (kf:ab→Option ab):Option ab:=aiD N x.1 (fun r0=>kf ⟨[⟨(.int .i64),.k,r0⟩],[]⟩)
noncomputable def PY (N:Nat):=aF Li (afW N)
noncomputable def XD (N:Nat):List Entry:=[⟨143,[.val],(kV N)⟩]
noncomputable def B0:Code:=bw Tryz.f145
noncomputable def Ut (N n:Nat) (key:Nat) (S:St) (K:Ks):Option ab:=bif Nat.beq key 5 then aQ wX S (fun x=>qT x.2.1 x.2.2.1 n (fun z0=>K (.x 0) (shape y7 (z0,()))) x.1 x.2.2.2.1) else none
theorem aln (N key:Nat) (S:St) (K:Ks):Ut N 0 key S K=none:=(cH (aJ fun _=>rfl) rfl)
noncomputable def PZ:Code:=(ak B0).getD 0 .skip
theorem alo:ak B0=[PZ]:=by kernel_rfl
theorem aaU (N:Nat):hZ Us (XD N) (Ut N) N 5 wX PZ:=fun _ _ _=>by kernel_rfl
theorem alp (N:Nat):cX Li (afW N) Us (XD N) (Ut N N) Tryz.f145:=fun _ _=>by kernel_rfl
theorem alq {Γ:Gl} (N:Nat):Sound Γ Tryz.prog 145 (PY N):=kh Us Tryz.f145 B0 (aln N) alo (alp N) (rc (aaU N) trivial) ⟨oS N,trivial⟩
noncomputable def B2:List Kd:=dK::.v (.ptr bU) (.o 31 none .k)::dn 60 (.v (.sl sD) .k::.v (.int .i64) .k::.v (.int .i64) .k::dn 34 ([]))
noncomputable def Du:List Kd:=dK::.v (.ptr bU) (.o 31 none .k)::dn 97 ([])
noncomputable def Dv:List Kd:=dK::dK::.v .bool .k::dn 96 ([])
noncomputable def afX:Hint:={ tab,hn:=[],loops:=[(6,B2)],outs:=[(6,2,Du),(6,1,Dv)],b5:=[(8,(OT.seq [0,1,2,3,4,5,6,7,8,9,10,11,12,13,14,15,16,17] .done)),(11,(OT.seq [0,1,2,3,4,5,7,8,6,9,10,11] .done))] }
noncomputable def Lj:List AK:=[.v bU .k]
noncomputable def aqb (N:Nat) (x:aL Lj) (kf:ab→Option ab):Option ab:=RM N x.1 (fun r0=>kf ⟨[⟨.bool,.k,r0⟩],[]⟩)
noncomputable def uP (N:Nat):=aF Lj (aqb N)
noncomputable def afY (N:Nat):List Entry:=[⟨143,[.val],(kV N)⟩,⟨79,[.val],(Ei N)⟩,⟨75,[.val],(Eh N)⟩,⟨16,[.val],(rU N)⟩,⟨17,[.val,.val],(Xt N)⟩,⟨18,[.val,.val,.val,.val],(XB N)⟩,⟨138,[.val],(y6 N)⟩,⟨144,[.val,.val,.val],(mf N)⟩,⟨145,[.val],(PY N)⟩]
noncomputable def GQ:Code:=bw Tryz.f39
noncomputable def afZ (N n:Nat) (key:Nat) (S:St) (K:Ks):Option ab:=bif Nat.beq key 6 then aQ B2 S (fun x=>tx N x.1 x.2.1 x.2.2.1 n (K (.x 0) (shape Du (x.1,()))) (fun z0=>K .r (shape Dv (z0,()))) x.2.2.2.1) else none
theorem atm (N key:Nat) (S:St) (K:Ks):afZ N 0 key S K=none:=(cH (aJ fun _=>rfl) rfl)
noncomputable def XE:Code:=(ak GQ).getD 0 .skip
theorem atn:ak GQ=[XE]:=by kernel_rfl
theorem af0 (N:Nat):hZ afX (afY N) (afZ N) N 6 B2 XE:=fun _ _ _=>by kernel_rfl
theorem ato (N:Nat):cX Lj (aqb N) afX (afY N) (afZ N N) Tryz.f39:=fun _ _=>by kernel_rfl
theorem GR {Γ:Gl} (N:Nat):Sound Γ Tryz.prog 39 (uP N):=kh afX Tryz.f39 GQ (atm N) atn (ato N) (rc (af0 N) trivial) ⟨oS N,⟨Ug N,⟨Ub N,⟨BP N,⟨as9 N,⟨atl N,⟨Lh N,⟨rV N,⟨alq N,trivial⟩⟩⟩⟩⟩⟩⟩⟩⟩
noncomputable def Lk:List AK:=[.v bU .k,.v bU (.p (.o 46 none (.p .k (.p .k (.p .k (.p .k (.p .k (.o 3 none .k))))))) (.p (.o 80 none (.p .k (.p .k (.o 3 none .k)))) (.p (.o 104 none .k) (.p (.o 3 none .k) (.p (.o 136 none .k) (.p (.o 102 none .k) .k)))))),.v (.int .i64) .k,.v (.int .i64) .k]
noncomputable def af1 (N:Nat) (x:aL Lk) (kf:ab→Option ab):Option ab:=JO N x.1 x.2.1 x.2.2.1 x.2.2.2.1 (fun r0 r1=>kf ⟨[⟨bU,(.p (.o 46 none (.p .k (.p .k (.p .k (.p .k (.p .k (.o 3 none .k))))))) (.p (.o 80 none (.p .k (.p .k (.o 3 none .k)))) (.p (.o 104 none .k) (.p (.o 3 none .k) (.p (.o 136 none .k) (.p (.o 102 none .k) .k)))))),r0⟩,⟨.bool,.k,r1⟩],[]⟩)
noncomputable def nR (N:Nat):=aF Lk (af1 N)
noncomputable def alr (N:Nat):List Entry:=[⟨189,[.val,.val,.val],(PU N)⟩,⟨39,[.val],(uP N)⟩,⟨70,[.val],(oQ N)⟩]
theorem als (N:Nat):cX Lk (af1 N) hq (alr N) (gw N N) Tryz.f103:=fun _ _=>by kernel_rfl
theorem uQ {Γ:Gl} (N:Nat):Sound Γ Tryz.prog 103 (nR N):=iQ hq Tryz.f103 (als N) ⟨ald N,⟨GR N,⟨wR N,trivial⟩⟩⟩
noncomputable def B3:List Kd:=dK::.v (.int .i64) .k::.v (.int .i64) .k::.v (.ptr bU) (.o 31 none .k)::dK::dK::.v (.ptr bU) (.o 31 none (.p (.o 46 none (.p .k (.p .k (.p .k (.p .k (.p .k (.o 3 none .k))))))) (.p (.o 80 none (.p .k (.p .k (.o 3 none .k)))) (.p (.o 104 none .k) (.p (.o 3 none .k) (.p (.o 136 none .k) (.p (.o 102 none .k) .k)))))))::dK::.v (.ptr bU) (.o 31 none (.p (.o 46 none (.p .k (.p .k (.p .k (.p .k (.p .k (.o 3 none .k))))))) (.p (.o 80 none (.p .k (.p .k (.o 3 none .k)))) (.p (.o 104 none .k) (.p (.o 3 none .k) (.p (.o 136 none .k) (.p (.o 102 none .k) .k)))))))::.v (.int .i64) .k::dn 44 ([])
noncomputable def Dw:List Kd:=dK::.v (.int .i64) .k::.v (.int .i64) .k::.v (.ptr bU) (.o 31 none .k)::dK::dK::.v (.ptr bU) (.o 31 none (.p (.o 46 none (.p .k (.p .k (.p .k (.p .k (.p .k (.o 3 none .k))))))) (.p (.o 80 none (.p .k (.p .k (.o 3 none .k)))) (.p (.o 104 none .k) (.p (.o 3 none .k) (.p (.o 136 none .k) (.p (.o 102 none .k) .k)))))))::dK::.v (.ptr bU) (.o 31 none (.p (.o 46 none (.p .k (.p .k (.p .k (.p .k (.p .k (.o 3 none .k))))))) (.p (.o 80 none (.p .k (.p .k (.o 3 none .k)))) (.p (.o 104 none .k) (.p (.o 3 none .k) (.p (.o 136 none .k) (.p (.o 102 none .k) .k)))))))::.v (.int .i64) .k::dn 44 ([])
noncomputable def af2:Hint:={ tab,hn:=[],loops:=[(5,B3)],outs:=[(5,2,Dw)],b5:=[] }
noncomputable def Ll:List AK:=[.v bU .k,.v (.int .i64) .k,.v (.int .i64) .k]
noncomputable def aqc (N:Nat) (x:aL Ll) (kf:ab→Option ab):Option ab:=I30 N x.1 x.2.1 x.2.2.1 (fun r0 r1=>kf ⟨[⟨bU,(.p (.o 46 none (.p .k (.p .k (.p .k (.p .k (.p .k (.o 3 none .k))))))) (.p (.o 80 none (.p .k (.p .k (.o 3 none .k)))) (.p (.o 104 none .k) (.p (.o 3 none .k) (.p (.o 136 none .k) (.p (.o 102 none .k) .k)))))),r0⟩,⟨.bool,.k,r1⟩],[]⟩)
noncomputable def XF (N:Nat):=aF Ll (aqc N)
noncomputable def af3 (N:Nat):List Entry:=[⟨70,[.val],(oQ N)⟩,⟨40,[.val,.val],(lQ N)⟩,⟨16,[.val],(rU N)⟩,⟨135,[.take,.val,.take],(PN N)⟩,⟨103,[.val,.take,.val,.val],(nR N)⟩]
noncomputable def GS:Code:=bw Tryz.f30
noncomputable def af4 (N n:Nat) (key:Nat) (S:St) (K:Ks):Option ab:=bif Nat.beq key 5 then aQ B3 S (fun x=>tz x.1 x.2.1 x.2.2.1 x.2.2.2.1 x.2.2.2.2.1 n (fun z0=>K (.x 0) (shape Dw (x.1,x.2.1,x.2.2.1,x.2.2.2.1,x.2.2.2.2.1,z0,()))) x.2.2.2.2.2.1) else none
theorem atp (N key:Nat) (S:St) (K:Ks):af4 N 0 key S K=none:=(cH (aJ fun _=>rfl) rfl)
noncomputable def XG:Code:=(ak GS).getD 0 .skip
theorem atq:ak GS=[XG]:=by kernel_rfl
theorem af5 (N:Nat):hZ af2 (af3 N) (af4 N) N 5 B3 XG:=fun _ _ _=>by kernel_rfl
theorem atr (N:Nat):cX Ll (aqc N) af2 (af3 N) (af4 N N) Tryz.f30:=fun _ _=>by kernel_rfl
theorem att {Γ:Gl} (N:Nat):Sound Γ Tryz.prog 30 (XF N):=kh af2 Tryz.f30 GS (atp N) atq (atr N) (rc (af5 N) trivial) ⟨wR N,⟨rT N,⟨BP N,⟨akW N,⟨uQ N,trivial⟩⟩⟩⟩⟩
end Go.Pv.R
