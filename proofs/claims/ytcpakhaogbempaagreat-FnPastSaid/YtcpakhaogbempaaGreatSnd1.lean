/- Each function of the program that the law reaches computes its plain function, part 1. -/
import Derived.Test.YtcpakhaogbempaaGreatSnd0
import Derived.Test.YtcpakhaogbempaaGreatProg
namespace Go.Pv.R
open Go.Proofs
set_option linter.unusedVariables false
set_option maxRecDepth 100000
noncomputable def KF:List AK:=[.v dd .k,.v dd (.p (.o 46 none (.p .k (.p .k (.p .k (.p .k (.p .k (.o 3 none .k))))))) (.p (.o 80 none (.p .k (.p .k (.o 3 none .k)))) (.p (.o 104 none .k) (.p (.o 3 none .k) (.p (.o 136 none .k) (.p (.o 102 none .k) .k)))))),.v (.int .i64) .k,.v (.int .i64) .k]
noncomputable def afw (N:Nat) (x:ax KF) (kf:aa→Option aa):Option aa:=Jk N x.1 x.2.1 x.2.2.1 x.2.2.2.1 (fun r0 r1=>kf ⟨[⟨dd,(.p (.o 46 none (.p .k (.p .k (.p .k (.p .k (.p .k (.o 3 none .k))))))) (.p (.o 80 none (.p .k (.p .k (.o 3 none .k)))) (.p (.o 104 none .k) (.p (.o 3 none .k) (.p (.o 136 none .k) (.p (.o 102 none .k) .k)))))),r0⟩,⟨.bool,.k,r1⟩],[]⟩)
noncomputable def mX (N:Nat):=ao KF (afw N)
noncomputable def ak6 (N:Nat):List Entry:=[⟨189,[.val,.val,.val],(O2 N)⟩,⟨39,[.val],(yn N)⟩,⟨70,[.val],(kL N)⟩]
theorem ak7 (N:Nat):ca KF (afw N) hq (ak6 N) (fm N N) Tryz.f103:=fun _ _=>by kernel_rfl
theorem tU {Γ:Gl} (N:Nat):Sound Γ Tryz.prog 103 (mX N):=gJ hq Tryz.f103 (ak7 N) ⟨akT N,⟨KE N,⟨qN N,trivial⟩⟩⟩
noncomputable def Bb:List Kd:=dK::.v (.int .i64) .k::.v (.int .i64) .k::.v (.ptr dd) (.o 31 none .k)::dK::dK::.v (.ptr dd) (.o 31 none (.p (.o 46 none (.p .k (.p .k (.p .k (.p .k (.p .k (.o 3 none .k))))))) (.p (.o 80 none (.p .k (.p .k (.o 3 none .k)))) (.p (.o 104 none .k) (.p (.o 3 none .k) (.p (.o 136 none .k) (.p (.o 102 none .k) .k)))))))::dK::.v (.ptr dd) (.o 31 none (.p (.o 46 none (.p .k (.p .k (.p .k (.p .k (.p .k (.o 3 none .k))))))) (.p (.o 80 none (.p .k (.p .k (.o 3 none .k)))) (.p (.o 104 none .k) (.p (.o 3 none .k) (.p (.o 136 none .k) (.p (.o 102 none .k) .k)))))))::.v (.int .i64) .k::dn 44 ([])
noncomputable def CV:List Kd:=dK::.v (.int .i64) .k::.v (.int .i64) .k::.v (.ptr dd) (.o 31 none .k)::dK::dK::.v (.ptr dd) (.o 31 none (.p (.o 46 none (.p .k (.p .k (.p .k (.p .k (.p .k (.o 3 none .k))))))) (.p (.o 80 none (.p .k (.p .k (.o 3 none .k)))) (.p (.o 104 none .k) (.p (.o 3 none .k) (.p (.o 136 none .k) (.p (.o 102 none .k) .k)))))))::dK::.v (.ptr dd) (.o 31 none (.p (.o 46 none (.p .k (.p .k (.p .k (.p .k (.p .k (.o 3 none .k))))))) (.p (.o 80 none (.p .k (.p .k (.o 3 none .k)))) (.p (.o 104 none .k) (.p (.o 3 none .k) (.p (.o 136 none .k) (.p (.o 102 none .k) .k)))))))::.v (.int .i64) .k::dn 44 ([])
noncomputable def afx:Hint:={ tab,hn:=[],loops:=[(5,Bb)],outs:=[(5,2,CV)],bp:=[] }
noncomputable def Tv:List AK:=[.v dd .k,.v (.int .i64) .k,.v (.int .i64) .k]
noncomputable def apF (N:Nat) (x:ax Tv) (kf:aa→Option aa):Option aa:=I30 N x.1 x.2.1 x.2.2.1 (fun r0 r1=>kf ⟨[⟨dd,(.p (.o 46 none (.p .k (.p .k (.p .k (.p .k (.p .k (.o 3 none .k))))))) (.p (.o 80 none (.p .k (.p .k (.o 3 none .k)))) (.p (.o 104 none .k) (.p (.o 3 none .k) (.p (.o 136 none .k) (.p (.o 102 none .k) .k)))))),r0⟩,⟨.bool,.k,r1⟩],[]⟩)
noncomputable def WO (N:Nat):=ao Tv (apF N)
noncomputable def afy (N:Nat):List Entry:=[⟨70,[.val],(kL N)⟩,⟨40,[.val,.val],(lZ N)⟩,⟨16,[.val],(qO N)⟩,⟨135,[.take,.val,.take],(OW N)⟩,⟨103,[.val,.take,.val,.val],(mX N)⟩]
noncomputable def Gm:Code:=aJ Tryz.f30
noncomputable def afz (N n:Nat) (key:Nat) (S:St) (K:Ks):Option aa:=bif Nat.beq key 5 then az Bb S (fun x=>sz x.1 x.2.1 x.2.2.1 x.2.2.2.1 x.2.2.2.2.1 n (fun z0=>K (.x 0) (shape CV (x.1,x.2.1,x.2.2.1,x.2.2.2.1,x.2.2.2.2.1,z0,()))) x.2.2.2.2.2.1) else none
theorem asS (N key:Nat) (S:St) (K:Ks):afz N 0 key S K=none:=(bL (aq fun _=>rfl) rfl)
noncomputable def WQ:Code:=(af Gm).getD 0 .skip
theorem asT:af Gm=[WQ]:=by kernel_rfl
theorem afA (N:Nat):fi afx (afy N) (afz N) N 5 Bb WQ:=fun _ _ _=>by kernel_rfl
theorem asU (N:Nat):ca Tv (apF N) afx (afy N) (afz N N) Tryz.f30:=fun _ _=>by kernel_rfl
theorem asV {Γ:Gl} (N:Nat):Sound Γ Tryz.prog 30 (WO N):=gW afx Tryz.f30 Gm (asS N) asT (asU N) (rc (afA N) trivial) ⟨qN N,⟨s4 N,⟨AU N,⟨akB N,⟨tU N,trivial⟩⟩⟩⟩⟩
noncomputable def KG:List AK:=[.v jT .k,.v (.ptr (.int .i64)) .k]
noncomputable def afB (N:Nat) (x:ax KG) (kf:aa→Option aa):Option aa:=aiH N x.1 x.2.1 (fun r0=>kf ⟨[⟨.bool,.k,r0⟩],[]⟩)
noncomputable def O8 (N:Nat):=ao KG (afB N)
theorem ak8 (N:Nat):ca KG (afB N) hq [] (fm N N) Tryz.f209:=fun _ _=>by kernel_rfl
theorem ak9 {Γ:Gl} (N:Nat):Sound Γ Tryz.prog 209 (O8 N):=gJ hq Tryz.f209 (ak8 N) trivial
noncomputable def v7:List Kd:=.v (.sl jT) .k::.lE 209 [.kv (.ptr (.int .i64))]::dn 5 (.v (.int .i64) .k::.v (.int .i64) .k::dn 10 ([]))
noncomputable def yo:List Kd:=dn 19 ([])
noncomputable def yp:List Kd:=dn 4 (.v (.int .i64) .k::dn 14 ([]))
noncomputable def Tw:Hint:={ tab,hn:=[],loops:=[(2,v7)],outs:=[(2,2,yo),(2,1,yp)],bp:=[] }
noncomputable def KH:List AK:=[.v (.sl jT) .k,.fn 209 [(.ptr (.int .i64))]]
noncomputable def afC (N:Nat) (x:ax KH) (kf:aa→Option aa):Option aa:=aqY N x.1 x.2.1.1 (fun r0=>kf ⟨[⟨(.int .i64),.k,r0⟩],[]⟩)
noncomputable def O9 (N:Nat):=ao KH (afC N)
noncomputable def WR (N:Nat):List Entry:=[⟨209,[.val],(O8 N)⟩]
noncomputable def Bc:Code:=aJ Tryz.f80
noncomputable def Tx (N n:Nat) (key:Nat) (S:St) (K:Ks):Option aa:=bif Nat.beq key 2 then az v7 S (fun x=>p6 N x.1 x.2.1.1 x.2.2.1 n (K (.x 0) (shape yo ())) (fun z0=>K .r (shape yp (z0,()))) x.2.2.2.1) else none
theorem ak' (N key:Nat) (S:St) (K:Ks):Tx N 0 key S K=none:=(bL (aq fun _=>rfl) rfl)
noncomputable def O':Code:=(af Bc).getD 0 .skip
theorem ala:af Bc=[O']:=by kernel_rfl
theorem aai (N:Nat):fi Tw (WR N) (Tx N) N 2 v7 O':=fun _ _ _=>by kernel_rfl
theorem alb (N:Nat):ca KH (afC N) Tw (WR N) (Tx N N) Tryz.f80:=fun _ _=>by kernel_rfl
theorem alc {Γ:Gl} (N:Nat):Sound Γ Tryz.prog 80 (O9 N):=gW Tw Tryz.f80 Bc (ak' N) ala (alb N) (rc (aai N) trivial) ⟨ak9 N,trivial⟩
noncomputable def KI:List AK:=[.v (.sl jT) .k,.v (.int .i64) .k]
noncomputable def afD (N:Nat) (x:ax KI) (kf:aa→Option aa):Option aa:=RZ N x.1 x.2.1 (fun r0=>kf ⟨[⟨(.int .i64),.k,r0⟩],[]⟩)
noncomputable def Gn (N:Nat):=ao KI (afD N)
noncomputable def ald (N:Nat):List Entry:=[⟨80,[.val,.val],(O9 N)⟩]
theorem ale (N:Nat):ca KI (afD N) hq (ald N) (fm N N) Tryz.f130:=fun _ _=>by kernel_rfl
theorem WS {Γ:Gl} (N:Nat):Sound Γ Tryz.prog 130 (Gn N):=gJ hq Tryz.f130 (ale N) ⟨alc N,trivial⟩
def afE:Go.Shelf.Ren:=⟨fun n=>bif Nat.beq n 22 then 136 else bif Nat.beq n 29 then 214 else bif Nat.beq n 30 then 215 else n,fun n=>bif Nat.beq n 0 then 0 else bif Nat.beq n 3 then 3 else bif Nat.beq n 4 then 4 else bif Nat.beq n 9 then 80 else bif Nat.beq n 24 then 25 else n,fun n=>n⟩
def alf:Array Value:=#[.int .i64 0,.int .i64 0,.slice none 0 0]
noncomputable def alg:TypeInfo:=(Tryz.prog.info? 80).get (by kernel_rfl)
theorem afF:It Tryz.prog afE (Ty.size jT) alf alg:={ FB:=⟨Tryz.f136.name,by kernel_rfl,by kernel_rfl⟩,FO:=⟨Tryz.f214,by kernel_rfl,by kernel_rfl,by kernel_rfl,by kernel_rfl,by kernel_rfl⟩,mixed:=by kernel_rfl,t0:=by kernel_rfl,a0:=fun w=>by kernel_rfl,z0:=fun w=>by kernel_rfl,v0:=fun w=>by kernel_rfl,t3:=by kernel_rfl,a3:=fun w=>by kernel_rfl,z3:=fun w=>by kernel_rfl,v3:=fun w=>by kernel_rfl,t4:=by kernel_rfl,a4:=fun w=>by kernel_rfl,z4:=fun w=>by kernel_rfl,v4:=fun w=>by kernel_rfl,t24:=by kernel_rfl,a24:=fun w=>by kernel_rfl,z24:=fun w=>by kernel_rfl,v24:=fun w=>by kernel_rfl,z9:=fun w=>by kernel_rfl,hz:=by kernel_rfl,hzo:=by kernel_rfl,I8:=by kernel_rfl,hz0:=by kernel_rfl,IW:=by kernel_rfl,hby:=Nat.le_of_ble_eq_true (by kernel_rfl),Dd:=Nat.le_of_ble_eq_true (by kernel_rfl) }
noncomputable def WT:List AK:=[.v (.sl jT) (.o 80 none (.p .k (.p .k (.o 3 none .k)))),.v (.int .i64) .k,.v (.sl jT) (.o 80 none (.p .k (.p .k (.o 3 none .k))))]
noncomputable def asW (N:Nat) (x:ax WT) (kf:aa→Option aa):Option aa:=aiI N x.1 x.2.1 x.2.2.1 (fun r0=>kf ⟨[⟨(.sl jT),(.o 80 none (.p .k (.p .k (.o 3 none .k)))),r0⟩],[]⟩)
noncomputable def Pb (N:Nat):=ao WT (asW N)
theorem alh {Γ:Gl} (N:Nat):Sound Γ Tryz.prog 136 (Pb N):=x6 afF (.p .k (.p .k (.o 3 none .k))) (by kernel_rfl)
noncomputable def Bd:List Kd:=dK::.v (.int .i64) .k::.v (.int .i64) .k::.v (.ptr dd) (.o 31 none .k)::dK::dK::.v (.ptr dd) (.o 31 none (.p (.o 46 none (.p .k (.p .k (.p .k (.p .k (.p .k (.o 3 none .k))))))) (.p (.o 80 none (.p .k (.p .k (.o 3 none .k)))) (.p (.o 104 none .k) (.p (.o 3 none .k) (.p (.o 136 none .k) (.p (.o 102 none .k) .k)))))))::dK::.v (.ptr dd) (.o 31 none (.p (.o 46 none (.p .k (.p .k (.p .k (.p .k (.p .k (.o 3 none .k))))))) (.p (.o 80 none (.p .k (.p .k (.o 3 none .k)))) (.p (.o 104 none .k) (.p (.o 3 none .k) (.p (.o 136 none .k) (.p (.o 102 none .k) .k)))))))::.v (.int .i64) .k::dn 40 ([])
noncomputable def CW:List Kd:=dK::.v (.int .i64) .k::.v (.int .i64) .k::.v (.ptr dd) (.o 31 none .k)::dK::dK::.v (.ptr dd) (.o 31 none (.p (.o 46 none (.p .k (.p .k (.p .k (.p .k (.p .k (.o 3 none .k))))))) (.p (.o 80 none (.p .k (.p .k (.o 3 none .k)))) (.p (.o 104 none .k) (.p (.o 3 none .k) (.p (.o 136 none .k) (.p (.o 102 none .k) .k)))))))::dK::.v (.ptr dd) (.o 31 none (.p (.o 46 none (.p .k (.p .k (.p .k (.p .k (.p .k (.o 3 none .k))))))) (.p (.o 80 none (.p .k (.p .k (.o 3 none .k)))) (.p (.o 104 none .k) (.p (.o 3 none .k) (.p (.o 136 none .k) (.p (.o 102 none .k) .k)))))))::.v (.int .i64) .k::dn 40 ([])
noncomputable def afG:Hint:={ tab,hn:=[],loops:=[(5,Bd)],outs:=[(5,2,CW)],bp:=[] }
noncomputable def Tz:List AK:=[.v dd .k,.v (.int .i64) .k,.v (.int .i64) .k]
noncomputable def apG (N:Nat) (x:ax Tz) (kf:aa→Option aa):Option aa:=I32 N x.1 x.2.1 x.2.2.1 (fun r0 r1=>kf ⟨[⟨dd,(.p (.o 46 none (.p .k (.p .k (.p .k (.p .k (.p .k (.o 3 none .k))))))) (.p (.o 80 none (.p .k (.p .k (.o 3 none .k)))) (.p (.o 104 none .k) (.p (.o 3 none .k) (.p (.o 136 none .k) (.p (.o 102 none .k) .k)))))),r0⟩,⟨.bool,.k,r1⟩],[]⟩)
noncomputable def WU (N:Nat):=ao Tz (apG N)
noncomputable def afH (N:Nat):List Entry:=[⟨70,[.val],(kL N)⟩,⟨130,[.val,.val],(Gn N)⟩,⟨136,[.take,.val,.take],(Pb N)⟩,⟨103,[.val,.take,.val,.val],(mX N)⟩]
noncomputable def Gp:Code:=aJ Tryz.f32
noncomputable def afI (N n:Nat) (key:Nat) (S:St) (K:Ks):Option aa:=bif Nat.beq key 5 then az Bd S (fun x=>sA x.1 x.2.1 x.2.2.1 x.2.2.2.1 x.2.2.2.2.1 n (fun z0=>K (.x 0) (shape CW (x.1,x.2.1,x.2.2.1,x.2.2.2.1,x.2.2.2.2.1,z0,()))) x.2.2.2.2.2.1) else none
theorem asX (N key:Nat) (S:St) (K:Ks):afI N 0 key S K=none:=(bL (aq fun _=>rfl) rfl)
noncomputable def WV:Code:=(af Gp).getD 0 .skip
theorem asY:af Gp=[WV]:=by kernel_rfl
theorem afJ (N:Nat):fi afG (afH N) (afI N) N 5 Bd WV:=fun _ _ _=>by kernel_rfl
theorem asZ (N:Nat):ca Tz (apG N) afG (afH N) (afI N N) Tryz.f32:=fun _ _=>by kernel_rfl
theorem as0 {Γ:Gl} (N:Nat):Sound Γ Tryz.prog 32 (WU N):=gW afG Tryz.f32 Gp (asX N) asY (asZ N) (rc (afJ N) trivial) ⟨qN N,⟨WS N,⟨alh N,⟨tU N,trivial⟩⟩⟩⟩
noncomputable def afK:Hint:={ tab,hn:=[],loops:=[],outs:=[],bp:=[] }
noncomputable def DI:List AK:=[.v (.sl cX) .k]
noncomputable def KJ (N:Nat) (x:ax DI) (kf:aa→Option aa):Option aa:=aiK N x.1 (fun r0=>kf ⟨[⟨(.sl cX),(.o 46 none .k),r0⟩],[]⟩)
noncomputable def Pc (N:Nat):=ao DI (KJ N)
noncomputable def IB:Code:=aJ Tryz.f229
theorem ali:af IB=[]:=by kernel_rfl
theorem alj (N:Nat):ca DI (KJ N) afK [] (fm N N) Tryz.f229:=fun _ _=>by kernel_rfl
theorem afL (N:Nat) (x:ax DI):cJ (KJ N x):=by
 obtain⟨l,u⟩:=x
 unfold KJ aiK
 cases l with
 |nil=>exact⟨some _,fun K=>l6 _⟩
 |cons a l=>
  simp only[List.isEmpty_cons,cond_false]
  exact cJ.bif _ (cJ.pure _) cJ.none
theorem alk {Γ:Gl} (N:Nat):Sound Γ Tryz.prog 229 (Pc N):=jz (hh:=afK) mixed ly (es:=[]) trivial (fn:=Tryz.f229) (body:=IB) (by kernel_rfl) (by kernel_rfl) (by kernel_rfl) (by kernel_rfl) (by kernel_rfl) (Lf:=fm N) (Z' N) ali trivial (N:=N) (by kernel_rfl) (alj N) (.inr (afL N))
noncomputable def KK:List AK:=[.v (.int .u64) .k]
noncomputable def afM (N:Nat) (x:ax KK) (kf:aa→Option aa):Option aa:=aq2 N x.1 (fun r0=>kf ⟨[⟨(.int .i64),.k,r0⟩],[]⟩)
noncomputable def Pd (N:Nat):=ao KK (afM N)
theorem alm (N:Nat):ca KK (afM N) hq [] (fm N N) Tryz.f245:=fun _ _=>by kernel_rfl
theorem aln {Γ:Gl} (N:Nat):Sound Γ Tryz.prog 245 (Pd N):=gJ hq Tryz.f245 (alm N) trivial
noncomputable def KL:List AK:=[.v (.int .u64) .k]
noncomputable def afN (N:Nat) (x:ax KL) (kf:aa→Option aa):Option aa:=aiL N x.1 (fun r0=>kf ⟨[⟨(.int .i64),.k,r0⟩],[]⟩)
noncomputable def Pe (N:Nat):=ao KL (afN N)
noncomputable def alo (N:Nat):List Entry:=[⟨245,[.val],(Pd N)⟩]
theorem alp (N:Nat):ca KL (afN N) hq (alo N) (fm N N) Tryz.f211:=fun _ _=>by kernel_rfl
theorem alq {Γ:Gl} (N:Nat):Sound Γ Tryz.prog 211 (Pe N):=gJ hq Tryz.f211 (alp N) ⟨aln N,trivial⟩
noncomputable def KM:List AK:=[.v (.int .i64) .k]
noncomputable def afO (N:Nat) (x:ax KM) (kf:aa→Option aa):Option aa:=aiM N x.1 (fun r0=>kf ⟨[⟨.bool,.k,r0⟩],[]⟩)
noncomputable def Pf (N:Nat):=ao KM (afO N)
theorem alr (N:Nat):ca KM (afO N) hq [] (fm N N) Tryz.f253:=fun _ _=>by kernel_rfl
theorem als {Γ:Gl} (N:Nat):Sound Γ Tryz.prog 253 (Pf N):=gJ hq Tryz.f253 (alr N) trivial
noncomputable def KN:List AK:=[.v (.int .i64) .k,.v (.int .i64) .k]
noncomputable def afP (N:Nat) (x:ax KN) (kf:aa→Option aa):Option aa:=YY N x.1 x.2.1 (fun r0=>kf ⟨[⟨(.int .i64),.k,r0⟩],[]⟩)
noncomputable def Pg (N:Nat):=ao KN (afP N)
noncomputable def alu (N:Nat):List Entry:=[⟨253,[.val],(Pf N)⟩]
theorem alv (N:Nat):ca KN (afP N) hq (alu N) (fm N N) Tryz.f233:=fun _ _=>by kernel_rfl
theorem alw {Γ:Gl} (N:Nat):Sound Γ Tryz.prog 233 (Pg N):=gJ hq Tryz.f233 (alv N) ⟨als N,trivial⟩
noncomputable def v8:List Kd:=dn 3 (.v (.int .i64) .k::dK::dK::.v (.sl (.int .i64)) .k::.v (.int .i64) .k::.v (.int .i64) .k::dn 9 ([]))
noncomputable def yq:List Kd:=dn 3 (.v (.int .i64) .k::dn 14 ([]))
noncomputable def yr:List Kd:=dK::dK::.v (.int .i64) .k::dn 15 ([])
noncomputable def TA:Hint:={ tab,hn:=[],loops:=[(3,v8)],outs:=[(3,2,yq),(3,1,yr)],bp:=[] }
noncomputable def KO:List AK:=[.v (.sl (.int .i64)) .k]
noncomputable def afQ (N:Nat) (x:ax KO) (kf:aa→Option aa):Option aa:=aiN N x.1 (fun r0=>kf ⟨[⟨(.int .i64),.k,r0⟩],[]⟩)
noncomputable def Ph (N:Nat):=ao KO (afQ N)
noncomputable def Be:Code:=aJ Tryz.f232
noncomputable def TB (N n:Nat) (key:Nat) (S:St) (K:Ks):Option aa:=bif Nat.beq key 3 then az v8 S (fun x=>p7 x.1 x.2.1 x.2.2.1 n (K (.x 0) (shape yq (x.1,()))) (fun z0=>K .r (shape yr (z0,()))) x.2.2.2.1) else none
theorem alx (N key:Nat) (S:St) (K:Ks):TB N 0 key S K=none:=(bL (aq fun _=>rfl) rfl)
noncomputable def Pj:Code:=(af Be).getD 0 .skip
theorem aly:af Be=[Pj]:=by kernel_rfl
theorem aaj (N:Nat):fi TA [] (TB N) N 3 v8 Pj:=fun _ _ _=>by kernel_rfl
theorem alz (N:Nat):ca KO (afQ N) TA [] (TB N N) Tryz.f232:=fun _ _=>by kernel_rfl
theorem alA {Γ:Gl} (N:Nat):Sound Γ Tryz.prog 232 (Ph N):=gW TA Tryz.f232 Be (alx N) aly (alz N) (rc (aaj N) trivial) trivial
noncomputable def afR:Hint:={ tab,hn:=[],loops:=[],outs:=[],bp:=[(1,(OT.seq [0,1,2,3,5,6,7,8,10,11,12,13,4,9,14,15,16,17] .done))] }
noncomputable def KP:List AK:=[.v cX .k,.v cX .k]
noncomputable def afS (N:Nat) (x:ax KP) (kf:aa→Option aa):Option aa:=aiO N x.1 x.2.1 (fun r0=>kf ⟨[⟨(.int .i64),.k,r0⟩],[]⟩)
noncomputable def Pl (N:Nat):=ao KP (afS N)
noncomputable def alB (N:Nat):List Entry:=[⟨233,[.val,.val],(Pg N)⟩,⟨232,[.val],(Ph N)⟩]
theorem alC (N:Nat):ca KP (afS N) afR (alB N) (fm N N) Tryz.f231:=fun _ _=>by kernel_rfl
theorem alD {Γ:Gl} (N:Nat):Sound Γ Tryz.prog 231 (Pl N):=gJ afR Tryz.f231 (alC N) ⟨alw N,⟨alA N,trivial⟩⟩
noncomputable def wa:List Kd:=.v (.sl cX) (.o 46 (some 0) .k)::.v (.int .i64) .k::.v (.int .i64) .k::.lE 231 []::dn 4 (.v (.int .i64) .k::.v (.int .i64) .k::dn 43 ([]))
noncomputable def yt:List Kd:=.v (.sl cX) (.o 46 (some 0) .k)::.v (.int .i64) .k::.v (.int .i64) .k::.lE 231 []::dn 4 (.v (.int .i64) .k::dn 44 ([]))
noncomputable def wb:List Kd:=.v (.sl cX) (.o 46 (some 0) .k)::.v (.int .i64) .k::.v (.int .i64) .k::.lE 231 []::dn 4 (.v (.int .i64) .k::dn 44 ([]))
noncomputable def yu:List Kd:=.v (.sl cX) (.o 46 (some 0) .k)::dn 52 ([])
noncomputable def KQ:Hint:={ tab,hn:=[],loops:=[(4,wa),(1,wb)],outs:=[(4,4,yt),(1,2,yu)],bp:=[(4,(OT.seq [0,1,2,3,4,5,6,7,8,9,10,11,12,13,14,15,16] .done)),(6,(OT.seq [0,1,5,6,7,8,9,10,11,12,13,14,2,3,4,15,16,17] .done))],w7:=some (0,false) }
noncomputable def KR:List AK:=[.v (.sl cX) (.o 46 (some 0) .k),.v (.int .i64) .k,.v (.int .i64) .k,.fn 231 []]
noncomputable def afT (N:Nat) (x:ax KR) (kf:aa→Option aa):Option aa:=aq4 N x.1 x.2.1 x.2.2.1 (fun z=>kf ⟨[],[⟨(.sl cX),(.o 46 (some 0) .k),z⟩]⟩)
noncomputable def Pm (N:Nat):=ao KR (afT N)
noncomputable def KT (N:Nat):List Entry:=[⟨231,[.val,.val],(Pl N)⟩]
noncomputable def tV:Code:=aJ Tryz.f263
noncomputable def KU (N n:Nat) (key:Nat) (S:St) (K:Ks):Option aa:=bif Nat.beq key 1 then az wb S (fun x=>p8 N x.2.1 x.2.2.1 n (fun z0=>K (.x 0) (shape yu (z0,()))) x.1 x.2.2.2.2.1) else bif Nat.beq key 4 then az wa S (fun x=>tx N x.2.1 x.2.2.1 x.2.2.2.2.1 n (fun z0=>K (.x 2) (shape yt (z0,x.2.1,x.2.2.1,(),x.2.2.2.2.1,()))) x.1 x.2.2.2.2.2.1) else none
theorem alE (N key:Nat) (S:St) (K:Ks):KU N 0 key S K=none:=(bL (aq fun _=>rfl) (bL (aq fun _=>rfl) rfl))
noncomputable def Pn:Code:=(af tV).getD 0 .skip
noncomputable def Po:Code:=(af tV).getD 1 .skip
theorem alF:af tV=[Pn,Po]:=by kernel_rfl
theorem aak (N:Nat):fi KQ (KT N) (KU N) N 4 wa Po:=fun _ _ _=>by kernel_rfl
theorem aal (N:Nat):fi KQ (KT N) (KU N) N 1 wb Pn:=fun _ _ _=>by kernel_rfl
theorem alG (N:Nat):ca KR (afT N) KQ (KT N) (KU N N) Tryz.f263:=fun _ _=>by kernel_rfl
theorem alH {Γ:Gl} (N:Nat):Sound Γ Tryz.prog 263 (Pm N):=gW KQ Tryz.f263 tV (alE N) alF (alG N) (rc (aal N) (rc (aak N) trivial)) ⟨alD N,trivial⟩
noncomputable def wc:List Kd:=.v (.sl cX) (.o 46 (some 0) .k)::.v (.int .i64) .k::.v (.int .i64) .k::.v (.int .i64) .k::.lE 231 []::dn 5 (.v .bool .k::.v .bool .k::dn 136 ([]))
noncomputable def yv:List Kd:=.v (.sl cX) (.o 46 (some 0) .k)::dn 147 ([])
noncomputable def TC:Hint:={ tab,hn:=[],loops:=[(2,wc)],outs:=[(2,1,yv)],bp:=[],w7:=some (0,false) }
noncomputable def KV:List AK:=[.v (.sl cX) (.o 46 (some 0) .k),.v (.int .i64) .k,.v (.int .i64) .k,.v (.int .i64) .k,.fn 231 []]
noncomputable def afU (N:Nat) (x:ax KV) (kf:aa→Option aa):Option aa:=aiP N x.1 x.2.1 x.2.2.1 x.2.2.2.1 (fun z=>kf ⟨[],[⟨(.sl cX),(.o 46 (some 0) .k),z⟩]⟩)
noncomputable def Pp (N:Nat):=ao KV (afU N)
noncomputable def WW (N:Nat):List Entry:=[⟨263,[.kT,.val,.val,.val],(Pm N)⟩]
noncomputable def Bf:Code:=aJ Tryz.f252
noncomputable def TD (N n:Nat) (key:Nat) (S:St) (K:Ks):Option aa:=bif Nat.beq key 2 then az wc S (fun x=>Jq N x.1 x.2.1 x.2.2.1 x.2.2.2.1 x.2.2.2.2.2.1 x.2.2.2.2.2.2.1 n (fun z0=>K .r (shape yv (z0,())))) else none
theorem alI (N key:Nat) (S:St) (K:Ks):TD N 0 key S K=none:=(bL (aq fun _=>rfl) rfl)
noncomputable def Pq:Code:=(af Bf).getD 0 .skip
theorem alJ:af Bf=[Pq]:=by kernel_rfl
theorem aam (N:Nat):fi TC (WW N) (TD N) N 2 wc Pq:=fun _ _ _=>by kernel_rfl
theorem alK (N:Nat):ca KV (afU N) TC (WW N) (TD N N) Tryz.f252:=fun _ _=>by kernel_rfl
theorem alL {Γ:Gl} (N:Nat):Sound Γ Tryz.prog 252 (Pp N):=gW TC Tryz.f252 Bf (alI N) alJ (alK N) (rc (aam N) trivial) ⟨alH N,trivial⟩
noncomputable def afV:Hint:={ tab,hn:=[],loops:=[],outs:=[],bp:=[],w7:=some (0,false) }
noncomputable def KW:List AK:=[.v (.sl cX) (.o 46 (some 0) .k),.fn 231 []]
noncomputable def afW (N:Nat) (x:ax KW) (kf:aa→Option aa):Option aa:=aiQ N x.1 (fun z=>kf ⟨[],[⟨(.sl cX),(.o 46 (some 0) .k),z⟩]⟩)
noncomputable def Pr (N:Nat):=ao KW (afW N)
noncomputable def alM (N:Nat):List Entry:=[⟨211,[.val],(Pe N)⟩,⟨252,[.kT,.val,.val,.val,.val],(Pp N)⟩]
theorem alN (N:Nat):ca KW (afW N) afV (alM N) (fm N N) Tryz.f230:=fun _ _=>by kernel_rfl
theorem alO {Γ:Gl} (N:Nat):Sound Γ Tryz.prog 230 (Pr N):=gJ afV Tryz.f230 (alN N) ⟨alq N,⟨alL N,trivial⟩⟩
noncomputable def we:List Kd:=dn 3 (.v (.sl (.int .i64)) (.o 3 none .k)::dn 12 (.v (.sl cX) (.o 46 none .k)::.v (.int .i64) .k::.v (.int .i64) .k::dn 10 ([])))
noncomputable def yw:List Kd:=dn 3 (.v (.sl (.int .i64)) (.o 3 none .k)::dn 25 ([]))
noncomputable def TE:Hint:={ tab,hn:=[],loops:=[(7,we)],outs:=[(7,2,yw)],bp:=[] }
noncomputable def KX:List AK:=[.v (.sl cX) .k]
noncomputable def afX (N:Nat) (x:ax KX) (kf:aa→Option aa):Option aa:=acJ N x.1 (fun r0=>kf ⟨[⟨(.sl (.int .i64)),(.o 3 none .k),r0⟩],[]⟩)
noncomputable def Gq (N:Nat):=ao KX (afX N)
noncomputable def WX (N:Nat):List Entry:=[⟨143,[.val],(jQ N)⟩,⟨229,[.val],(Pc N)⟩,⟨230,[.kT,.val],(Pr N)⟩]
noncomputable def Bg:Code:=aJ Tryz.f187
noncomputable def TF (N n:Nat) (key:Nat) (S:St) (K:Ks):Option aa:=bif Nat.beq key 7 then az we S (fun x=>p9 x.2.1 x.2.2.1 n (fun z0=>K (.x 0) (shape yw (z0,()))) x.1 x.2.2.2.1) else none
theorem alP (N key:Nat) (S:St) (K:Ks):TF N 0 key S K=none:=(bL (aq fun _=>rfl) rfl)
noncomputable def Ps:Code:=(af Bg).getD 0 .skip
theorem alQ:af Bg=[Ps]:=by kernel_rfl
theorem aan (N:Nat):fi TE (WX N) (TF N) N 7 we Ps:=fun _ _ _=>by kernel_rfl
theorem alR (N:Nat):ca KX (afX N) TE (WX N) (TF N N) Tryz.f187:=fun _ _=>by kernel_rfl
theorem WY {Γ:Gl} (N:Nat):Sound Γ Tryz.prog 187 (Gq N):=gW TE Tryz.f187 Bg (alP N) alQ (alR N) (rc (aan N) trivial) ⟨nK N,⟨alk N,⟨alO N,trivial⟩⟩⟩
def Pt:Go.Shelf.Ren:=⟨fun n=>bif Nat.beq n 4 then 251 else n,fun n=>bif Nat.beq n 0 then 0 else bif Nat.beq n 3 then 3 else bif Nat.beq n 4 then 4 else bif Nat.beq n 9 then 9 else bif Nat.beq n 20 then 20 else bif Nat.beq n 22 then 27 else bif Nat.beq n 25 then 3 else n,fun n=>n⟩
theorem aao:Go.Proofs.Lays8.n4 Tryz.prog Pt:={ f4:=⟨Tryz.f251.name,by kernel_rfl,by kernel_rfl⟩,mixed:=by kernel_rfl,t0:=by kernel_rfl,a0:=fun w=>by kernel_rfl,z0:=fun w=>by kernel_rfl,v0:=fun w=>by kernel_rfl,t3:=by kernel_rfl,a3:=fun w=>by kernel_rfl,z3:=fun w=>by kernel_rfl,v3:=fun w=>by kernel_rfl,t4:=by kernel_rfl,a4:=fun w=>by kernel_rfl,z4:=fun w=>by kernel_rfl,v4:=fun w=>by kernel_rfl,t9:=by kernel_rfl,a9:=fun w=>by kernel_rfl,z9:=fun w=>by kernel_rfl,v9:=fun w=>by kernel_rfl,t20:=by kernel_rfl,a20:=fun w=>by kernel_rfl,z20:=fun w=>by kernel_rfl,v20:=fun w=>by kernel_rfl,t22:=by kernel_rfl,a22:=fun w=>by kernel_rfl,z22:=fun w=>by kernel_rfl,v22:=fun w=>by kernel_rfl }
noncomputable def alS:TypeInfo:=(Tryz.prog.info? 3).get (by kernel_rfl)
noncomputable def WZ:List AK:=[.v (.sl (.int .i64)) (.o 3 none .k),.v (.int .i64) .k]
noncomputable def as1 (N:Nat) (x:ax WZ) (kf:aa→Option aa):Option aa:=aq5 N x.1 x.2.1 (fun r0=>kf ⟨[⟨(.sl (.int .i64)),(.o 3 none .k),r0⟩],[]⟩)
noncomputable def Pu (N:Nat):=ao WZ (as1 N)
theorem alT {Γ:Gl} (N:Nat):Sound Γ Tryz.prog 251 (Pu N):=SS (ρ:=Pt) (i0:=alS) (z:=.int .i64 0) aao (by kernel_rfl) (by kernel_rfl) (by kernel_rfl) (by kernel_rfl) (by kernel_rfl)
noncomputable def wg:List Kd:=.v (.sl (.sl (.int .i64))) .k::dK::dK::.v (.int .i64) .k::dn 5 (.v (.sl (.sl (.int .i64))) .k::.v (.int .i64) .k::.v (.int .i64) .k::dn 24 ([]))
noncomputable def yx:List Kd:=.v (.sl (.sl (.int .i64))) .k::dK::dK::.v (.int .i64) .k::dn 32 ([])
noncomputable def s6:List Kd:=dn 6 (.v (.sl (.int .i64)) (.o 3 none .k)::dn 18 (.v (.sl (.sl (.int .i64))) .k::.v (.int .i64) .k::.v (.int .i64) .k::dn 8 ([])))
noncomputable def uO:List Kd:=dn 6 (.v (.sl (.int .i64)) (.o 3 none .k)::dn 29 ([]))
noncomputable def KY:Hint:={ tab,hn:=[],loops:=[(3,wg),(11,s6)],outs:=[(3,2,yx),(11,4,uO)],bp:=[] }
noncomputable def KZ:List AK:=[.v (.sl (.sl (.int .i64))) .k]
noncomputable def afY (N:Nat) (x:ax KZ) (kf:aa→Option aa):Option aa:=aiR N x.1 (fun r0=>kf ⟨[⟨(.sl (.int .i64)),(.o 3 none .k),r0⟩],[]⟩)
noncomputable def Pw (N:Nat):=ao KZ (afY N)
noncomputable def K0 (N:Nat):List Entry:=[⟨251,[.take,.val],(Pu N)⟩]
noncomputable def tW:Code:=aJ Tryz.f227
noncomputable def K1 (N n:Nat) (key:Nat) (S:St) (K:Ks):Option aa:=bif Nat.beq key 3 then az wg S (fun x=>qa x.1 x.2.2.1 x.2.2.2.1 n (fun z0=>K (.x 0) (shape yx (x.1,z0,()))) x.2.1 x.2.2.2.2.1) else bif Nat.beq key 11 then az s6 S (fun x=>kZ x.2.1 x.2.2.1 n (fun z0=>K (.x 2) (shape uO (z0,()))) x.1 x.2.2.2.1) else none
theorem alU (N key:Nat) (S:St) (K:Ks):K1 N 0 key S K=none:=(bL (aq fun _=>rfl) (bL (aq fun _=>rfl) rfl))
noncomputable def Px:Code:=(af tW).getD 0 .skip
noncomputable def Py:Code:=(af tW).getD 1 .skip
theorem alV:af tW=[Px,Py]:=by kernel_rfl
theorem TG (N:Nat):fi KY (K0 N) (K1 N) N 11 s6 Py:=fun _ _ _=>by kernel_rfl
theorem aap (N:Nat):fi KY (K0 N) (K1 N) N 3 wg Px:=fun _ _ _=>by kernel_rfl
theorem alW (N:Nat):ca KZ (afY N) KY (K0 N) (K1 N N) Tryz.f227:=fun _ _=>by kernel_rfl
theorem alX {Γ:Gl} (N:Nat):Sound Γ Tryz.prog 227 (Pw N):=gW KY Tryz.f227 tW (alU N) alV (alW N) (rc (aap N) (rc (TG N) trivial)) ⟨alT N,trivial⟩
noncomputable def afZ:Hint:={ tab,hn:=[],loops:=[],outs:=[],bp:=[(4,(OT.seq [0,1,2,3,4,5,6,7,8,9,10,11] .done))] }
noncomputable def K2:List AK:=[.v (.sl cX) .k,.v (.int .i64) .k,.v (.int .i64) .k]
noncomputable def af0 (N:Nat) (x:ax K2) (kf:aa→Option aa):Option aa:=aiS N x.1 x.2.1 x.2.2.1 (fun r0=>kf ⟨[⟨du,.k,r0⟩],[]⟩)
noncomputable def Pz (N:Nat):=ao K2 (af0 N)
noncomputable def alY (N:Nat):List Entry:=[⟨40,[.val,.val],(lZ N)⟩,⟨143,[.val],(jQ N)⟩,⟨187,[.val],(Gq N)⟩,⟨170,[.val,.val],(Gf N)⟩]
theorem alZ (N:Nat):ca K2 (af0 N) afZ (alY N) (fm N N) Tryz.f228:=fun _ _=>by kernel_rfl
theorem al0 {Γ:Gl} (N:Nat):Sound Γ Tryz.prog 228 (Pz N):=gJ afZ Tryz.f228 (alZ N) ⟨s4 N,⟨nK N,⟨WY N,⟨Wy N,trivial⟩⟩⟩⟩
noncomputable def wh:List Kd:=.v (.sl cX) .k::.v (.sl (.int .i64)) .k::dn 4 (.v (.int .i64) .k::dn 50 ([]))
noncomputable def yy:List Kd:=dn 57 ([])
noncomputable def yz:List Kd:=dn 4 (.v (.sl du) (.o 104 none .k)::.v .bool .k::dn 51 ([]))
noncomputable def TH:Hint:={ tab,hn:=[],loops:=[(4,wh)],outs:=[(4,2,yy),(4,1,yz)],bp:=[(6,(OT.seq [0,1,2,3,4,5,6,7,8,9] .done)),(7,(OT.seq [0,1,2,3,4,5,6,7,8,9,10,11,12,13,14,15] .done)),(9,(OT.seq [0,1,2,3,4,5,6,7,10,8,9,11,12,13] .done))] }
noncomputable def DJ:List AK:=[.v (.sl cX) .k,.v (.sl (.int .i64)) .k]
noncomputable def af1 (N:Nat) (x:ax DJ) (kf:aa→Option aa):Option aa:=R2 N x.1 x.2.1 (fun r0 r1=>kf ⟨[⟨(.sl du),(.o 104 none .k),r0⟩,⟨.bool,.k,r1⟩],[]⟩)
noncomputable def yA (N:Nat):=ao DJ (af1 N)
noncomputable def K3 (N:Nat):List Entry:=[⟨77,[.val,.val,.val],(Kz N)⟩,⟨227,[.val],(Pw N)⟩,⟨228,[.val,.val,.val],(Pz N)⟩,⟨186,[.val,.val],(yA N)⟩]
noncomputable def Bh:Code:=aJ Tryz.f186
noncomputable def K4 (N n:Nat) (key:Nat) (S:St) (K:Ks):Option aa:=bif Nat.beq key 4 then az wh S (fun x=>qb N (R2 N) x.1 x.2.1 n (K (.x 0) (shape yy ())) (fun z0 z1=>K .r (shape yz (z0,z1,()))) x.2.2.1) else none
theorem al1 (N key:Nat) (S:St) (K:Ks):K4 N 0 key S K=none:=(bL (aq fun _=>rfl) rfl)
noncomputable def PA:Code:=(af Bh).getD 0 .skip
theorem al2:af Bh=[PA]:=by kernel_rfl
theorem aaq (N:Nat):fi TH (K3 N) (K4 N) N 4 wh PA:=fun _ _ _=>by kernel_rfl
theorem al3 (N:Nat) (x:ax DJ) (kf:aa→Option aa):af1 (N+1) x kf=kd TH (jf.of (K3 N)) (K4 N N) Tryz.f186 (dz DJ x) kf:=by kernel_rfl
theorem W2 {Γ:Gl}:∀ N:Nat,Sound Γ Tryz.prog 186 (yA N)
 |0=>pM fun al kf=>by
  unfold yA ao
  split<;>rfl
 |N+1=>jz (hh:=TH) mixed ly (es:=K3 N) ⟨afb N,⟨alX N,⟨al0 N,⟨W2 N,trivial⟩⟩⟩⟩ (fn:=Tryz.f186) (body:=Bh) (by kernel_rfl) (by kernel_rfl) (by kernel_rfl) (by kernel_rfl) (by kernel_rfl) (Lf:=K4 N) (al1 N) al2 (rc (aaq N) trivial) (N:=N) (by kernel_rfl) (al3 N) (.inl (by kernel_rfl))
noncomputable def K5:List AK:=[.v (.sl cX) .k]
noncomputable def af2 (N:Nat) (x:ax K5) (kf:aa→Option aa):Option aa:=aiT N x.1 (fun r0 r1=>kf ⟨[⟨(.sl du),(.o 104 none .k),r0⟩,⟨.bool,.k,r1⟩],[]⟩)
noncomputable def PB (N:Nat):=ao K5 (af2 N)
noncomputable def al4 (N:Nat):List Entry:=[⟨143,[.val],(jQ N)⟩,⟨187,[.val],(Gq N)⟩,⟨186,[.val,.val],(yA N)⟩]
theorem al5 (N:Nat):ca K5 (af2 N) hq (al4 N) (fm N N) Tryz.f101:=fun _ _=>by kernel_rfl
theorem al6 {Γ:Gl} (N:Nat):Sound Γ Tryz.prog 101 (PB N):=gJ hq Tryz.f101 (al5 N) ⟨nK N,⟨WY N,⟨W2 N,trivial⟩⟩⟩
noncomputable def wi:List Kd:=.v (.sl cX) .k::.v (.sl jT) .k::.v (.sl du) .k::.v (.sl (.int .i64)) .k::dn 14 (.v (.sl jT) .k::.v (.int .i64) .k::.v (.int .i64) .k::dn 38 ([]))
noncomputable def yB:List Kd:=dn 59 ([])
noncomputable def yC:List Kd:=dn 8 (.v (.sl (.int .i64)) (.o 3 none .k)::.v .bool .k::dn 49 ([]))
noncomputable def TJ:Hint:={ tab,hn:=[],loops:=[(4,wi)],outs:=[(4,2,yB),(4,1,yC)],bp:=[(6,(OT.seq [0,1,2,3,4,5,6,7,8,9,10,11,12] .done)),(7,(OT.seq [4,6,7,0,1,2,3] (.any [5,8] (OT.seq [9,10,11,12,13,14,15] .done))))] }
noncomputable def DK:List AK:=[.v (.sl cX) .k,.v (.sl jT) .k,.v (.sl du) .k,.v (.sl (.int .i64)) .k]
noncomputable def af3 (N:Nat) (x:ax DK) (kf:aa→Option aa):Option aa:=R4 N x.1 x.2.1 x.2.2.1 x.2.2.2.1 (fun r0 r1=>kf ⟨[⟨(.sl (.int .i64)),(.o 3 none .k),r0⟩,⟨.bool,.k,r1⟩],[]⟩)
noncomputable def yD (N:Nat):=ao DK (af3 N)
noncomputable def K6 (N:Nat):List Entry:=[⟨82,[.val,.val],(tT N)⟩,⟨83,[.val,.val,.val],(KA N)⟩,⟨166,[.val],(sZ N)⟩,⟨188,[.val,.val,.val,.val],(yD N)⟩]
noncomputable def Bi:Code:=aJ Tryz.f188
noncomputable def K7 (N n:Nat) (key:Nat) (S:St) (K:Ks):Option aa:=bif Nat.beq key 4 then az wi S (fun x=>nj N (R4 N) x.1 x.2.1 x.2.2.1 x.2.2.2.1 x.2.2.2.2.1 x.2.2.2.2.2.1 n (K (.x 0) (shape yB ())) (fun z0 z1=>K .r (shape yC (z0,z1,()))) x.2.2.2.2.2.2.1) else none
theorem al7 (N key:Nat) (S:St) (K:Ks):K7 N 0 key S K=none:=(bL (aq fun _=>rfl) rfl)
noncomputable def PC:Code:=(af Bi).getD 0 .skip
theorem al8:af Bi=[PC]:=by kernel_rfl
theorem aar (N:Nat):fi TJ (K6 N) (K7 N) N 4 wi PC:=fun _ _ _=>by kernel_rfl
theorem al9 (N:Nat) (x:ax DK) (kf:aa→Option aa):af3 (N+1) x kf=kd TJ (jf.of (K6 N)) (K7 N N) Tryz.f188 (dz DK x) kf:=by kernel_rfl
theorem W3 {Γ:Gl}:∀ N:Nat,Sound Γ Tryz.prog 188 (yD N)
 |0=>pM fun al kf=>by
  unfold yD ao
  split<;>rfl
 |N+1=>jz (hh:=TJ) mixed ly (es:=K6 N) ⟨Gg N,⟨afl N,⟨DD N,⟨W3 N,trivial⟩⟩⟩⟩ (fn:=Tryz.f188) (body:=Bi) (by kernel_rfl) (by kernel_rfl) (by kernel_rfl) (by kernel_rfl) (by kernel_rfl) (Lf:=K7 N) (al7 N) al8 (rc (aar N) trivial) (N:=N) (by kernel_rfl) (al9 N) (.inl (by kernel_rfl))
noncomputable def K8:List AK:=[.v (.sl cX) .k,.v (.sl jT) .k,.v (.sl du) .k]
noncomputable def af4 (N:Nat) (x:ax K8) (kf:aa→Option aa):Option aa:=aiU N x.1 x.2.1 x.2.2.1 (fun r0 r1=>kf ⟨[⟨(.sl (.int .i64)),(.o 3 none .k),r0⟩,⟨.bool,.k,r1⟩],[]⟩)
noncomputable def PD (N:Nat):=ao K8 (af4 N)
noncomputable def al' (N:Nat):List Entry:=[⟨79,[.val],(DH N)⟩,⟨143,[.val],(jQ N)⟩,⟨188,[.val,.val,.val,.val],(yD N)⟩]
theorem ama (N:Nat):ca K8 (af4 N) hq (al' N) (fm N N) Tryz.f102:=fun _ _=>by kernel_rfl
theorem amb {Γ:Gl} (N:Nat):Sound Γ Tryz.prog 102 (PD N):=gJ hq Tryz.f102 (ama N) ⟨Tf N,⟨nK N,⟨W3 N,trivial⟩⟩⟩
noncomputable def apH:Hint:={ tab,hn:=[],loops:=[],outs:=[],bp:=[(8,(OT.seq [0,5,1,2,3] (.par [4,6,7,8] [[50,51]] (OT.seq [9,10] .done))))] }
noncomputable def TK:List AK:=[.v dd .k]
noncomputable def apI (N:Nat) (x:ax TK) (kf:aa→Option aa):Option aa:=I23 N x.1 (fun r0 r1=>kf ⟨[⟨dd,(.p (.o 46 none (.p .k (.p .k (.p .k (.p .k (.p .k (.o 3 none .k))))))) (.p (.o 80 none (.p .k (.p .k (.o 3 none .k)))) (.p (.o 104 none .k) (.p (.o 3 none .k) (.p (.o 136 none .k) (.p (.o 102 none .k) .k)))))),r0⟩,⟨.bool,.k,r1⟩],[]⟩)
noncomputable def W4 (N:Nat):=ao TK (apI N)
noncomputable def as2 (N:Nat):List Entry:=[⟨70,[.val],(kL N)⟩,⟨39,[.val],(yn N)⟩,⟨16,[.val],(qO N)⟩,⟨101,[.val],(PB N)⟩,⟨102,[.val,.val,.val],(PD N)⟩,⟨103,[.val,.take,.val,.val],(mX N)⟩]
theorem as3 (N:Nat):ca TK (apI N) apH (as2 N) (fm N N) Tryz.f23:=fun _ _=>by kernel_rfl
theorem as4 {Γ:Gl} (N:Nat):Sound Γ Tryz.prog 23 (W4 N):=gJ apH Tryz.f23 (as3 N) ⟨qN N,⟨KE N,⟨AU N,⟨al6 N,⟨amb N,⟨tU N,trivial⟩⟩⟩⟩⟩⟩
noncomputable def TL:List AK:=[.v dd .k,.v (.int .i64) .k,.v (.int .i64) .k,.v (.int .i64) .k]
noncomputable def apJ (N:Nat) (x:ax TL) (kf:aa→Option aa):Option aa:=I35 N x.1 x.2.1 x.2.2.1 x.2.2.2.1 (fun r0 r1=>kf ⟨[⟨dd,(.p (.o 46 none (.p .k (.p .k (.p .k (.p .k (.p .k (.o 3 none .k))))))) (.p (.o 80 none (.p .k (.p .k (.o 3 none .k)))) (.p (.o 104 none .k) (.p (.o 3 none .k) (.p (.o 136 none .k) (.p (.o 102 none .k) .k)))))),r0⟩,⟨.bool,.k,r1⟩],[]⟩)
noncomputable def W5 (N:Nat):=ao TL (apJ N)
noncomputable def as5 (N:Nat):List Entry:=[⟨70,[.val],(kL N)⟩,⟨39,[.val],(yn N)⟩,⟨138,[.val],(yl N)⟩,⟨103,[.val,.take,.val,.val],(mX N)⟩]
theorem as6 (N:Nat):ca TL (apJ N) hq (as5 N) (fm N N) Tryz.f35:=fun _ _=>by kernel_rfl
theorem as7 {Γ:Gl} (N:Nat):Sound Γ Tryz.prog 35 (W5 N):=gJ hq Tryz.f35 (as6 N) ⟨qN N,⟨KE N,⟨KC N,⟨tU N,trivial⟩⟩⟩⟩
noncomputable def Bj:List Kd:=dn 3 (.v (.sl (.int .i64)) (.o 3 none .k)::dn 4 (.v (.sl ux) .k::.v (.int .i64) .k::.v (.int .i64) .k::dn 13 ([])))
noncomputable def CX:List Kd:=dn 3 (.v (.sl (.int .i64)) (.o 3 none .k)::dn 20 ([]))
noncomputable def af5:Hint:={ tab,hn:=[],loops:=[(3,Bj)],outs:=[(3,2,CX)],bp:=[] }
noncomputable def TM:List AK:=[.v dd .k]
noncomputable def apK (N:Nat) (x:ax TM) (kf:aa→Option aa):Option aa:=I41 N x.1 (fun r0=>kf ⟨[⟨(.sl (.int .i64)),(.o 3 none .k),r0⟩],[]⟩)
noncomputable def W6 (N:Nat):=ao TM (apK N)
noncomputable def Gr:Code:=aJ Tryz.f41
noncomputable def af6 (N n:Nat) (key:Nat) (S:St) (K:Ks):Option aa:=bif Nat.beq key 3 then az Bj S (fun x=>sC x.2.1 x.2.2.1 n (fun z0=>K (.x 0) (shape CX (z0,()))) x.1 x.2.2.2.1) else none
theorem as8 (N key:Nat) (S:St) (K:Ks):af6 N 0 key S K=none:=(bL (aq fun _=>rfl) rfl)
noncomputable def W7:Code:=(af Gr).getD 0 .skip
theorem as9:af Gr=[W7]:=by kernel_rfl
theorem af7 (N:Nat):fi af5 [] (af6 N) N 3 Bj W7:=fun _ _ _=>by kernel_rfl
theorem as' (N:Nat):ca TM (apK N) af5 [] (af6 N N) Tryz.f41:=fun _ _=>by kernel_rfl
theorem ata {Γ:Gl} (N:Nat):Sound Γ Tryz.prog 41 (W6 N):=gW af5 Tryz.f41 Gr (as8 N) as9 (as' N) (rc (af7 N) trivial) trivial
noncomputable def wj:List Kd:=.v (.sl ux) .k::dn 7 (.v (.sl ux) .k::.v (.int .i64) .k::.v (.int .i64) .k::dn 23 ([]))
noncomputable def yE:List Kd:=dn 34 ([])
noncomputable def yF:List Kd:=dK::dK::.v .bool .k::dn 31 ([])
noncomputable def TN:Hint:={ tab,hn:=[],loops:=[(4,wj)],outs:=[(4,2,yE),(4,1,yF)],bp:=[(6,(OT.seq [0,1,2,3,4,5,6,7,8,9,10,11,12,13,14,15,16,17] .done))] }
noncomputable def K9:List AK:=[.v (.sl ux) .k]
noncomputable def af8 (N:Nat) (x:ax K9) (kf:aa→Option aa):Option aa:=Y0 N x.1 (fun r0=>kf ⟨[⟨.bool,.k,r0⟩],[]⟩)
noncomputable def yG (N:Nat):=ao K9 (af8 N)
noncomputable def W8 (N:Nat):List Entry:=[⟨138,[.val],(yl N)⟩]
noncomputable def Bk:Code:=aJ Tryz.f205
noncomputable def TO (N n:Nat) (key:Nat) (S:St) (K:Ks):Option aa:=bif Nat.beq key 4 then az wj S (fun x=>nk N x.1 x.2.1 x.2.2.1 n (K (.x 0) (shape yE ())) (fun z0=>K .r (shape yF (z0,()))) x.2.2.2.1) else none
theorem amc (N key:Nat) (S:St) (K:Ks):TO N 0 key S K=none:=(bL (aq fun _=>rfl) rfl)
noncomputable def PE:Code:=(af Bk).getD 0 .skip
theorem amd:af Bk=[PE]:=by kernel_rfl
theorem aas (N:Nat):fi TN (W8 N) (TO N) N 4 wj PE:=fun _ _ _=>by kernel_rfl
theorem ame (N:Nat):ca K9 (af8 N) TN (W8 N) (TO N N) Tryz.f205:=fun _ _=>by kernel_rfl
theorem La {Γ:Gl} (N:Nat):Sound Γ Tryz.prog 205 (yG N):=gW TN Tryz.f205 Bk (amc N) amd (ame N) (rc (aas N) trivial) ⟨KC N,trivial⟩
noncomputable def Lb:List AK:=[.v ux .k]
noncomputable def af9 (N:Nat) (x:ax Lb) (kf:aa→Option aa):Option aa:=Y1 N x.1 (fun r0=>kf ⟨[⟨(.int .i64),.k,r0⟩],[]⟩)
noncomputable def Gs (N:Nat):=ao Lb (af9 N)
theorem amf (N:Nat):ca Lb (af9 N) hq [] (fm N N) Tryz.f208:=fun _ _=>by kernel_rfl
theorem W9 {Γ:Gl} (N:Nat):Sound Γ Tryz.prog 208 (Gs N):=gJ hq Tryz.f208 (amf N) trivial
noncomputable def wk:List Kd:=dK::.v (.int .i64) .k::dn 3 (.v (.int .i64) .k::dn 6 (.v (.sl ux) .k::.v (.int .i64) .k::.v (.int .i64) .k::dn 11 ([])))
noncomputable def yH:List Kd:=dn 5 (.v (.int .i64) .k::dn 20 ([]))
noncomputable def TP:Hint:={ tab,hn:=[],loops:=[(5,wk)],outs:=[(5,2,yH)],bp:=[] }
noncomputable def Lc:List AK:=[.v (.sl ux) .k,.v (.int .i64) .k]
noncomputable def af' (N:Nat) (x:ax Lc) (kf:aa→Option aa):Option aa:=acO N x.1 x.2.1 (fun r0=>kf ⟨[⟨(.int .i64),.k,r0⟩],[]⟩)
noncomputable def PF (N:Nat):=ao Lc (af' N)
noncomputable def Xa (N:Nat):List Entry:=[⟨205,[.val],(yG N)⟩,⟨208,[.val],(Gs N)⟩]
noncomputable def Bl:Code:=aJ Tryz.f206
noncomputable def TQ (N n:Nat) (key:Nat) (S:St) (K:Ks):Option aa:=bif Nat.beq key 5 then az wk S (fun x=>nm N x.1 x.2.2.1 x.2.2.2.1 n (fun z0=>K (.x 0) (shape yH (z0,()))) x.2.1 x.2.2.2.2.1) else none
theorem amg (N key:Nat) (S:St) (K:Ks):TQ N 0 key S K=none:=(bL (aq fun _=>rfl) rfl)
noncomputable def PG:Code:=(af Bl).getD 0 .skip
theorem amh:af Bl=[PG]:=by kernel_rfl
theorem aat (N:Nat):fi TP (Xa N) (TQ N) N 5 wk PG:=fun _ _ _=>by kernel_rfl
theorem ami (N:Nat):ca Lc (af' N) TP (Xa N) (TQ N N) Tryz.f206:=fun _ _=>by kernel_rfl
theorem amj {Γ:Gl} (N:Nat):Sound Γ Tryz.prog 206 (PF N):=gW TP Tryz.f206 Bl (amg N) amh (ami N) (rc (aat N) trivial) ⟨La N,⟨W9 N,trivial⟩⟩
noncomputable def wm:List Kd:=dK::.v (.int .i64) .k::dn 3 (.v (.int .i64) .k::dn 6 (.v (.sl ux) .k::.v (.int .i64) .k::.v (.int .i64) .k::dn 18 ([])))
noncomputable def yI:List Kd:=dn 5 (.v (.int .i64) .k::dn 27 ([]))
noncomputable def TR:Hint:={ tab,hn:=[],loops:=[(5,wm)],outs:=[(5,2,yI)],bp:=[] }
noncomputable def Ld:List AK:=[.v (.sl ux) .k,.v (.int .i64) .k]
noncomputable def aga (N:Nat) (x:ax Ld) (kf:aa→Option aa):Option aa:=R5 N x.1 x.2.1 (fun r0=>kf ⟨[⟨(.int .i64),.k,r0⟩],[]⟩)
noncomputable def PH (N:Nat):=ao Ld (aga N)
noncomputable def Xb (N:Nat):List Entry:=[⟨205,[.val],(yG N)⟩]
noncomputable def Bm:Code:=aJ Tryz.f207
noncomputable def TS (N n:Nat) (key:Nat) (S:St) (K:Ks):Option aa:=bif Nat.beq key 5 then az wm S (fun x=>lM x.1 x.2.2.1 x.2.2.2.1 n (fun z0=>K (.x 0) (shape yI (z0,()))) x.2.1 x.2.2.2.2.1) else none
theorem amk (N key:Nat) (S:St) (K:Ks):TS N 0 key S K=none:=(bL (aq fun _=>rfl) rfl)
noncomputable def PI:Code:=(af Bm).getD 0 .skip
theorem aml:af Bm=[PI]:=by kernel_rfl
theorem aau (N:Nat):fi TR (Xb N) (TS N) N 5 wm PI:=fun _ _ _=>by kernel_rfl
theorem amm (N:Nat):ca Ld (aga N) TR (Xb N) (TS N N) Tryz.f207:=fun _ _=>by kernel_rfl
theorem amn {Γ:Gl} (N:Nat):Sound Γ Tryz.prog 207 (PH N):=gW TR Tryz.f207 Bm (amk N) aml (amm N) (rc (aau N) trivial) ⟨La N,trivial⟩
noncomputable def Le:List AK:=[.v (.sl ux) .k]
noncomputable def agb (N:Nat) (x:ax Le) (kf:aa→Option aa):Option aa:=Y2 N x.1 (fun r0=>kf ⟨[⟨(.int .i64),.k,r0⟩],[]⟩)
noncomputable def PJ (N:Nat):=ao Le (agb N)
noncomputable def amo (N:Nat):List Entry:=[⟨205,[.val],(yG N)⟩,⟨206,[.val,.val],(PF N)⟩,⟨207,[.val,.val],(PH N)⟩,⟨208,[.val],(Gs N)⟩]
theorem amp (N:Nat):ca Le (agb N) hq (amo N) (fm N N) Tryz.f129:=fun _ _=>by kernel_rfl
theorem amq {Γ:Gl} (N:Nat):Sound Γ Tryz.prog 129 (PJ N):=gJ hq Tryz.f129 (amp N) ⟨La N,⟨amj N,⟨amn N,⟨W9 N,trivial⟩⟩⟩⟩
noncomputable def agc:Hint:={ tab,hn:=[],loops:=[],outs:=[],bp:=[(5,(OT.seq [4,5,6,7,8] (.own 65 (OT.seq [9,0,1,2,3,12,13,14,15,17] (.par [10,11,16,18] [[74,75],[65,66,67,68]] (.own 73 (OT.seq [19,20,21,22,23,24,25] .done)))))))] }
noncomputable def Lg:List AK:=[.v (.sl cX) .k,.v (.int .i64) .k,.v (.int .i64) .k,.v (.int .i64) .k,.v (.int .i64) .k,.v (.int .i64) .k]
noncomputable def agd (N:Nat) (x:ax Lg) (kf:aa→Option aa):Option aa:=Y3 N x.1 x.2.1 x.2.2.1 x.2.2.2.1 x.2.2.2.2.1 x.2.2.2.2.2.1 (fun r0 r1=>kf ⟨[⟨(.sl cX),(.o 46 none (.p .k (.p .k (.p .k (.p .k (.p .k (.o 3 none .k))))))),r0⟩,⟨.bool,.k,r1⟩],[]⟩)
noncomputable def PK (N:Nat):=ao Lg (agd N)
noncomputable def amr (N:Nat):List Entry:=[⟨163,[.val],(Ga N)⟩,⟨40,[.val,.val],(lZ N)⟩,⟨143,[.val],(jQ N)⟩,⟨144,[.val,.val,.val],(lf N)⟩]
theorem ams (N:Nat):ca Lg (agd N) agc (amr N) (fm N N) Tryz.f128:=fun _ _=>by kernel_rfl
theorem amt {Γ:Gl} (N:Nat):Sound Γ Tryz.prog 128 (PK N):=gJ agc Tryz.f128 (ams N) ⟨Wk N,⟨s4 N,⟨nK N,⟨qP N,trivial⟩⟩⟩⟩
def age:Go.Shelf.Ren:=⟨fun n=>bif Nat.beq n 125 then 211 else bif Nat.beq n 128 then 244 else bif Nat.beq n 129 then 245 else bif Nat.beq n 189 then 131 else bif Nat.beq n 215 then 253 else bif Nat.beq n 216 then 241 else bif Nat.beq n 257 then 210 else bif Nat.beq n 294 then 235 else bif Nat.beq n 295 then 236 else bif Nat.beq n 296 then 237 else bif Nat.beq n 297 then 238 else bif Nat.beq n 298 then 239 else bif Nat.beq n 299 then 240 else bif Nat.beq n 300 then 242 else bif Nat.beq n 301 then 243 else bif Nat.beq n 328 then 254 else bif Nat.beq n 329 then 255 else bif Nat.beq n 330 then 256 else bif Nat.beq n 331 then 257 else bif Nat.beq n 332 then 258 else bif Nat.beq n 343 then 271 else n,fun n=>bif Nat.beq n 0 then 0 else bif Nat.beq n 3 then 3 else bif Nat.beq n 4 then 4 else bif Nat.beq n 5 then 5 else bif Nat.beq n 9 then 9 else bif Nat.beq n 28 then 27 else bif Nat.beq n 46 then 194 else bif Nat.beq n 51 then 216 else bif Nat.beq n 53 then 218 else bif Nat.beq n 131 then 213 else bif Nat.beq n 182 then 207 else bif Nat.beq n 183 then 208 else bif Nat.beq n 218 then 222 else bif Nat.beq n 222 then 226 else bif Nat.beq n 228 then 235 else bif Nat.beq n 229 then 236 else n,fun n=>n⟩
theorem aav:Lays.n189 Tryz.prog age:={ mixed:=by kernel_rfl,f125:=by kernel_rfl,f128:=by kernel_rfl,f129:=by kernel_rfl,f189:=by kernel_rfl,f215:=by kernel_rfl,f216:=by kernel_rfl,f257:=by kernel_rfl,f294:=by kernel_rfl,f295:=by kernel_rfl,f296:=by kernel_rfl,f297:=by kernel_rfl,f298:=by kernel_rfl,f299:=by kernel_rfl,f300:=by kernel_rfl,f301:=by kernel_rfl,f328:=by kernel_rfl,f329:=by kernel_rfl,f330:=by kernel_rfl,f331:=by kernel_rfl,f332:=by kernel_rfl,f343:=by kernel_rfl,t0:=by kernel_rfl,a0:=fun w=>by kernel_rfl,z0:=fun w=>by kernel_rfl,v0:=fun w=>by kernel_rfl,t3:=by kernel_rfl,a3:=fun w=>by kernel_rfl,z3:=fun w=>by kernel_rfl,v3:=fun w=>by kernel_rfl,t4:=by kernel_rfl,a4:=fun w=>by kernel_rfl,z4:=fun w=>by kernel_rfl,v4:=fun w=>by kernel_rfl,t5:=by kernel_rfl,a5:=fun w=>by kernel_rfl,z5:=fun w=>by kernel_rfl,v5:=fun w=>by kernel_rfl,t9:=by kernel_rfl,a9:=fun w=>by kernel_rfl,z9:=fun w=>by kernel_rfl,v9:=fun w=>by kernel_rfl,t28:=by kernel_rfl,a28:=fun w=>by kernel_rfl,z28:=fun w=>by kernel_rfl,v28:=fun w=>by kernel_rfl,t46:=by kernel_rfl,a46:=fun w=>by kernel_rfl,z46:=fun w=>by kernel_rfl,v46:=fun w=>by kernel_rfl,t51:=by kernel_rfl,a51:=fun w=>by kernel_rfl,z51:=fun w=>by kernel_rfl,v51:=fun w=>by kernel_rfl,t53:=by kernel_rfl,a53:=fun w=>by kernel_rfl,z53:=fun w=>by kernel_rfl,v53:=fun w=>by kernel_rfl,t131:=by kernel_rfl,a131:=fun w=>by kernel_rfl,z131:=fun w=>by kernel_rfl,v131:=fun w=>by kernel_rfl,t182:=by kernel_rfl,a182:=fun w=>by kernel_rfl,z182:=fun w=>by kernel_rfl,v182:=fun w=>by kernel_rfl,t183:=by kernel_rfl,a183:=fun w=>by kernel_rfl,z183:=fun w=>by kernel_rfl,v183:=fun w=>by kernel_rfl,t218:=by kernel_rfl,a218:=fun w=>by kernel_rfl,z218:=fun w=>by kernel_rfl,v218:=fun w=>by kernel_rfl,t222:=by kernel_rfl,a222:=fun w=>by kernel_rfl,z222:=fun w=>by kernel_rfl,v222:=fun w=>by kernel_rfl,t228:=by kernel_rfl,a228:=fun w=>by kernel_rfl,z228:=fun w=>by kernel_rfl,v228:=fun w=>by kernel_rfl,t229:=by kernel_rfl,a229:=fun w=>by kernel_rfl,z229:=fun w=>by kernel_rfl,v229:=fun w=>by kernel_rfl }
noncomputable def Xc:List AK:=[.v (.sl (.int .i64)) (.o 3 (some 0) .k)]
noncomputable def atb (N:Nat) (x:ax Xc) (kf:aa→Option aa):Option aa:=NL N x.1 (fun z=>kf ⟨[],[⟨(.sl (.int .i64)),(.o 3 (some 0) .k),z⟩]⟩)
noncomputable def yJ (N:Nat):=ao Xc (atb N)
theorem Lh {Γ:Gl} (N:Nat):Sound Γ Tryz.prog 131 (yJ N):=SK aav 3
def agf:Go.Shelf.Ren:=⟨fun n=>bif Nat.beq n 20 then 132 else n,fun n=>bif Nat.beq n 0 then 0 else bif Nat.beq n 3 then 3 else bif Nat.beq n 4 then 4 else bif Nat.beq n 22 then 27 else n,fun n=>n⟩
theorem aaw:Lays2.n20 Tryz.prog agf:={ mixed:=by kernel_rfl,f20:=by kernel_rfl,t0:=by kernel_rfl,a0:=fun w=>by kernel_rfl,z0:=fun w=>by kernel_rfl,v0:=fun w=>by kernel_rfl,t3:=by kernel_rfl,a3:=fun w=>by kernel_rfl,z3:=fun w=>by kernel_rfl,v3:=fun w=>by kernel_rfl,t4:=by kernel_rfl,a4:=fun w=>by kernel_rfl,z4:=fun w=>by kernel_rfl,v4:=fun w=>by kernel_rfl,t22:=by kernel_rfl,a22:=fun w=>by kernel_rfl,z22:=fun w=>by kernel_rfl,v22:=fun w=>by kernel_rfl,i3:=by kernel_rfl }
noncomputable def Xd:List AK:=[.v (.sl (.int .i64)) (.o 3 none .k)]
noncomputable def atc (N:Nat) (x:ax Xd) (kf:aa→Option aa):Option aa:=Y4 N x.1 (fun r0=>kf ⟨[⟨(.sl (.int .i64)),(.o 3 none .k),r0⟩],[]⟩)
noncomputable def Gt (N:Nat):=ao Xd (atc N)
theorem Xe {Γ:Gl} (N:Nat):Sound Γ Tryz.prog 132 (Gt N):=Hm aaw 3
noncomputable def Bn:List Kd:=dK::.v (.ptr dd) (.o 31 none .k)::.v (.ptr dd) (.o 31 none (.p (.o 46 none (.p .k (.p .k (.p .k (.p .k (.p .k (.o 3 none .k))))))) (.p (.o 80 none (.p .k (.p .k (.o 3 none .k)))) (.p (.o 104 none .k) (.p (.o 3 none .k) (.p (.o 136 none .k) (.p (.o 102 none .k) .k)))))))::dK::.v (.ptr dd) (.o 31 none (.p (.o 46 none (.p .k (.p .k (.p .k (.p .k (.p .k (.o 3 none .k))))))) (.p (.o 80 none (.p .k (.p .k (.o 3 none .k)))) (.p (.o 104 none .k) (.p (.o 3 none .k) (.p (.o 136 none .k) (.p (.o 102 none .k) .k)))))))::dn 25 (.v (.sl du) .k::.v (.int .i64) .k::.v (.int .i64) .k::dn 76 ([]))
noncomputable def CY:List Kd:=dK::.v (.ptr dd) (.o 31 none .k)::.v (.ptr dd) (.o 31 none (.p (.o 46 none (.p .k (.p .k (.p .k (.p .k (.p .k (.o 3 none .k))))))) (.p (.o 80 none (.p .k (.p .k (.o 3 none .k)))) (.p (.o 104 none .k) (.p (.o 3 none .k) (.p (.o 136 none .k) (.p (.o 102 none .k) .k)))))))::dK::.v (.ptr dd) (.o 31 none (.p (.o 46 none (.p .k (.p .k (.p .k (.p .k (.p .k (.o 3 none .k))))))) (.p (.o 80 none (.p .k (.p .k (.o 3 none .k)))) (.p (.o 104 none .k) (.p (.o 3 none .k) (.p (.o 136 none .k) (.p (.o 102 none .k) .k)))))))::dn 104 ([])
noncomputable def CZ:List Kd:=dK::dK::.v (.ptr dd) (.o 31 none (.p (.o 46 none (.p .k (.p .k (.p .k (.p .k (.p .k (.o 3 none .k))))))) (.p (.o 80 none (.p .k (.p .k (.o 3 none .k)))) (.p (.o 104 none .k) (.p (.o 3 none .k) (.p (.o 136 none .k) (.p (.o 102 none .k) .k)))))))::.v .bool .k::dn 105 ([])
noncomputable def agh:Hint:={ tab,hn:=[],loops:=[(5,Bn)],outs:=[(5,2,CY),(5,1,CZ)],bp:=[(8,(OT.seq [0,1,2,3,4,5,6,9,10,11,12,7,8,13,14,15,17,16,18,19] .done)),(11,(OT.seq [0,1,2,3,4,5,6,7,8] .done)),(12,(OT.seq [0,1,2,3,4,5,6,7,8,9,10,11,12] .done)),(14,(OT.seq [3,0,2] (.par [1,4] [[4,86,87]] (OT.seq [5,6,7] .done))))] }
noncomputable def TT:List AK:=[.v dd .k]
noncomputable def apL (N:Nat) (x:ax TT) (kf:aa→Option aa):Option aa:=I28 N x.1 (fun r0 r1=>kf ⟨[⟨dd,(.p (.o 46 none (.p .k (.p .k (.p .k (.p .k (.p .k (.o 3 none .k))))))) (.p (.o 80 none (.p .k (.p .k (.o 3 none .k)))) (.p (.o 104 none .k) (.p (.o 3 none .k) (.p (.o 136 none .k) (.p (.o 102 none .k) .k)))))),r0⟩,⟨.bool,.k,r1⟩],[]⟩)
noncomputable def Xf (N:Nat):=ao TT (apL N)
noncomputable def agi (N:Nat):List Entry:=[⟨39,[.val],(yn N)⟩,⟨16,[.val],(qO N)⟩,⟨41,[.val],(W6 N)⟩,⟨70,[.val],(kL N)⟩,⟨129,[.val],(PJ N)⟩,⟨128,[.val,.val,.val,.val,.val,.val],(PK N)⟩,⟨130,[.val,.val],(Gn N)⟩,⟨131,[.kT],(yJ N)⟩,⟨132,[.take],(Gt N)⟩,⟨103,[.val,.take,.val,.val],(mX N)⟩]
noncomputable def Gu:Code:=aJ Tryz.f28
noncomputable def agj (N n:Nat) (key:Nat) (S:St) (K:Ks):Option aa:=bif Nat.beq key 5 then az Bn S (fun x=>vz N x.1 x.2.1 x.2.2.2.1 x.2.2.2.2.1 n (fun z0=>K (.x 0) (shape CY (x.1,x.2.1,z0,()))) (fun z0 z1=>K .r (shape CZ (z0,z1,()))) x.2.2.1 x.2.2.2.2.2.1) else none
theorem atd (N key:Nat) (S:St) (K:Ks):agj N 0 key S K=none:=(bL (aq fun _=>rfl) rfl)
noncomputable def Xg:Code:=(af Gu).getD 0 .skip
theorem ate:af Gu=[Xg]:=by kernel_rfl
theorem agk (N:Nat):fi agh (agi N) (agj N) N 5 Bn Xg:=fun _ _ _=>by kernel_rfl
theorem atf (N:Nat):ca TT (apL N) agh (agi N) (agj N N) Tryz.f28:=fun _ _=>by kernel_rfl
theorem atg {Γ:Gl} (N:Nat):Sound Γ Tryz.prog 28 (Xf N):=gW agh Tryz.f28 Gu (atd N) ate (atf N) (rc (agk N) trivial) ⟨KE N,⟨AU N,⟨ata N,⟨qN N,⟨amq N,⟨amt N,⟨WS N,⟨Lh N,⟨Xe N,⟨tU N,trivial⟩⟩⟩⟩⟩⟩⟩⟩⟩⟩
def agl:Go.Shelf.Ren:=⟨fun n=>bif Nat.beq n 45 then 142 else n,fun n=>bif Nat.beq n 0 then 0 else bif Nat.beq n 3 then 3 else bif Nat.beq n 4 then 4 else bif Nat.beq n 22 then 24 else bif Nat.beq n 23 then 46 else n,fun n=>n⟩
def amu:Array Value:=#[.int .i64 0,.int .i64 0,.int .i64 0,.int .i64 0,.int .i64 0,.slice none 0 0]
noncomputable def amv:TypeInfo:=(Tryz.prog.info? 46).get (by kernel_rfl)
theorem agm:apg Tryz.prog agl (cX).size amu amv:={ FB:=⟨Tryz.f142.name,by kernel_rfl,by kernel_rfl⟩,mixed:=by kernel_rfl,t0:=by kernel_rfl,a0:=fun w=>by kernel_rfl,z0:=fun w=>by kernel_rfl,v0:=fun w=>by kernel_rfl,t3:=by kernel_rfl,a3:=fun w=>by kernel_rfl,z3:=fun w=>by kernel_rfl,v3:=fun w=>by kernel_rfl,t4:=by kernel_rfl,a4:=fun w=>by kernel_rfl,z4:=fun w=>by kernel_rfl,v4:=fun w=>by kernel_rfl,t22:=by kernel_rfl,a22:=fun w=>by kernel_rfl,z22:=fun w=>by kernel_rfl,v22:=fun w=>by kernel_rfl,z23:=fun w=>by kernel_rfl,v23:=fun w=>by kernel_rfl,hz:=by kernel_rfl,hzo:=by kernel_rfl,I8:=by kernel_rfl,IW:=by kernel_rfl }
noncomputable def Xh:List AK:=[.v (.sl cX) (.o 46 none (.p .k (.p .k (.p .k (.p .k (.p .k (.o 3 none .k))))))),.v (.int .i64) .k,.v (.int .i64) .k]
noncomputable def ath (N:Nat) (x:ax Xh) (kf:aa→Option aa):Option aa:=aq' N x.1 x.2.1 x.2.2.1 (fun r0=>kf ⟨[⟨(.sl cX),(.o 46 none (.p .k (.p .k (.p .k (.p .k (.p .k (.o 3 none .k))))))),r0⟩],[]⟩)
noncomputable def PL (N:Nat):=ao Xh (ath N)
theorem amw {Γ:Gl} (N:Nat):Sound Γ Tryz.prog 142 (PL N):=JZ agm 46 (.p .k (.p .k (.p .k (.p .k (.p .k (.o 3 none .k)))))) (by kernel_rfl)
noncomputable def TU:List AK:=[.v dd .k,.v (.int .i64) .k]
noncomputable def apM (N:Nat) (x:ax TU) (kf:aa→Option aa):Option aa:=I38 N x.1 x.2.1 (fun r0 r1=>kf ⟨[⟨dd,(.p (.o 46 none (.p .k (.p .k (.p .k (.p .k (.p .k (.o 3 none .k))))))) (.p (.o 80 none (.p .k (.p .k (.o 3 none .k)))) (.p (.o 104 none .k) (.p (.o 3 none .k) (.p (.o 136 none .k) (.p (.o 102 none .k) .k)))))),r0⟩,⟨.bool,.k,r1⟩],[]⟩)
noncomputable def Xi (N:Nat):=ao TU (apM N)
noncomputable def ati (N:Nat):List Entry:=[⟨70,[.val],(kL N)⟩,⟨40,[.val,.val],(lZ N)⟩,⟨16,[.val],(qO N)⟩,⟨142,[.take,.val,.val],(PL N)⟩,⟨103,[.val,.take,.val,.val],(mX N)⟩]
theorem atj (N:Nat):ca TU (apM N) hq (ati N) (fm N N) Tryz.f38:=fun _ _=>by kernel_rfl
theorem atk {Γ:Gl} (N:Nat):Sound Γ Tryz.prog 38 (Xi N):=gJ hq Tryz.f38 (atj N) ⟨qN N,⟨s4 N,⟨AU N,⟨amw N,⟨tU N,trivial⟩⟩⟩⟩⟩
noncomputable def TW:List AK:=[.v dd .k,.v iZ .k]
noncomputable def apN (N:Nat) (x:ax TW) (kf:aa→Option aa):Option aa:=I13 N x.1 x.2.1 (fun r0 r1=>kf ⟨[⟨dd,(.p (.o 46 none (.p .k (.p .k (.p .k (.p .k (.p .k (.o 3 none .k))))))) (.p (.o 80 none (.p .k (.p .k (.o 3 none .k)))) (.p (.o 104 none .k) (.p (.o 3 none .k) (.p (.o 136 none .k) (.p (.o 102 none .k) .k)))))),r0⟩,⟨.bool,.k,r1⟩],[]⟩)
noncomputable def Xj (N:Nat):=ao TW (apN N)
noncomputable def atl (N:Nat):List Entry:=[⟨30,[.val,.val,.val],(WO N)⟩,⟨32,[.val,.val,.val],(WU N)⟩,⟨23,[.val],(W4 N)⟩,⟨35,[.val,.val,.val,.val],(W5 N)⟩,⟨28,[.val],(Xf N)⟩,⟨38,[.val,.val],(Xi N)⟩,⟨70,[.val],(kL N)⟩]
theorem atm (N:Nat):ca TW (apN N) hq (atl N) (fm N N) Tryz.f13:=fun _ _=>by kernel_rfl
theorem atn {Γ:Gl} (N:Nat):Sound Γ Tryz.prog 13 (Xj N):=gJ hq Tryz.f13 (atm N) ⟨asV N,⟨as0 N,⟨as4 N,⟨as7 N,⟨atg N,⟨atk N,⟨qN N,trivial⟩⟩⟩⟩⟩⟩⟩
end Go.Pv.R
