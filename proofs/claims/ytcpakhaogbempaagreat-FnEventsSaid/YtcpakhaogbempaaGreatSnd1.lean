/- Each function of the program that the law reaches computes its plain function, part 1. -/
import Derived.Test.YtcpakhaogbempaaGreatSnd0
import Derived.Test.YtcpakhaogbempaaGreatProg
namespace Go.Pv.R
open Go.Proofs
set_option linter.unusedVariables false
set_option maxRecDepth 100000
noncomputable def KL:List AK:=[.v c6 .k,.v c6 (.p (.o 46 none (.p .k (.p .k (.p .k (.p .k (.p .k (.o 3 none .k))))))) (.p (.o 80 none (.p .k (.p .k (.o 3 none .k)))) (.p (.o 104 none .k) (.p (.o 3 none .k) (.p (.o 136 none .k) (.p (.o 102 none .k) .k)))))),.v (.int .i64) .k,.v (.int .i64) .k]
noncomputable def afS (N:Nat) (x:ax KL) (kf:aa→Option aa):Option aa:=Jn N x.1 x.2.1 x.2.2.1 x.2.2.2.1 (fun r0 r1=>kf ⟨[⟨c6,(.p (.o 46 none (.p .k (.p .k (.p .k (.p .k (.p .k (.o 3 none .k))))))) (.p (.o 80 none (.p .k (.p .k (.o 3 none .k)))) (.p (.o 104 none .k) (.p (.o 3 none .k) (.p (.o 136 none .k) (.p (.o 102 none .k) .k)))))),r0⟩,⟨.bool,.k,r1⟩],[]⟩)
noncomputable def nh (N:Nat):=ar KL (afS N)
noncomputable def alc (N:Nat):List Entry:=[⟨189,[.val,.val,.val],(O7 N)⟩,⟨39,[.val],(tU N)⟩,⟨70,[.val],(kU N)⟩]
theorem ald (N:Nat):cn KL (afS N) hq (alc N) (fC N N) Tryz.f103:=fun _ _=>by kernel_rfl
theorem tV {Γ:Gl} (N:Nat):Sound Γ Tryz.prog 103 (nh N):=gX hq Tryz.f103 (ald N) ⟨ak0 N,⟨Gu N,⟨qW N,trivial⟩⟩⟩
noncomputable def Bl:List Kd:=dK::.v (.int .i64) .k::.v (.int .i64) .k::.v (.ptr c6) (.o 31 none .k)::dK::dK::.v (.ptr c6) (.o 31 none (.p (.o 46 none (.p .k (.p .k (.p .k (.p .k (.p .k (.o 3 none .k))))))) (.p (.o 80 none (.p .k (.p .k (.o 3 none .k)))) (.p (.o 104 none .k) (.p (.o 3 none .k) (.p (.o 136 none .k) (.p (.o 102 none .k) .k)))))))::dK::.v (.ptr c6) (.o 31 none (.p (.o 46 none (.p .k (.p .k (.p .k (.p .k (.p .k (.o 3 none .k))))))) (.p (.o 80 none (.p .k (.p .k (.o 3 none .k)))) (.p (.o 104 none .k) (.p (.o 3 none .k) (.p (.o 136 none .k) (.p (.o 102 none .k) .k)))))))::.v (.int .i64) .k::dn 44 ([])
noncomputable def CX:List Kd:=dK::.v (.int .i64) .k::.v (.int .i64) .k::.v (.ptr c6) (.o 31 none .k)::dK::dK::.v (.ptr c6) (.o 31 none (.p (.o 46 none (.p .k (.p .k (.p .k (.p .k (.p .k (.o 3 none .k))))))) (.p (.o 80 none (.p .k (.p .k (.o 3 none .k)))) (.p (.o 104 none .k) (.p (.o 3 none .k) (.p (.o 136 none .k) (.p (.o 102 none .k) .k)))))))::dK::.v (.ptr c6) (.o 31 none (.p (.o 46 none (.p .k (.p .k (.p .k (.p .k (.p .k (.o 3 none .k))))))) (.p (.o 80 none (.p .k (.p .k (.o 3 none .k)))) (.p (.o 104 none .k) (.p (.o 3 none .k) (.p (.o 136 none .k) (.p (.o 102 none .k) .k)))))))::.v (.int .i64) .k::dn 44 ([])
noncomputable def afT:Hint:={ tab,hn:=[],loops:=[(5,Bl)],outs:=[(5,2,CX)],bj:=[] }
noncomputable def TW:List AK:=[.v c6 .k,.v (.int .i64) .k,.v (.int .i64) .k]
noncomputable def ap5 (N:Nat) (x:ax TW) (kf:aa→Option aa):Option aa:=I30 N x.1 x.2.1 x.2.2.1 (fun r0 r1=>kf ⟨[⟨c6,(.p (.o 46 none (.p .k (.p .k (.p .k (.p .k (.p .k (.o 3 none .k))))))) (.p (.o 80 none (.p .k (.p .k (.o 3 none .k)))) (.p (.o 104 none .k) (.p (.o 3 none .k) (.p (.o 136 none .k) (.p (.o 102 none .k) .k)))))),r0⟩,⟨.bool,.k,r1⟩],[]⟩)
noncomputable def Xu (N:Nat):=ar TW (ap5 N)
noncomputable def afU (N:Nat):List Entry:=[⟨70,[.val],(kU N)⟩,⟨40,[.val,.val],(mc N)⟩,⟨16,[.val],(qX N)⟩,⟨135,[.take,.val,.take],(O1 N)⟩,⟨103,[.val,.take,.val,.val],(nh N)⟩]
noncomputable def Gv:Code:=aL Tryz.f30
noncomputable def afV (N n:Nat) (key:Nat) (S:St) (K:Ks):Option aa:=bif Nat.beq key 5 then az Bl S (fun x=>sC x.1 x.2.1 x.2.2.1 x.2.2.2.1 x.2.2.2.2.1 n (fun z0=>K (.x 0) (shape CX (x.1,x.2.1,x.2.2.1,x.2.2.2.1,x.2.2.2.2.1,z0,()))) x.2.2.2.2.2.1) else none
theorem atm (N key:Nat) (S:St) (K:Ks):afV N 0 key S K=none:=(bO (au fun _=>rfl) rfl)
noncomputable def Xv:Code:=(af Gv).getD 0 .skip
theorem atn:af Gv=[Xv]:=by kernel_rfl
theorem afW (N:Nat):fD afT (afU N) (afV N) N 5 Bl Xv:=fun _ _ _=>by kernel_rfl
theorem ato (N:Nat):cn TW (ap5 N) afT (afU N) (afV N N) Tryz.f30:=fun _ _=>by kernel_rfl
theorem atp {Γ:Gl} (N:Nat):Sound Γ Tryz.prog 30 (Xu N):=iH afT Tryz.f30 Gv (atm N) atn (ato N) (rc (afW N) trivial) ⟨qW N,⟨s9 N,⟨A8 N,⟨akI N,⟨tV N,trivial⟩⟩⟩⟩⟩
noncomputable def KM:List AK:=[.v iN .k,.v (.ptr (.int .i64)) .k]
noncomputable def afX (N:Nat) (x:ax KM) (kf:aa→Option aa):Option aa:=aiI N x.1 x.2.1 (fun r0=>kf ⟨[⟨.bool,.k,r0⟩],[]⟩)
noncomputable def Pd (N:Nat):=ar KM (afX N)
theorem ale (N:Nat):cn KM (afX N) hq [] (fC N N) Tryz.f209:=fun _ _=>by kernel_rfl
theorem alf {Γ:Gl} (N:Nat):Sound Γ Tryz.prog 209 (Pd N):=gX hq Tryz.f209 (ale N) trivial
noncomputable def wa:List Kd:=.v (.sl iN) .k::.lu 209 [.kv (.ptr (.int .i64))]::dn 5 (.v (.int .i64) .k::.v (.int .i64) .k::dn 10 ([]))
noncomputable def yp:List Kd:=dn 19 ([])
noncomputable def yq:List Kd:=dn 4 (.v (.int .i64) .k::dn 14 ([]))
noncomputable def TX:Hint:={ tab,hn:=[],loops:=[(2,wa)],outs:=[(2,2,yp),(2,1,yq)],bj:=[] }
noncomputable def KN:List AK:=[.v (.sl iN) .k,.fn 209 [(.ptr (.int .i64))]]
noncomputable def afY (N:Nat) (x:ax KN) (kf:aa→Option aa):Option aa:=arj N x.1 x.2.1.1 (fun r0=>kf ⟨[⟨(.int .i64),.k,r0⟩],[]⟩)
noncomputable def Pe (N:Nat):=ar KN (afY N)
noncomputable def Xw (N:Nat):List Entry:=[⟨209,[.val],(Pd N)⟩]
noncomputable def Bm:Code:=aL Tryz.f80
noncomputable def TY (N n:Nat) (key:Nat) (S:St) (K:Ks):Option aa:=bif Nat.beq key 2 then az wa S (fun x=>qh N x.1 x.2.1.1 x.2.2.1 n (K (.x 0) (shape yp ())) (fun z0=>K .r (shape yq (z0,()))) x.2.2.2.1) else none
theorem alg (N key:Nat) (S:St) (K:Ks):TY N 0 key S K=none:=(bO (au fun _=>rfl) rfl)
noncomputable def Pf:Code:=(af Bm).getD 0 .skip
theorem alh:af Bm=[Pf]:=by kernel_rfl
theorem aaI (N:Nat):fD TX (Xw N) (TY N) N 2 wa Pf:=fun _ _ _=>by kernel_rfl
theorem ali (N:Nat):cn KN (afY N) TX (Xw N) (TY N N) Tryz.f80:=fun _ _=>by kernel_rfl
theorem alj {Γ:Gl} (N:Nat):Sound Γ Tryz.prog 80 (Pe N):=iH TX Tryz.f80 Bm (alg N) alh (ali N) (rc (aaI N) trivial) ⟨alf N,trivial⟩
noncomputable def KO:List AK:=[.v (.sl iN) .k,.v (.int .i64) .k]
noncomputable def afZ (N:Nat) (x:ax KO) (kf:aa→Option aa):Option aa:=Sj N x.1 x.2.1 (fun r0=>kf ⟨[⟨(.int .i64),.k,r0⟩],[]⟩)
noncomputable def Gw (N:Nat):=ar KO (afZ N)
noncomputable def alk (N:Nat):List Entry:=[⟨80,[.val,.val],(Pe N)⟩]
theorem alm (N:Nat):cn KO (afZ N) hq (alk N) (fC N N) Tryz.f130:=fun _ _=>by kernel_rfl
theorem Xx {Γ:Gl} (N:Nat):Sound Γ Tryz.prog 130 (Gw N):=gX hq Tryz.f130 (alm N) ⟨alj N,trivial⟩
def af0:Go.Shelf.Ren:=⟨fun n=>bif Nat.beq n 22 then 136 else bif Nat.beq n 29 then 214 else bif Nat.beq n 30 then 215 else n,fun n=>bif Nat.beq n 0 then 0 else bif Nat.beq n 3 then 3 else bif Nat.beq n 4 then 4 else bif Nat.beq n 9 then 80 else bif Nat.beq n 24 then 25 else n,fun n=>n⟩
def aln:Array Value:=#[.int .i64 0,.int .i64 0,.slice none 0 0]
noncomputable def alo:TypeInfo:=(Tryz.prog.info? 80).get (by kernel_rfl)
theorem af1:Iw Tryz.prog af0 (Ty.size iN) aln alo:={ FB:=⟨Tryz.f136.name,by kernel_rfl,by kernel_rfl⟩,FO:=⟨Tryz.f214,by kernel_rfl,by kernel_rfl,by kernel_rfl,by kernel_rfl,by kernel_rfl⟩,mixed:=by kernel_rfl,t0:=by kernel_rfl,a0:=fun w=>by kernel_rfl,z0:=fun w=>by kernel_rfl,v0:=fun w=>by kernel_rfl,t3:=by kernel_rfl,a3:=fun w=>by kernel_rfl,z3:=fun w=>by kernel_rfl,v3:=fun w=>by kernel_rfl,t4:=by kernel_rfl,a4:=fun w=>by kernel_rfl,z4:=fun w=>by kernel_rfl,v4:=fun w=>by kernel_rfl,t24:=by kernel_rfl,a24:=fun w=>by kernel_rfl,z24:=fun w=>by kernel_rfl,v24:=fun w=>by kernel_rfl,z9:=fun w=>by kernel_rfl,hz:=by kernel_rfl,hzo:=by kernel_rfl,I':=by kernel_rfl,hz0:=by kernel_rfl,IZ:=by kernel_rfl,hby:=Nat.le_of_ble_eq_true (by kernel_rfl),C9:=Nat.le_of_ble_eq_true (by kernel_rfl) }
noncomputable def Xy:List AK:=[.v (.sl iN) (.o 80 none (.p .k (.p .k (.o 3 none .k)))),.v (.int .i64) .k,.v (.sl iN) (.o 80 none (.p .k (.p .k (.o 3 none .k))))]
noncomputable def atq (N:Nat) (x:ax Xy) (kf:aa→Option aa):Option aa:=aiJ N x.1 x.2.1 x.2.2.1 (fun r0=>kf ⟨[⟨(.sl iN),(.o 80 none (.p .k (.p .k (.o 3 none .k)))),r0⟩],[]⟩)
noncomputable def Pg (N:Nat):=ar Xy (atq N)
theorem alp {Γ:Gl} (N:Nat):Sound Γ Tryz.prog 136 (Pg N):=x6 af1 (.p .k (.p .k (.o 3 none .k))) (by kernel_rfl)
noncomputable def Bn:List Kd:=dK::.v (.int .i64) .k::.v (.int .i64) .k::.v (.ptr c6) (.o 31 none .k)::dK::dK::.v (.ptr c6) (.o 31 none (.p (.o 46 none (.p .k (.p .k (.p .k (.p .k (.p .k (.o 3 none .k))))))) (.p (.o 80 none (.p .k (.p .k (.o 3 none .k)))) (.p (.o 104 none .k) (.p (.o 3 none .k) (.p (.o 136 none .k) (.p (.o 102 none .k) .k)))))))::dK::.v (.ptr c6) (.o 31 none (.p (.o 46 none (.p .k (.p .k (.p .k (.p .k (.p .k (.o 3 none .k))))))) (.p (.o 80 none (.p .k (.p .k (.o 3 none .k)))) (.p (.o 104 none .k) (.p (.o 3 none .k) (.p (.o 136 none .k) (.p (.o 102 none .k) .k)))))))::.v (.int .i64) .k::dn 40 ([])
noncomputable def CY:List Kd:=dK::.v (.int .i64) .k::.v (.int .i64) .k::.v (.ptr c6) (.o 31 none .k)::dK::dK::.v (.ptr c6) (.o 31 none (.p (.o 46 none (.p .k (.p .k (.p .k (.p .k (.p .k (.o 3 none .k))))))) (.p (.o 80 none (.p .k (.p .k (.o 3 none .k)))) (.p (.o 104 none .k) (.p (.o 3 none .k) (.p (.o 136 none .k) (.p (.o 102 none .k) .k)))))))::dK::.v (.ptr c6) (.o 31 none (.p (.o 46 none (.p .k (.p .k (.p .k (.p .k (.p .k (.o 3 none .k))))))) (.p (.o 80 none (.p .k (.p .k (.o 3 none .k)))) (.p (.o 104 none .k) (.p (.o 3 none .k) (.p (.o 136 none .k) (.p (.o 102 none .k) .k)))))))::.v (.int .i64) .k::dn 40 ([])
noncomputable def af2:Hint:={ tab,hn:=[],loops:=[(5,Bn)],outs:=[(5,2,CY)],bj:=[] }
noncomputable def TZ:List AK:=[.v c6 .k,.v (.int .i64) .k,.v (.int .i64) .k]
noncomputable def ap6 (N:Nat) (x:ax TZ) (kf:aa→Option aa):Option aa:=I32 N x.1 x.2.1 x.2.2.1 (fun r0 r1=>kf ⟨[⟨c6,(.p (.o 46 none (.p .k (.p .k (.p .k (.p .k (.p .k (.o 3 none .k))))))) (.p (.o 80 none (.p .k (.p .k (.o 3 none .k)))) (.p (.o 104 none .k) (.p (.o 3 none .k) (.p (.o 136 none .k) (.p (.o 102 none .k) .k)))))),r0⟩,⟨.bool,.k,r1⟩],[]⟩)
noncomputable def Xz (N:Nat):=ar TZ (ap6 N)
noncomputable def af3 (N:Nat):List Entry:=[⟨70,[.val],(kU N)⟩,⟨130,[.val,.val],(Gw N)⟩,⟨136,[.take,.val,.take],(Pg N)⟩,⟨103,[.val,.take,.val,.val],(nh N)⟩]
noncomputable def Gx:Code:=aL Tryz.f32
noncomputable def af4 (N n:Nat) (key:Nat) (S:St) (K:Ks):Option aa:=bif Nat.beq key 5 then az Bn S (fun x=>sD x.1 x.2.1 x.2.2.1 x.2.2.2.1 x.2.2.2.2.1 n (fun z0=>K (.x 0) (shape CY (x.1,x.2.1,x.2.2.1,x.2.2.2.1,x.2.2.2.2.1,z0,()))) x.2.2.2.2.2.1) else none
theorem atr (N key:Nat) (S:St) (K:Ks):af4 N 0 key S K=none:=(bO (au fun _=>rfl) rfl)
noncomputable def XA:Code:=(af Gx).getD 0 .skip
theorem att:af Gx=[XA]:=by kernel_rfl
theorem af5 (N:Nat):fD af2 (af3 N) (af4 N) N 5 Bn XA:=fun _ _ _=>by kernel_rfl
theorem atu (N:Nat):cn TZ (ap6 N) af2 (af3 N) (af4 N N) Tryz.f32:=fun _ _=>by kernel_rfl
theorem atv {Γ:Gl} (N:Nat):Sound Γ Tryz.prog 32 (Xz N):=iH af2 Tryz.f32 Gx (atr N) att (atu N) (rc (af5 N) trivial) ⟨qW N,⟨Xx N,⟨alp N,⟨tV N,trivial⟩⟩⟩⟩
noncomputable def af6:Hint:={ tab,hn:=[],loops:=[],outs:=[],bj:=[] }
noncomputable def DL:List AK:=[.v (.sl cS) .k]
noncomputable def KP (N:Nat) (x:ax DL) (kf:aa→Option aa):Option aa:=aiL N x.1 (fun r0=>kf ⟨[⟨(.sl cS),(.o 46 none .k),r0⟩],[]⟩)
noncomputable def Ph (N:Nat):=ar DL (KP N)
noncomputable def IE:Code:=aL Tryz.f229
theorem alq:af IE=[]:=by kernel_rfl
theorem alr (N:Nat):cn DL (KP N) af6 [] (fC N N) Tryz.f229:=fun _ _=>by kernel_rfl
theorem af7 (N:Nat) (x:ax DL):cK (KP N x):=by
 obtain⟨l,u⟩:=x
 unfold KP aiL
 cases l with
 |nil=>exact⟨some _,fun K=>mh _⟩
 |cons a l=>
  simp only[List.isEmpty_cons,cond_false]
  exact cK.bif _ (cK.pure _) cK.none
theorem als {Γ:Gl} (N:Nat):Sound Γ Tryz.prog 229 (Ph N):=jH (hh:=af6) mixed lL (es:=[]) trivial (fn:=Tryz.f229) (body:=IE) (by kernel_rfl) (by kernel_rfl) (by kernel_rfl) (by kernel_rfl) (by kernel_rfl) (Lf:=fC N) (aaz N) alq trivial (N:=N) (by kernel_rfl) (alr N) (.inr (af7 N))
noncomputable def KQ:List AK:=[.v (.int .u64) .k]
noncomputable def af8 (N:Nat) (x:ax KQ) (kf:aa→Option aa):Option aa:=aro N x.1 (fun r0=>kf ⟨[⟨(.int .i64),.k,r0⟩],[]⟩)
noncomputable def Pj (N:Nat):=ar KQ (af8 N)
theorem alu (N:Nat):cn KQ (af8 N) hq [] (fC N N) Tryz.f245:=fun _ _=>by kernel_rfl
theorem alv {Γ:Gl} (N:Nat):Sound Γ Tryz.prog 245 (Pj N):=gX hq Tryz.f245 (alu N) trivial
noncomputable def KR:List AK:=[.v (.int .u64) .k]
noncomputable def af9 (N:Nat) (x:ax KR) (kf:aa→Option aa):Option aa:=aiM N x.1 (fun r0=>kf ⟨[⟨(.int .i64),.k,r0⟩],[]⟩)
noncomputable def Pl (N:Nat):=ar KR (af9 N)
noncomputable def alw (N:Nat):List Entry:=[⟨245,[.val],(Pj N)⟩]
theorem alx (N:Nat):cn KR (af9 N) hq (alw N) (fC N N) Tryz.f211:=fun _ _=>by kernel_rfl
theorem aly {Γ:Gl} (N:Nat):Sound Γ Tryz.prog 211 (Pl N):=gX hq Tryz.f211 (alx N) ⟨alv N,trivial⟩
noncomputable def KT:List AK:=[.v (.int .i64) .k]
noncomputable def af' (N:Nat) (x:ax KT) (kf:aa→Option aa):Option aa:=aiN N x.1 (fun r0=>kf ⟨[⟨.bool,.k,r0⟩],[]⟩)
noncomputable def Pm (N:Nat):=ar KT (af' N)
theorem alz (N:Nat):cn KT (af' N) hq [] (fC N N) Tryz.f253:=fun _ _=>by kernel_rfl
theorem alA {Γ:Gl} (N:Nat):Sound Γ Tryz.prog 253 (Pm N):=gX hq Tryz.f253 (alz N) trivial
noncomputable def KU:List AK:=[.v (.int .i64) .k,.v (.int .i64) .k]
noncomputable def aga (N:Nat) (x:ax KU) (kf:aa→Option aa):Option aa:=Zm N x.1 x.2.1 (fun r0=>kf ⟨[⟨(.int .i64),.k,r0⟩],[]⟩)
noncomputable def Pn (N:Nat):=ar KU (aga N)
noncomputable def alB (N:Nat):List Entry:=[⟨253,[.val],(Pm N)⟩]
theorem alC (N:Nat):cn KU (aga N) hq (alB N) (fC N N) Tryz.f233:=fun _ _=>by kernel_rfl
theorem alD {Γ:Gl} (N:Nat):Sound Γ Tryz.prog 233 (Pn N):=gX hq Tryz.f233 (alC N) ⟨alA N,trivial⟩
noncomputable def wb:List Kd:=dn 3 (.v (.int .i64) .k::dK::dK::.v (.sl (.int .i64)) .k::.v (.int .i64) .k::.v (.int .i64) .k::dn 9 ([]))
noncomputable def yr:List Kd:=dn 3 (.v (.int .i64) .k::dn 14 ([]))
noncomputable def yt:List Kd:=dK::dK::.v (.int .i64) .k::dn 15 ([])
noncomputable def T4:Hint:={ tab,hn:=[],loops:=[(3,wb)],outs:=[(3,2,yr),(3,1,yt)],bj:=[] }
noncomputable def KV:List AK:=[.v (.sl (.int .i64)) .k]
noncomputable def agb (N:Nat) (x:ax KV) (kf:aa→Option aa):Option aa:=aiO N x.1 (fun r0=>kf ⟨[⟨(.int .i64),.k,r0⟩],[]⟩)
noncomputable def Po (N:Nat):=ar KV (agb N)
noncomputable def Bo:Code:=aL Tryz.f232
noncomputable def T5 (N n:Nat) (key:Nat) (S:St) (K:Ks):Option aa:=bif Nat.beq key 3 then az wb S (fun x=>qi x.1 x.2.1 x.2.2.1 n (K (.x 0) (shape yr (x.1,()))) (fun z0=>K .r (shape yt (z0,()))) x.2.2.2.1) else none
theorem alE (N key:Nat) (S:St) (K:Ks):T5 N 0 key S K=none:=(bO (au fun _=>rfl) rfl)
noncomputable def Pp:Code:=(af Bo).getD 0 .skip
theorem alF:af Bo=[Pp]:=by kernel_rfl
theorem aaJ (N:Nat):fD T4 [] (T5 N) N 3 wb Pp:=fun _ _ _=>by kernel_rfl
theorem alG (N:Nat):cn KV (agb N) T4 [] (T5 N N) Tryz.f232:=fun _ _=>by kernel_rfl
theorem alH {Γ:Gl} (N:Nat):Sound Γ Tryz.prog 232 (Po N):=iH T4 Tryz.f232 Bo (alE N) alF (alG N) (rc (aaJ N) trivial) trivial
noncomputable def agc:Hint:={ tab,hn:=[],loops:=[],outs:=[],bj:=[(1,(OT.seq [0,1,2,3,5,6,7,8,10,11,12,13,4,9,14,15,16,17] .done))] }
noncomputable def KW:List AK:=[.v cS .k,.v cS .k]
noncomputable def agd (N:Nat) (x:ax KW) (kf:aa→Option aa):Option aa:=aiP N x.1 x.2.1 (fun r0=>kf ⟨[⟨(.int .i64),.k,r0⟩],[]⟩)
noncomputable def Pq (N:Nat):=ar KW (agd N)
noncomputable def alI (N:Nat):List Entry:=[⟨233,[.val,.val],(Pn N)⟩,⟨232,[.val],(Po N)⟩]
theorem alJ (N:Nat):cn KW (agd N) agc (alI N) (fC N N) Tryz.f231:=fun _ _=>by kernel_rfl
theorem alK {Γ:Gl} (N:Nat):Sound Γ Tryz.prog 231 (Pq N):=gX agc Tryz.f231 (alJ N) ⟨alD N,⟨alH N,trivial⟩⟩
noncomputable def wc:List Kd:=.v (.sl cS) (.o 46 (some 0) .k)::.v (.int .i64) .k::.v (.int .i64) .k::.lu 231 []::dn 4 (.v (.int .i64) .k::.v (.int .i64) .k::dn 43 ([]))
noncomputable def yu:List Kd:=.v (.sl cS) (.o 46 (some 0) .k)::.v (.int .i64) .k::.v (.int .i64) .k::.lu 231 []::dn 4 (.v (.int .i64) .k::dn 44 ([]))
noncomputable def we:List Kd:=.v (.sl cS) (.o 46 (some 0) .k)::.v (.int .i64) .k::.v (.int .i64) .k::.lu 231 []::dn 4 (.v (.int .i64) .k::dn 44 ([]))
noncomputable def yv:List Kd:=.v (.sl cS) (.o 46 (some 0) .k)::dn 52 ([])
noncomputable def KX:Hint:={ tab,hn:=[],loops:=[(4,wc),(1,we)],outs:=[(4,4,yu),(1,2,yv)],bj:=[(4,(OT.seq [0,1,2,3,4,5,6,7,8,9,10,11,12,13,14,15,16] .done)),(6,(OT.seq [0,1,5,6,7,8,9,10,11,12,13,14,2,3,4,15,16,17] .done))],xa:=some (0,false) }
noncomputable def KY:List AK:=[.v (.sl cS) (.o 46 (some 0) .k),.v (.int .i64) .k,.v (.int .i64) .k,.fn 231 []]
noncomputable def age (N:Nat) (x:ax KY) (kf:aa→Option aa):Option aa:=arq N x.1 x.2.1 x.2.2.1 (fun z=>kf ⟨[],[⟨(.sl cS),(.o 46 (some 0) .k),z⟩]⟩)
noncomputable def Pr (N:Nat):=ar KY (age N)
noncomputable def KZ (N:Nat):List Entry:=[⟨231,[.val,.val],(Pq N)⟩]
noncomputable def tW:Code:=aL Tryz.f263
noncomputable def K0 (N n:Nat) (key:Nat) (S:St) (K:Ks):Option aa:=bif Nat.beq key 1 then az we S (fun x=>qj N x.2.1 x.2.2.1 n (fun z0=>K (.x 0) (shape yv (z0,()))) x.1 x.2.2.2.2.1) else bif Nat.beq key 4 then az wc S (fun x=>tG N x.2.1 x.2.2.1 x.2.2.2.2.1 n (fun z0=>K (.x 2) (shape yu (z0,x.2.1,x.2.2.1,(),x.2.2.2.2.1,()))) x.1 x.2.2.2.2.2.1) else none
theorem alL (N key:Nat) (S:St) (K:Ks):K0 N 0 key S K=none:=(bO (au fun _=>rfl) (bO (au fun _=>rfl) rfl))
noncomputable def Ps:Code:=(af tW).getD 0 .skip
noncomputable def Pt:Code:=(af tW).getD 1 .skip
theorem alM:af tW=[Ps,Pt]:=by kernel_rfl
theorem aaK (N:Nat):fD KX (KZ N) (K0 N) N 4 wc Pt:=fun _ _ _=>by kernel_rfl
theorem aaL (N:Nat):fD KX (KZ N) (K0 N) N 1 we Ps:=fun _ _ _=>by kernel_rfl
theorem alN (N:Nat):cn KY (age N) KX (KZ N) (K0 N N) Tryz.f263:=fun _ _=>by kernel_rfl
theorem alO {Γ:Gl} (N:Nat):Sound Γ Tryz.prog 263 (Pr N):=iH KX Tryz.f263 tW (alL N) alM (alN N) (rc (aaL N) (rc (aaK N) trivial)) ⟨alK N,trivial⟩
noncomputable def wg:List Kd:=.v (.sl cS) (.o 46 (some 0) .k)::.v (.int .i64) .k::.v (.int .i64) .k::.v (.int .i64) .k::.lu 231 []::dn 5 (.v .bool .k::.v .bool .k::dn 136 ([]))
noncomputable def yw:List Kd:=.v (.sl cS) (.o 46 (some 0) .k)::dn 147 ([])
noncomputable def T6:Hint:={ tab,hn:=[],loops:=[(2,wg)],outs:=[(2,1,yw)],bj:=[],xa:=some (0,false) }
noncomputable def K1:List AK:=[.v (.sl cS) (.o 46 (some 0) .k),.v (.int .i64) .k,.v (.int .i64) .k,.v (.int .i64) .k,.fn 231 []]
noncomputable def agf (N:Nat) (x:ax K1) (kf:aa→Option aa):Option aa:=aiQ N x.1 x.2.1 x.2.2.1 x.2.2.2.1 (fun z=>kf ⟨[],[⟨(.sl cS),(.o 46 (some 0) .k),z⟩]⟩)
noncomputable def Pu (N:Nat):=ar K1 (agf N)
noncomputable def XB (N:Nat):List Entry:=[⟨263,[.kZ,.val,.val,.val],(Pr N)⟩]
noncomputable def Bp:Code:=aL Tryz.f252
noncomputable def T7 (N n:Nat) (key:Nat) (S:St) (K:Ks):Option aa:=bif Nat.beq key 2 then az wg S (fun x=>Js N x.1 x.2.1 x.2.2.1 x.2.2.2.1 x.2.2.2.2.2.1 x.2.2.2.2.2.2.1 n (fun z0=>K .r (shape yw (z0,())))) else none
theorem alP (N key:Nat) (S:St) (K:Ks):T7 N 0 key S K=none:=(bO (au fun _=>rfl) rfl)
noncomputable def Pw:Code:=(af Bp).getD 0 .skip
theorem alQ:af Bp=[Pw]:=by kernel_rfl
theorem aaM (N:Nat):fD T6 (XB N) (T7 N) N 2 wg Pw:=fun _ _ _=>by kernel_rfl
theorem alR (N:Nat):cn K1 (agf N) T6 (XB N) (T7 N N) Tryz.f252:=fun _ _=>by kernel_rfl
theorem alS {Γ:Gl} (N:Nat):Sound Γ Tryz.prog 252 (Pu N):=iH T6 Tryz.f252 Bp (alP N) alQ (alR N) (rc (aaM N) trivial) ⟨alO N,trivial⟩
noncomputable def agh:Hint:={ tab,hn:=[],loops:=[],outs:=[],bj:=[],xa:=some (0,false) }
noncomputable def K2:List AK:=[.v (.sl cS) (.o 46 (some 0) .k),.fn 231 []]
noncomputable def agi (N:Nat) (x:ax K2) (kf:aa→Option aa):Option aa:=aiR N x.1 (fun z=>kf ⟨[],[⟨(.sl cS),(.o 46 (some 0) .k),z⟩]⟩)
noncomputable def Px (N:Nat):=ar K2 (agi N)
noncomputable def alT (N:Nat):List Entry:=[⟨211,[.val],(Pl N)⟩,⟨252,[.kZ,.val,.val,.val,.val],(Pu N)⟩]
theorem alU (N:Nat):cn K2 (agi N) agh (alT N) (fC N N) Tryz.f230:=fun _ _=>by kernel_rfl
theorem alV {Γ:Gl} (N:Nat):Sound Γ Tryz.prog 230 (Px N):=gX agh Tryz.f230 (alU N) ⟨aly N,⟨alS N,trivial⟩⟩
noncomputable def wh:List Kd:=dn 3 (.v (.sl (.int .i64)) (.o 3 none .k)::dn 12 (.v (.sl cS) (.o 46 none .k)::.v (.int .i64) .k::.v (.int .i64) .k::dn 10 ([])))
noncomputable def yx:List Kd:=dn 3 (.v (.sl (.int .i64)) (.o 3 none .k)::dn 25 ([]))
noncomputable def T8:Hint:={ tab,hn:=[],loops:=[(7,wh)],outs:=[(7,2,yx)],bj:=[] }
noncomputable def K3:List AK:=[.v (.sl cS) .k]
noncomputable def agj (N:Nat) (x:ax K3) (kf:aa→Option aa):Option aa:=ada N x.1 (fun r0=>kf ⟨[⟨(.sl (.int .i64)),(.o 3 none .k),r0⟩],[]⟩)
noncomputable def Gy (N:Nat):=ar K3 (agj N)
noncomputable def XC (N:Nat):List Entry:=[⟨143,[.val],(jS N)⟩,⟨229,[.val],(Ph N)⟩,⟨230,[.kZ,.val],(Px N)⟩]
noncomputable def Bq:Code:=aL Tryz.f187
noncomputable def T9 (N n:Nat) (key:Nat) (S:St) (K:Ks):Option aa:=bif Nat.beq key 7 then az wh S (fun x=>qk x.2.1 x.2.2.1 n (fun z0=>K (.x 0) (shape yx (z0,()))) x.1 x.2.2.2.1) else none
theorem alW (N key:Nat) (S:St) (K:Ks):T9 N 0 key S K=none:=(bO (au fun _=>rfl) rfl)
noncomputable def Py:Code:=(af Bq).getD 0 .skip
theorem alX:af Bq=[Py]:=by kernel_rfl
theorem aaN (N:Nat):fD T8 (XC N) (T9 N) N 7 wh Py:=fun _ _ _=>by kernel_rfl
theorem alY (N:Nat):cn K3 (agj N) T8 (XC N) (T9 N N) Tryz.f187:=fun _ _=>by kernel_rfl
theorem XD {Γ:Gl} (N:Nat):Sound Γ Tryz.prog 187 (Gy N):=iH T8 Tryz.f187 Bq (alW N) alX (alY N) (rc (aaN N) trivial) ⟨nX N,⟨als N,⟨alV N,trivial⟩⟩⟩
def Pz:Go.Shelf.Ren:=⟨fun n=>bif Nat.beq n 4 then 251 else n,fun n=>bif Nat.beq n 0 then 0 else bif Nat.beq n 3 then 3 else bif Nat.beq n 4 then 4 else bif Nat.beq n 9 then 9 else bif Nat.beq n 20 then 20 else bif Nat.beq n 22 then 27 else bif Nat.beq n 25 then 3 else n,fun n=>n⟩
theorem aaO:Go.Proofs.Lays8.n4 Tryz.prog Pz:={ f4:=⟨Tryz.f251.name,by kernel_rfl,by kernel_rfl⟩,mixed:=by kernel_rfl,t0:=by kernel_rfl,a0:=fun w=>by kernel_rfl,z0:=fun w=>by kernel_rfl,v0:=fun w=>by kernel_rfl,t3:=by kernel_rfl,a3:=fun w=>by kernel_rfl,z3:=fun w=>by kernel_rfl,v3:=fun w=>by kernel_rfl,t4:=by kernel_rfl,a4:=fun w=>by kernel_rfl,z4:=fun w=>by kernel_rfl,v4:=fun w=>by kernel_rfl,t9:=by kernel_rfl,a9:=fun w=>by kernel_rfl,z9:=fun w=>by kernel_rfl,v9:=fun w=>by kernel_rfl,t20:=by kernel_rfl,a20:=fun w=>by kernel_rfl,z20:=fun w=>by kernel_rfl,v20:=fun w=>by kernel_rfl,t22:=by kernel_rfl,a22:=fun w=>by kernel_rfl,z22:=fun w=>by kernel_rfl,v22:=fun w=>by kernel_rfl }
noncomputable def alZ:TypeInfo:=(Tryz.prog.info? 3).get (by kernel_rfl)
noncomputable def XE:List AK:=[.v (.sl (.int .i64)) (.o 3 none .k),.v (.int .i64) .k]
noncomputable def atw (N:Nat) (x:ax XE) (kf:aa→Option aa):Option aa:=ars N x.1 x.2.1 (fun r0=>kf ⟨[⟨(.sl (.int .i64)),(.o 3 none .k),r0⟩],[]⟩)
noncomputable def PA (N:Nat):=ar XE (atw N)
theorem al0 {Γ:Gl} (N:Nat):Sound Γ Tryz.prog 251 (PA N):=Tl (ρ:=Pz) (i0:=alZ) (z:=.int .i64 0) aaO (by kernel_rfl) (by kernel_rfl) (by kernel_rfl) (by kernel_rfl) (by kernel_rfl)
noncomputable def wi:List Kd:=.v (.sl (.sl (.int .i64))) .k::dK::dK::.v (.int .i64) .k::dn 5 (.v (.sl (.sl (.int .i64))) .k::.v (.int .i64) .k::.v (.int .i64) .k::dn 24 ([]))
noncomputable def yy:List Kd:=.v (.sl (.sl (.int .i64))) .k::dK::dK::.v (.int .i64) .k::dn 32 ([])
noncomputable def tc:List Kd:=dn 6 (.v (.sl (.int .i64)) (.o 3 none .k)::dn 18 (.v (.sl (.sl (.int .i64))) .k::.v (.int .i64) .k::.v (.int .i64) .k::dn 8 ([])))
noncomputable def uQ:List Kd:=dn 6 (.v (.sl (.int .i64)) (.o 3 none .k)::dn 29 ([]))
noncomputable def K4:Hint:={ tab,hn:=[],loops:=[(3,wi),(11,tc)],outs:=[(3,2,yy),(11,4,uQ)],bj:=[] }
noncomputable def K5:List AK:=[.v (.sl (.sl (.int .i64))) .k]
noncomputable def agk (N:Nat) (x:ax K5) (kf:aa→Option aa):Option aa:=aiT N x.1 (fun r0=>kf ⟨[⟨(.sl (.int .i64)),(.o 3 none .k),r0⟩],[]⟩)
noncomputable def PB (N:Nat):=ar K5 (agk N)
noncomputable def K6 (N:Nat):List Entry:=[⟨251,[.take,.val],(PA N)⟩]
noncomputable def tX:Code:=aL Tryz.f227
noncomputable def K7 (N n:Nat) (key:Nat) (S:St) (K:Ks):Option aa:=bif Nat.beq key 3 then az wi S (fun x=>qm x.1 x.2.2.1 x.2.2.2.1 n (fun z0=>K (.x 0) (shape yy (x.1,z0,()))) x.2.1 x.2.2.2.2.1) else bif Nat.beq key 11 then az tc S (fun x=>lg x.2.1 x.2.2.1 n (fun z0=>K (.x 2) (shape uQ (z0,()))) x.1 x.2.2.2.1) else none
theorem al1 (N key:Nat) (S:St) (K:Ks):K7 N 0 key S K=none:=(bO (au fun _=>rfl) (bO (au fun _=>rfl) rfl))
noncomputable def PC:Code:=(af tX).getD 0 .skip
noncomputable def PD:Code:=(af tX).getD 1 .skip
theorem al2:af tX=[PC,PD]:=by kernel_rfl
theorem Ua (N:Nat):fD K4 (K6 N) (K7 N) N 11 tc PD:=fun _ _ _=>by kernel_rfl
theorem aaP (N:Nat):fD K4 (K6 N) (K7 N) N 3 wi PC:=fun _ _ _=>by kernel_rfl
theorem al3 (N:Nat):cn K5 (agk N) K4 (K6 N) (K7 N N) Tryz.f227:=fun _ _=>by kernel_rfl
theorem al4 {Γ:Gl} (N:Nat):Sound Γ Tryz.prog 227 (PB N):=iH K4 Tryz.f227 tX (al1 N) al2 (al3 N) (rc (aaP N) (rc (Ua N) trivial)) ⟨al0 N,trivial⟩
noncomputable def agl:Hint:={ tab,hn:=[],loops:=[],outs:=[],bj:=[(4,(OT.seq [0,1,2,3,4,5,6,7,8,9,10,11] .done))] }
noncomputable def K8:List AK:=[.v (.sl cS) .k,.v (.int .i64) .k,.v (.int .i64) .k]
noncomputable def agm (N:Nat) (x:ax K8) (kf:aa→Option aa):Option aa:=aiU N x.1 x.2.1 x.2.2.1 (fun r0=>kf ⟨[⟨c9,.k,r0⟩],[]⟩)
noncomputable def PE (N:Nat):=ar K8 (agm N)
noncomputable def al5 (N:Nat):List Entry:=[⟨40,[.val,.val],(mc N)⟩,⟨143,[.val],(jS N)⟩,⟨187,[.val],(Gy N)⟩,⟨170,[.val,.val],(Gp N)⟩]
theorem al6 (N:Nat):cn K8 (agm N) agl (al5 N) (fC N N) Tryz.f228:=fun _ _=>by kernel_rfl
theorem al7 {Γ:Gl} (N:Nat):Sound Γ Tryz.prog 228 (PE N):=gX agl Tryz.f228 (al6 N) ⟨s9 N,⟨nX N,⟨XD N,⟨Xf N,trivial⟩⟩⟩⟩
noncomputable def wj:List Kd:=.v (.sl cS) .k::.v (.sl (.int .i64)) .k::dn 4 (.v (.int .i64) .k::dn 50 ([]))
noncomputable def yz:List Kd:=dn 57 ([])
noncomputable def yA:List Kd:=dn 4 (.v (.sl c9) (.o 104 none .k)::.v .bool .k::dn 51 ([]))
noncomputable def Ub:Hint:={ tab,hn:=[],loops:=[(4,wj)],outs:=[(4,2,yz),(4,1,yA)],bj:=[(6,(OT.seq [0,1,2,3,4,5,6,7,8,9] .done)),(7,(OT.seq [0,1,2,3,4,5,6,7,8,9,10,11,12,13,14,15] .done)),(9,(OT.seq [0,1,2,3,4,5,6,7,10,8,9,11,12,13] .done))] }
noncomputable def DM:List AK:=[.v (.sl cS) .k,.v (.sl (.int .i64)) .k]
noncomputable def agn (N:Nat) (x:ax DM) (kf:aa→Option aa):Option aa:=Sl N x.1 x.2.1 (fun r0 r1=>kf ⟨[⟨(.sl c9),(.o 104 none .k),r0⟩,⟨.bool,.k,r1⟩],[]⟩)
noncomputable def yB (N:Nat):=ar DM (agn N)
noncomputable def K9 (N:Nat):List Entry:=[⟨77,[.val,.val,.val],(KF N)⟩,⟨227,[.val],(PB N)⟩,⟨228,[.val,.val,.val],(PE N)⟩,⟨186,[.val,.val],(yB N)⟩]
noncomputable def Br:Code:=aL Tryz.f186
noncomputable def La (N n:Nat) (key:Nat) (S:St) (K:Ks):Option aa:=bif Nat.beq key 4 then az wj S (fun x=>qn N (Sl N) x.1 x.2.1 n (K (.x 0) (shape yz ())) (fun z0 z1=>K .r (shape yA (z0,z1,()))) x.2.2.1) else none
theorem al8 (N key:Nat) (S:St) (K:Ks):La N 0 key S K=none:=(bO (au fun _=>rfl) rfl)
noncomputable def PF:Code:=(af Br).getD 0 .skip
theorem al9:af Br=[PF]:=by kernel_rfl
theorem aaQ (N:Nat):fD Ub (K9 N) (La N) N 4 wj PF:=fun _ _ _=>by kernel_rfl
theorem al' (N:Nat) (x:ax DM) (kf:aa→Option aa):agn (N+1) x kf=km Ub (jt.of (K9 N)) (La N N) Tryz.f186 (dG DM x) kf:=by kernel_rfl
theorem XF {Γ:Gl}:∀ N:Nat,Sound Γ Tryz.prog 186 (yB N)
 |0=>pX fun al kf=>by
  unfold yB ar
  split<;>rfl
 |N+1=>jH (hh:=Ub) mixed lL (es:=K9 N) ⟨afx N,⟨al4 N,⟨al7 N,⟨XF N,trivial⟩⟩⟩⟩ (fn:=Tryz.f186) (body:=Br) (by kernel_rfl) (by kernel_rfl) (by kernel_rfl) (by kernel_rfl) (by kernel_rfl) (Lf:=La N) (al8 N) al9 (rc (aaQ N) trivial) (N:=N) (by kernel_rfl) (al' N) (.inl (by kernel_rfl))
noncomputable def Lb:List AK:=[.v (.sl cS) .k]
noncomputable def ago (N:Nat) (x:ax Lb) (kf:aa→Option aa):Option aa:=aiV N x.1 (fun r0 r1=>kf ⟨[⟨(.sl c9),(.o 104 none .k),r0⟩,⟨.bool,.k,r1⟩],[]⟩)
noncomputable def PG (N:Nat):=ar Lb (ago N)
noncomputable def ama (N:Nat):List Entry:=[⟨143,[.val],(jS N)⟩,⟨187,[.val],(Gy N)⟩,⟨186,[.val,.val],(yB N)⟩]
theorem amb (N:Nat):cn Lb (ago N) hq (ama N) (fC N N) Tryz.f101:=fun _ _=>by kernel_rfl
theorem amc {Γ:Gl} (N:Nat):Sound Γ Tryz.prog 101 (PG N):=gX hq Tryz.f101 (amb N) ⟨nX N,⟨XD N,⟨XF N,trivial⟩⟩⟩
noncomputable def wk:List Kd:=.v (.sl cS) .k::.v (.sl iN) .k::.v (.sl c9) .k::.v (.sl (.int .i64)) .k::dn 14 (.v (.sl iN) .k::.v (.int .i64) .k::.v (.int .i64) .k::dn 38 ([]))
noncomputable def yC:List Kd:=dn 59 ([])
noncomputable def yD:List Kd:=dn 8 (.v (.sl (.int .i64)) (.o 3 none .k)::.v .bool .k::dn 49 ([]))
noncomputable def Uc:Hint:={ tab,hn:=[],loops:=[(4,wk)],outs:=[(4,2,yC),(4,1,yD)],bj:=[(6,(OT.seq [0,1,2,3,4,5,6,7,8,9,10,11,12] .done)),(7,(OT.seq [4,6,7,0,1,2,3] (.any [5,8] (OT.seq [9,10,11,12,13,14,15] .done))))] }
noncomputable def DN:List AK:=[.v (.sl cS) .k,.v (.sl iN) .k,.v (.sl c9) .k,.v (.sl (.int .i64)) .k]
noncomputable def agp (N:Nat) (x:ax DN) (kf:aa→Option aa):Option aa:=Sn N x.1 x.2.1 x.2.2.1 x.2.2.2.1 (fun r0 r1=>kf ⟨[⟨(.sl (.int .i64)),(.o 3 none .k),r0⟩,⟨.bool,.k,r1⟩],[]⟩)
noncomputable def yE (N:Nat):=ar DN (agp N)
noncomputable def Lc (N:Nat):List Entry:=[⟨82,[.val,.val],(yj N)⟩,⟨83,[.val,.val,.val],(KG N)⟩,⟨166,[.val],(s8 N)⟩,⟨188,[.val,.val,.val,.val],(yE N)⟩]
noncomputable def Bs:Code:=aL Tryz.f188
noncomputable def Ld (N n:Nat) (key:Nat) (S:St) (K:Ks):Option aa:=bif Nat.beq key 4 then az wk S (fun x=>nF N (Sn N) x.1 x.2.1 x.2.2.1 x.2.2.2.1 x.2.2.2.2.1 x.2.2.2.2.2.1 n (K (.x 0) (shape yC ())) (fun z0 z1=>K .r (shape yD (z0,z1,()))) x.2.2.2.2.2.2.1) else none
theorem amd (N key:Nat) (S:St) (K:Ks):Ld N 0 key S K=none:=(bO (au fun _=>rfl) rfl)
noncomputable def PH:Code:=(af Bs).getD 0 .skip
theorem ame:af Bs=[PH]:=by kernel_rfl
theorem aaR (N:Nat):fD Uc (Lc N) (Ld N) N 4 wk PH:=fun _ _ _=>by kernel_rfl
theorem amf (N:Nat) (x:ax DN) (kf:aa→Option aa):agp (N+1) x kf=km Uc (jt.of (Lc N)) (Ld N N) Tryz.f188 (dG DN x) kf:=by kernel_rfl
theorem XG {Γ:Gl}:∀ N:Nat,Sound Γ Tryz.prog 188 (yE N)
 |0=>pX fun al kf=>by
  unfold yE ar
  split<;>rfl
 |N+1=>jH (hh:=Uc) mixed lL (es:=Lc N) ⟨KE N,⟨afH N,⟨DG N,⟨XG N,trivial⟩⟩⟩⟩ (fn:=Tryz.f188) (body:=Bs) (by kernel_rfl) (by kernel_rfl) (by kernel_rfl) (by kernel_rfl) (by kernel_rfl) (Lf:=Ld N) (amd N) ame (rc (aaR N) trivial) (N:=N) (by kernel_rfl) (amf N) (.inl (by kernel_rfl))
noncomputable def Le:List AK:=[.v (.sl cS) .k,.v (.sl iN) .k,.v (.sl c9) .k]
noncomputable def agq (N:Nat) (x:ax Le) (kf:aa→Option aa):Option aa:=aiW N x.1 x.2.1 x.2.2.1 (fun r0 r1=>kf ⟨[⟨(.sl (.int .i64)),(.o 3 none .k),r0⟩,⟨.bool,.k,r1⟩],[]⟩)
noncomputable def PI (N:Nat):=ar Le (agq N)
noncomputable def amg (N:Nat):List Entry:=[⟨79,[.val],(DK N)⟩,⟨143,[.val],(jS N)⟩,⟨188,[.val,.val,.val,.val],(yE N)⟩]
theorem amh (N:Nat):cn Le (agq N) hq (amg N) (fC N N) Tryz.f102:=fun _ _=>by kernel_rfl
theorem ami {Γ:Gl} (N:Nat):Sound Γ Tryz.prog 102 (PI N):=gX hq Tryz.f102 (amh N) ⟨TG N,⟨nX N,⟨XG N,trivial⟩⟩⟩
noncomputable def ap7:Hint:={ tab,hn:=[],loops:=[],outs:=[],bj:=[(8,(OT.seq [0,5,1,2,3] (.par [4,6,7,8] [[50,51]] (OT.seq [9,10] .done))))] }
noncomputable def Ud:List AK:=[.v c6 .k]
noncomputable def ap8 (N:Nat) (x:ax Ud) (kf:aa→Option aa):Option aa:=I23 N x.1 (fun r0 r1=>kf ⟨[⟨c6,(.p (.o 46 none (.p .k (.p .k (.p .k (.p .k (.p .k (.o 3 none .k))))))) (.p (.o 80 none (.p .k (.p .k (.o 3 none .k)))) (.p (.o 104 none .k) (.p (.o 3 none .k) (.p (.o 136 none .k) (.p (.o 102 none .k) .k)))))),r0⟩,⟨.bool,.k,r1⟩],[]⟩)
noncomputable def XH (N:Nat):=ar Ud (ap8 N)
noncomputable def atx (N:Nat):List Entry:=[⟨70,[.val],(kU N)⟩,⟨39,[.val],(tU N)⟩,⟨16,[.val],(qX N)⟩,⟨101,[.val],(PG N)⟩,⟨102,[.val,.val,.val],(PI N)⟩,⟨103,[.val,.take,.val,.val],(nh N)⟩]
theorem aty (N:Nat):cn Ud (ap8 N) ap7 (atx N) (fC N N) Tryz.f23:=fun _ _=>by kernel_rfl
theorem atz {Γ:Gl} (N:Nat):Sound Γ Tryz.prog 23 (XH N):=gX ap7 Tryz.f23 (aty N) ⟨qW N,⟨Gu N,⟨A8 N,⟨amc N,⟨ami N,⟨tV N,trivial⟩⟩⟩⟩⟩⟩
noncomputable def Ue:List AK:=[.v c6 .k,.v (.int .i64) .k,.v (.int .i64) .k,.v (.int .i64) .k]
noncomputable def ap9 (N:Nat) (x:ax Ue) (kf:aa→Option aa):Option aa:=I35 N x.1 x.2.1 x.2.2.1 x.2.2.2.1 (fun r0 r1=>kf ⟨[⟨c6,(.p (.o 46 none (.p .k (.p .k (.p .k (.p .k (.p .k (.o 3 none .k))))))) (.p (.o 80 none (.p .k (.p .k (.o 3 none .k)))) (.p (.o 104 none .k) (.p (.o 3 none .k) (.p (.o 136 none .k) (.p (.o 102 none .k) .k)))))),r0⟩,⟨.bool,.k,r1⟩],[]⟩)
noncomputable def XI (N:Nat):=ar Ue (ap9 N)
noncomputable def atA (N:Nat):List Entry:=[⟨70,[.val],(kU N)⟩,⟨39,[.val],(tU N)⟩,⟨138,[.val],(yn N)⟩,⟨103,[.val,.take,.val,.val],(nh N)⟩]
theorem atB (N:Nat):cn Ue (ap9 N) hq (atA N) (fC N N) Tryz.f35:=fun _ _=>by kernel_rfl
theorem atC {Γ:Gl} (N:Nat):Sound Γ Tryz.prog 35 (XI N):=gX hq Tryz.f35 (atB N) ⟨qW N,⟨Gu N,⟨KI N,⟨tV N,trivial⟩⟩⟩⟩
noncomputable def Bt:List Kd:=dn 3 (.v (.sl (.int .i64)) (.o 3 none .k)::dn 4 (.v (.sl rI) .k::.v (.int .i64) .k::.v (.int .i64) .k::dn 13 ([])))
noncomputable def CZ:List Kd:=dn 3 (.v (.sl (.int .i64)) (.o 3 none .k)::dn 20 ([]))
noncomputable def agr:Hint:={ tab,hn:=[],loops:=[(3,Bt)],outs:=[(3,2,CZ)],bj:=[] }
noncomputable def Lg:List AK:=[.v c6 .k]
noncomputable def ap' (N:Nat) (x:ax Lg) (kf:aa→Option aa):Option aa:=I41 N x.1 (fun r0=>kf ⟨[⟨(.sl (.int .i64)),(.o 3 none .k),r0⟩],[]⟩)
noncomputable def DO (N:Nat):=ar Lg (ap' N)
noncomputable def Gz:Code:=aL Tryz.f41
noncomputable def ags (N n:Nat) (key:Nat) (S:St) (K:Ks):Option aa:=bif Nat.beq key 3 then az Bt S (fun x=>sF x.2.1 x.2.2.1 n (fun z0=>K (.x 0) (shape CZ (z0,()))) x.1 x.2.2.2.1) else none
theorem atD (N key:Nat) (S:St) (K:Ks):ags N 0 key S K=none:=(bO (au fun _=>rfl) rfl)
noncomputable def XJ:Code:=(af Gz).getD 0 .skip
theorem atE:af Gz=[XJ]:=by kernel_rfl
theorem agt (N:Nat):fD agr [] (ags N) N 3 Bt XJ:=fun _ _ _=>by kernel_rfl
theorem atF (N:Nat):cn Lg (ap' N) agr [] (ags N N) Tryz.f41:=fun _ _=>by kernel_rfl
theorem Uf {Γ:Gl} (N:Nat):Sound Γ Tryz.prog 41 (DO N):=iH agr Tryz.f41 Gz (atD N) atE (atF N) (rc (agt N) trivial) trivial
noncomputable def wm:List Kd:=.v (.sl rI) .k::dn 7 (.v (.sl rI) .k::.v (.int .i64) .k::.v (.int .i64) .k::dn 23 ([]))
noncomputable def yF:List Kd:=dn 34 ([])
noncomputable def yG:List Kd:=dK::dK::.v .bool .k::dn 31 ([])
noncomputable def Ug:Hint:={ tab,hn:=[],loops:=[(4,wm)],outs:=[(4,2,yF),(4,1,yG)],bj:=[(6,(OT.seq [0,1,2,3,4,5,6,7,8,9,10,11,12,13,14,15,16,17] .done))] }
noncomputable def Lh:List AK:=[.v (.sl rI) .k]
noncomputable def agu (N:Nat) (x:ax Lh) (kf:aa→Option aa):Option aa:=Zo N x.1 (fun r0=>kf ⟨[⟨.bool,.k,r0⟩],[]⟩)
noncomputable def yH (N:Nat):=ar Lh (agu N)
noncomputable def XK (N:Nat):List Entry:=[⟨138,[.val],(yn N)⟩]
noncomputable def Bu:Code:=aL Tryz.f205
noncomputable def Uh (N n:Nat) (key:Nat) (S:St) (K:Ks):Option aa:=bif Nat.beq key 4 then az wm S (fun x=>nG N x.1 x.2.1 x.2.2.1 n (K (.x 0) (shape yF ())) (fun z0=>K .r (shape yG (z0,()))) x.2.2.2.1) else none
theorem amj (N key:Nat) (S:St) (K:Ks):Uh N 0 key S K=none:=(bO (au fun _=>rfl) rfl)
noncomputable def PJ:Code:=(af Bu).getD 0 .skip
theorem amk:af Bu=[PJ]:=by kernel_rfl
theorem aaS (N:Nat):fD Ug (XK N) (Uh N) N 4 wm PJ:=fun _ _ _=>by kernel_rfl
theorem aml (N:Nat):cn Lh (agu N) Ug (XK N) (Uh N N) Tryz.f205:=fun _ _=>by kernel_rfl
theorem Li {Γ:Gl} (N:Nat):Sound Γ Tryz.prog 205 (yH N):=iH Ug Tryz.f205 Bu (amj N) amk (aml N) (rc (aaS N) trivial) ⟨KI N,trivial⟩
noncomputable def Lj:List AK:=[.v rI .k]
noncomputable def agv (N:Nat) (x:ax Lj) (kf:aa→Option aa):Option aa:=Zp N x.1 (fun r0=>kf ⟨[⟨(.int .i64),.k,r0⟩],[]⟩)
noncomputable def GA (N:Nat):=ar Lj (agv N)
theorem amm (N:Nat):cn Lj (agv N) hq [] (fC N N) Tryz.f208:=fun _ _=>by kernel_rfl
theorem XL {Γ:Gl} (N:Nat):Sound Γ Tryz.prog 208 (GA N):=gX hq Tryz.f208 (amm N) trivial
noncomputable def wo:List Kd:=dK::.v (.int .i64) .k::dn 3 (.v (.int .i64) .k::dn 6 (.v (.sl rI) .k::.v (.int .i64) .k::.v (.int .i64) .k::dn 11 ([])))
noncomputable def yI:List Kd:=dn 5 (.v (.int .i64) .k::dn 20 ([]))
noncomputable def Ui:Hint:={ tab,hn:=[],loops:=[(5,wo)],outs:=[(5,2,yI)],bj:=[] }
noncomputable def Lk:List AK:=[.v (.sl rI) .k,.v (.int .i64) .k]
noncomputable def agw (N:Nat) (x:ax Lk) (kf:aa→Option aa):Option aa:=adh N x.1 x.2.1 (fun r0=>kf ⟨[⟨(.int .i64),.k,r0⟩],[]⟩)
noncomputable def PK (N:Nat):=ar Lk (agw N)
noncomputable def XM (N:Nat):List Entry:=[⟨205,[.val],(yH N)⟩,⟨208,[.val],(GA N)⟩]
noncomputable def Bv:Code:=aL Tryz.f206
noncomputable def Uj (N n:Nat) (key:Nat) (S:St) (K:Ks):Option aa:=bif Nat.beq key 5 then az wo S (fun x=>nH N x.1 x.2.2.1 x.2.2.2.1 n (fun z0=>K (.x 0) (shape yI (z0,()))) x.2.1 x.2.2.2.2.1) else none
theorem amn (N key:Nat) (S:St) (K:Ks):Uj N 0 key S K=none:=(bO (au fun _=>rfl) rfl)
noncomputable def PL:Code:=(af Bv).getD 0 .skip
theorem amo:af Bv=[PL]:=by kernel_rfl
theorem aaT (N:Nat):fD Ui (XM N) (Uj N) N 5 wo PL:=fun _ _ _=>by kernel_rfl
theorem amp (N:Nat):cn Lk (agw N) Ui (XM N) (Uj N N) Tryz.f206:=fun _ _=>by kernel_rfl
theorem amq {Γ:Gl} (N:Nat):Sound Γ Tryz.prog 206 (PK N):=iH Ui Tryz.f206 Bv (amn N) amo (amp N) (rc (aaT N) trivial) ⟨Li N,⟨XL N,trivial⟩⟩
noncomputable def wq:List Kd:=dK::.v (.int .i64) .k::dn 3 (.v (.int .i64) .k::dn 6 (.v (.sl rI) .k::.v (.int .i64) .k::.v (.int .i64) .k::dn 18 ([])))
noncomputable def yJ:List Kd:=dn 5 (.v (.int .i64) .k::dn 27 ([]))
noncomputable def Uk:Hint:={ tab,hn:=[],loops:=[(5,wq)],outs:=[(5,2,yJ)],bj:=[] }
noncomputable def Ll:List AK:=[.v (.sl rI) .k,.v (.int .i64) .k]
noncomputable def agx (N:Nat) (x:ax Ll) (kf:aa→Option aa):Option aa:=Sp N x.1 x.2.1 (fun r0=>kf ⟨[⟨(.int .i64),.k,r0⟩],[]⟩)
noncomputable def PM (N:Nat):=ar Ll (agx N)
noncomputable def XN (N:Nat):List Entry:=[⟨205,[.val],(yH N)⟩]
noncomputable def Bw:Code:=aL Tryz.f207
noncomputable def Ul (N n:Nat) (key:Nat) (S:St) (K:Ks):Option aa:=bif Nat.beq key 5 then az wq S (fun x=>lW x.1 x.2.2.1 x.2.2.2.1 n (fun z0=>K (.x 0) (shape yJ (z0,()))) x.2.1 x.2.2.2.2.1) else none
theorem amr (N key:Nat) (S:St) (K:Ks):Ul N 0 key S K=none:=(bO (au fun _=>rfl) rfl)
noncomputable def PN:Code:=(af Bw).getD 0 .skip
theorem ams:af Bw=[PN]:=by kernel_rfl
theorem aaU (N:Nat):fD Uk (XN N) (Ul N) N 5 wq PN:=fun _ _ _=>by kernel_rfl
theorem amt (N:Nat):cn Ll (agx N) Uk (XN N) (Ul N N) Tryz.f207:=fun _ _=>by kernel_rfl
theorem amu {Γ:Gl} (N:Nat):Sound Γ Tryz.prog 207 (PM N):=iH Uk Tryz.f207 Bw (amr N) ams (amt N) (rc (aaU N) trivial) ⟨Li N,trivial⟩
noncomputable def Lm:List AK:=[.v (.sl rI) .k]
noncomputable def agy (N:Nat) (x:ax Lm) (kf:aa→Option aa):Option aa:=Zq N x.1 (fun r0=>kf ⟨[⟨(.int .i64),.k,r0⟩],[]⟩)
noncomputable def PO (N:Nat):=ar Lm (agy N)
noncomputable def amv (N:Nat):List Entry:=[⟨205,[.val],(yH N)⟩,⟨206,[.val,.val],(PK N)⟩,⟨207,[.val,.val],(PM N)⟩,⟨208,[.val],(GA N)⟩]
theorem amw (N:Nat):cn Lm (agy N) hq (amv N) (fC N N) Tryz.f129:=fun _ _=>by kernel_rfl
theorem amx {Γ:Gl} (N:Nat):Sound Γ Tryz.prog 129 (PO N):=gX hq Tryz.f129 (amw N) ⟨Li N,⟨amq N,⟨amu N,⟨XL N,trivial⟩⟩⟩⟩
noncomputable def agz:Hint:={ tab,hn:=[],loops:=[],outs:=[],bj:=[(5,(OT.seq [4,5,6,7,8] (.own 65 (OT.seq [9,0,1,2,3,12,13,14,15,17] (.par [10,11,16,18] [[74,75],[65,66,67,68]] (.own 73 (OT.seq [19,20,21,22,23,24,25] .done)))))))] }
noncomputable def Ln:List AK:=[.v (.sl cS) .k,.v (.int .i64) .k,.v (.int .i64) .k,.v (.int .i64) .k,.v (.int .i64) .k,.v (.int .i64) .k]
noncomputable def agA (N:Nat) (x:ax Ln) (kf:aa→Option aa):Option aa:=Zr N x.1 x.2.1 x.2.2.1 x.2.2.2.1 x.2.2.2.2.1 x.2.2.2.2.2.1 (fun r0 r1=>kf ⟨[⟨(.sl cS),(.o 46 none (.p .k (.p .k (.p .k (.p .k (.p .k (.o 3 none .k))))))),r0⟩,⟨.bool,.k,r1⟩],[]⟩)
noncomputable def PQ (N:Nat):=ar Ln (agA N)
noncomputable def amy (N:Nat):List Entry:=[⟨163,[.val],(Gi N)⟩,⟨40,[.val,.val],(mc N)⟩,⟨143,[.val],(jS N)⟩,⟨144,[.val,.val,.val],(lr N)⟩]
theorem amz (N:Nat):cn Ln (agA N) agz (amy N) (fC N N) Tryz.f128:=fun _ _=>by kernel_rfl
theorem amA {Γ:Gl} (N:Nat):Sound Γ Tryz.prog 128 (PQ N):=gX agz Tryz.f128 (amz N) ⟨W2 N,⟨s9 N,⟨nX N,⟨qY N,trivial⟩⟩⟩⟩
def agB:Go.Shelf.Ren:=⟨fun n=>bif Nat.beq n 125 then 211 else bif Nat.beq n 128 then 244 else bif Nat.beq n 129 then 245 else bif Nat.beq n 189 then 131 else bif Nat.beq n 215 then 253 else bif Nat.beq n 216 then 241 else bif Nat.beq n 257 then 210 else bif Nat.beq n 294 then 235 else bif Nat.beq n 295 then 236 else bif Nat.beq n 296 then 237 else bif Nat.beq n 297 then 238 else bif Nat.beq n 298 then 239 else bif Nat.beq n 299 then 240 else bif Nat.beq n 300 then 242 else bif Nat.beq n 301 then 243 else bif Nat.beq n 328 then 254 else bif Nat.beq n 329 then 255 else bif Nat.beq n 330 then 256 else bif Nat.beq n 331 then 257 else bif Nat.beq n 332 then 258 else bif Nat.beq n 343 then 271 else n,fun n=>bif Nat.beq n 0 then 0 else bif Nat.beq n 3 then 3 else bif Nat.beq n 4 then 4 else bif Nat.beq n 5 then 5 else bif Nat.beq n 9 then 9 else bif Nat.beq n 28 then 27 else bif Nat.beq n 46 then 194 else bif Nat.beq n 51 then 216 else bif Nat.beq n 53 then 218 else bif Nat.beq n 131 then 213 else bif Nat.beq n 182 then 207 else bif Nat.beq n 183 then 208 else bif Nat.beq n 218 then 222 else bif Nat.beq n 222 then 226 else bif Nat.beq n 228 then 235 else bif Nat.beq n 229 then 236 else n,fun n=>n⟩
theorem aaV:Lays.n189 Tryz.prog agB:={ mixed:=by kernel_rfl,f125:=by kernel_rfl,f128:=by kernel_rfl,f129:=by kernel_rfl,f189:=by kernel_rfl,f215:=by kernel_rfl,f216:=by kernel_rfl,f257:=by kernel_rfl,f294:=by kernel_rfl,f295:=by kernel_rfl,f296:=by kernel_rfl,f297:=by kernel_rfl,f298:=by kernel_rfl,f299:=by kernel_rfl,f300:=by kernel_rfl,f301:=by kernel_rfl,f328:=by kernel_rfl,f329:=by kernel_rfl,f330:=by kernel_rfl,f331:=by kernel_rfl,f332:=by kernel_rfl,f343:=by kernel_rfl,t0:=by kernel_rfl,a0:=fun w=>by kernel_rfl,z0:=fun w=>by kernel_rfl,v0:=fun w=>by kernel_rfl,t3:=by kernel_rfl,a3:=fun w=>by kernel_rfl,z3:=fun w=>by kernel_rfl,v3:=fun w=>by kernel_rfl,t4:=by kernel_rfl,a4:=fun w=>by kernel_rfl,z4:=fun w=>by kernel_rfl,v4:=fun w=>by kernel_rfl,t5:=by kernel_rfl,a5:=fun w=>by kernel_rfl,z5:=fun w=>by kernel_rfl,v5:=fun w=>by kernel_rfl,t9:=by kernel_rfl,a9:=fun w=>by kernel_rfl,z9:=fun w=>by kernel_rfl,v9:=fun w=>by kernel_rfl,t28:=by kernel_rfl,a28:=fun w=>by kernel_rfl,z28:=fun w=>by kernel_rfl,v28:=fun w=>by kernel_rfl,t46:=by kernel_rfl,a46:=fun w=>by kernel_rfl,z46:=fun w=>by kernel_rfl,v46:=fun w=>by kernel_rfl,t51:=by kernel_rfl,a51:=fun w=>by kernel_rfl,z51:=fun w=>by kernel_rfl,v51:=fun w=>by kernel_rfl,t53:=by kernel_rfl,a53:=fun w=>by kernel_rfl,z53:=fun w=>by kernel_rfl,v53:=fun w=>by kernel_rfl,t131:=by kernel_rfl,a131:=fun w=>by kernel_rfl,z131:=fun w=>by kernel_rfl,v131:=fun w=>by kernel_rfl,t182:=by kernel_rfl,a182:=fun w=>by kernel_rfl,z182:=fun w=>by kernel_rfl,v182:=fun w=>by kernel_rfl,t183:=by kernel_rfl,a183:=fun w=>by kernel_rfl,z183:=fun w=>by kernel_rfl,v183:=fun w=>by kernel_rfl,t218:=by kernel_rfl,a218:=fun w=>by kernel_rfl,z218:=fun w=>by kernel_rfl,v218:=fun w=>by kernel_rfl,t222:=by kernel_rfl,a222:=fun w=>by kernel_rfl,z222:=fun w=>by kernel_rfl,v222:=fun w=>by kernel_rfl,t228:=by kernel_rfl,a228:=fun w=>by kernel_rfl,z228:=fun w=>by kernel_rfl,v228:=fun w=>by kernel_rfl,t229:=by kernel_rfl,a229:=fun w=>by kernel_rfl,z229:=fun w=>by kernel_rfl,v229:=fun w=>by kernel_rfl }
noncomputable def XO:List AK:=[.v (.sl (.int .i64)) (.o 3 (some 0) .k)]
noncomputable def atG (N:Nat) (x:ax XO) (kf:aa→Option aa):Option aa:=Zs N x.1 (fun z=>kf ⟨[],[⟨(.sl (.int .i64)),(.o 3 (some 0) .k),z⟩]⟩)
noncomputable def PR (N:Nat):=ar XO (atG N)
theorem amB {Γ:Gl} (N:Nat):Sound Γ Tryz.prog 131 (PR N):=Tc aaV 3
def agC:Go.Shelf.Ren:=⟨fun n=>bif Nat.beq n 20 then 132 else n,fun n=>bif Nat.beq n 0 then 0 else bif Nat.beq n 3 then 3 else bif Nat.beq n 4 then 4 else bif Nat.beq n 22 then 27 else n,fun n=>n⟩
theorem aaW:Lays2.n20 Tryz.prog agC:={ mixed:=by kernel_rfl,f20:=by kernel_rfl,t0:=by kernel_rfl,a0:=fun w=>by kernel_rfl,z0:=fun w=>by kernel_rfl,v0:=fun w=>by kernel_rfl,t3:=by kernel_rfl,a3:=fun w=>by kernel_rfl,z3:=fun w=>by kernel_rfl,v3:=fun w=>by kernel_rfl,t4:=by kernel_rfl,a4:=fun w=>by kernel_rfl,z4:=fun w=>by kernel_rfl,v4:=fun w=>by kernel_rfl,t22:=by kernel_rfl,a22:=fun w=>by kernel_rfl,z22:=fun w=>by kernel_rfl,v22:=fun w=>by kernel_rfl,i3:=by kernel_rfl }
noncomputable def XP:List AK:=[.v (.sl (.int .i64)) (.o 3 none .k)]
noncomputable def atH (N:Nat) (x:ax XP) (kf:aa→Option aa):Option aa:=adm N x.1 (fun r0=>kf ⟨[⟨(.sl (.int .i64)),(.o 3 none .k),r0⟩],[]⟩)
noncomputable def PS (N:Nat):=ar XP (atH N)
theorem amC {Γ:Gl} (N:Nat):Sound Γ Tryz.prog 132 (PS N):=Hl aaW 3
noncomputable def Bx:List Kd:=dK::.v (.ptr c6) (.o 31 none .k)::.v (.ptr c6) (.o 31 none (.p (.o 46 none (.p .k (.p .k (.p .k (.p .k (.p .k (.o 3 none .k))))))) (.p (.o 80 none (.p .k (.p .k (.o 3 none .k)))) (.p (.o 104 none .k) (.p (.o 3 none .k) (.p (.o 136 none .k) (.p (.o 102 none .k) .k)))))))::dK::.v (.ptr c6) (.o 31 none (.p (.o 46 none (.p .k (.p .k (.p .k (.p .k (.p .k (.o 3 none .k))))))) (.p (.o 80 none (.p .k (.p .k (.o 3 none .k)))) (.p (.o 104 none .k) (.p (.o 3 none .k) (.p (.o 136 none .k) (.p (.o 102 none .k) .k)))))))::dn 25 (.v (.sl c9) .k::.v (.int .i64) .k::.v (.int .i64) .k::dn 76 ([]))
noncomputable def C0:List Kd:=dK::.v (.ptr c6) (.o 31 none .k)::.v (.ptr c6) (.o 31 none (.p (.o 46 none (.p .k (.p .k (.p .k (.p .k (.p .k (.o 3 none .k))))))) (.p (.o 80 none (.p .k (.p .k (.o 3 none .k)))) (.p (.o 104 none .k) (.p (.o 3 none .k) (.p (.o 136 none .k) (.p (.o 102 none .k) .k)))))))::dK::.v (.ptr c6) (.o 31 none (.p (.o 46 none (.p .k (.p .k (.p .k (.p .k (.p .k (.o 3 none .k))))))) (.p (.o 80 none (.p .k (.p .k (.o 3 none .k)))) (.p (.o 104 none .k) (.p (.o 3 none .k) (.p (.o 136 none .k) (.p (.o 102 none .k) .k)))))))::dn 104 ([])
noncomputable def C1:List Kd:=dK::dK::.v (.ptr c6) (.o 31 none (.p (.o 46 none (.p .k (.p .k (.p .k (.p .k (.p .k (.o 3 none .k))))))) (.p (.o 80 none (.p .k (.p .k (.o 3 none .k)))) (.p (.o 104 none .k) (.p (.o 3 none .k) (.p (.o 136 none .k) (.p (.o 102 none .k) .k)))))))::.v .bool .k::dn 105 ([])
noncomputable def agD:Hint:={ tab,hn:=[],loops:=[(5,Bx)],outs:=[(5,2,C0),(5,1,C1)],bj:=[(8,(OT.seq [0,1,2,3,4,5,6,9,10,11,12,7,8,13,14,15,17,16,18,19] .done)),(11,(OT.seq [0,1,2,3,4,5,6,7,8] .done)),(12,(OT.seq [0,1,2,3,4,5,6,7,8,9,10,11,12] .done)),(14,(OT.seq [3,0,2] (.par [1,4] [[4,86,87]] (OT.seq [5,6,7] .done))))] }
noncomputable def Lo:List AK:=[.v c6 .k]
noncomputable def aqa (N:Nat) (x:ax Lo) (kf:aa→Option aa):Option aa:=I28 N x.1 (fun r0 r1=>kf ⟨[⟨c6,(.p (.o 46 none (.p .k (.p .k (.p .k (.p .k (.p .k (.o 3 none .k))))))) (.p (.o 80 none (.p .k (.p .k (.o 3 none .k)))) (.p (.o 104 none .k) (.p (.o 3 none .k) (.p (.o 136 none .k) (.p (.o 102 none .k) .k)))))),r0⟩,⟨.bool,.k,r1⟩],[]⟩)
noncomputable def Lp (N:Nat):=ar Lo (aqa N)
noncomputable def agE (N:Nat):List Entry:=[⟨39,[.val],(tU N)⟩,⟨16,[.val],(qX N)⟩,⟨41,[.val],(DO N)⟩,⟨70,[.val],(kU N)⟩,⟨129,[.val],(PO N)⟩,⟨128,[.val,.val,.val,.val,.val,.val],(PQ N)⟩,⟨130,[.val,.val],(Gw N)⟩,⟨131,[.kZ],(PR N)⟩,⟨132,[.take],(PS N)⟩,⟨103,[.val,.take,.val,.val],(nh N)⟩]
noncomputable def GB:Code:=aL Tryz.f28
noncomputable def agF (N n:Nat) (key:Nat) (S:St) (K:Ks):Option aa:=bif Nat.beq key 5 then az Bx S (fun x=>vE N x.1 x.2.1 x.2.2.2.1 x.2.2.2.2.1 n (fun z0=>K (.x 0) (shape C0 (x.1,x.2.1,z0,()))) (fun z0 z1=>K .r (shape C1 (z0,z1,()))) x.2.2.1 x.2.2.2.2.2.1) else none
theorem atI (N key:Nat) (S:St) (K:Ks):agF N 0 key S K=none:=(bO (au fun _=>rfl) rfl)
noncomputable def XQ:Code:=(af GB).getD 0 .skip
theorem atJ:af GB=[XQ]:=by kernel_rfl
theorem agG (N:Nat):fD agD (agE N) (agF N) N 5 Bx XQ:=fun _ _ _=>by kernel_rfl
theorem atK (N:Nat):cn Lo (aqa N) agD (agE N) (agF N N) Tryz.f28:=fun _ _=>by kernel_rfl
theorem agH {Γ:Gl} (N:Nat):Sound Γ Tryz.prog 28 (Lp N):=iH agD Tryz.f28 GB (atI N) atJ (atK N) (rc (agG N) trivial) ⟨Gu N,⟨A8 N,⟨Uf N,⟨qW N,⟨amx N,⟨amA N,⟨Xx N,⟨amB N,⟨amC N,⟨tV N,trivial⟩⟩⟩⟩⟩⟩⟩⟩⟩⟩
def agI:Go.Shelf.Ren:=⟨fun n=>bif Nat.beq n 45 then 142 else n,fun n=>bif Nat.beq n 0 then 0 else bif Nat.beq n 3 then 3 else bif Nat.beq n 4 then 4 else bif Nat.beq n 22 then 24 else bif Nat.beq n 23 then 46 else n,fun n=>n⟩
def amD:Array Value:=#[.int .i64 0,.int .i64 0,.int .i64 0,.int .i64 0,.int .i64 0,.slice none 0 0]
noncomputable def amE:TypeInfo:=(Tryz.prog.info? 46).get (by kernel_rfl)
theorem agJ:apH Tryz.prog agI (cS).size amD amE:={ FB:=⟨Tryz.f142.name,by kernel_rfl,by kernel_rfl⟩,mixed:=by kernel_rfl,t0:=by kernel_rfl,a0:=fun w=>by kernel_rfl,z0:=fun w=>by kernel_rfl,v0:=fun w=>by kernel_rfl,t3:=by kernel_rfl,a3:=fun w=>by kernel_rfl,z3:=fun w=>by kernel_rfl,v3:=fun w=>by kernel_rfl,t4:=by kernel_rfl,a4:=fun w=>by kernel_rfl,z4:=fun w=>by kernel_rfl,v4:=fun w=>by kernel_rfl,t22:=by kernel_rfl,a22:=fun w=>by kernel_rfl,z22:=fun w=>by kernel_rfl,v22:=fun w=>by kernel_rfl,z23:=fun w=>by kernel_rfl,v23:=fun w=>by kernel_rfl,hz:=by kernel_rfl,hzo:=by kernel_rfl,I':=by kernel_rfl,IZ:=by kernel_rfl }
noncomputable def XR:List AK:=[.v (.sl cS) (.o 46 none (.p .k (.p .k (.p .k (.p .k (.p .k (.o 3 none .k))))))),.v (.int .i64) .k,.v (.int .i64) .k]
noncomputable def atL (N:Nat) (x:ax XR) (kf:aa→Option aa):Option aa:=arx N x.1 x.2.1 x.2.2.1 (fun r0=>kf ⟨[⟨(.sl cS),(.o 46 none (.p .k (.p .k (.p .k (.p .k (.p .k (.o 3 none .k))))))),r0⟩],[]⟩)
noncomputable def PT (N:Nat):=ar XR (atL N)
theorem amF {Γ:Gl} (N:Nat):Sound Γ Tryz.prog 142 (PT N):=J3 agJ 46 (.p .k (.p .k (.p .k (.p .k (.p .k (.o 3 none .k)))))) (by kernel_rfl)
noncomputable def Um:List AK:=[.v c6 .k,.v (.int .i64) .k]
noncomputable def aqb (N:Nat) (x:ax Um) (kf:aa→Option aa):Option aa:=I38 N x.1 x.2.1 (fun r0 r1=>kf ⟨[⟨c6,(.p (.o 46 none (.p .k (.p .k (.p .k (.p .k (.p .k (.o 3 none .k))))))) (.p (.o 80 none (.p .k (.p .k (.o 3 none .k)))) (.p (.o 104 none .k) (.p (.o 3 none .k) (.p (.o 136 none .k) (.p (.o 102 none .k) .k)))))),r0⟩,⟨.bool,.k,r1⟩],[]⟩)
noncomputable def XS (N:Nat):=ar Um (aqb N)
noncomputable def atM (N:Nat):List Entry:=[⟨70,[.val],(kU N)⟩,⟨40,[.val,.val],(mc N)⟩,⟨16,[.val],(qX N)⟩,⟨142,[.take,.val,.val],(PT N)⟩,⟨103,[.val,.take,.val,.val],(nh N)⟩]
theorem atN (N:Nat):cn Um (aqb N) hq (atM N) (fC N N) Tryz.f38:=fun _ _=>by kernel_rfl
theorem atO {Γ:Gl} (N:Nat):Sound Γ Tryz.prog 38 (XS N):=gX hq Tryz.f38 (atN N) ⟨qW N,⟨s9 N,⟨A8 N,⟨amF N,⟨tV N,trivial⟩⟩⟩⟩⟩
noncomputable def Lq:List AK:=[.v c6 .k,.v mO .k]
noncomputable def aqc (N:Nat) (x:ax Lq) (kf:aa→Option aa):Option aa:=I13 N x.1 x.2.1 (fun r0 r1=>kf ⟨[⟨c6,(.p (.o 46 none (.p .k (.p .k (.p .k (.p .k (.p .k (.o 3 none .k))))))) (.p (.o 80 none (.p .k (.p .k (.o 3 none .k)))) (.p (.o 104 none .k) (.p (.o 3 none .k) (.p (.o 136 none .k) (.p (.o 102 none .k) .k)))))),r0⟩,⟨.bool,.k,r1⟩],[]⟩)
noncomputable def Lr (N:Nat):=ar Lq (aqc N)
noncomputable def atP (N:Nat):List Entry:=[⟨30,[.val,.val,.val],(Xu N)⟩,⟨32,[.val,.val,.val],(Xz N)⟩,⟨23,[.val],(XH N)⟩,⟨35,[.val,.val,.val,.val],(XI N)⟩,⟨28,[.val],(Lp N)⟩,⟨38,[.val,.val],(XS N)⟩,⟨70,[.val],(kU N)⟩]
theorem atQ (N:Nat):cn Lq (aqc N) hq (atP N) (fC N N) Tryz.f13:=fun _ _=>by kernel_rfl
theorem agK {Γ:Gl} (N:Nat):Sound Γ Tryz.prog 13 (Lr N):=gX hq Tryz.f13 (atQ N) ⟨atp N,⟨atv N,⟨atz N,⟨atC N,⟨agH N,⟨atO N,⟨qW N,trivial⟩⟩⟩⟩⟩⟩⟩
end Go.Pv.R
