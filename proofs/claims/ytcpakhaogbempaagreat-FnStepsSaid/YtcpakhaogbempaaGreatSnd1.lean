/- Each function of the program that the law reaches computes its plain function, part 1. -/
import Derived.Test.YtcpakhaogbempaaGreatSnd0
import Derived.Test.YtcpakhaogbempaaGreatProg
namespace Go.Pv.R
open Go.Proofs
set_option linter.unusedVariables false
set_option maxRecDepth 100000
noncomputable def Lm:List AK:=[.v jL .k,.v (.ptr (.int .i64)) .k]
noncomputable def af6 (N:Nat) (x:aL Lm) (kf:ab→Option ab):Option ab:=aiH N x.1 x.2.1 (fun r0=>kf ⟨[⟨.bool,.k,r0⟩],[]⟩)
noncomputable def P1 (N:Nat):=aF Lm (af6 N)
theorem alu (N:Nat):cX Lm (af6 N) hq [] (gw N N) Tryz.f209:=fun _ _=>by kernel_rfl
theorem alv {Γ:Gl} (N:Nat):Sound Γ Tryz.prog 209 (P1 N):=iQ hq Tryz.f209 (alu N) trivial
noncomputable def wY:List Kd:=.v (.sl jL) .k::.mg 209 [.kv (.ptr (.int .i64))]::dn 5 (.v (.int .i64) .k::.v (.int .i64) .k::dn 10 ([]))
noncomputable def y8:List Kd:=dn 19 ([])
noncomputable def y9:List Kd:=dn 4 (.v (.int .i64) .k::dn 14 ([]))
noncomputable def Uu:Hint:={ tab,hn:=[],loops:=[(2,wY)],outs:=[(2,2,y8),(2,1,y9)],b5:=[] }
noncomputable def Ln:List AK:=[.v (.sl jL) .k,.fn 209 [(.ptr (.int .i64))]]
noncomputable def af7 (N:Nat) (x:aL Ln) (kf:ab→Option ab):Option ab:=ars N x.1 x.2.1.1 (fun r0=>kf ⟨[⟨(.int .i64),.k,r0⟩],[]⟩)
noncomputable def P3 (N:Nat):=aF Ln (af7 N)
noncomputable def XH (N:Nat):List Entry:=[⟨209,[.val],(P1 N)⟩]
noncomputable def B4:Code:=bw Tryz.f80
noncomputable def Uv (N n:Nat) (key:Nat) (S:St) (K:Ks):Option ab:=bif Nat.beq key 2 then aQ wY S (fun x=>qV N x.1 x.2.1.1 x.2.2.1 n (K (.x 0) (shape y8 ())) (fun z0=>K .r (shape y9 (z0,()))) x.2.2.2.1) else none
theorem alw (N key:Nat) (S:St) (K:Ks):Uv N 0 key S K=none:=(cH (aJ fun _=>rfl) rfl)
noncomputable def P4:Code:=(ak B4).getD 0 .skip
theorem alx:ak B4=[P4]:=by kernel_rfl
theorem aaV (N:Nat):hZ Uu (XH N) (Uv N) N 2 wY P4:=fun _ _ _=>by kernel_rfl
theorem aly (N:Nat):cX Ln (af7 N) Uu (XH N) (Uv N N) Tryz.f80:=fun _ _=>by kernel_rfl
theorem alz {Γ:Gl} (N:Nat):Sound Γ Tryz.prog 80 (P3 N):=kh Uu Tryz.f80 B4 (alw N) alx (aly N) (rc (aaV N) trivial) ⟨alv N,trivial⟩
noncomputable def Lo:List AK:=[.v (.sl jL) .k,.v (.int .i64) .k]
noncomputable def af8 (N:Nat) (x:aL Lo) (kf:ab→Option ab):Option ab:=SX N x.1 x.2.1 (fun r0=>kf ⟨[⟨(.int .i64),.k,r0⟩],[]⟩)
noncomputable def GU (N:Nat):=aF Lo (af8 N)
noncomputable def alA (N:Nat):List Entry:=[⟨80,[.val,.val],(P3 N)⟩]
theorem alB (N:Nat):cX Lo (af8 N) hq (alA N) (gw N N) Tryz.f130:=fun _ _=>by kernel_rfl
theorem XI {Γ:Gl} (N:Nat):Sound Γ Tryz.prog 130 (GU N):=iQ hq Tryz.f130 (alB N) ⟨alz N,trivial⟩
def af9:Go.Shelf.Ren:=⟨fun n=>bif Nat.beq n 22 then 136 else bif Nat.beq n 29 then 214 else bif Nat.beq n 30 then 215 else n,fun n=>bif Nat.beq n 0 then 0 else bif Nat.beq n 3 then 3 else bif Nat.beq n 4 then 4 else bif Nat.beq n 9 then 80 else bif Nat.beq n 24 then 25 else n,fun n=>n⟩
def alC:Array Value:=#[.int .i64 0,.int .i64 0,.slice none 0 0]
noncomputable def alD:TypeInfo:=(Tryz.prog.info? 80).get (by kernel_rfl)
theorem af':IZ Tryz.prog af9 (Ty.size jL) alC alD:={ FB:=⟨Tryz.f136.name,by kernel_rfl,by kernel_rfl⟩,FO:=⟨Tryz.f214,by kernel_rfl,by kernel_rfl,by kernel_rfl,by kernel_rfl,by kernel_rfl⟩,mixed:=by kernel_rfl,t0:=by kernel_rfl,a0:=fun w=>by kernel_rfl,z0:=fun w=>by kernel_rfl,v0:=fun w=>by kernel_rfl,t3:=by kernel_rfl,a3:=fun w=>by kernel_rfl,z3:=fun w=>by kernel_rfl,v3:=fun w=>by kernel_rfl,t4:=by kernel_rfl,a4:=fun w=>by kernel_rfl,z4:=fun w=>by kernel_rfl,v4:=fun w=>by kernel_rfl,t24:=by kernel_rfl,a24:=fun w=>by kernel_rfl,z24:=fun w=>by kernel_rfl,v24:=fun w=>by kernel_rfl,z9:=fun w=>by kernel_rfl,hz:=by kernel_rfl,hzo:=by kernel_rfl,JB:=by kernel_rfl,hz0:=by kernel_rfl,Jp:=by kernel_rfl,hby:=Nat.le_of_ble_eq_true (by kernel_rfl),DH:=Nat.le_of_ble_eq_true (by kernel_rfl) }
noncomputable def XJ:List AK:=[.v (.sl jL) (.o 80 none (.p .k (.p .k (.o 3 none .k)))),.v (.int .i64) .k,.v (.sl jL) (.o 80 none (.p .k (.p .k (.o 3 none .k))))]
noncomputable def atu (N:Nat) (x:aL XJ) (kf:ab→Option ab):Option ab:=aiI N x.1 x.2.1 x.2.2.1 (fun r0=>kf ⟨[⟨(.sl jL),(.o 80 none (.p .k (.p .k (.o 3 none .k)))),r0⟩],[]⟩)
noncomputable def P5 (N:Nat):=aF XJ (atu N)
theorem alE {Γ:Gl} (N:Nat):Sound Γ Tryz.prog 136 (P5 N):=yN af' (.p .k (.p .k (.o 3 none .k))) (by kernel_rfl)
noncomputable def B5:List Kd:=dK::.v (.int .i64) .k::.v (.int .i64) .k::.v (.ptr bU) (.o 31 none .k)::dK::dK::.v (.ptr bU) (.o 31 none (.p (.o 46 none (.p .k (.p .k (.p .k (.p .k (.p .k (.o 3 none .k))))))) (.p (.o 80 none (.p .k (.p .k (.o 3 none .k)))) (.p (.o 104 none .k) (.p (.o 3 none .k) (.p (.o 136 none .k) (.p (.o 102 none .k) .k)))))))::dK::.v (.ptr bU) (.o 31 none (.p (.o 46 none (.p .k (.p .k (.p .k (.p .k (.p .k (.o 3 none .k))))))) (.p (.o 80 none (.p .k (.p .k (.o 3 none .k)))) (.p (.o 104 none .k) (.p (.o 3 none .k) (.p (.o 136 none .k) (.p (.o 102 none .k) .k)))))))::.v (.int .i64) .k::dn 40 ([])
noncomputable def Dx:List Kd:=dK::.v (.int .i64) .k::.v (.int .i64) .k::.v (.ptr bU) (.o 31 none .k)::dK::dK::.v (.ptr bU) (.o 31 none (.p (.o 46 none (.p .k (.p .k (.p .k (.p .k (.p .k (.o 3 none .k))))))) (.p (.o 80 none (.p .k (.p .k (.o 3 none .k)))) (.p (.o 104 none .k) (.p (.o 3 none .k) (.p (.o 136 none .k) (.p (.o 102 none .k) .k)))))))::dK::.v (.ptr bU) (.o 31 none (.p (.o 46 none (.p .k (.p .k (.p .k (.p .k (.p .k (.o 3 none .k))))))) (.p (.o 80 none (.p .k (.p .k (.o 3 none .k)))) (.p (.o 104 none .k) (.p (.o 3 none .k) (.p (.o 136 none .k) (.p (.o 102 none .k) .k)))))))::.v (.int .i64) .k::dn 40 ([])
noncomputable def aga:Hint:={ tab,hn:=[],loops:=[(5,B5)],outs:=[(5,2,Dx)],b5:=[] }
noncomputable def Lp:List AK:=[.v bU .k,.v (.int .i64) .k,.v (.int .i64) .k]
noncomputable def aqd (N:Nat) (x:aL Lp) (kf:ab→Option ab):Option ab:=I32 N x.1 x.2.1 x.2.2.1 (fun r0 r1=>kf ⟨[⟨bU,(.p (.o 46 none (.p .k (.p .k (.p .k (.p .k (.p .k (.o 3 none .k))))))) (.p (.o 80 none (.p .k (.p .k (.o 3 none .k)))) (.p (.o 104 none .k) (.p (.o 3 none .k) (.p (.o 136 none .k) (.p (.o 102 none .k) .k)))))),r0⟩,⟨.bool,.k,r1⟩],[]⟩)
noncomputable def XK (N:Nat):=aF Lp (aqd N)
noncomputable def agb (N:Nat):List Entry:=[⟨70,[.val],(oQ N)⟩,⟨130,[.val,.val],(GU N)⟩,⟨136,[.take,.val,.take],(P5 N)⟩,⟨103,[.val,.take,.val,.val],(nR N)⟩]
noncomputable def GV:Code:=bw Tryz.f32
noncomputable def agc (N n:Nat) (key:Nat) (S:St) (K:Ks):Option ab:=bif Nat.beq key 5 then aQ B5 S (fun x=>tC x.1 x.2.1 x.2.2.1 x.2.2.2.1 x.2.2.2.2.1 n (fun z0=>K (.x 0) (shape Dx (x.1,x.2.1,x.2.2.1,x.2.2.2.1,x.2.2.2.2.1,z0,()))) x.2.2.2.2.2.1) else none
theorem atv (N key:Nat) (S:St) (K:Ks):agc N 0 key S K=none:=(cH (aJ fun _=>rfl) rfl)
noncomputable def XL:Code:=(ak GV).getD 0 .skip
theorem atw:ak GV=[XL]:=by kernel_rfl
theorem agd (N:Nat):hZ aga (agb N) (agc N) N 5 B5 XL:=fun _ _ _=>by kernel_rfl
theorem atx (N:Nat):cX Lp (aqd N) aga (agb N) (agc N N) Tryz.f32:=fun _ _=>by kernel_rfl
theorem aty {Γ:Gl} (N:Nat):Sound Γ Tryz.prog 32 (XK N):=kh aga Tryz.f32 GV (atv N) atw (atx N) (rc (agd N) trivial) ⟨wR N,⟨XI N,⟨alE N,⟨uQ N,trivial⟩⟩⟩⟩
noncomputable def age:Hint:={ tab,hn:=[],loops:=[],outs:=[],b5:=[] }
noncomputable def Ej:List AK:=[.v (.sl dC) .k]
noncomputable def Lq (N:Nat) (x:aL Ej) (kf:ab→Option ab):Option ab:=aiK N x.1 (fun r0=>kf ⟨[⟨(.sl dC),(.o 46 none .k),r0⟩],[]⟩)
noncomputable def P6 (N:Nat):=aF Ej (Lq N)
noncomputable def I7:Code:=bw Tryz.f229
theorem alF:ak I7=[]:=by kernel_rfl
theorem alG (N:Nat):cX Ej (Lq N) age [] (gw N N) Tryz.f229:=fun _ _=>by kernel_rfl
theorem agf (N:Nat) (x:aL Ej):dp (Lq N x):=by
 obtain⟨l,u⟩:=x
 unfold Lq aiK
 cases l with
 |nil=>exact⟨some _,fun K=>m8 _⟩
 |cons a l=>
  simp only[List.isEmpty_cons,cond_false]
  exact dp.bif _ (dp.pure _) dp.none
theorem alH {Γ:Gl} (N:Nat):Sound Γ Tryz.prog 229 (P6 N):=kJ (hh:=age) mixed mA (es:=[]) trivial (fn:=Tryz.f229) (body:=I7) (by kernel_rfl) (by kernel_rfl) (by kernel_rfl) (by kernel_rfl) (by kernel_rfl) (Lf:=gw N) (TT N) alF trivial (N:=N) (by kernel_rfl) (alG N) (.inr (agf N))
noncomputable def Lr:List AK:=[.v (.int .u64) .k]
noncomputable def agh (N:Nat) (x:aL Lr) (kf:ab→Option ab):Option ab:=arw N x.1 (fun r0=>kf ⟨[⟨(.int .i64),.k,r0⟩],[]⟩)
noncomputable def P7 (N:Nat):=aF Lr (agh N)
theorem alI (N:Nat):cX Lr (agh N) hq [] (gw N N) Tryz.f245:=fun _ _=>by kernel_rfl
theorem alJ {Γ:Gl} (N:Nat):Sound Γ Tryz.prog 245 (P7 N):=iQ hq Tryz.f245 (alI N) trivial
noncomputable def Ls:List AK:=[.v (.int .u64) .k]
noncomputable def agi (N:Nat) (x:aL Ls) (kf:ab→Option ab):Option ab:=aiL N x.1 (fun r0=>kf ⟨[⟨(.int .i64),.k,r0⟩],[]⟩)
noncomputable def P8 (N:Nat):=aF Ls (agi N)
noncomputable def alK (N:Nat):List Entry:=[⟨245,[.val],(P7 N)⟩]
theorem alL (N:Nat):cX Ls (agi N) hq (alK N) (gw N N) Tryz.f211:=fun _ _=>by kernel_rfl
theorem alM {Γ:Gl} (N:Nat):Sound Γ Tryz.prog 211 (P8 N):=iQ hq Tryz.f211 (alL N) ⟨alJ N,trivial⟩
noncomputable def Lt:List AK:=[.v (.int .i64) .k]
noncomputable def agj (N:Nat) (x:aL Lt) (kf:ab→Option ab):Option ab:=aiM N x.1 (fun r0=>kf ⟨[⟨.bool,.k,r0⟩],[]⟩)
noncomputable def P9 (N:Nat):=aF Lt (agj N)
theorem alN (N:Nat):cX Lt (agj N) hq [] (gw N N) Tryz.f253:=fun _ _=>by kernel_rfl
theorem alO {Γ:Gl} (N:Nat):Sound Γ Tryz.prog 253 (P9 N):=iQ hq Tryz.f253 (alN N) trivial
noncomputable def Lu:List AK:=[.v (.int .i64) .k,.v (.int .i64) .k]
noncomputable def agk (N:Nat) (x:aL Lu) (kf:ab→Option ab):Option ab:=Zy N x.1 x.2.1 (fun r0=>kf ⟨[⟨(.int .i64),.k,r0⟩],[]⟩)
noncomputable def P' (N:Nat):=aF Lu (agk N)
noncomputable def alP (N:Nat):List Entry:=[⟨253,[.val],(P9 N)⟩]
theorem alQ (N:Nat):cX Lu (agk N) hq (alP N) (gw N N) Tryz.f233:=fun _ _=>by kernel_rfl
theorem alR {Γ:Gl} (N:Nat):Sound Γ Tryz.prog 233 (P' N):=iQ hq Tryz.f233 (alQ N) ⟨alO N,trivial⟩
noncomputable def wZ:List Kd:=dn 3 (.v (.int .i64) .k::dK::dK::.v (.sl (.int .i64)) .k::.v (.int .i64) .k::.v (.int .i64) .k::dn 9 ([]))
noncomputable def za:List Kd:=dn 3 (.v (.int .i64) .k::dn 14 ([]))
noncomputable def zb:List Kd:=dK::dK::.v (.int .i64) .k::dn 15 ([])
noncomputable def Uw:Hint:={ tab,hn:=[],loops:=[(3,wZ)],outs:=[(3,2,za),(3,1,zb)],b5:=[] }
noncomputable def Lv:List AK:=[.v (.sl (.int .i64)) .k]
noncomputable def agl (N:Nat) (x:aL Lv) (kf:ab→Option ab):Option ab:=aiN N x.1 (fun r0=>kf ⟨[⟨(.int .i64),.k,r0⟩],[]⟩)
noncomputable def Qa (N:Nat):=aF Lv (agl N)
noncomputable def B6:Code:=bw Tryz.f232
noncomputable def Ux (N n:Nat) (key:Nat) (S:St) (K:Ks):Option ab:=bif Nat.beq key 3 then aQ wZ S (fun x=>qW x.1 x.2.1 x.2.2.1 n (K (.x 0) (shape za (x.1,()))) (fun z0=>K .r (shape zb (z0,()))) x.2.2.2.1) else none
theorem alS (N key:Nat) (S:St) (K:Ks):Ux N 0 key S K=none:=(cH (aJ fun _=>rfl) rfl)
noncomputable def Qb:Code:=(ak B6).getD 0 .skip
theorem alT:ak B6=[Qb]:=by kernel_rfl
theorem aaW (N:Nat):hZ Uw [] (Ux N) N 3 wZ Qb:=fun _ _ _=>by kernel_rfl
theorem alU (N:Nat):cX Lv (agl N) Uw [] (Ux N N) Tryz.f232:=fun _ _=>by kernel_rfl
theorem alV {Γ:Gl} (N:Nat):Sound Γ Tryz.prog 232 (Qa N):=kh Uw Tryz.f232 B6 (alS N) alT (alU N) (rc (aaW N) trivial) trivial
noncomputable def agm:Hint:={ tab,hn:=[],loops:=[],outs:=[],b5:=[(1,(OT.seq [0,1,2,3,5,6,7,8,10,11,12,13,4,9,14,15,16,17] .done))] }
noncomputable def Lw:List AK:=[.v dC .k,.v dC .k]
noncomputable def agn (N:Nat) (x:aL Lw) (kf:ab→Option ab):Option ab:=aiO N x.1 x.2.1 (fun r0=>kf ⟨[⟨(.int .i64),.k,r0⟩],[]⟩)
noncomputable def Qc (N:Nat):=aF Lw (agn N)
noncomputable def alW (N:Nat):List Entry:=[⟨233,[.val,.val],(P' N)⟩,⟨232,[.val],(Qa N)⟩]
theorem alX (N:Nat):cX Lw (agn N) agm (alW N) (gw N N) Tryz.f231:=fun _ _=>by kernel_rfl
theorem alY {Γ:Gl} (N:Nat):Sound Γ Tryz.prog 231 (Qc N):=iQ agm Tryz.f231 (alX N) ⟨alR N,⟨alV N,trivial⟩⟩
noncomputable def w4:List Kd:=.v (.sl dC) (.o 46 (some 0) .k)::.v (.int .i64) .k::.v (.int .i64) .k::.mg 231 []::dn 4 (.v (.int .i64) .k::.v (.int .i64) .k::dn 43 ([]))
noncomputable def zd:List Kd:=.v (.sl dC) (.o 46 (some 0) .k)::.v (.int .i64) .k::.v (.int .i64) .k::.mg 231 []::dn 4 (.v (.int .i64) .k::dn 44 ([]))
noncomputable def w5:List Kd:=.v (.sl dC) (.o 46 (some 0) .k)::.v (.int .i64) .k::.v (.int .i64) .k::.mg 231 []::dn 4 (.v (.int .i64) .k::dn 44 ([]))
noncomputable def ze:List Kd:=.v (.sl dC) (.o 46 (some 0) .k)::dn 52 ([])
noncomputable def Lx:Hint:={ tab,hn:=[],loops:=[(4,w4),(1,w5)],outs:=[(4,4,zd),(1,2,ze)],b5:=[(4,(OT.seq [0,1,2,3,4,5,6,7,8,9,10,11,12,13,14,15,16] .done)),(6,(OT.seq [0,1,5,6,7,8,9,10,11,12,13,14,2,3,4,15,16,17] .done))],AR:=some (0,false) }
noncomputable def Ly:List AK:=[.v (.sl dC) (.o 46 (some 0) .k),.v (.int .i64) .k,.v (.int .i64) .k,.fn 231 []]
noncomputable def ago (N:Nat) (x:aL Ly) (kf:ab→Option ab):Option ab:=ary N x.1 x.2.1 x.2.2.1 (fun z=>kf ⟨[],[⟨(.sl dC),(.o 46 (some 0) .k),z⟩]⟩)
noncomputable def Qd (N:Nat):=aF Ly (ago N)
noncomputable def LA (N:Nat):List Entry:=[⟨231,[.val,.val],(Qc N)⟩]
noncomputable def uR:Code:=bw Tryz.f263
noncomputable def LB (N n:Nat) (key:Nat) (S:St) (K:Ks):Option ab:=bif Nat.beq key 1 then aQ w5 S (fun x=>qX N x.2.1 x.2.2.1 n (fun z0=>K (.x 0) (shape ze (z0,()))) x.1 x.2.2.2.2.1) else bif Nat.beq key 4 then aQ w4 S (fun x=>uA N x.2.1 x.2.2.1 x.2.2.2.2.1 n (fun z0=>K (.x 2) (shape zd (z0,x.2.1,x.2.2.1,(),x.2.2.2.2.1,()))) x.1 x.2.2.2.2.2.1) else none
theorem alZ (N key:Nat) (S:St) (K:Ks):LB N 0 key S K=none:=(cH (aJ fun _=>rfl) (cH (aJ fun _=>rfl) rfl))
noncomputable def Qe:Code:=(ak uR).getD 0 .skip
noncomputable def Qf:Code:=(ak uR).getD 1 .skip
theorem al0:ak uR=[Qe,Qf]:=by kernel_rfl
theorem aaX (N:Nat):hZ Lx (LA N) (LB N) N 4 w4 Qf:=fun _ _ _=>by kernel_rfl
theorem aaY (N:Nat):hZ Lx (LA N) (LB N) N 1 w5 Qe:=fun _ _ _=>by kernel_rfl
theorem al1 (N:Nat):cX Ly (ago N) Lx (LA N) (LB N N) Tryz.f263:=fun _ _=>by kernel_rfl
theorem al2 {Γ:Gl} (N:Nat):Sound Γ Tryz.prog 263 (Qd N):=kh Lx Tryz.f263 uR (alZ N) al0 (al1 N) (rc (aaY N) (rc (aaX N) trivial)) ⟨alY N,trivial⟩
noncomputable def w6:List Kd:=.v (.sl dC) (.o 46 (some 0) .k)::.v (.int .i64) .k::.v (.int .i64) .k::.v (.int .i64) .k::.mg 231 []::dn 5 (.v .bool .k::.v .bool .k::dn 136 ([]))
noncomputable def zf:List Kd:=.v (.sl dC) (.o 46 (some 0) .k)::dn 147 ([])
noncomputable def Uy:Hint:={ tab,hn:=[],loops:=[(2,w6)],outs:=[(2,1,zf)],b5:=[],AR:=some (0,false) }
noncomputable def LC:List AK:=[.v (.sl dC) (.o 46 (some 0) .k),.v (.int .i64) .k,.v (.int .i64) .k,.v (.int .i64) .k,.fn 231 []]
noncomputable def agp (N:Nat) (x:aL LC) (kf:ab→Option ab):Option ab:=aiP N x.1 x.2.1 x.2.2.1 x.2.2.2.1 (fun z=>kf ⟨[],[⟨(.sl dC),(.o 46 (some 0) .k),z⟩]⟩)
noncomputable def Qg (N:Nat):=aF LC (agp N)
noncomputable def XM (N:Nat):List Entry:=[⟨263,[.kj,.val,.val,.val],(Qd N)⟩]
noncomputable def B7:Code:=bw Tryz.f252
noncomputable def Uz (N n:Nat) (key:Nat) (S:St) (K:Ks):Option ab:=bif Nat.beq key 2 then aQ w6 S (fun x=>JT N x.1 x.2.1 x.2.2.1 x.2.2.2.1 x.2.2.2.2.2.1 x.2.2.2.2.2.2.1 n (fun z0=>K .r (shape zf (z0,())))) else none
theorem al3 (N key:Nat) (S:St) (K:Ks):Uz N 0 key S K=none:=(cH (aJ fun _=>rfl) rfl)
noncomputable def Qh:Code:=(ak B7).getD 0 .skip
theorem al4:ak B7=[Qh]:=by kernel_rfl
theorem aaZ (N:Nat):hZ Uy (XM N) (Uz N) N 2 w6 Qh:=fun _ _ _=>by kernel_rfl
theorem al5 (N:Nat):cX LC (agp N) Uy (XM N) (Uz N N) Tryz.f252:=fun _ _=>by kernel_rfl
theorem al6 {Γ:Gl} (N:Nat):Sound Γ Tryz.prog 252 (Qg N):=kh Uy Tryz.f252 B7 (al3 N) al4 (al5 N) (rc (aaZ N) trivial) ⟨al2 N,trivial⟩
noncomputable def agq:Hint:={ tab,hn:=[],loops:=[],outs:=[],b5:=[],AR:=some (0,false) }
noncomputable def LD:List AK:=[.v (.sl dC) (.o 46 (some 0) .k),.fn 231 []]
noncomputable def agr (N:Nat) (x:aL LD) (kf:ab→Option ab):Option ab:=aiQ N x.1 (fun z=>kf ⟨[],[⟨(.sl dC),(.o 46 (some 0) .k),z⟩]⟩)
noncomputable def Qi (N:Nat):=aF LD (agr N)
noncomputable def al7 (N:Nat):List Entry:=[⟨211,[.val],(P8 N)⟩,⟨252,[.kj,.val,.val,.val,.val],(Qg N)⟩]
theorem al8 (N:Nat):cX LD (agr N) agq (al7 N) (gw N N) Tryz.f230:=fun _ _=>by kernel_rfl
theorem al9 {Γ:Gl} (N:Nat):Sound Γ Tryz.prog 230 (Qi N):=iQ agq Tryz.f230 (al8 N) ⟨alM N,⟨al6 N,trivial⟩⟩
noncomputable def w7:List Kd:=dn 3 (.v (.sl (.int .i64)) (.o 3 none .k)::dn 12 (.v (.sl dC) (.o 46 none .k)::.v (.int .i64) .k::.v (.int .i64) .k::dn 10 ([])))
noncomputable def zg:List Kd:=dn 3 (.v (.sl (.int .i64)) (.o 3 none .k)::dn 25 ([]))
noncomputable def UA:Hint:={ tab,hn:=[],loops:=[(7,w7)],outs:=[(7,2,zg)],b5:=[] }
noncomputable def LF:List AK:=[.v (.sl dC) .k]
noncomputable def ags (N:Nat) (x:aL LF) (kf:ab→Option ab):Option ab:=adB N x.1 (fun r0=>kf ⟨[⟨(.sl (.int .i64)),(.o 3 none .k),r0⟩],[]⟩)
noncomputable def GW (N:Nat):=aF LF (ags N)
noncomputable def XN (N:Nat):List Entry:=[⟨143,[.val],(kV N)⟩,⟨229,[.val],(P6 N)⟩,⟨230,[.kj,.val],(Qi N)⟩]
noncomputable def B8:Code:=bw Tryz.f187
noncomputable def UB (N n:Nat) (key:Nat) (S:St) (K:Ks):Option ab:=bif Nat.beq key 7 then aQ w7 S (fun x=>qY x.2.1 x.2.2.1 n (fun z0=>K (.x 0) (shape zg (z0,()))) x.1 x.2.2.2.1) else none
theorem al' (N key:Nat) (S:St) (K:Ks):UB N 0 key S K=none:=(cH (aJ fun _=>rfl) rfl)
noncomputable def Qj:Code:=(ak B8).getD 0 .skip
theorem ama:ak B8=[Qj]:=by kernel_rfl
theorem aa0 (N:Nat):hZ UA (XN N) (UB N) N 7 w7 Qj:=fun _ _ _=>by kernel_rfl
theorem amb (N:Nat):cX LF (ags N) UA (XN N) (UB N N) Tryz.f187:=fun _ _=>by kernel_rfl
theorem XO {Γ:Gl} (N:Nat):Sound Γ Tryz.prog 187 (GW N):=kh UA Tryz.f187 B8 (al' N) ama (amb N) (rc (aa0 N) trivial) ⟨oS N,⟨alH N,⟨al9 N,trivial⟩⟩⟩
def Qk:Go.Shelf.Ren:=⟨fun n=>bif Nat.beq n 4 then 251 else n,fun n=>bif Nat.beq n 0 then 0 else bif Nat.beq n 3 then 3 else bif Nat.beq n 4 then 4 else bif Nat.beq n 9 then 9 else bif Nat.beq n 20 then 20 else bif Nat.beq n 22 then 27 else bif Nat.beq n 25 then 3 else n,fun n=>n⟩
theorem aa1:Go.Proofs.Lays8.n4 Tryz.prog Qk:={ f4:=⟨Tryz.f251.name,by kernel_rfl,by kernel_rfl⟩,mixed:=by kernel_rfl,t0:=by kernel_rfl,a0:=fun w=>by kernel_rfl,z0:=fun w=>by kernel_rfl,v0:=fun w=>by kernel_rfl,t3:=by kernel_rfl,a3:=fun w=>by kernel_rfl,z3:=fun w=>by kernel_rfl,v3:=fun w=>by kernel_rfl,t4:=by kernel_rfl,a4:=fun w=>by kernel_rfl,z4:=fun w=>by kernel_rfl,v4:=fun w=>by kernel_rfl,t9:=by kernel_rfl,a9:=fun w=>by kernel_rfl,z9:=fun w=>by kernel_rfl,v9:=fun w=>by kernel_rfl,t20:=by kernel_rfl,a20:=fun w=>by kernel_rfl,z20:=fun w=>by kernel_rfl,v20:=fun w=>by kernel_rfl,t22:=by kernel_rfl,a22:=fun w=>by kernel_rfl,z22:=fun w=>by kernel_rfl,v22:=fun w=>by kernel_rfl }
noncomputable def amc:TypeInfo:=(Tryz.prog.info? 3).get (by kernel_rfl)
noncomputable def XP:List AK:=[.v (.sl (.int .i64)) (.o 3 none .k),.v (.int .i64) .k]
noncomputable def atz (N:Nat) (x:aL XP) (kf:ab→Option ab):Option ab:=arz N x.1 x.2.1 (fun r0=>kf ⟨[⟨(.sl (.int .i64)),(.o 3 none .k),r0⟩],[]⟩)
noncomputable def Ql (N:Nat):=aF XP (atz N)
theorem amd {Γ:Gl} (N:Nat):Sound Γ Tryz.prog 251 (Ql N):=TS (ρ:=Qk) (i0:=amc) (z:=.int .i64 0) aa1 (by kernel_rfl) (by kernel_rfl) (by kernel_rfl) (by kernel_rfl) (by kernel_rfl)
noncomputable def w8:List Kd:=.v (.sl (.sl (.int .i64))) .k::dK::dK::.v (.int .i64) .k::dn 5 (.v (.sl (.sl (.int .i64))) .k::.v (.int .i64) .k::.v (.int .i64) .k::dn 24 ([]))
noncomputable def zh:List Kd:=.v (.sl (.sl (.int .i64))) .k::dK::dK::.v (.int .i64) .k::dn 32 ([])
noncomputable def ua:List Kd:=dn 6 (.v (.sl (.int .i64)) (.o 3 none .k)::dn 18 (.v (.sl (.sl (.int .i64))) .k::.v (.int .i64) .k::.v (.int .i64) .k::dn 8 ([])))
noncomputable def vJ:List Kd:=dn 6 (.v (.sl (.int .i64)) (.o 3 none .k)::dn 29 ([]))
noncomputable def LG:Hint:={ tab,hn:=[],loops:=[(3,w8),(11,ua)],outs:=[(3,2,zh),(11,4,vJ)],b5:=[] }
noncomputable def LH:List AK:=[.v (.sl (.sl (.int .i64))) .k]
noncomputable def agt (N:Nat) (x:aL LH) (kf:ab→Option ab):Option ab:=aiS N x.1 (fun r0=>kf ⟨[⟨(.sl (.int .i64)),(.o 3 none .k),r0⟩],[]⟩)
noncomputable def Qm (N:Nat):=aF LH (agt N)
noncomputable def LI (N:Nat):List Entry:=[⟨251,[.take,.val],(Ql N)⟩]
noncomputable def uS:Code:=bw Tryz.f227
noncomputable def LJ (N n:Nat) (key:Nat) (S:St) (K:Ks):Option ab:=bif Nat.beq key 3 then aQ w8 S (fun x=>qZ x.1 x.2.2.1 x.2.2.2.1 n (fun z0=>K (.x 0) (shape zh (x.1,z0,()))) x.2.1 x.2.2.2.2.1) else bif Nat.beq key 11 then aQ ua S (fun x=>l4 x.2.1 x.2.2.1 n (fun z0=>K (.x 2) (shape vJ (z0,()))) x.1 x.2.2.2.1) else none
theorem ame (N key:Nat) (S:St) (K:Ks):LJ N 0 key S K=none:=(cH (aJ fun _=>rfl) (cH (aJ fun _=>rfl) rfl))
noncomputable def Qn:Code:=(ak uS).getD 0 .skip
noncomputable def Qo:Code:=(ak uS).getD 1 .skip
theorem amf:ak uS=[Qn,Qo]:=by kernel_rfl
theorem UC (N:Nat):hZ LG (LI N) (LJ N) N 11 ua Qo:=fun _ _ _=>by kernel_rfl
theorem aa2 (N:Nat):hZ LG (LI N) (LJ N) N 3 w8 Qn:=fun _ _ _=>by kernel_rfl
theorem amg (N:Nat):cX LH (agt N) LG (LI N) (LJ N N) Tryz.f227:=fun _ _=>by kernel_rfl
theorem amh {Γ:Gl} (N:Nat):Sound Γ Tryz.prog 227 (Qm N):=kh LG Tryz.f227 uS (ame N) amf (amg N) (rc (aa2 N) (rc (UC N) trivial)) ⟨amd N,trivial⟩
noncomputable def agu:Hint:={ tab,hn:=[],loops:=[],outs:=[],b5:=[(4,(OT.seq [0,1,2,3,4,5,6,7,8,9,10,11] .done))] }
noncomputable def LK:List AK:=[.v (.sl dC) .k,.v (.int .i64) .k,.v (.int .i64) .k]
noncomputable def agv (N:Nat) (x:aL LK) (kf:ab→Option ab):Option ab:=aiT N x.1 x.2.1 x.2.2.1 (fun r0=>kf ⟨[⟨dQ,.k,r0⟩],[]⟩)
noncomputable def Qp (N:Nat):=aF LK (agv N)
noncomputable def ami (N:Nat):List Entry:=[⟨40,[.val,.val],(lQ N)⟩,⟨143,[.val],(kV N)⟩,⟨187,[.val],(GW N)⟩,⟨170,[.val,.val],(GM N)⟩]
theorem amj (N:Nat):cX LK (agv N) agu (ami N) (gw N N) Tryz.f228:=fun _ _=>by kernel_rfl
theorem amk {Γ:Gl} (N:Nat):Sound Γ Tryz.prog 228 (Qp N):=iQ agu Tryz.f228 (amj N) ⟨rT N,⟨oS N,⟨XO N,⟨Xq N,trivial⟩⟩⟩⟩
noncomputable def w9:List Kd:=.v (.sl dC) .k::.v (.sl (.int .i64)) .k::dn 4 (.v (.int .i64) .k::dn 50 ([]))
noncomputable def zi:List Kd:=dn 57 ([])
noncomputable def zj:List Kd:=dn 4 (.v (.sl dQ) (.o 104 none .k)::.v .bool .k::dn 51 ([]))
noncomputable def UD:Hint:={ tab,hn:=[],loops:=[(4,w9)],outs:=[(4,2,zi),(4,1,zj)],b5:=[(6,(OT.seq [0,1,2,3,4,5,6,7,8,9] .done)),(7,(OT.seq [0,1,2,3,4,5,6,7,8,9,10,11,12,13,14,15] .done)),(9,(OT.seq [0,1,2,3,4,5,6,7,10,8,9,11,12,13] .done))] }
noncomputable def El:List AK:=[.v (.sl dC) .k,.v (.sl (.int .i64)) .k]
noncomputable def agw (N:Nat) (x:aL El) (kf:ab→Option ab):Option ab:=SZ N x.1 x.2.1 (fun r0 r1=>kf ⟨[⟨(.sl dQ),(.o 104 none .k),r0⟩,⟨.bool,.k,r1⟩],[]⟩)
noncomputable def zk (N:Nat):=aF El (agw N)
noncomputable def LL (N:Nat):List Entry:=[⟨77,[.val,.val,.val],(Ld N)⟩,⟨227,[.val],(Qm N)⟩,⟨228,[.val,.val,.val],(Qp N)⟩,⟨186,[.val,.val],(zk N)⟩]
noncomputable def B9:Code:=bw Tryz.f186
noncomputable def LM (N n:Nat) (key:Nat) (S:St) (K:Ks):Option ab:=bif Nat.beq key 4 then aQ w9 S (fun x=>q7 N (SZ N) x.1 x.2.1 n (K (.x 0) (shape zi ())) (fun z0 z1=>K .r (shape zj (z0,z1,()))) x.2.2.1) else none
theorem aml (N key:Nat) (S:St) (K:Ks):LM N 0 key S K=none:=(cH (aJ fun _=>rfl) rfl)
noncomputable def Qq:Code:=(ak B9).getD 0 .skip
theorem amm:ak B9=[Qq]:=by kernel_rfl
theorem aa3 (N:Nat):hZ UD (LL N) (LM N) N 4 w9 Qq:=fun _ _ _=>by kernel_rfl
theorem amn (N:Nat) (x:aL El) (kf:ab→Option ab):agw (N+1) x kf=ko UD (jS.of (LL N)) (LM N N) Tryz.f186 (eB El x) kf:=by kernel_rfl
theorem XQ {Γ:Gl}:∀ N:Nat,Sound Γ Tryz.prog 186 (zk N)
 |0=>qG fun al kf=>by
  unfold zk aF
  split<;>rfl
 |N+1=>kJ (hh:=UD) mixed mA (es:=LL N) ⟨afG N,⟨amh N,⟨amk N,⟨XQ N,trivial⟩⟩⟩⟩ (fn:=Tryz.f186) (body:=B9) (by kernel_rfl) (by kernel_rfl) (by kernel_rfl) (by kernel_rfl) (by kernel_rfl) (Lf:=LM N) (aml N) amm (rc (aa3 N) trivial) (N:=N) (by kernel_rfl) (amn N) (.inl (by kernel_rfl))
noncomputable def LN:List AK:=[.v (.sl dC) .k]
noncomputable def agx (N:Nat) (x:aL LN) (kf:ab→Option ab):Option ab:=aiU N x.1 (fun r0 r1=>kf ⟨[⟨(.sl dQ),(.o 104 none .k),r0⟩,⟨.bool,.k,r1⟩],[]⟩)
noncomputable def Qr (N:Nat):=aF LN (agx N)
noncomputable def amo (N:Nat):List Entry:=[⟨143,[.val],(kV N)⟩,⟨187,[.val],(GW N)⟩,⟨186,[.val,.val],(zk N)⟩]
theorem amp (N:Nat):cX LN (agx N) hq (amo N) (gw N N) Tryz.f101:=fun _ _=>by kernel_rfl
theorem amq {Γ:Gl} (N:Nat):Sound Γ Tryz.prog 101 (Qr N):=iQ hq Tryz.f101 (amp N) ⟨oS N,⟨XO N,⟨XQ N,trivial⟩⟩⟩
noncomputable def xa:List Kd:=.v (.sl dC) .k::.v (.sl jL) .k::.v (.sl dQ) .k::.v (.sl (.int .i64)) .k::dn 14 (.v (.sl jL) .k::.v (.int .i64) .k::.v (.int .i64) .k::dn 38 ([]))
noncomputable def zm:List Kd:=dn 59 ([])
noncomputable def zn:List Kd:=dn 8 (.v (.sl (.int .i64)) (.o 3 none .k)::.v .bool .k::dn 49 ([]))
noncomputable def UE:Hint:={ tab,hn:=[],loops:=[(4,xa)],outs:=[(4,2,zm),(4,1,zn)],b5:=[(6,(OT.seq [0,1,2,3,4,5,6,7,8,9,10,11,12] .done)),(7,(OT.seq [4,6,7,0,1,2,3] (.any [5,8] (OT.seq [9,10,11,12,13,14,15] .done))))] }
noncomputable def Em:List AK:=[.v (.sl dC) .k,.v (.sl jL) .k,.v (.sl dQ) .k,.v (.sl (.int .i64)) .k]
noncomputable def agy (N:Nat) (x:aL Em) (kf:ab→Option ab):Option ab:=S4 N x.1 x.2.1 x.2.2.1 x.2.2.2.1 (fun r0 r1=>kf ⟨[⟨(.sl (.int .i64)),(.o 3 none .k),r0⟩,⟨.bool,.k,r1⟩],[]⟩)
noncomputable def zo (N:Nat):=aF Em (agy N)
noncomputable def LO (N:Nat):List Entry:=[⟨82,[.val,.val],(y2 N)⟩,⟨83,[.val,.val,.val],(Le N)⟩,⟨166,[.val],(tY N)⟩,⟨188,[.val,.val,.val,.val],(zo N)⟩]
noncomputable def B':Code:=bw Tryz.f188
noncomputable def LP (N n:Nat) (key:Nat) (S:St) (K:Ks):Option ab:=bif Nat.beq key 4 then aQ xa S (fun x=>og N (S4 N) x.1 x.2.1 x.2.2.1 x.2.2.2.1 x.2.2.2.2.1 x.2.2.2.2.2.1 n (K (.x 0) (shape zm ())) (fun z0 z1=>K .r (shape zn (z0,z1,()))) x.2.2.2.2.2.2.1) else none
theorem amr (N key:Nat) (S:St) (K:Ks):LP N 0 key S K=none:=(cH (aJ fun _=>rfl) rfl)
noncomputable def Qs:Code:=(ak B').getD 0 .skip
theorem ams:ak B'=[Qs]:=by kernel_rfl
theorem aa4 (N:Nat):hZ UE (LO N) (LP N) N 4 xa Qs:=fun _ _ _=>by kernel_rfl
theorem amt (N:Nat) (x:aL Em) (kf:ab→Option ab):agy (N+1) x kf=ko UE (jS.of (LO N)) (LP N N) Tryz.f188 (eB Em x) kf:=by kernel_rfl
theorem XR {Γ:Gl}:∀ N:Nat,Sound Γ Tryz.prog 188 (zo N)
 |0=>qG fun al kf=>by
  unfold zo aF
  split<;>rfl
 |N+1=>kJ (hh:=UE) mixed mA (es:=LO N) ⟨Lc N,⟨afQ N,⟨Eb N,⟨XR N,trivial⟩⟩⟩⟩ (fn:=Tryz.f188) (body:=B') (by kernel_rfl) (by kernel_rfl) (by kernel_rfl) (by kernel_rfl) (by kernel_rfl) (Lf:=LP N) (amr N) ams (rc (aa4 N) trivial) (N:=N) (by kernel_rfl) (amt N) (.inl (by kernel_rfl))
noncomputable def LQ:List AK:=[.v (.sl dC) .k,.v (.sl jL) .k,.v (.sl dQ) .k]
noncomputable def agz (N:Nat) (x:aL LQ) (kf:ab→Option ab):Option ab:=aiV N x.1 x.2.1 x.2.2.1 (fun r0 r1=>kf ⟨[⟨(.sl (.int .i64)),(.o 3 none .k),r0⟩,⟨.bool,.k,r1⟩],[]⟩)
noncomputable def Qt (N:Nat):=aF LQ (agz N)
noncomputable def amu (N:Nat):List Entry:=[⟨79,[.val],(Ei N)⟩,⟨143,[.val],(kV N)⟩,⟨188,[.val,.val,.val,.val],(zo N)⟩]
theorem amv (N:Nat):cX LQ (agz N) hq (amu N) (gw N N) Tryz.f102:=fun _ _=>by kernel_rfl
theorem amw {Γ:Gl} (N:Nat):Sound Γ Tryz.prog 102 (Qt N):=iQ hq Tryz.f102 (amv N) ⟨Ug N,⟨oS N,⟨XR N,trivial⟩⟩⟩
noncomputable def aqe:Hint:={ tab,hn:=[],loops:=[],outs:=[],b5:=[(8,(OT.seq [0,5,1,2,3] (.par [4,6,7,8] [[50,51]] (OT.seq [9,10] .done))))] }
noncomputable def LR:List AK:=[.v bU .k]
noncomputable def aqf (N:Nat) (x:aL LR) (kf:ab→Option ab):Option ab:=I23 N x.1 (fun r0 r1=>kf ⟨[⟨bU,(.p (.o 46 none (.p .k (.p .k (.p .k (.p .k (.p .k (.o 3 none .k))))))) (.p (.o 80 none (.p .k (.p .k (.o 3 none .k)))) (.p (.o 104 none .k) (.p (.o 3 none .k) (.p (.o 136 none .k) (.p (.o 102 none .k) .k)))))),r0⟩,⟨.bool,.k,r1⟩],[]⟩)
noncomputable def XS (N:Nat):=aF LR (aqf N)
noncomputable def atA (N:Nat):List Entry:=[⟨70,[.val],(oQ N)⟩,⟨39,[.val],(uP N)⟩,⟨16,[.val],(rU N)⟩,⟨101,[.val],(Qr N)⟩,⟨102,[.val,.val,.val],(Qt N)⟩,⟨103,[.val,.take,.val,.val],(nR N)⟩]
theorem atB (N:Nat):cX LR (aqf N) aqe (atA N) (gw N N) Tryz.f23:=fun _ _=>by kernel_rfl
theorem atC {Γ:Gl} (N:Nat):Sound Γ Tryz.prog 23 (XS N):=iQ aqe Tryz.f23 (atB N) ⟨wR N,⟨GR N,⟨BP N,⟨amq N,⟨amw N,⟨uQ N,trivial⟩⟩⟩⟩⟩⟩
noncomputable def LS:List AK:=[.v bU .k,.v (.int .i64) .k,.v (.int .i64) .k,.v (.int .i64) .k]
noncomputable def aqg (N:Nat) (x:aL LS) (kf:ab→Option ab):Option ab:=I35 N x.1 x.2.1 x.2.2.1 x.2.2.2.1 (fun r0 r1=>kf ⟨[⟨bU,(.p (.o 46 none (.p .k (.p .k (.p .k (.p .k (.p .k (.o 3 none .k))))))) (.p (.o 80 none (.p .k (.p .k (.o 3 none .k)))) (.p (.o 104 none .k) (.p (.o 3 none .k) (.p (.o 136 none .k) (.p (.o 102 none .k) .k)))))),r0⟩,⟨.bool,.k,r1⟩],[]⟩)
noncomputable def XT (N:Nat):=aF LS (aqg N)
noncomputable def atD (N:Nat):List Entry:=[⟨70,[.val],(oQ N)⟩,⟨39,[.val],(uP N)⟩,⟨138,[.val],(y6 N)⟩,⟨103,[.val,.take,.val,.val],(nR N)⟩]
theorem atE (N:Nat):cX LS (aqg N) hq (atD N) (gw N N) Tryz.f35:=fun _ _=>by kernel_rfl
theorem atF {Γ:Gl} (N:Nat):Sound Γ Tryz.prog 35 (XT N):=iQ hq Tryz.f35 (atE N) ⟨wR N,⟨GR N,⟨Lh N,⟨uQ N,trivial⟩⟩⟩⟩
noncomputable def Ca:List Kd:=dn 3 (.v (.sl (.int .i64)) (.o 3 none .k)::dn 4 (.v (.sl sD) .k::.v (.int .i64) .k::.v (.int .i64) .k::dn 13 ([])))
noncomputable def Dy:List Kd:=dn 3 (.v (.sl (.int .i64)) (.o 3 none .k)::dn 20 ([]))
noncomputable def agA:Hint:={ tab,hn:=[],loops:=[(3,Ca)],outs:=[(3,2,Dy)],b5:=[] }
noncomputable def LU:List AK:=[.v bU .k]
noncomputable def aqh (N:Nat) (x:aL LU) (kf:ab→Option ab):Option ab:=I41 N x.1 (fun r0=>kf ⟨[⟨(.sl (.int .i64)),(.o 3 none .k),r0⟩],[]⟩)
noncomputable def LV (N:Nat):=aF LU (aqh N)
noncomputable def GX:Code:=bw Tryz.f41
noncomputable def agB (N n:Nat) (key:Nat) (S:St) (K:Ks):Option ab:=bif Nat.beq key 3 then aQ Ca S (fun x=>tE x.2.1 x.2.2.1 n (fun z0=>K (.x 0) (shape Dy (z0,()))) x.1 x.2.2.2.1) else none
theorem atG (N key:Nat) (S:St) (K:Ks):agB N 0 key S K=none:=(cH (aJ fun _=>rfl) rfl)
noncomputable def XU:Code:=(ak GX).getD 0 .skip
theorem atH:ak GX=[XU]:=by kernel_rfl
theorem agC (N:Nat):hZ agA [] (agB N) N 3 Ca XU:=fun _ _ _=>by kernel_rfl
theorem atI (N:Nat):cX LU (aqh N) agA [] (agB N N) Tryz.f41:=fun _ _=>by kernel_rfl
theorem agD {Γ:Gl} (N:Nat):Sound Γ Tryz.prog 41 (LV N):=kh agA Tryz.f41 GX (atG N) atH (atI N) (rc (agC N) trivial) trivial
noncomputable def xb:List Kd:=.v (.sl sD) .k::dn 7 (.v (.sl sD) .k::.v (.int .i64) .k::.v (.int .i64) .k::dn 23 ([]))
noncomputable def zp:List Kd:=dn 34 ([])
noncomputable def zq:List Kd:=dK::dK::.v .bool .k::dn 31 ([])
noncomputable def UF:Hint:={ tab,hn:=[],loops:=[(4,xb)],outs:=[(4,2,zp),(4,1,zq)],b5:=[(6,(OT.seq [0,1,2,3,4,5,6,7,8,9,10,11,12,13,14,15,16,17] .done))] }
noncomputable def LW:List AK:=[.v (.sl sD) .k]
noncomputable def agE (N:Nat) (x:aL LW) (kf:ab→Option ab):Option ab:=ZA N x.1 (fun r0=>kf ⟨[⟨.bool,.k,r0⟩],[]⟩)
noncomputable def zr (N:Nat):=aF LW (agE N)
noncomputable def XV (N:Nat):List Entry:=[⟨138,[.val],(y6 N)⟩]
noncomputable def Cb:Code:=bw Tryz.f205
noncomputable def UG (N n:Nat) (key:Nat) (S:St) (K:Ks):Option ab:=bif Nat.beq key 4 then aQ xb S (fun x=>om N x.1 x.2.1 x.2.2.1 n (K (.x 0) (shape zp ())) (fun z0=>K .r (shape zq (z0,()))) x.2.2.2.1) else none
theorem amx (N key:Nat) (S:St) (K:Ks):UG N 0 key S K=none:=(cH (aJ fun _=>rfl) rfl)
noncomputable def Qu:Code:=(ak Cb).getD 0 .skip
theorem amy:ak Cb=[Qu]:=by kernel_rfl
theorem aa5 (N:Nat):hZ UF (XV N) (UG N) N 4 xb Qu:=fun _ _ _=>by kernel_rfl
theorem amz (N:Nat):cX LW (agE N) UF (XV N) (UG N N) Tryz.f205:=fun _ _=>by kernel_rfl
theorem LX {Γ:Gl} (N:Nat):Sound Γ Tryz.prog 205 (zr N):=kh UF Tryz.f205 Cb (amx N) amy (amz N) (rc (aa5 N) trivial) ⟨Lh N,trivial⟩
noncomputable def LY:List AK:=[.v sD .k]
noncomputable def agF (N:Nat) (x:aL LY) (kf:ab→Option ab):Option ab:=ZB N x.1 (fun r0=>kf ⟨[⟨(.int .i64),.k,r0⟩],[]⟩)
noncomputable def GY (N:Nat):=aF LY (agF N)
theorem amA (N:Nat):cX LY (agF N) hq [] (gw N N) Tryz.f208:=fun _ _=>by kernel_rfl
theorem XW {Γ:Gl} (N:Nat):Sound Γ Tryz.prog 208 (GY N):=iQ hq Tryz.f208 (amA N) trivial
noncomputable def xc:List Kd:=dK::.v (.int .i64) .k::dn 3 (.v (.int .i64) .k::dn 6 (.v (.sl sD) .k::.v (.int .i64) .k::.v (.int .i64) .k::dn 11 ([])))
noncomputable def zt:List Kd:=dn 5 (.v (.int .i64) .k::dn 20 ([]))
noncomputable def UH:Hint:={ tab,hn:=[],loops:=[(5,xc)],outs:=[(5,2,zt)],b5:=[] }
noncomputable def LZ:List AK:=[.v (.sl sD) .k,.v (.int .i64) .k]
noncomputable def agG (N:Nat) (x:aL LZ) (kf:ab→Option ab):Option ab:=adH N x.1 x.2.1 (fun r0=>kf ⟨[⟨(.int .i64),.k,r0⟩],[]⟩)
noncomputable def Qv (N:Nat):=aF LZ (agG N)
noncomputable def XX (N:Nat):List Entry:=[⟨205,[.val],(zr N)⟩,⟨208,[.val],(GY N)⟩]
noncomputable def Cc:Code:=bw Tryz.f206
noncomputable def UI (N n:Nat) (key:Nat) (S:St) (K:Ks):Option ab:=bif Nat.beq key 5 then aQ xc S (fun x=>oo N x.1 x.2.2.1 x.2.2.2.1 n (fun z0=>K (.x 0) (shape zt (z0,()))) x.2.1 x.2.2.2.2.1) else none
theorem amB (N key:Nat) (S:St) (K:Ks):UI N 0 key S K=none:=(cH (aJ fun _=>rfl) rfl)
noncomputable def Qw:Code:=(ak Cc).getD 0 .skip
theorem amC:ak Cc=[Qw]:=by kernel_rfl
theorem aa6 (N:Nat):hZ UH (XX N) (UI N) N 5 xc Qw:=fun _ _ _=>by kernel_rfl
theorem amD (N:Nat):cX LZ (agG N) UH (XX N) (UI N N) Tryz.f206:=fun _ _=>by kernel_rfl
theorem amE {Γ:Gl} (N:Nat):Sound Γ Tryz.prog 206 (Qv N):=kh UH Tryz.f206 Cc (amB N) amC (amD N) (rc (aa6 N) trivial) ⟨LX N,⟨XW N,trivial⟩⟩
noncomputable def xd:List Kd:=dK::.v (.int .i64) .k::dn 3 (.v (.int .i64) .k::dn 6 (.v (.sl sD) .k::.v (.int .i64) .k::.v (.int .i64) .k::dn 18 ([])))
noncomputable def zu:List Kd:=dn 5 (.v (.int .i64) .k::dn 27 ([]))
noncomputable def UJ:Hint:={ tab,hn:=[],loops:=[(5,xd)],outs:=[(5,2,zu)],b5:=[] }
noncomputable def L0:List AK:=[.v (.sl sD) .k,.v (.int .i64) .k]
noncomputable def agH (N:Nat) (x:aL L0) (kf:ab→Option ab):Option ab:=S5 N x.1 x.2.1 (fun r0=>kf ⟨[⟨(.int .i64),.k,r0⟩],[]⟩)
noncomputable def Qx (N:Nat):=aF L0 (agH N)
noncomputable def XY (N:Nat):List Entry:=[⟨205,[.val],(zr N)⟩]
noncomputable def Cd:Code:=bw Tryz.f207
noncomputable def UK (N n:Nat) (key:Nat) (S:St) (K:Ks):Option ab:=bif Nat.beq key 5 then aQ xd S (fun x=>mO x.1 x.2.2.1 x.2.2.2.1 n (fun z0=>K (.x 0) (shape zu (z0,()))) x.2.1 x.2.2.2.2.1) else none
theorem amF (N key:Nat) (S:St) (K:Ks):UK N 0 key S K=none:=(cH (aJ fun _=>rfl) rfl)
noncomputable def Qy:Code:=(ak Cd).getD 0 .skip
theorem amG:ak Cd=[Qy]:=by kernel_rfl
theorem aa7 (N:Nat):hZ UJ (XY N) (UK N) N 5 xd Qy:=fun _ _ _=>by kernel_rfl
theorem amH (N:Nat):cX L0 (agH N) UJ (XY N) (UK N N) Tryz.f207:=fun _ _=>by kernel_rfl
theorem amI {Γ:Gl} (N:Nat):Sound Γ Tryz.prog 207 (Qx N):=kh UJ Tryz.f207 Cd (amF N) amG (amH N) (rc (aa7 N) trivial) ⟨LX N,trivial⟩
noncomputable def L1:List AK:=[.v (.sl sD) .k]
noncomputable def agI (N:Nat) (x:aL L1) (kf:ab→Option ab):Option ab:=ZC N x.1 (fun r0=>kf ⟨[⟨(.int .i64),.k,r0⟩],[]⟩)
noncomputable def Qz (N:Nat):=aF L1 (agI N)
noncomputable def amJ (N:Nat):List Entry:=[⟨205,[.val],(zr N)⟩,⟨206,[.val,.val],(Qv N)⟩,⟨207,[.val,.val],(Qx N)⟩,⟨208,[.val],(GY N)⟩]
theorem amK (N:Nat):cX L1 (agI N) hq (amJ N) (gw N N) Tryz.f129:=fun _ _=>by kernel_rfl
theorem amL {Γ:Gl} (N:Nat):Sound Γ Tryz.prog 129 (Qz N):=iQ hq Tryz.f129 (amK N) ⟨LX N,⟨amE N,⟨amI N,⟨XW N,trivial⟩⟩⟩⟩
noncomputable def agJ:Hint:={ tab,hn:=[],loops:=[],outs:=[],b5:=[(5,(OT.seq [4,5,6,7,8] (.own 65 (OT.seq [9,0,1,2,3,12,13,14,15,17] (.par [10,11,16,18] [[74,75],[65,66,67,68]] (.own 73 (OT.seq [19,20,21,22,23,24,25] .done)))))))] }
noncomputable def L2:List AK:=[.v (.sl dC) .k,.v (.int .i64) .k,.v (.int .i64) .k,.v (.int .i64) .k,.v (.int .i64) .k,.v (.int .i64) .k]
noncomputable def agK (N:Nat) (x:aL L2) (kf:ab→Option ab):Option ab:=ZD N x.1 x.2.1 x.2.2.1 x.2.2.2.1 x.2.2.2.2.1 x.2.2.2.2.2.1 (fun r0 r1=>kf ⟨[⟨(.sl dC),(.o 46 none (.p .k (.p .k (.p .k (.p .k (.p .k (.o 3 none .k))))))),r0⟩,⟨.bool,.k,r1⟩],[]⟩)
noncomputable def QA (N:Nat):=aF L2 (agK N)
noncomputable def amM (N:Nat):List Entry:=[⟨163,[.val],(GH N)⟩,⟨40,[.val,.val],(lQ N)⟩,⟨143,[.val],(kV N)⟩,⟨144,[.val,.val,.val],(mf N)⟩]
theorem amN (N:Nat):cX L2 (agK N) agJ (amM N) (gw N N) Tryz.f128:=fun _ _=>by kernel_rfl
theorem amO {Γ:Gl} (N:Nat):Sound Γ Tryz.prog 128 (QA N):=iQ agJ Tryz.f128 (amN N) ⟨Xd N,⟨rT N,⟨oS N,⟨rV N,trivial⟩⟩⟩⟩
def agL:Go.Shelf.Ren:=⟨fun n=>bif Nat.beq n 125 then 211 else bif Nat.beq n 128 then 244 else bif Nat.beq n 129 then 245 else bif Nat.beq n 189 then 131 else bif Nat.beq n 215 then 253 else bif Nat.beq n 216 then 241 else bif Nat.beq n 257 then 210 else bif Nat.beq n 294 then 235 else bif Nat.beq n 295 then 236 else bif Nat.beq n 296 then 237 else bif Nat.beq n 297 then 238 else bif Nat.beq n 298 then 239 else bif Nat.beq n 299 then 240 else bif Nat.beq n 300 then 242 else bif Nat.beq n 301 then 243 else bif Nat.beq n 328 then 254 else bif Nat.beq n 329 then 255 else bif Nat.beq n 330 then 256 else bif Nat.beq n 331 then 257 else bif Nat.beq n 332 then 258 else bif Nat.beq n 343 then 271 else n,fun n=>bif Nat.beq n 0 then 0 else bif Nat.beq n 3 then 3 else bif Nat.beq n 4 then 4 else bif Nat.beq n 5 then 5 else bif Nat.beq n 9 then 9 else bif Nat.beq n 28 then 27 else bif Nat.beq n 46 then 194 else bif Nat.beq n 51 then 216 else bif Nat.beq n 53 then 218 else bif Nat.beq n 131 then 213 else bif Nat.beq n 182 then 207 else bif Nat.beq n 183 then 208 else bif Nat.beq n 218 then 222 else bif Nat.beq n 222 then 226 else bif Nat.beq n 228 then 235 else bif Nat.beq n 229 then 236 else n,fun n=>n⟩
theorem aa8:Lays.n189 Tryz.prog agL:={ mixed:=by kernel_rfl,f125:=by kernel_rfl,f128:=by kernel_rfl,f129:=by kernel_rfl,f189:=by kernel_rfl,f215:=by kernel_rfl,f216:=by kernel_rfl,f257:=by kernel_rfl,f294:=by kernel_rfl,f295:=by kernel_rfl,f296:=by kernel_rfl,f297:=by kernel_rfl,f298:=by kernel_rfl,f299:=by kernel_rfl,f300:=by kernel_rfl,f301:=by kernel_rfl,f328:=by kernel_rfl,f329:=by kernel_rfl,f330:=by kernel_rfl,f331:=by kernel_rfl,f332:=by kernel_rfl,f343:=by kernel_rfl,t0:=by kernel_rfl,a0:=fun w=>by kernel_rfl,z0:=fun w=>by kernel_rfl,v0:=fun w=>by kernel_rfl,t3:=by kernel_rfl,a3:=fun w=>by kernel_rfl,z3:=fun w=>by kernel_rfl,v3:=fun w=>by kernel_rfl,t4:=by kernel_rfl,a4:=fun w=>by kernel_rfl,z4:=fun w=>by kernel_rfl,v4:=fun w=>by kernel_rfl,t5:=by kernel_rfl,a5:=fun w=>by kernel_rfl,z5:=fun w=>by kernel_rfl,v5:=fun w=>by kernel_rfl,t9:=by kernel_rfl,a9:=fun w=>by kernel_rfl,z9:=fun w=>by kernel_rfl,v9:=fun w=>by kernel_rfl,t28:=by kernel_rfl,a28:=fun w=>by kernel_rfl,z28:=fun w=>by kernel_rfl,v28:=fun w=>by kernel_rfl,t46:=by kernel_rfl,a46:=fun w=>by kernel_rfl,z46:=fun w=>by kernel_rfl,v46:=fun w=>by kernel_rfl,t51:=by kernel_rfl,a51:=fun w=>by kernel_rfl,z51:=fun w=>by kernel_rfl,v51:=fun w=>by kernel_rfl,t53:=by kernel_rfl,a53:=fun w=>by kernel_rfl,z53:=fun w=>by kernel_rfl,v53:=fun w=>by kernel_rfl,t131:=by kernel_rfl,a131:=fun w=>by kernel_rfl,z131:=fun w=>by kernel_rfl,v131:=fun w=>by kernel_rfl,t182:=by kernel_rfl,a182:=fun w=>by kernel_rfl,z182:=fun w=>by kernel_rfl,v182:=fun w=>by kernel_rfl,t183:=by kernel_rfl,a183:=fun w=>by kernel_rfl,z183:=fun w=>by kernel_rfl,v183:=fun w=>by kernel_rfl,t218:=by kernel_rfl,a218:=fun w=>by kernel_rfl,z218:=fun w=>by kernel_rfl,v218:=fun w=>by kernel_rfl,t222:=by kernel_rfl,a222:=fun w=>by kernel_rfl,z222:=fun w=>by kernel_rfl,v222:=fun w=>by kernel_rfl,t228:=by kernel_rfl,a228:=fun w=>by kernel_rfl,z228:=fun w=>by kernel_rfl,v228:=fun w=>by kernel_rfl,t229:=by kernel_rfl,a229:=fun w=>by kernel_rfl,z229:=fun w=>by kernel_rfl,v229:=fun w=>by kernel_rfl }
noncomputable def XZ:List AK:=[.v (.sl (.int .i64)) (.o 3 (some 0) .k)]
noncomputable def atJ (N:Nat) (x:aL XZ) (kf:ab→Option ab):Option ab:=ZE N x.1 (fun z=>kf ⟨[],[⟨(.sl (.int .i64)),(.o 3 (some 0) .k),z⟩]⟩)
noncomputable def QD (N:Nat):=aF XZ (atJ N)
theorem amP {Γ:Gl} (N:Nat):Sound Γ Tryz.prog 131 (QD N):=TK aa8 3
def agM:Go.Shelf.Ren:=⟨fun n=>bif Nat.beq n 20 then 132 else n,fun n=>bif Nat.beq n 0 then 0 else bif Nat.beq n 3 then 3 else bif Nat.beq n 4 then 4 else bif Nat.beq n 22 then 27 else n,fun n=>n⟩
theorem aa9:Lays2.n20 Tryz.prog agM:={ mixed:=by kernel_rfl,f20:=by kernel_rfl,t0:=by kernel_rfl,a0:=fun w=>by kernel_rfl,z0:=fun w=>by kernel_rfl,v0:=fun w=>by kernel_rfl,t3:=by kernel_rfl,a3:=fun w=>by kernel_rfl,z3:=fun w=>by kernel_rfl,v3:=fun w=>by kernel_rfl,t4:=by kernel_rfl,a4:=fun w=>by kernel_rfl,z4:=fun w=>by kernel_rfl,v4:=fun w=>by kernel_rfl,t22:=by kernel_rfl,a22:=fun w=>by kernel_rfl,z22:=fun w=>by kernel_rfl,v22:=fun w=>by kernel_rfl,i3:=by kernel_rfl }
noncomputable def X0:List AK:=[.v (.sl (.int .i64)) (.o 3 none .k)]
noncomputable def atK (N:Nat) (x:aL X0) (kf:ab→Option ab):Option ab:=adM N x.1 (fun r0=>kf ⟨[⟨(.sl (.int .i64)),(.o 3 none .k),r0⟩],[]⟩)
noncomputable def QE (N:Nat):=aF X0 (atK N)
theorem amQ {Γ:Gl} (N:Nat):Sound Γ Tryz.prog 132 (QE N):=HT aa9 3
noncomputable def Ce:List Kd:=dK::.v (.ptr bU) (.o 31 none .k)::.v (.ptr bU) (.o 31 none (.p (.o 46 none (.p .k (.p .k (.p .k (.p .k (.p .k (.o 3 none .k))))))) (.p (.o 80 none (.p .k (.p .k (.o 3 none .k)))) (.p (.o 104 none .k) (.p (.o 3 none .k) (.p (.o 136 none .k) (.p (.o 102 none .k) .k)))))))::dK::.v (.ptr bU) (.o 31 none (.p (.o 46 none (.p .k (.p .k (.p .k (.p .k (.p .k (.o 3 none .k))))))) (.p (.o 80 none (.p .k (.p .k (.o 3 none .k)))) (.p (.o 104 none .k) (.p (.o 3 none .k) (.p (.o 136 none .k) (.p (.o 102 none .k) .k)))))))::dn 25 (.v (.sl dQ) .k::.v (.int .i64) .k::.v (.int .i64) .k::dn 76 ([]))
noncomputable def Dz:List Kd:=dK::.v (.ptr bU) (.o 31 none .k)::.v (.ptr bU) (.o 31 none (.p (.o 46 none (.p .k (.p .k (.p .k (.p .k (.p .k (.o 3 none .k))))))) (.p (.o 80 none (.p .k (.p .k (.o 3 none .k)))) (.p (.o 104 none .k) (.p (.o 3 none .k) (.p (.o 136 none .k) (.p (.o 102 none .k) .k)))))))::dK::.v (.ptr bU) (.o 31 none (.p (.o 46 none (.p .k (.p .k (.p .k (.p .k (.p .k (.o 3 none .k))))))) (.p (.o 80 none (.p .k (.p .k (.o 3 none .k)))) (.p (.o 104 none .k) (.p (.o 3 none .k) (.p (.o 136 none .k) (.p (.o 102 none .k) .k)))))))::dn 104 ([])
noncomputable def DA:List Kd:=dK::dK::.v (.ptr bU) (.o 31 none (.p (.o 46 none (.p .k (.p .k (.p .k (.p .k (.p .k (.o 3 none .k))))))) (.p (.o 80 none (.p .k (.p .k (.o 3 none .k)))) (.p (.o 104 none .k) (.p (.o 3 none .k) (.p (.o 136 none .k) (.p (.o 102 none .k) .k)))))))::.v .bool .k::dn 105 ([])
noncomputable def agN:Hint:={ tab,hn:=[],loops:=[(5,Ce)],outs:=[(5,2,Dz),(5,1,DA)],b5:=[(8,(OT.seq [0,1,2,3,4,5,6,9,10,11,12,7,8,13,14,15,17,16,18,19] .done)),(11,(OT.seq [0,1,2,3,4,5,6,7,8] .done)),(12,(OT.seq [0,1,2,3,4,5,6,7,8,9,10,11,12] .done)),(14,(OT.seq [3,0,2] (.par [1,4] [[4,86,87]] (OT.seq [5,6,7] .done))))] }
noncomputable def L3:List AK:=[.v bU .k]
noncomputable def aqi (N:Nat) (x:aL L3) (kf:ab→Option ab):Option ab:=I28 N x.1 (fun r0 r1=>kf ⟨[⟨bU,(.p (.o 46 none (.p .k (.p .k (.p .k (.p .k (.p .k (.o 3 none .k))))))) (.p (.o 80 none (.p .k (.p .k (.o 3 none .k)))) (.p (.o 104 none .k) (.p (.o 3 none .k) (.p (.o 136 none .k) (.p (.o 102 none .k) .k)))))),r0⟩,⟨.bool,.k,r1⟩],[]⟩)
noncomputable def X1 (N:Nat):=aF L3 (aqi N)
noncomputable def agO (N:Nat):List Entry:=[⟨39,[.val],(uP N)⟩,⟨16,[.val],(rU N)⟩,⟨41,[.val],(LV N)⟩,⟨70,[.val],(oQ N)⟩,⟨129,[.val],(Qz N)⟩,⟨128,[.val,.val,.val,.val,.val,.val],(QA N)⟩,⟨130,[.val,.val],(GU N)⟩,⟨131,[.kj],(QD N)⟩,⟨132,[.take],(QE N)⟩,⟨103,[.val,.take,.val,.val],(nR N)⟩]
noncomputable def GZ:Code:=bw Tryz.f28
noncomputable def agP (N n:Nat) (key:Nat) (S:St) (K:Ks):Option ab:=bif Nat.beq key 5 then aQ Ce S (fun x=>wA N x.1 x.2.1 x.2.2.2.1 x.2.2.2.2.1 n (fun z0=>K (.x 0) (shape Dz (x.1,x.2.1,z0,()))) (fun z0 z1=>K .r (shape DA (z0,z1,()))) x.2.2.1 x.2.2.2.2.2.1) else none
theorem atL (N key:Nat) (S:St) (K:Ks):agP N 0 key S K=none:=(cH (aJ fun _=>rfl) rfl)
noncomputable def X4:Code:=(ak GZ).getD 0 .skip
theorem atM:ak GZ=[X4]:=by kernel_rfl
theorem agQ (N:Nat):hZ agN (agO N) (agP N) N 5 Ce X4:=fun _ _ _=>by kernel_rfl
theorem atN (N:Nat):cX L3 (aqi N) agN (agO N) (agP N N) Tryz.f28:=fun _ _=>by kernel_rfl
theorem atO {Γ:Gl} (N:Nat):Sound Γ Tryz.prog 28 (X1 N):=kh agN Tryz.f28 GZ (atL N) atM (atN N) (rc (agQ N) trivial) ⟨GR N,⟨BP N,⟨agD N,⟨wR N,⟨amL N,⟨amO N,⟨XI N,⟨amP N,⟨amQ N,⟨uQ N,trivial⟩⟩⟩⟩⟩⟩⟩⟩⟩⟩
def agR:Go.Shelf.Ren:=⟨fun n=>bif Nat.beq n 45 then 142 else n,fun n=>bif Nat.beq n 0 then 0 else bif Nat.beq n 3 then 3 else bif Nat.beq n 4 then 4 else bif Nat.beq n 22 then 24 else bif Nat.beq n 23 then 46 else n,fun n=>n⟩
def amR:Array Value:=#[.int .i64 0,.int .i64 0,.int .i64 0,.int .i64 0,.int .i64 0,.slice none 0 0]
noncomputable def amS:TypeInfo:=(Tryz.prog.info? 46).get (by kernel_rfl)
theorem agS:apR Tryz.prog agR (dC).size amR amS:={ FB:=⟨Tryz.f142.name,by kernel_rfl,by kernel_rfl⟩,mixed:=by kernel_rfl,t0:=by kernel_rfl,a0:=fun w=>by kernel_rfl,z0:=fun w=>by kernel_rfl,v0:=fun w=>by kernel_rfl,t3:=by kernel_rfl,a3:=fun w=>by kernel_rfl,z3:=fun w=>by kernel_rfl,v3:=fun w=>by kernel_rfl,t4:=by kernel_rfl,a4:=fun w=>by kernel_rfl,z4:=fun w=>by kernel_rfl,v4:=fun w=>by kernel_rfl,t22:=by kernel_rfl,a22:=fun w=>by kernel_rfl,z22:=fun w=>by kernel_rfl,v22:=fun w=>by kernel_rfl,z23:=fun w=>by kernel_rfl,v23:=fun w=>by kernel_rfl,hz:=by kernel_rfl,hzo:=by kernel_rfl,JB:=by kernel_rfl,Jp:=by kernel_rfl }
noncomputable def X5:List AK:=[.v (.sl dC) (.o 46 none (.p .k (.p .k (.p .k (.p .k (.p .k (.o 3 none .k))))))),.v (.int .i64) .k,.v (.int .i64) .k]
noncomputable def atP (N:Nat) (x:aL X5) (kf:ab→Option ab):Option ab:=arE N x.1 x.2.1 x.2.2.1 (fun r0=>kf ⟨[⟨(.sl dC),(.o 46 none (.p .k (.p .k (.p .k (.p .k (.p .k (.o 3 none .k))))))),r0⟩],[]⟩)
noncomputable def QF (N:Nat):=aF X5 (atP N)
theorem amT {Γ:Gl} (N:Nat):Sound Γ Tryz.prog 142 (QF N):=KF agS 46 (.p .k (.p .k (.p .k (.p .k (.p .k (.o 3 none .k)))))) (by kernel_rfl)
noncomputable def L4:List AK:=[.v bU .k,.v (.int .i64) .k]
noncomputable def aqj (N:Nat) (x:aL L4) (kf:ab→Option ab):Option ab:=I38 N x.1 x.2.1 (fun r0 r1=>kf ⟨[⟨bU,(.p (.o 46 none (.p .k (.p .k (.p .k (.p .k (.p .k (.o 3 none .k))))))) (.p (.o 80 none (.p .k (.p .k (.o 3 none .k)))) (.p (.o 104 none .k) (.p (.o 3 none .k) (.p (.o 136 none .k) (.p (.o 102 none .k) .k)))))),r0⟩,⟨.bool,.k,r1⟩],[]⟩)
noncomputable def X6 (N:Nat):=aF L4 (aqj N)
noncomputable def atQ (N:Nat):List Entry:=[⟨70,[.val],(oQ N)⟩,⟨40,[.val,.val],(lQ N)⟩,⟨16,[.val],(rU N)⟩,⟨142,[.take,.val,.val],(QF N)⟩,⟨103,[.val,.take,.val,.val],(nR N)⟩]
theorem atS (N:Nat):cX L4 (aqj N) hq (atQ N) (gw N N) Tryz.f38:=fun _ _=>by kernel_rfl
theorem atT {Γ:Gl} (N:Nat):Sound Γ Tryz.prog 38 (X6 N):=iQ hq Tryz.f38 (atS N) ⟨wR N,⟨rT N,⟨BP N,⟨amT N,⟨uQ N,trivial⟩⟩⟩⟩⟩
noncomputable def Cf:List Kd:=.v (.sl vq) .k::.v (.sl vq) .k::dn 10 (.v (.int .i64) .k::.v (.int .i64) .k::dn 12 ([]))
noncomputable def DB:List Kd:=dn 26 ([])
noncomputable def DC:List Kd:=dn 4 (.v .bool .k::dn 21 ([]))
noncomputable def agT:Hint:={ tab,hn:=[],loops:=[(4,Cf)],outs:=[(4,2,DB),(4,1,DC)],b5:=[(6,(OT.seq [0,1,2,3,4,5,6,7,8] .done))] }
noncomputable def UL:List AK:=[.v (.sl vq) .k,.v (.sl vq) .k]
noncomputable def aqk (N:Nat) (x:aL UL) (kf:ab→Option ab):Option ab:=S76 N x.1 x.2.1 (fun r0=>kf ⟨[⟨.bool,.k,r0⟩],[]⟩)
noncomputable def L5 (N:Nat):=aF UL (aqk N)
noncomputable def G0:Code:=bw Tryz.f76
noncomputable def agU (N n:Nat) (key:Nat) (S:St) (K:Ks):Option ab:=bif Nat.beq key 4 then aQ Cf S (fun x=>wB x.1 x.2.1 x.2.2.1 n (K (.x 0) (shape DB ())) (fun z0=>K .r (shape DC (z0,()))) x.2.2.2.1) else none
theorem atU (N key:Nat) (S:St) (K:Ks):agU N 0 key S K=none:=(cH (aJ fun _=>rfl) rfl)
noncomputable def X7:Code:=(ak G0).getD 0 .skip
theorem atV:ak G0=[X7]:=by kernel_rfl
theorem agV (N:Nat):hZ agT [] (agU N) N 4 Cf X7:=fun _ _ _=>by kernel_rfl
theorem atW (N:Nat):cX UL (aqk N) agT [] (agU N N) Tryz.f76:=fun _ _=>by kernel_rfl
theorem agW {Γ:Gl} (N:Nat):Sound Γ Tryz.prog 76 (L5 N):=kh agT Tryz.f76 G0 (atU N) atV (atW N) (rc (agV N) trivial) trivial
noncomputable def L7:List AK:=[.v (.sl vq) .k,.v (.sl vq) .k]
noncomputable def aql (N:Nat) (x:aL L7) (kf:ab→Option ab):Option ab:=I15 N x.1 x.2.1 (fun r0=>kf ⟨[⟨.bool,.k,r0⟩],[]⟩)
noncomputable def X8 (N:Nat):=aF L7 (aql N)
noncomputable def atX (N:Nat):List Entry:=[⟨75,[.val],(Eh N)⟩,⟨76,[.val,.val],(L5 N)⟩]
theorem atY (N:Nat):cX L7 (aql N) hq (atX N) (gw N N) Tryz.f15:=fun _ _=>by kernel_rfl
theorem atZ {Γ:Gl} (N:Nat):Sound Γ Tryz.prog 15 (X8 N):=iQ hq Tryz.f15 (atY N) ⟨Ub N,⟨agW N,trivial⟩⟩
noncomputable def xe:List Kd:=.v (.sl dC) .k::dK::dK::.v (.sl dC) (.o 46 none (.p .k (.p .k (.p .k (.p .k (.p .k (.o 3 none .k)))))))::.v (.int .i64) .k::dn 22 ([])
noncomputable def zw:List Kd:=dn 3 (.v (.sl dC) (.o 46 none (.p .k (.p .k (.p .k (.p .k (.p .k (.o 3 none .k)))))))::dn 23 ([]))
noncomputable def UM:Hint:={ tab,hn:=[(6,(.p .k (.p .k (.p .k (.p .k (.p .k (.o 3 none .k)))))))],loops:=[(3,xe)],outs:=[(3,2,zw)],b5:=[] }
noncomputable def L8:List AK:=[.v (.sl dC) .k]
noncomputable def agX (N:Nat) (x:aL L8) (kf:ab→Option ab):Option ab:=FQ N x.1 (fun r0=>kf ⟨[⟨(.sl dC),(.o 46 none (.p .k (.p .k (.p .k (.p .k (.p .k (.o 3 none .k))))))),r0⟩],[]⟩)
noncomputable def zx (N:Nat):=aF L8 (agX N)
noncomputable def Cg:Code:=bw Tryz.f173
noncomputable def UN (N n:Nat) (key:Nat) (S:St) (K:Ks):Option ab:=bif Nat.beq key 3 then aQ xe S (fun x=>q8 x.1 n (fun z0=>K (.x 0) (shape zw (z0,()))) x.2.1 x.2.2.1) else none
theorem amU (N key:Nat) (S:St) (K:Ks):UN N 0 key S K=none:=(cH (aJ fun _=>rfl) rfl)
noncomputable def QG:Code:=(ak Cg).getD 0 .skip
theorem amV:ak Cg=[QG]:=by kernel_rfl
theorem aa' (N:Nat):hZ UM [] (UN N) N 3 xe QG:=fun _ _ _=>by kernel_rfl
theorem amW (N:Nat):cX L8 (agX N) UM [] (UN N N) Tryz.f173:=fun _ _=>by kernel_rfl
theorem L9 {Γ:Gl} (N:Nat):Sound Γ Tryz.prog 173 (zx N):=kh UM Tryz.f173 Cg (amU N) amV (amW N) (rc (aa' N) trivial) trivial
noncomputable def xf:List Kd:=.v (.sl jL) .k::dK::dK::.v (.sl jL) (.o 80 none (.p .k (.p .k (.o 3 none .k))))::.v (.int .i64) .k::dn 22 ([])
noncomputable def zy:List Kd:=dn 3 (.v (.sl jL) (.o 80 none (.p .k (.p .k (.o 3 none .k))))::dn 23 ([]))
noncomputable def UO:Hint:={ tab,hn:=[(6,(.p .k (.p .k (.o 3 none .k))))],loops:=[(3,xf)],outs:=[(3,2,zy)],b5:=[] }
noncomputable def Ma:List AK:=[.v (.sl jL) .k]
noncomputable def agY (N:Nat) (x:aL Ma) (kf:ab→Option ab):Option ab:=S7 N x.1 (fun r0=>kf ⟨[⟨(.sl jL),(.o 80 none (.p .k (.p .k (.o 3 none .k)))),r0⟩],[]⟩)
noncomputable def G1 (N:Nat):=aF Ma (agY N)
noncomputable def Ch:Code:=bw Tryz.f174
noncomputable def UP (N n:Nat) (key:Nat) (S:St) (K:Ks):Option ab:=bif Nat.beq key 3 then aQ xf S (fun x=>q9 x.1 n (fun z0=>K (.x 0) (shape zy (z0,()))) x.2.1 x.2.2.1) else none
theorem amX (N key:Nat) (S:St) (K:Ks):UP N 0 key S K=none:=(cH (aJ fun _=>rfl) rfl)
noncomputable def QH:Code:=(ak Ch).getD 0 .skip
theorem amY:ak Ch=[QH]:=by kernel_rfl
theorem aba (N:Nat):hZ UO [] (UP N) N 3 xf QH:=fun _ _ _=>by kernel_rfl
theorem amZ (N:Nat):cX Ma (agY N) UO [] (UP N N) Tryz.f174:=fun _ _=>by kernel_rfl
theorem X9 {Γ:Gl} (N:Nat):Sound Γ Tryz.prog 174 (G1 N):=kh UO Tryz.f174 Ch (amX N) amY (amZ N) (rc (aba N) trivial) trivial
end Go.Pv.R
