/- Each function of the program that the law reaches computes its plain function, part 1. -/
import Derived.Test.YtcpakhaogbempaaGreatSnd0
import Derived.Test.YtcpakhaogbempaaGreatProg
namespace Go.Pv.R
open Go.Proofs
set_option linter.unusedVariables false
set_option maxRecDepth 100000
noncomputable def Bh:List Kd:=dK::.v (.int .i64) .k::.v (.int .i64) .k::.v (.ptr bM) (.o 31 none .k)::dK::dK::.v (.ptr bM) (.o 31 none (.p (.o 46 none (.p .k (.p .k (.p .k (.p .k (.p .k (.o 3 none .k))))))) (.p (.o 80 none (.p .k (.p .k (.o 3 none .k)))) (.p (.o 104 none .k) (.p (.o 3 none .k) (.p (.o 136 none .k) (.p (.o 102 none .k) .k)))))))::dK::.v (.ptr bM) (.o 31 none (.p (.o 46 none (.p .k (.p .k (.p .k (.p .k (.p .k (.o 3 none .k))))))) (.p (.o 80 none (.p .k (.p .k (.o 3 none .k)))) (.p (.o 104 none .k) (.p (.o 3 none .k) (.p (.o 136 none .k) (.p (.o 102 none .k) .k)))))))::.v (.int .i64) .k::dn 40 ([])
noncomputable def C':List Kd:=dK::.v (.int .i64) .k::.v (.int .i64) .k::.v (.ptr bM) (.o 31 none .k)::dK::dK::.v (.ptr bM) (.o 31 none (.p (.o 46 none (.p .k (.p .k (.p .k (.p .k (.p .k (.o 3 none .k))))))) (.p (.o 80 none (.p .k (.p .k (.o 3 none .k)))) (.p (.o 104 none .k) (.p (.o 3 none .k) (.p (.o 136 none .k) (.p (.o 102 none .k) .k)))))))::dK::.v (.ptr bM) (.o 31 none (.p (.o 46 none (.p .k (.p .k (.p .k (.p .k (.p .k (.o 3 none .k))))))) (.p (.o 80 none (.p .k (.p .k (.o 3 none .k)))) (.p (.o 104 none .k) (.p (.o 3 none .k) (.p (.o 136 none .k) (.p (.o 102 none .k) .k)))))))::.v (.int .i64) .k::dn 40 ([])
noncomputable def ahp:Hint:={ tab,hn:=[],loops:=[(5,Bh)],outs:=[(5,2,C')],bj:=[] }
noncomputable def Ul:List AK:=[.v bM .k,.v (.int .i64) .k,.v (.int .i64) .k]
noncomputable def atA (N:Nat) (x:aw Ul) (kf:aa→Option aa):Option aa:=I32 N x.1 x.2.1 x.2.2.1 (fun r0 r1=>kf ⟨[⟨bM,(.p (.o 46 none (.p .k (.p .k (.p .k (.p .k (.p .k (.o 3 none .k))))))) (.p (.o 80 none (.p .k (.p .k (.o 3 none .k)))) (.p (.o 104 none .k) (.p (.o 3 none .k) (.p (.o 136 none .k) (.p (.o 102 none .k) .k)))))),r0⟩,⟨.bool,.k,r1⟩],[]⟩)
noncomputable def Yx (N:Nat):=au Ul (atA N)
noncomputable def ahq (N:Nat):List Entry:=[⟨70,[.val],(km N)⟩,⟨130,[.val,.val],(Gv N)⟩,⟨136,[.take,.val,.take],(Pe N)⟩,⟨103,[.val,.take,.val,.val],(mF N)⟩]
noncomputable def Gw:Code:=aI Tryz.f32
noncomputable def ahr (N n:Nat) (key:Nat) (S:St) (K:Ks):Option aa:=bif Nat.beq key 5 then ay Bh S (fun x=>rM x.1 x.2.1 x.2.2.1 x.2.2.2.1 x.2.2.2.2.1 n (fun z0=>K (.x 0) (shape C' (x.1,x.2.1,x.2.2.1,x.2.2.2.1,x.2.2.2.2.1,z0,()))) x.2.2.2.2.2.1) else none
theorem axd (N key:Nat) (S:St) (K:Ks):ahr N 0 key S K=none:=(bC (aq fun _=>rfl) rfl)
noncomputable def Yy:Code:=(af Gw).getD 0 .skip
theorem axe:af Gw=[Yy]:=by kernel_rfl
theorem ahs (N:Nat):dB ahp (ahq N) (ahr N) N 5 Bh Yy:=fun _ _ _=>by kernel_rfl
theorem axf (N:Nat):bL Ul (atA N) ahp (ahq N) (ahr N N) Tryz.f32:=fun _ _=>by kernel_rfl
theorem axg {Γ:Gl} (N:Nat):Sound Γ Tryz.prog 32 (Yx N):=eZ ahp Tryz.f32 Gw (axd N) axe (axf N) (rc (ahs N) trivial) ⟨qo N,⟨Yv N,⟨anP N,⟨tq N,trivial⟩⟩⟩⟩
noncomputable def aht:Hint:={ tab,hn:=[],loops:=[],outs:=[],bj:=[] }
noncomputable def DY:List AK:=[.v (.sl bo) .k]
noncomputable def KB (N:Nat) (x:aw DY) (kf:aa→Option aa):Option aa:=akV N x.1 (fun r0=>kf ⟨[⟨(.sl bo),(.o 46 none .k),r0⟩],[]⟩)
noncomputable def Pf (N:Nat):=au DY (KB N)
noncomputable def IE:Code:=aI Tryz.f229
theorem anQ:af IE=[]:=by kernel_rfl
theorem anR (N:Nat):bL DY (KB N) aht [] (dO N N) Tryz.f229:=fun _ _=>by kernel_rfl
theorem ahu (N:Nat) (x:aw DY):cN (KB N x):=by
 obtain⟨l,u⟩:=x
 unfold KB akV
 cases l with
 |nil=>exact⟨some _,fun K=>lI _⟩
 |cons a l=>
  simp only[List.isEmpty_cons,cond_false]
  exact cN.bif _ (cN.pure _) cN.none
theorem anS {Γ:Gl} (N:Nat):Sound Γ Tryz.prog 229 (Pf N):=iX (hh:=aht) mixed kX (es:=[]) trivial (fn:=Tryz.f229) (body:=IE) (by kernel_rfl) (by kernel_rfl) (by kernel_rfl) (by kernel_rfl) (by kernel_rfl) (Lf:=dO N) (TG N) anQ trivial (N:=N) (by kernel_rfl) (anR N) (.inr (ahu N))
noncomputable def KC:List AK:=[.v (.int .u64) .k]
noncomputable def ahv (N:Nat) (x:aw KC) (kf:aa→Option aa):Option aa:=au9 N x.1 (fun r0=>kf ⟨[⟨(.int .i64),.k,r0⟩],[]⟩)
noncomputable def Pg (N:Nat):=au KC (ahv N)
theorem anT (N:Nat):bL KC (ahv N) hq [] (dO N N) Tryz.f245:=fun _ _=>by kernel_rfl
theorem anU {Γ:Gl} (N:Nat):Sound Γ Tryz.prog 245 (Pg N):=e9 hq Tryz.f245 (anT N) trivial
noncomputable def KD:List AK:=[.v (.int .u64) .k]
noncomputable def ahw (N:Nat) (x:aw KD) (kf:aa→Option aa):Option aa:=akW N x.1 (fun r0=>kf ⟨[⟨(.int .i64),.k,r0⟩],[]⟩)
noncomputable def Ph (N:Nat):=au KD (ahw N)
noncomputable def anV (N:Nat):List Entry:=[⟨245,[.val],(Pg N)⟩]
theorem anW (N:Nat):bL KD (ahw N) hq (anV N) (dO N N) Tryz.f211:=fun _ _=>by kernel_rfl
theorem anX {Γ:Gl} (N:Nat):Sound Γ Tryz.prog 211 (Ph N):=e9 hq Tryz.f211 (anW N) ⟨anU N,trivial⟩
noncomputable def KE:List AK:=[.v (.int .i64) .k]
noncomputable def ahx (N:Nat) (x:aw KE) (kf:aa→Option aa):Option aa:=akX N x.1 (fun r0=>kf ⟨[⟨.bool,.k,r0⟩],[]⟩)
noncomputable def Pj (N:Nat):=au KE (ahx N)
theorem anY (N:Nat):bL KE (ahx N) hq [] (dO N N) Tryz.f253:=fun _ _=>by kernel_rfl
theorem anZ {Γ:Gl} (N:Nat):Sound Γ Tryz.prog 253 (Pj N):=e9 hq Tryz.f253 (anY N) trivial
noncomputable def KF:List AK:=[.v (.int .i64) .k,.v (.int .i64) .k]
noncomputable def ahy (N:Nat) (x:aw KF) (kf:aa→Option aa):Option aa:=aaG N x.1 x.2.1 (fun r0=>kf ⟨[⟨(.int .i64),.k,r0⟩],[]⟩)
noncomputable def Pl (N:Nat):=au KF (ahy N)
noncomputable def an0 (N:Nat):List Entry:=[⟨253,[.val],(Pj N)⟩]
theorem an1 (N:Nat):bL KF (ahy N) hq (an0 N) (dO N N) Tryz.f233:=fun _ _=>by kernel_rfl
theorem an2 {Γ:Gl} (N:Nat):Sound Γ Tryz.prog 233 (Pl N):=e9 hq Tryz.f233 (an1 N) ⟨anZ N,trivial⟩
noncomputable def vJ:List Kd:=dn 3 (.v (.int .i64) .k::dK::dK::.v (.sl (.int .i64)) .k::.v (.int .i64) .k::.v (.int .i64) .k::dn 9 ([]))
noncomputable def yg:List Kd:=dn 3 (.v (.int .i64) .k::dn 14 ([]))
noncomputable def yh:List Kd:=dK::dK::.v (.int .i64) .k::dn 15 ([])
noncomputable def Um:Hint:={ tab,hn:=[],loops:=[(3,vJ)],outs:=[(3,2,yg),(3,1,yh)],bj:=[] }
noncomputable def KG:List AK:=[.v (.sl (.int .i64)) .k]
noncomputable def ahz (N:Nat) (x:aw KG) (kf:aa→Option aa):Option aa:=akY N x.1 (fun r0=>kf ⟨[⟨(.int .i64),.k,r0⟩],[]⟩)
noncomputable def Pm (N:Nat):=au KG (ahz N)
noncomputable def Bi:Code:=aI Tryz.f232
noncomputable def Un (N n:Nat) (key:Nat) (S:St) (K:Ks):Option aa:=bif Nat.beq key 3 then ay vJ S (fun x=>pC x.1 x.2.1 x.2.2.1 n (K (.x 0) (shape yg (x.1,()))) (fun z0=>K .r (shape yh (z0,()))) x.2.2.2.1) else none
theorem an3 (N key:Nat) (S:St) (K:Ks):Un N 0 key S K=none:=(bC (aq fun _=>rfl) rfl)
noncomputable def Pn:Code:=(af Bi).getD 0 .skip
theorem an4:af Bi=[Pn]:=by kernel_rfl
theorem ab4 (N:Nat):dB Um [] (Un N) N 3 vJ Pn:=fun _ _ _=>by kernel_rfl
theorem an5 (N:Nat):bL KG (ahz N) Um [] (Un N N) Tryz.f232:=fun _ _=>by kernel_rfl
theorem an6 {Γ:Gl} (N:Nat):Sound Γ Tryz.prog 232 (Pm N):=eZ Um Tryz.f232 Bi (an3 N) an4 (an5 N) (rc (ab4 N) trivial) trivial
noncomputable def ahA:Hint:={ tab,hn:=[],loops:=[],outs:=[],bj:=[(1,(OT.seq [0,1,2,3,5,6,7,8,10,11,12,13,4,9,14,15,16,17] .done))] }
noncomputable def KH:List AK:=[.v bo .k,.v bo .k]
noncomputable def ahB (N:Nat) (x:aw KH) (kf:aa→Option aa):Option aa:=akZ N x.1 x.2.1 (fun r0=>kf ⟨[⟨(.int .i64),.k,r0⟩],[]⟩)
noncomputable def Po (N:Nat):=au KH (ahB N)
noncomputable def an7 (N:Nat):List Entry:=[⟨233,[.val,.val],(Pl N)⟩,⟨232,[.val],(Pm N)⟩]
theorem an8 (N:Nat):bL KH (ahB N) ahA (an7 N) (dO N N) Tryz.f231:=fun _ _=>by kernel_rfl
theorem an9 {Γ:Gl} (N:Nat):Sound Γ Tryz.prog 231 (Po N):=e9 ahA Tryz.f231 (an8 N) ⟨an2 N,⟨an6 N,trivial⟩⟩
noncomputable def vK:List Kd:=.v (.sl bo) (.o 46 (some 0) .k)::.v (.int .i64) .k::.v (.int .i64) .k::.ld 231 []::dn 4 (.v (.int .i64) .k::.v (.int .i64) .k::dn 43 ([]))
noncomputable def yi:List Kd:=.v (.sl bo) (.o 46 (some 0) .k)::.v (.int .i64) .k::.v (.int .i64) .k::.ld 231 []::dn 4 (.v (.int .i64) .k::dn 44 ([]))
noncomputable def vL:List Kd:=.v (.sl bo) (.o 46 (some 0) .k)::.v (.int .i64) .k::.v (.int .i64) .k::.ld 231 []::dn 4 (.v (.int .i64) .k::dn 44 ([]))
noncomputable def yj:List Kd:=.v (.sl bo) (.o 46 (some 0) .k)::dn 52 ([])
noncomputable def KI:Hint:={ tab,hn:=[],loops:=[(4,vK),(1,vL)],outs:=[(4,4,yi),(1,2,yj)],bj:=[(4,(OT.seq [0,1,2,3,4,5,6,7,8,9,10,11,12,13,14,15,16] .done)),(6,(OT.seq [0,1,5,6,7,8,9,10,11,12,13,14,2,3,4,15,16,17] .done))],uj:=some (0,false) }
noncomputable def KJ:List AK:=[.v (.sl bo) (.o 46 (some 0) .k),.v (.int .i64) .k,.v (.int .i64) .k,.fn 231 []]
noncomputable def ahC (N:Nat) (x:aw KJ) (kf:aa→Option aa):Option aa:=ava N x.1 x.2.1 x.2.2.1 (fun z=>kf ⟨[],[⟨(.sl bo),(.o 46 (some 0) .k),z⟩]⟩)
noncomputable def Pp (N:Nat):=au KJ (ahC N)
noncomputable def KK (N:Nat):List Entry:=[⟨231,[.val,.val],(Po N)⟩]
noncomputable def tr:Code:=aI Tryz.f263
noncomputable def KL (N n:Nat) (key:Nat) (S:St) (K:Ks):Option aa:=bif Nat.beq key 1 then ay vL S (fun x=>pD N x.2.1 x.2.2.1 n (fun z0=>K (.x 0) (shape yj (z0,()))) x.1 x.2.2.2.2.1) else bif Nat.beq key 4 then ay vK S (fun x=>sJ N x.2.1 x.2.2.1 x.2.2.2.2.1 n (fun z0=>K (.x 2) (shape yi (z0,x.2.1,x.2.2.1,(),x.2.2.2.2.1,()))) x.1 x.2.2.2.2.2.1) else none
theorem an' (N key:Nat) (S:St) (K:Ks):KL N 0 key S K=none:=(bC (aq fun _=>rfl) (bC (aq fun _=>rfl) rfl))
noncomputable def Pq:Code:=(af tr).getD 0 .skip
noncomputable def Pr:Code:=(af tr).getD 1 .skip
theorem aoa:af tr=[Pq,Pr]:=by kernel_rfl
theorem ab5 (N:Nat):dB KI (KK N) (KL N) N 4 vK Pr:=fun _ _ _=>by kernel_rfl
theorem ab6 (N:Nat):dB KI (KK N) (KL N) N 1 vL Pq:=fun _ _ _=>by kernel_rfl
theorem aob (N:Nat):bL KJ (ahC N) KI (KK N) (KL N N) Tryz.f263:=fun _ _=>by kernel_rfl
theorem aoc {Γ:Gl} (N:Nat):Sound Γ Tryz.prog 263 (Pp N):=eZ KI Tryz.f263 tr (an' N) aoa (aob N) (rc (ab6 N) (rc (ab5 N) trivial)) ⟨an9 N,trivial⟩
noncomputable def vM:List Kd:=.v (.sl bo) (.o 46 (some 0) .k)::.v (.int .i64) .k::.v (.int .i64) .k::.v (.int .i64) .k::.ld 231 []::dn 5 (.v .bool .k::.v .bool .k::dn 136 ([]))
noncomputable def yk:List Kd:=.v (.sl bo) (.o 46 (some 0) .k)::dn 147 ([])
noncomputable def Uo:Hint:={ tab,hn:=[],loops:=[(2,vM)],outs:=[(2,1,yk)],bj:=[],uj:=some (0,false) }
noncomputable def KM:List AK:=[.v (.sl bo) (.o 46 (some 0) .k),.v (.int .i64) .k,.v (.int .i64) .k,.v (.int .i64) .k,.fn 231 []]
noncomputable def ahD (N:Nat) (x:aw KM) (kf:aa→Option aa):Option aa:=ak0 N x.1 x.2.1 x.2.2.1 x.2.2.2.1 (fun z=>kf ⟨[],[⟨(.sl bo),(.o 46 (some 0) .k),z⟩]⟩)
noncomputable def Ps (N:Nat):=au KM (ahD N)
noncomputable def Yz (N:Nat):List Entry:=[⟨263,[.ns,.val,.val,.val],(Pp N)⟩]
noncomputable def Bj:Code:=aI Tryz.f252
noncomputable def Up (N n:Nat) (key:Nat) (S:St) (K:Ks):Option aa:=bif Nat.beq key 2 then ay vM S (fun x=>Jp N x.1 x.2.1 x.2.2.1 x.2.2.2.1 x.2.2.2.2.2.1 x.2.2.2.2.2.2.1 n (fun z0=>K .r (shape yk (z0,())))) else none
theorem aod (N key:Nat) (S:St) (K:Ks):Up N 0 key S K=none:=(bC (aq fun _=>rfl) rfl)
noncomputable def Pt:Code:=(af Bj).getD 0 .skip
theorem aoe:af Bj=[Pt]:=by kernel_rfl
theorem ab7 (N:Nat):dB Uo (Yz N) (Up N) N 2 vM Pt:=fun _ _ _=>by kernel_rfl
theorem aof (N:Nat):bL KM (ahD N) Uo (Yz N) (Up N N) Tryz.f252:=fun _ _=>by kernel_rfl
theorem aog {Γ:Gl} (N:Nat):Sound Γ Tryz.prog 252 (Ps N):=eZ Uo Tryz.f252 Bj (aod N) aoe (aof N) (rc (ab7 N) trivial) ⟨aoc N,trivial⟩
noncomputable def ahE:Hint:={ tab,hn:=[],loops:=[],outs:=[],bj:=[],uj:=some (0,false) }
noncomputable def KN:List AK:=[.v (.sl bo) (.o 46 (some 0) .k),.fn 231 []]
noncomputable def ahF (N:Nat) (x:aw KN) (kf:aa→Option aa):Option aa:=ak1 N x.1 (fun z=>kf ⟨[],[⟨(.sl bo),(.o 46 (some 0) .k),z⟩]⟩)
noncomputable def Pu (N:Nat):=au KN (ahF N)
noncomputable def aoh (N:Nat):List Entry:=[⟨211,[.val],(Ph N)⟩,⟨252,[.ns,.val,.val,.val,.val],(Ps N)⟩]
theorem aoi (N:Nat):bL KN (ahF N) ahE (aoh N) (dO N N) Tryz.f230:=fun _ _=>by kernel_rfl
theorem aoj {Γ:Gl} (N:Nat):Sound Γ Tryz.prog 230 (Pu N):=e9 ahE Tryz.f230 (aoi N) ⟨anX N,⟨aog N,trivial⟩⟩
noncomputable def vN:List Kd:=dn 3 (.v (.sl (.int .i64)) (.o 3 none .k)::dn 12 (.v (.sl bo) (.o 46 none .k)::.v (.int .i64) .k::.v (.int .i64) .k::dn 10 ([])))
noncomputable def yl:List Kd:=dn 3 (.v (.sl (.int .i64)) (.o 3 none .k)::dn 25 ([]))
noncomputable def Uq:Hint:={ tab,hn:=[],loops:=[(7,vN)],outs:=[(7,2,yl)],bj:=[] }
noncomputable def KO:List AK:=[.v (.sl bo) .k]
noncomputable def ahG (N:Nat) (x:aw KO) (kf:aa→Option aa):Option aa:=aeD N x.1 (fun r0=>kf ⟨[⟨(.sl (.int .i64)),(.o 3 none .k),r0⟩],[]⟩)
noncomputable def Gx (N:Nat):=au KO (ahG N)
noncomputable def YA (N:Nat):List Entry:=[⟨143,[.val],(jn N)⟩,⟨229,[.val],(Pf N)⟩,⟨230,[.ns,.val],(Pu N)⟩]
noncomputable def Bk:Code:=aI Tryz.f187
noncomputable def Ur (N n:Nat) (key:Nat) (S:St) (K:Ks):Option aa:=bif Nat.beq key 7 then ay vN S (fun x=>pE x.2.1 x.2.2.1 n (fun z0=>K (.x 0) (shape yl (z0,()))) x.1 x.2.2.2.1) else none
theorem aok (N key:Nat) (S:St) (K:Ks):Ur N 0 key S K=none:=(bC (aq fun _=>rfl) rfl)
noncomputable def Pw:Code:=(af Bk).getD 0 .skip
theorem aol:af Bk=[Pw]:=by kernel_rfl
theorem ab8 (N:Nat):dB Uq (YA N) (Ur N) N 7 vN Pw:=fun _ _ _=>by kernel_rfl
theorem aom (N:Nat):bL KO (ahG N) Uq (YA N) (Ur N N) Tryz.f187:=fun _ _=>by kernel_rfl
theorem YB {Γ:Gl} (N:Nat):Sound Γ Tryz.prog 187 (Gx N):=eZ Uq Tryz.f187 Bk (aok N) aol (aom N) (rc (ab8 N) trivial) ⟨nq N,⟨anS N,⟨aoj N,trivial⟩⟩⟩
def Px:Go.Shelf.Ren:=⟨fun n=>bif Nat.beq n 4 then 251 else n,fun n=>bif Nat.beq n 0 then 0 else bif Nat.beq n 3 then 3 else bif Nat.beq n 4 then 4 else bif Nat.beq n 9 then 9 else bif Nat.beq n 20 then 20 else bif Nat.beq n 22 then 27 else bif Nat.beq n 25 then 3 else n,fun n=>n⟩
theorem ab9:Go.Proofs.Lays8.n4 Tryz.prog Px:={ f4:=⟨Tryz.f251.name,by kernel_rfl,by kernel_rfl⟩,mixed:=by kernel_rfl,t0:=by kernel_rfl,a0:=fun w=>by kernel_rfl,z0:=fun w=>by kernel_rfl,v0:=fun w=>by kernel_rfl,t3:=by kernel_rfl,a3:=fun w=>by kernel_rfl,z3:=fun w=>by kernel_rfl,v3:=fun w=>by kernel_rfl,t4:=by kernel_rfl,a4:=fun w=>by kernel_rfl,z4:=fun w=>by kernel_rfl,v4:=fun w=>by kernel_rfl,t9:=by kernel_rfl,a9:=fun w=>by kernel_rfl,z9:=fun w=>by kernel_rfl,v9:=fun w=>by kernel_rfl,t20:=by kernel_rfl,a20:=fun w=>by kernel_rfl,z20:=fun w=>by kernel_rfl,v20:=fun w=>by kernel_rfl,t22:=by kernel_rfl,a22:=fun w=>by kernel_rfl,z22:=fun w=>by kernel_rfl,v22:=fun w=>by kernel_rfl }
noncomputable def aon:TypeInfo:=(Tryz.prog.info? 3).get (by kernel_rfl)
noncomputable def YC:List AK:=[.v (.sl (.int .i64)) (.o 3 none .k),.v (.int .i64) .k]
noncomputable def axh (N:Nat) (x:aw YC) (kf:aa→Option aa):Option aa:=avb N x.1 x.2.1 (fun r0=>kf ⟨[⟨(.sl (.int .i64)),(.o 3 none .k),r0⟩],[]⟩)
noncomputable def Py (N:Nat):=au YC (axh N)
theorem aoo {Γ:Gl} (N:Nat):Sound Γ Tryz.prog 251 (Py N):=TF (ρ:=Px) (i0:=aon) (z:=.int .i64 0) ab9 (by kernel_rfl) (by kernel_rfl) (by kernel_rfl) (by kernel_rfl) (by kernel_rfl)
noncomputable def vO:List Kd:=.v (.sl (.sl (.int .i64))) .k::dK::dK::.v (.int .i64) .k::dn 5 (.v (.sl (.sl (.int .i64))) .k::.v (.int .i64) .k::.v (.int .i64) .k::dn 24 ([]))
noncomputable def ym:List Kd:=.v (.sl (.sl (.int .i64))) .k::dK::dK::.v (.int .i64) .k::dn 32 ([])
noncomputable def sv:List Kd:=dn 6 (.v (.sl (.int .i64)) (.o 3 none .k)::dn 18 (.v (.sl (.sl (.int .i64))) .k::.v (.int .i64) .k::.v (.int .i64) .k::dn 8 ([])))
noncomputable def ue:List Kd:=dn 6 (.v (.sl (.int .i64)) (.o 3 none .k)::dn 29 ([]))
noncomputable def KP:Hint:={ tab,hn:=[],loops:=[(3,vO),(11,sv)],outs:=[(3,2,ym),(11,4,ue)],bj:=[] }
noncomputable def KQ:List AK:=[.v (.sl (.sl (.int .i64))) .k]
noncomputable def ahH (N:Nat) (x:aw KQ) (kf:aa→Option aa):Option aa:=ak2 N x.1 (fun r0=>kf ⟨[⟨(.sl (.int .i64)),(.o 3 none .k),r0⟩],[]⟩)
noncomputable def Pz (N:Nat):=au KQ (ahH N)
noncomputable def KR (N:Nat):List Entry:=[⟨251,[.take,.val],(Py N)⟩]
noncomputable def tu:Code:=aI Tryz.f227
noncomputable def KT (N n:Nat) (key:Nat) (S:St) (K:Ks):Option aa:=bif Nat.beq key 3 then ay vO S (fun x=>pF x.1 x.2.2.1 x.2.2.2.1 n (fun z0=>K (.x 0) (shape ym (x.1,z0,()))) x.2.1 x.2.2.2.2.1) else bif Nat.beq key 11 then ay sv S (fun x=>kF x.2.1 x.2.2.1 n (fun z0=>K (.x 2) (shape ue (z0,()))) x.1 x.2.2.2.1) else none
theorem aop (N key:Nat) (S:St) (K:Ks):KT N 0 key S K=none:=(bC (aq fun _=>rfl) (bC (aq fun _=>rfl) rfl))
noncomputable def PA:Code:=(af tu).getD 0 .skip
noncomputable def PB:Code:=(af tu).getD 1 .skip
theorem aoq:af tu=[PA,PB]:=by kernel_rfl
theorem Us (N:Nat):dB KP (KR N) (KT N) N 11 sv PB:=fun _ _ _=>by kernel_rfl
theorem ab' (N:Nat):dB KP (KR N) (KT N) N 3 vO PA:=fun _ _ _=>by kernel_rfl
theorem aor (N:Nat):bL KQ (ahH N) KP (KR N) (KT N N) Tryz.f227:=fun _ _=>by kernel_rfl
theorem aos {Γ:Gl} (N:Nat):Sound Γ Tryz.prog 227 (Pz N):=eZ KP Tryz.f227 tu (aop N) aoq (aor N) (rc (ab' N) (rc (Us N) trivial)) ⟨aoo N,trivial⟩
noncomputable def ahI:Hint:={ tab,hn:=[],loops:=[],outs:=[],bj:=[(4,(OT.seq [0,1,2,3,4,5,6,7,8,9,10,11] .done))] }
noncomputable def KU:List AK:=[.v (.sl bo) .k,.v (.int .i64) .k,.v (.int .i64) .k]
noncomputable def ahJ (N:Nat) (x:aw KU) (kf:aa→Option aa):Option aa:=ak3 N x.1 x.2.1 x.2.2.1 (fun r0=>kf ⟨[⟨aP,.k,r0⟩],[]⟩)
noncomputable def PC (N:Nat):=au KU (ahJ N)
noncomputable def aot (N:Nat):List Entry:=[⟨40,[.val,.val],(lF N)⟩,⟨143,[.val],(jn N)⟩,⟨187,[.val],(Gx N)⟩,⟨170,[.val,.val],(Gp N)⟩]
theorem aou (N:Nat):bL KU (ahJ N) ahI (aot N) (dO N N) Tryz.f228:=fun _ _=>by kernel_rfl
theorem aov {Γ:Gl} (N:Nat):Sound Γ Tryz.prog 228 (PC N):=e9 ahI Tryz.f228 (aou N) ⟨sr N,⟨nq N,⟨YB N,⟨Yd N,trivial⟩⟩⟩⟩
noncomputable def vP:List Kd:=.v (.sl bo) .k::.v (.sl (.int .i64)) .k::dn 4 (.v (.int .i64) .k::dn 50 ([]))
noncomputable def yn:List Kd:=dn 57 ([])
noncomputable def yo:List Kd:=dn 4 (.v (.sl aP) (.o 104 none .k)::.v .bool .k::dn 51 ([]))
noncomputable def Ut:Hint:={ tab,hn:=[],loops:=[(4,vP)],outs:=[(4,2,yn),(4,1,yo)],bj:=[(6,(OT.seq [0,1,2,3,4,5,6,7,8,9] .done)),(7,(OT.seq [0,1,2,3,4,5,6,7,8,9,10,11,12,13,14,15] .done)),(9,(OT.seq [0,1,2,3,4,5,6,7,10,8,9,11,12,13] .done))] }
noncomputable def DZ:List AK:=[.v (.sl bo) .k,.v (.sl (.int .i64)) .k]
noncomputable def ahK (N:Nat) (x:aw DZ) (kf:aa→Option aa):Option aa:=SP N x.1 x.2.1 (fun r0 r1=>kf ⟨[⟨(.sl aP),(.o 104 none .k),r0⟩,⟨.bool,.k,r1⟩],[]⟩)
noncomputable def yp (N:Nat):=au DZ (ahK N)
noncomputable def KV (N:Nat):List Entry:=[⟨77,[.val,.val,.val],(Kq N)⟩,⟨227,[.val],(Pz N)⟩,⟨228,[.val,.val,.val],(PC N)⟩,⟨186,[.val,.val],(yp N)⟩]
noncomputable def Bl:Code:=aI Tryz.f186
noncomputable def KW (N n:Nat) (key:Nat) (S:St) (K:Ks):Option aa:=bif Nat.beq key 4 then ay vP S (fun x=>pG N (SP N) x.1 x.2.1 n (K (.x 0) (shape yn ())) (fun z0 z1=>K .r (shape yo (z0,z1,()))) x.2.2.1) else none
theorem aow (N key:Nat) (S:St) (K:Ks):KW N 0 key S K=none:=(bC (aq fun _=>rfl) rfl)
noncomputable def PD:Code:=(af Bl).getD 0 .skip
theorem aox:af Bl=[PD]:=by kernel_rfl
theorem aca (N:Nat):dB Ut (KV N) (KW N) N 4 vP PD:=fun _ _ _=>by kernel_rfl
theorem aoy (N:Nat) (x:aw DZ) (kf:aa→Option aa):ahK (N+1) x kf=lR Ut (jr.of (KV N)) (KW N N) Tryz.f186 (dU DZ x) kf:=by kernel_rfl
theorem YD {Γ:Gl}:∀ N:Nat,Sound Γ Tryz.prog 186 (yp N)
 |0=>pc fun al kf=>by
  unfold yp au
  split<;>rfl
 |N+1=>iX (hh:=Ut) mixed kX (es:=KV N) ⟨agT N,⟨aos N,⟨aov N,⟨YD N,trivial⟩⟩⟩⟩ (fn:=Tryz.f186) (body:=Bl) (by kernel_rfl) (by kernel_rfl) (by kernel_rfl) (by kernel_rfl) (by kernel_rfl) (Lf:=KW N) (aow N) aox (rc (aca N) trivial) (N:=N) (by kernel_rfl) (aoy N) (.inl (by kernel_rfl))
noncomputable def KX:List AK:=[.v (.sl bo) .k]
noncomputable def ahL (N:Nat) (x:aw KX) (kf:aa→Option aa):Option aa:=ak4 N x.1 (fun r0 r1=>kf ⟨[⟨(.sl aP),(.o 104 none .k),r0⟩,⟨.bool,.k,r1⟩],[]⟩)
noncomputable def PE (N:Nat):=au KX (ahL N)
noncomputable def aoz (N:Nat):List Entry:=[⟨143,[.val],(jn N)⟩,⟨187,[.val],(Gx N)⟩,⟨186,[.val,.val],(yp N)⟩]
theorem aoA (N:Nat):bL KX (ahL N) hq (aoz N) (dO N N) Tryz.f101:=fun _ _=>by kernel_rfl
theorem aoB {Γ:Gl} (N:Nat):Sound Γ Tryz.prog 101 (PE N):=e9 hq Tryz.f101 (aoA N) ⟨nq N,⟨YB N,⟨YD N,trivial⟩⟩⟩
noncomputable def vQ:List Kd:=.v (.sl bo) .k::.v (.sl bY) .k::.v (.sl aP) .k::.v (.sl (.int .i64)) .k::dn 14 (.v (.sl bY) .k::.v (.int .i64) .k::.v (.int .i64) .k::dn 38 ([]))
noncomputable def yq:List Kd:=dn 59 ([])
noncomputable def yr:List Kd:=dn 8 (.v (.sl (.int .i64)) (.o 3 none .k)::.v .bool .k::dn 49 ([]))
noncomputable def Uu:Hint:={ tab,hn:=[],loops:=[(4,vQ)],outs:=[(4,2,yq),(4,1,yr)],bj:=[(6,(OT.seq [0,1,2,3,4,5,6,7,8,9,10,11,12] .done)),(7,(OT.seq [4,6,7,0,1,2,3] (.any [5,8] (OT.seq [9,10,11,12,13,14,15] .done))))] }
noncomputable def D0:List AK:=[.v (.sl bo) .k,.v (.sl bY) .k,.v (.sl aP) .k,.v (.sl (.int .i64)) .k]
noncomputable def ahM (N:Nat) (x:aw D0) (kf:aa→Option aa):Option aa:=SS N x.1 x.2.1 x.2.2.1 x.2.2.2.1 (fun r0 r1=>kf ⟨[⟨(.sl (.int .i64)),(.o 3 none .k),r0⟩,⟨.bool,.k,r1⟩],[]⟩)
noncomputable def yt (N:Nat):=au D0 (ahM N)
noncomputable def KY (N:Nat):List Entry:=[⟨82,[.val,.val],(x7 N)⟩,⟨83,[.val,.val,.val],(Kr N)⟩,⟨166,[.val],(sq N)⟩,⟨188,[.val,.val,.val,.val],(yt N)⟩]
noncomputable def Bm:Code:=aI Tryz.f188
noncomputable def KZ (N n:Nat) (key:Nat) (S:St) (K:Ks):Option aa:=bif Nat.beq key 4 then ay vQ S (fun x=>mW N (SS N) x.1 x.2.1 x.2.2.1 x.2.2.2.1 x.2.2.2.2.1 x.2.2.2.2.2.1 n (K (.x 0) (shape yq ())) (fun z0 z1=>K .r (shape yr (z0,z1,()))) x.2.2.2.2.2.2.1) else none
theorem aoC (N key:Nat) (S:St) (K:Ks):KZ N 0 key S K=none:=(bC (aq fun _=>rfl) rfl)
noncomputable def PF:Code:=(af Bm).getD 0 .skip
theorem aoD:af Bm=[PF]:=by kernel_rfl
theorem acb (N:Nat):dB Uu (KY N) (KZ N) N 4 vQ PF:=fun _ _ _=>by kernel_rfl
theorem aoE (N:Nat) (x:aw D0) (kf:aa→Option aa):ahM (N+1) x kf=lR Uu (jr.of (KY N)) (KZ N N) Tryz.f188 (dU D0 x) kf:=by kernel_rfl
theorem YE {Γ:Gl}:∀ N:Nat,Sound Γ Tryz.prog 188 (yt N)
 |0=>pc fun al kf=>by
  unfold yt au
  split<;>rfl
 |N+1=>iX (hh:=Uu) mixed kX (es:=KY N) ⟨Kp N,⟨ag5 N,⟨DT N,⟨YE N,trivial⟩⟩⟩⟩ (fn:=Tryz.f188) (body:=Bm) (by kernel_rfl) (by kernel_rfl) (by kernel_rfl) (by kernel_rfl) (by kernel_rfl) (Lf:=KZ N) (aoC N) aoD (rc (acb N) trivial) (N:=N) (by kernel_rfl) (aoE N) (.inl (by kernel_rfl))
noncomputable def K0:List AK:=[.v (.sl bo) .k,.v (.sl bY) .k,.v (.sl aP) .k]
noncomputable def ahN (N:Nat) (x:aw K0) (kf:aa→Option aa):Option aa:=ak5 N x.1 x.2.1 x.2.2.1 (fun r0 r1=>kf ⟨[⟨(.sl (.int .i64)),(.o 3 none .k),r0⟩,⟨.bool,.k,r1⟩],[]⟩)
noncomputable def PG (N:Nat):=au K0 (ahN N)
noncomputable def aoF (N:Nat):List Entry:=[⟨79,[.val],(DX N)⟩,⟨143,[.val],(jn N)⟩,⟨188,[.val,.val,.val,.val],(yt N)⟩]
theorem aoG (N:Nat):bL K0 (ahN N) hq (aoF N) (dO N N) Tryz.f102:=fun _ _=>by kernel_rfl
theorem aoH {Γ:Gl} (N:Nat):Sound Γ Tryz.prog 102 (PG N):=e9 hq Tryz.f102 (aoG N) ⟨TZ N,⟨nq N,⟨YE N,trivial⟩⟩⟩
noncomputable def atB:Hint:={ tab,hn:=[],loops:=[],outs:=[],bj:=[(8,(OT.seq [0,5,1,2,3] (.par [4,6,7,8] [[50,51]] (OT.seq [9,10] .done))))] }
noncomputable def Uv:List AK:=[.v bM .k]
noncomputable def atC (N:Nat) (x:aw Uv) (kf:aa→Option aa):Option aa:=I23 N x.1 (fun r0 r1=>kf ⟨[⟨bM,(.p (.o 46 none (.p .k (.p .k (.p .k (.p .k (.p .k (.o 3 none .k))))))) (.p (.o 80 none (.p .k (.p .k (.o 3 none .k)))) (.p (.o 104 none .k) (.p (.o 3 none .k) (.p (.o 136 none .k) (.p (.o 102 none .k) .k)))))),r0⟩,⟨.bool,.k,r1⟩],[]⟩)
noncomputable def YF (N:Nat):=au Uv (atC N)
noncomputable def axi (N:Nat):List Entry:=[⟨70,[.val],(km N)⟩,⟨39,[.val],(yd N)⟩,⟨16,[.val],(tk N)⟩,⟨101,[.val],(PE N)⟩,⟨102,[.val,.val,.val],(PG N)⟩,⟨103,[.val,.take,.val,.val],(mF N)⟩]
theorem axj (N:Nat):bL Uv (atC N) atB (axi N) (dO N N) Tryz.f23:=fun _ _=>by kernel_rfl
theorem axk {Γ:Gl} (N:Nat):Sound Γ Tryz.prog 23 (YF N):=e9 atB Tryz.f23 (axj N) ⟨qo N,⟨Kw N,⟨Gj N,⟨aoB N,⟨aoH N,⟨tq N,trivial⟩⟩⟩⟩⟩⟩
noncomputable def Uw:List AK:=[.v bM .k,.v (.int .i64) .k,.v (.int .i64) .k,.v (.int .i64) .k]
noncomputable def atD (N:Nat) (x:aw Uw) (kf:aa→Option aa):Option aa:=I35 N x.1 x.2.1 x.2.2.1 x.2.2.2.1 (fun r0 r1=>kf ⟨[⟨bM,(.p (.o 46 none (.p .k (.p .k (.p .k (.p .k (.p .k (.o 3 none .k))))))) (.p (.o 80 none (.p .k (.p .k (.o 3 none .k)))) (.p (.o 104 none .k) (.p (.o 3 none .k) (.p (.o 136 none .k) (.p (.o 102 none .k) .k)))))),r0⟩,⟨.bool,.k,r1⟩],[]⟩)
noncomputable def YG (N:Nat):=au Uw (atD N)
noncomputable def axl (N:Nat):List Entry:=[⟨70,[.val],(km N)⟩,⟨39,[.val],(yd N)⟩,⟨138,[.val],(yb N)⟩,⟨103,[.val,.take,.val,.val],(mF N)⟩]
theorem axm (N:Nat):bL Uw (atD N) hq (axl N) (dO N N) Tryz.f35:=fun _ _=>by kernel_rfl
theorem axn {Γ:Gl} (N:Nat):Sound Γ Tryz.prog 35 (YG N):=e9 hq Tryz.f35 (axm N) ⟨qo N,⟨Kw N,⟨Ku N,⟨tq N,trivial⟩⟩⟩⟩
noncomputable def Bn:List Kd:=dn 3 (.v (.sl (.int .i64)) (.o 3 none .k)::dn 4 (.v (.sl dh) .k::.v (.int .i64) .k::.v (.int .i64) .k::dn 13 ([])))
noncomputable def Da:List Kd:=dn 3 (.v (.sl (.int .i64)) (.o 3 none .k)::dn 20 ([]))
noncomputable def ahO:Hint:={ tab,hn:=[],loops:=[(3,Bn)],outs:=[(3,2,Da)],bj:=[] }
noncomputable def Ux:List AK:=[.v bM .k]
noncomputable def atE (N:Nat) (x:aw Ux) (kf:aa→Option aa):Option aa:=I41 N x.1 (fun r0=>kf ⟨[⟨(.sl (.int .i64)),(.o 3 none .k),r0⟩],[]⟩)
noncomputable def YH (N:Nat):=au Ux (atE N)
noncomputable def Gy:Code:=aI Tryz.f41
noncomputable def ahP (N n:Nat) (key:Nat) (S:St) (K:Ks):Option aa:=bif Nat.beq key 3 then ay Bn S (fun x=>rP x.2.1 x.2.2.1 n (fun z0=>K (.x 0) (shape Da (z0,()))) x.1 x.2.2.2.1) else none
theorem axo (N key:Nat) (S:St) (K:Ks):ahP N 0 key S K=none:=(bC (aq fun _=>rfl) rfl)
noncomputable def YI:Code:=(af Gy).getD 0 .skip
theorem axp:af Gy=[YI]:=by kernel_rfl
theorem ahQ (N:Nat):dB ahO [] (ahP N) N 3 Bn YI:=fun _ _ _=>by kernel_rfl
theorem axq (N:Nat):bL Ux (atE N) ahO [] (ahP N N) Tryz.f41:=fun _ _=>by kernel_rfl
theorem axr {Γ:Gl} (N:Nat):Sound Γ Tryz.prog 41 (YH N):=eZ ahO Tryz.f41 Gy (axo N) axp (axq N) (rc (ahQ N) trivial) trivial
noncomputable def vR:List Kd:=.v (.sl dh) .k::dn 7 (.v (.sl dh) .k::.v (.int .i64) .k::.v (.int .i64) .k::dn 23 ([]))
noncomputable def yu:List Kd:=dn 34 ([])
noncomputable def yv:List Kd:=dK::dK::.v .bool .k::dn 31 ([])
noncomputable def Uy:Hint:={ tab,hn:=[],loops:=[(4,vR)],outs:=[(4,2,yu),(4,1,yv)],bj:=[(6,(OT.seq [0,1,2,3,4,5,6,7,8,9,10,11,12,13,14,15,16,17] .done))] }
noncomputable def K1:List AK:=[.v (.sl dh) .k]
noncomputable def ahR (N:Nat) (x:aw K1) (kf:aa→Option aa):Option aa:=aaI N x.1 (fun r0=>kf ⟨[⟨.bool,.k,r0⟩],[]⟩)
noncomputable def yw (N:Nat):=au K1 (ahR N)
noncomputable def YJ (N:Nat):List Entry:=[⟨138,[.val],(yb N)⟩]
noncomputable def Bo:Code:=aI Tryz.f205
noncomputable def Uz (N n:Nat) (key:Nat) (S:St) (K:Ks):Option aa:=bif Nat.beq key 4 then ay vR S (fun x=>mX N x.1 x.2.1 x.2.2.1 n (K (.x 0) (shape yu ())) (fun z0=>K .r (shape yv (z0,()))) x.2.2.2.1) else none
theorem aoI (N key:Nat) (S:St) (K:Ks):Uz N 0 key S K=none:=(bC (aq fun _=>rfl) rfl)
noncomputable def PH:Code:=(af Bo).getD 0 .skip
theorem aoJ:af Bo=[PH]:=by kernel_rfl
theorem acd (N:Nat):dB Uy (YJ N) (Uz N) N 4 vR PH:=fun _ _ _=>by kernel_rfl
theorem aoK (N:Nat):bL K1 (ahR N) Uy (YJ N) (Uz N N) Tryz.f205:=fun _ _=>by kernel_rfl
theorem K2 {Γ:Gl} (N:Nat):Sound Γ Tryz.prog 205 (yw N):=eZ Uy Tryz.f205 Bo (aoI N) aoJ (aoK N) (rc (acd N) trivial) ⟨Ku N,trivial⟩
noncomputable def K3:List AK:=[.v dh .k]
noncomputable def ahS (N:Nat) (x:aw K3) (kf:aa→Option aa):Option aa:=aaJ N x.1 (fun r0=>kf ⟨[⟨(.int .i64),.k,r0⟩],[]⟩)
noncomputable def Gz (N:Nat):=au K3 (ahS N)
theorem aoL (N:Nat):bL K3 (ahS N) hq [] (dO N N) Tryz.f208:=fun _ _=>by kernel_rfl
theorem YK {Γ:Gl} (N:Nat):Sound Γ Tryz.prog 208 (Gz N):=e9 hq Tryz.f208 (aoL N) trivial
noncomputable def vS:List Kd:=dK::.v (.int .i64) .k::dn 3 (.v (.int .i64) .k::dn 6 (.v (.sl dh) .k::.v (.int .i64) .k::.v (.int .i64) .k::dn 11 ([])))
noncomputable def yx:List Kd:=dn 5 (.v (.int .i64) .k::dn 20 ([]))
noncomputable def UA:Hint:={ tab,hn:=[],loops:=[(5,vS)],outs:=[(5,2,yx)],bj:=[] }
noncomputable def K4:List AK:=[.v (.sl dh) .k,.v (.int .i64) .k]
noncomputable def ahT (N:Nat) (x:aw K4) (kf:aa→Option aa):Option aa:=aeH N x.1 x.2.1 (fun r0=>kf ⟨[⟨(.int .i64),.k,r0⟩],[]⟩)
noncomputable def PI (N:Nat):=au K4 (ahT N)
noncomputable def YL (N:Nat):List Entry:=[⟨205,[.val],(yw N)⟩,⟨208,[.val],(Gz N)⟩]
noncomputable def Bp:Code:=aI Tryz.f206
noncomputable def UB (N n:Nat) (key:Nat) (S:St) (K:Ks):Option aa:=bif Nat.beq key 5 then ay vS S (fun x=>mY N x.1 x.2.2.1 x.2.2.2.1 n (fun z0=>K (.x 0) (shape yx (z0,()))) x.2.1 x.2.2.2.2.1) else none
theorem aoM (N key:Nat) (S:St) (K:Ks):UB N 0 key S K=none:=(bC (aq fun _=>rfl) rfl)
noncomputable def PJ:Code:=(af Bp).getD 0 .skip
theorem aoN:af Bp=[PJ]:=by kernel_rfl
theorem ace (N:Nat):dB UA (YL N) (UB N) N 5 vS PJ:=fun _ _ _=>by kernel_rfl
theorem aoO (N:Nat):bL K4 (ahT N) UA (YL N) (UB N N) Tryz.f206:=fun _ _=>by kernel_rfl
theorem aoP {Γ:Gl} (N:Nat):Sound Γ Tryz.prog 206 (PI N):=eZ UA Tryz.f206 Bp (aoM N) aoN (aoO N) (rc (ace N) trivial) ⟨K2 N,⟨YK N,trivial⟩⟩
noncomputable def vT:List Kd:=dK::.v (.int .i64) .k::dn 3 (.v (.int .i64) .k::dn 6 (.v (.sl dh) .k::.v (.int .i64) .k::.v (.int .i64) .k::dn 18 ([])))
noncomputable def yy:List Kd:=dn 5 (.v (.int .i64) .k::dn 27 ([]))
noncomputable def UC:Hint:={ tab,hn:=[],loops:=[(5,vT)],outs:=[(5,2,yy)],bj:=[] }
noncomputable def K5:List AK:=[.v (.sl dh) .k,.v (.int .i64) .k]
noncomputable def ahU (N:Nat) (x:aw K5) (kf:aa→Option aa):Option aa:=SU N x.1 x.2.1 (fun r0=>kf ⟨[⟨(.int .i64),.k,r0⟩],[]⟩)
noncomputable def PK (N:Nat):=au K5 (ahU N)
noncomputable def YM (N:Nat):List Entry:=[⟨205,[.val],(yw N)⟩]
noncomputable def Bq:Code:=aI Tryz.f207
noncomputable def UD (N n:Nat) (key:Nat) (S:St) (K:Ks):Option aa:=bif Nat.beq key 5 then ay vT S (fun x=>lu x.1 x.2.2.1 x.2.2.2.1 n (fun z0=>K (.x 0) (shape yy (z0,()))) x.2.1 x.2.2.2.2.1) else none
theorem aoQ (N key:Nat) (S:St) (K:Ks):UD N 0 key S K=none:=(bC (aq fun _=>rfl) rfl)
noncomputable def PL:Code:=(af Bq).getD 0 .skip
theorem aoR:af Bq=[PL]:=by kernel_rfl
theorem acf (N:Nat):dB UC (YM N) (UD N) N 5 vT PL:=fun _ _ _=>by kernel_rfl
theorem aoS (N:Nat):bL K5 (ahU N) UC (YM N) (UD N N) Tryz.f207:=fun _ _=>by kernel_rfl
theorem aoT {Γ:Gl} (N:Nat):Sound Γ Tryz.prog 207 (PK N):=eZ UC Tryz.f207 Bq (aoQ N) aoR (aoS N) (rc (acf N) trivial) ⟨K2 N,trivial⟩
noncomputable def K6:List AK:=[.v (.sl dh) .k]
noncomputable def ahV (N:Nat) (x:aw K6) (kf:aa→Option aa):Option aa:=aaK N x.1 (fun r0=>kf ⟨[⟨(.int .i64),.k,r0⟩],[]⟩)
noncomputable def PM (N:Nat):=au K6 (ahV N)
noncomputable def aoU (N:Nat):List Entry:=[⟨205,[.val],(yw N)⟩,⟨206,[.val,.val],(PI N)⟩,⟨207,[.val,.val],(PK N)⟩,⟨208,[.val],(Gz N)⟩]
theorem aoV (N:Nat):bL K6 (ahV N) hq (aoU N) (dO N N) Tryz.f129:=fun _ _=>by kernel_rfl
theorem aoW {Γ:Gl} (N:Nat):Sound Γ Tryz.prog 129 (PM N):=e9 hq Tryz.f129 (aoV N) ⟨K2 N,⟨aoP N,⟨aoT N,⟨YK N,trivial⟩⟩⟩⟩
noncomputable def ahW:Hint:={ tab,hn:=[],loops:=[],outs:=[],bj:=[(5,(OT.seq [4,5,6,7,8] (.own 65 (OT.seq [9,0,1,2,3,12,13,14,15,17] (.par [10,11,16,18] [[74,75],[65,66,67,68]] (.own 73 (OT.seq [19,20,21,22,23,24,25] .done)))))))] }
noncomputable def K7:List AK:=[.v (.sl bo) .k,.v (.int .i64) .k,.v (.int .i64) .k,.v (.int .i64) .k,.v (.int .i64) .k,.v (.int .i64) .k]
noncomputable def ahX (N:Nat) (x:aw K7) (kf:aa→Option aa):Option aa:=aaL N x.1 x.2.1 x.2.2.1 x.2.2.2.1 x.2.2.2.2.1 x.2.2.2.2.2.1 (fun r0 r1=>kf ⟨[⟨(.sl bo),(.o 46 none (.p .k (.p .k (.p .k (.p .k (.p .k (.o 3 none .k))))))),r0⟩,⟨.bool,.k,r1⟩],[]⟩)
noncomputable def PN (N:Nat):=au K7 (ahX N)
noncomputable def aoX (N:Nat):List Entry:=[⟨163,[.val],(Gh N)⟩,⟨40,[.val,.val],(lF N)⟩,⟨143,[.val],(jn N)⟩,⟨144,[.val,.val,.val],(kI N)⟩]
theorem aoY (N:Nat):bL K7 (ahX N) ahW (aoX N) (dO N N) Tryz.f128:=fun _ _=>by kernel_rfl
theorem aoZ {Γ:Gl} (N:Nat):Sound Γ Tryz.prog 128 (PN N):=e9 ahW Tryz.f128 (aoY N) ⟨XY N,⟨sr N,⟨nq N,⟨qp N,trivial⟩⟩⟩⟩
def ahY:Go.Shelf.Ren:=⟨fun n=>bif Nat.beq n 125 then 211 else bif Nat.beq n 128 then 244 else bif Nat.beq n 129 then 245 else bif Nat.beq n 189 then 131 else bif Nat.beq n 215 then 253 else bif Nat.beq n 216 then 241 else bif Nat.beq n 257 then 210 else bif Nat.beq n 294 then 235 else bif Nat.beq n 295 then 236 else bif Nat.beq n 296 then 237 else bif Nat.beq n 297 then 238 else bif Nat.beq n 298 then 239 else bif Nat.beq n 299 then 240 else bif Nat.beq n 300 then 242 else bif Nat.beq n 301 then 243 else bif Nat.beq n 328 then 254 else bif Nat.beq n 329 then 255 else bif Nat.beq n 330 then 256 else bif Nat.beq n 331 then 257 else bif Nat.beq n 332 then 258 else bif Nat.beq n 343 then 271 else n,fun n=>bif Nat.beq n 0 then 0 else bif Nat.beq n 3 then 3 else bif Nat.beq n 4 then 4 else bif Nat.beq n 5 then 5 else bif Nat.beq n 9 then 9 else bif Nat.beq n 28 then 27 else bif Nat.beq n 46 then 194 else bif Nat.beq n 51 then 216 else bif Nat.beq n 53 then 218 else bif Nat.beq n 131 then 213 else bif Nat.beq n 182 then 207 else bif Nat.beq n 183 then 208 else bif Nat.beq n 218 then 222 else bif Nat.beq n 222 then 226 else bif Nat.beq n 228 then 235 else bif Nat.beq n 229 then 236 else n,fun n=>n⟩
theorem acg:Lays.n189 Tryz.prog ahY:={ mixed:=by kernel_rfl,f125:=by kernel_rfl,f128:=by kernel_rfl,f129:=by kernel_rfl,f189:=by kernel_rfl,f215:=by kernel_rfl,f216:=by kernel_rfl,f257:=by kernel_rfl,f294:=by kernel_rfl,f295:=by kernel_rfl,f296:=by kernel_rfl,f297:=by kernel_rfl,f298:=by kernel_rfl,f299:=by kernel_rfl,f300:=by kernel_rfl,f301:=by kernel_rfl,f328:=by kernel_rfl,f329:=by kernel_rfl,f330:=by kernel_rfl,f331:=by kernel_rfl,f332:=by kernel_rfl,f343:=by kernel_rfl,t0:=by kernel_rfl,a0:=fun w=>by kernel_rfl,z0:=fun w=>by kernel_rfl,v0:=fun w=>by kernel_rfl,t3:=by kernel_rfl,a3:=fun w=>by kernel_rfl,z3:=fun w=>by kernel_rfl,v3:=fun w=>by kernel_rfl,t4:=by kernel_rfl,a4:=fun w=>by kernel_rfl,z4:=fun w=>by kernel_rfl,v4:=fun w=>by kernel_rfl,t5:=by kernel_rfl,a5:=fun w=>by kernel_rfl,z5:=fun w=>by kernel_rfl,v5:=fun w=>by kernel_rfl,t9:=by kernel_rfl,a9:=fun w=>by kernel_rfl,z9:=fun w=>by kernel_rfl,v9:=fun w=>by kernel_rfl,t28:=by kernel_rfl,a28:=fun w=>by kernel_rfl,z28:=fun w=>by kernel_rfl,v28:=fun w=>by kernel_rfl,t46:=by kernel_rfl,a46:=fun w=>by kernel_rfl,z46:=fun w=>by kernel_rfl,v46:=fun w=>by kernel_rfl,t51:=by kernel_rfl,a51:=fun w=>by kernel_rfl,z51:=fun w=>by kernel_rfl,v51:=fun w=>by kernel_rfl,t53:=by kernel_rfl,a53:=fun w=>by kernel_rfl,z53:=fun w=>by kernel_rfl,v53:=fun w=>by kernel_rfl,t131:=by kernel_rfl,a131:=fun w=>by kernel_rfl,z131:=fun w=>by kernel_rfl,v131:=fun w=>by kernel_rfl,t182:=by kernel_rfl,a182:=fun w=>by kernel_rfl,z182:=fun w=>by kernel_rfl,v182:=fun w=>by kernel_rfl,t183:=by kernel_rfl,a183:=fun w=>by kernel_rfl,z183:=fun w=>by kernel_rfl,v183:=fun w=>by kernel_rfl,t218:=by kernel_rfl,a218:=fun w=>by kernel_rfl,z218:=fun w=>by kernel_rfl,v218:=fun w=>by kernel_rfl,t222:=by kernel_rfl,a222:=fun w=>by kernel_rfl,z222:=fun w=>by kernel_rfl,v222:=fun w=>by kernel_rfl,t228:=by kernel_rfl,a228:=fun w=>by kernel_rfl,z228:=fun w=>by kernel_rfl,v228:=fun w=>by kernel_rfl,t229:=by kernel_rfl,a229:=fun w=>by kernel_rfl,z229:=fun w=>by kernel_rfl,v229:=fun w=>by kernel_rfl }
noncomputable def YN:List AK:=[.v (.sl (.int .i64)) (.o 3 (some 0) .k)]
noncomputable def axs (N:Nat) (x:aw YN) (kf:aa→Option aa):Option aa:=aaM N x.1 (fun z=>kf ⟨[],[⟨(.sl (.int .i64)),(.o 3 (some 0) .k),z⟩]⟩)
noncomputable def PO (N:Nat):=au YN (axs N)
theorem ao0 {Γ:Gl} (N:Nat):Sound Γ Tryz.prog 131 (PO N):=Tw acg 3
def ahZ:Go.Shelf.Ren:=⟨fun n=>bif Nat.beq n 20 then 132 else n,fun n=>bif Nat.beq n 0 then 0 else bif Nat.beq n 3 then 3 else bif Nat.beq n 4 then 4 else bif Nat.beq n 22 then 27 else n,fun n=>n⟩
theorem ach:Lays2.n20 Tryz.prog ahZ:={ mixed:=by kernel_rfl,f20:=by kernel_rfl,t0:=by kernel_rfl,a0:=fun w=>by kernel_rfl,z0:=fun w=>by kernel_rfl,v0:=fun w=>by kernel_rfl,t3:=by kernel_rfl,a3:=fun w=>by kernel_rfl,z3:=fun w=>by kernel_rfl,v3:=fun w=>by kernel_rfl,t4:=by kernel_rfl,a4:=fun w=>by kernel_rfl,z4:=fun w=>by kernel_rfl,v4:=fun w=>by kernel_rfl,t22:=by kernel_rfl,a22:=fun w=>by kernel_rfl,z22:=fun w=>by kernel_rfl,v22:=fun w=>by kernel_rfl,i3:=by kernel_rfl }
noncomputable def YO:List AK:=[.v (.sl (.int .i64)) (.o 3 none .k)]
noncomputable def axt (N:Nat) (x:aw YO) (kf:aa→Option aa):Option aa:=aeN N x.1 (fun r0=>kf ⟨[⟨(.sl (.int .i64)),(.o 3 none .k),r0⟩],[]⟩)
noncomputable def PQ (N:Nat):=au YO (axt N)
theorem ao1 {Γ:Gl} (N:Nat):Sound Γ Tryz.prog 132 (PQ N):=Hp ach 3
noncomputable def Br:List Kd:=dK::.v (.ptr bM) (.o 31 none .k)::.v (.ptr bM) (.o 31 none (.p (.o 46 none (.p .k (.p .k (.p .k (.p .k (.p .k (.o 3 none .k))))))) (.p (.o 80 none (.p .k (.p .k (.o 3 none .k)))) (.p (.o 104 none .k) (.p (.o 3 none .k) (.p (.o 136 none .k) (.p (.o 102 none .k) .k)))))))::dK::.v (.ptr bM) (.o 31 none (.p (.o 46 none (.p .k (.p .k (.p .k (.p .k (.p .k (.o 3 none .k))))))) (.p (.o 80 none (.p .k (.p .k (.o 3 none .k)))) (.p (.o 104 none .k) (.p (.o 3 none .k) (.p (.o 136 none .k) (.p (.o 102 none .k) .k)))))))::dn 25 (.v (.sl aP) .k::.v (.int .i64) .k::.v (.int .i64) .k::dn 76 ([]))
noncomputable def Db:List Kd:=dK::.v (.ptr bM) (.o 31 none .k)::.v (.ptr bM) (.o 31 none (.p (.o 46 none (.p .k (.p .k (.p .k (.p .k (.p .k (.o 3 none .k))))))) (.p (.o 80 none (.p .k (.p .k (.o 3 none .k)))) (.p (.o 104 none .k) (.p (.o 3 none .k) (.p (.o 136 none .k) (.p (.o 102 none .k) .k)))))))::dK::.v (.ptr bM) (.o 31 none (.p (.o 46 none (.p .k (.p .k (.p .k (.p .k (.p .k (.o 3 none .k))))))) (.p (.o 80 none (.p .k (.p .k (.o 3 none .k)))) (.p (.o 104 none .k) (.p (.o 3 none .k) (.p (.o 136 none .k) (.p (.o 102 none .k) .k)))))))::dn 104 ([])
noncomputable def Dc:List Kd:=dK::dK::.v (.ptr bM) (.o 31 none (.p (.o 46 none (.p .k (.p .k (.p .k (.p .k (.p .k (.o 3 none .k))))))) (.p (.o 80 none (.p .k (.p .k (.o 3 none .k)))) (.p (.o 104 none .k) (.p (.o 3 none .k) (.p (.o 136 none .k) (.p (.o 102 none .k) .k)))))))::.v .bool .k::dn 105 ([])
noncomputable def ah0:Hint:={ tab,hn:=[],loops:=[(5,Br)],outs:=[(5,2,Db),(5,1,Dc)],bj:=[(8,(OT.seq [0,1,2,3,4,5,6,9,10,11,12,7,8,13,14,15,17,16,18,19] .done)),(11,(OT.seq [0,1,2,3,4,5,6,7,8] .done)),(12,(OT.seq [0,1,2,3,4,5,6,7,8,9,10,11,12] .done)),(14,(OT.seq [3,0,2] (.par [1,4] [[4,86,87]] (OT.seq [5,6,7] .done))))] }
noncomputable def UE:List AK:=[.v bM .k]
noncomputable def atF (N:Nat) (x:aw UE) (kf:aa→Option aa):Option aa:=I28 N x.1 (fun r0 r1=>kf ⟨[⟨bM,(.p (.o 46 none (.p .k (.p .k (.p .k (.p .k (.p .k (.o 3 none .k))))))) (.p (.o 80 none (.p .k (.p .k (.o 3 none .k)))) (.p (.o 104 none .k) (.p (.o 3 none .k) (.p (.o 136 none .k) (.p (.o 102 none .k) .k)))))),r0⟩,⟨.bool,.k,r1⟩],[]⟩)
noncomputable def YP (N:Nat):=au UE (atF N)
noncomputable def ah1 (N:Nat):List Entry:=[⟨39,[.val],(yd N)⟩,⟨16,[.val],(tk N)⟩,⟨41,[.val],(YH N)⟩,⟨70,[.val],(km N)⟩,⟨129,[.val],(PM N)⟩,⟨128,[.val,.val,.val,.val,.val,.val],(PN N)⟩,⟨130,[.val,.val],(Gv N)⟩,⟨131,[.ns],(PO N)⟩,⟨132,[.take],(PQ N)⟩,⟨103,[.val,.take,.val,.val],(mF N)⟩]
noncomputable def GA:Code:=aI Tryz.f28
noncomputable def ah2 (N n:Nat) (key:Nat) (S:St) (K:Ks):Option aa:=bif Nat.beq key 5 then ay Br S (fun x=>uY N x.1 x.2.1 x.2.2.2.1 x.2.2.2.2.1 n (fun z0=>K (.x 0) (shape Db (x.1,x.2.1,z0,()))) (fun z0 z1=>K .r (shape Dc (z0,z1,()))) x.2.2.1 x.2.2.2.2.2.1) else none
theorem axu (N key:Nat) (S:St) (K:Ks):ah2 N 0 key S K=none:=(bC (aq fun _=>rfl) rfl)
noncomputable def YQ:Code:=(af GA).getD 0 .skip
theorem axv:af GA=[YQ]:=by kernel_rfl
theorem ah3 (N:Nat):dB ah0 (ah1 N) (ah2 N) N 5 Br YQ:=fun _ _ _=>by kernel_rfl
theorem axw (N:Nat):bL UE (atF N) ah0 (ah1 N) (ah2 N N) Tryz.f28:=fun _ _=>by kernel_rfl
theorem axx {Γ:Gl} (N:Nat):Sound Γ Tryz.prog 28 (YP N):=eZ ah0 Tryz.f28 GA (axu N) axv (axw N) (rc (ah3 N) trivial) ⟨Kw N,⟨Gj N,⟨axr N,⟨qo N,⟨aoW N,⟨aoZ N,⟨Yv N,⟨ao0 N,⟨ao1 N,⟨tq N,trivial⟩⟩⟩⟩⟩⟩⟩⟩⟩⟩
def ah4:Go.Shelf.Ren:=⟨fun n=>bif Nat.beq n 45 then 142 else n,fun n=>bif Nat.beq n 0 then 0 else bif Nat.beq n 3 then 3 else bif Nat.beq n 4 then 4 else bif Nat.beq n 22 then 24 else bif Nat.beq n 23 then 46 else n,fun n=>n⟩
def ao2:Array Value:=#[.int .i64 0,.int .i64 0,.int .i64 0,.int .i64 0,.int .i64 0,.slice none 0 0]
noncomputable def ao3:TypeInfo:=(Tryz.prog.info? 46).get (by kernel_rfl)
theorem ah5:atf Tryz.prog ah4 (bo).size ao2 ao3:={ FB:=⟨Tryz.f142.name,by kernel_rfl,by kernel_rfl⟩,mixed:=by kernel_rfl,t0:=by kernel_rfl,a0:=fun w=>by kernel_rfl,z0:=fun w=>by kernel_rfl,v0:=fun w=>by kernel_rfl,t3:=by kernel_rfl,a3:=fun w=>by kernel_rfl,z3:=fun w=>by kernel_rfl,v3:=fun w=>by kernel_rfl,t4:=by kernel_rfl,a4:=fun w=>by kernel_rfl,z4:=fun w=>by kernel_rfl,v4:=fun w=>by kernel_rfl,t22:=by kernel_rfl,a22:=fun w=>by kernel_rfl,z22:=fun w=>by kernel_rfl,v22:=fun w=>by kernel_rfl,z23:=fun w=>by kernel_rfl,v23:=fun w=>by kernel_rfl,hz:=by kernel_rfl,hzo:=by kernel_rfl,I8:=by kernel_rfl,Nf:=by kernel_rfl }
noncomputable def YR:List AK:=[.v (.sl bo) (.o 46 none (.p .k (.p .k (.p .k (.p .k (.p .k (.o 3 none .k))))))),.v (.int .i64) .k,.v (.int .i64) .k]
noncomputable def axy (N:Nat) (x:aw YR) (kf:aa→Option aa):Option aa:=avf N x.1 x.2.1 x.2.2.1 (fun r0=>kf ⟨[⟨(.sl bo),(.o 46 none (.p .k (.p .k (.p .k (.p .k (.p .k (.o 3 none .k))))))),r0⟩],[]⟩)
noncomputable def PR (N:Nat):=au YR (axy N)
theorem ao4 {Γ:Gl} (N:Nat):Sound Γ Tryz.prog 142 (PR N):=JZ ah5 46 (.p .k (.p .k (.p .k (.p .k (.p .k (.o 3 none .k)))))) (by kernel_rfl)
noncomputable def UF:List AK:=[.v bM .k,.v (.int .i64) .k]
noncomputable def atG (N:Nat) (x:aw UF) (kf:aa→Option aa):Option aa:=I38 N x.1 x.2.1 (fun r0 r1=>kf ⟨[⟨bM,(.p (.o 46 none (.p .k (.p .k (.p .k (.p .k (.p .k (.o 3 none .k))))))) (.p (.o 80 none (.p .k (.p .k (.o 3 none .k)))) (.p (.o 104 none .k) (.p (.o 3 none .k) (.p (.o 136 none .k) (.p (.o 102 none .k) .k)))))),r0⟩,⟨.bool,.k,r1⟩],[]⟩)
noncomputable def YS (N:Nat):=au UF (atG N)
noncomputable def axz (N:Nat):List Entry:=[⟨70,[.val],(km N)⟩,⟨40,[.val,.val],(lF N)⟩,⟨16,[.val],(tk N)⟩,⟨142,[.take,.val,.val],(PR N)⟩,⟨103,[.val,.take,.val,.val],(mF N)⟩]
theorem axA (N:Nat):bL UF (atG N) hq (axz N) (dO N N) Tryz.f38:=fun _ _=>by kernel_rfl
theorem axB {Γ:Gl} (N:Nat):Sound Γ Tryz.prog 38 (YS N):=e9 hq Tryz.f38 (axA N) ⟨qo N,⟨sr N,⟨Gj N,⟨ao4 N,⟨tq N,trivial⟩⟩⟩⟩⟩
noncomputable def UG:List AK:=[.v bM .k,.v bW .k]
noncomputable def atH (N:Nat) (x:aw UG) (kf:aa→Option aa):Option aa:=I13 N x.1 x.2.1 (fun r0 r1=>kf ⟨[⟨bM,(.p (.o 46 none (.p .k (.p .k (.p .k (.p .k (.p .k (.o 3 none .k))))))) (.p (.o 80 none (.p .k (.p .k (.o 3 none .k)))) (.p (.o 104 none .k) (.p (.o 3 none .k) (.p (.o 136 none .k) (.p (.o 102 none .k) .k)))))),r0⟩,⟨.bool,.k,r1⟩],[]⟩)
noncomputable def YT (N:Nat):=au UG (atH N)
noncomputable def axC (N:Nat):List Entry:=[⟨30,[.val,.val,.val],(Ys N)⟩,⟨32,[.val,.val,.val],(Yx N)⟩,⟨23,[.val],(YF N)⟩,⟨35,[.val,.val,.val,.val],(YG N)⟩,⟨28,[.val],(YP N)⟩,⟨38,[.val,.val],(YS N)⟩,⟨70,[.val],(km N)⟩]
theorem axD (N:Nat):bL UG (atH N) hq (axC N) (dO N N) Tryz.f13:=fun _ _=>by kernel_rfl
theorem axE {Γ:Gl} (N:Nat):Sound Γ Tryz.prog 13 (YT N):=e9 hq Tryz.f13 (axD N) ⟨axb N,⟨axg N,⟨axk N,⟨axn N,⟨axx N,⟨axB N,⟨qo N,trivial⟩⟩⟩⟩⟩⟩⟩
noncomputable def UH:List AK:=[.v (.sl (.int .i64)) .k,.v (.int .i64) .k]
noncomputable def atI (N:Nat) (x:aw UH) (kf:aa→Option aa):Option aa:=L87 N x.1 x.2.1 (fun r0=>kf ⟨[⟨(.int .i64),.k,r0⟩],[]⟩)
noncomputable def D1 (N:Nat):=au UH (atI N)
theorem axF (N:Nat):bL UH (atI N) hq [] (dO N N) Tryz.f87:=fun _ _=>by kernel_rfl
theorem UI {Γ:Gl} (N:Nat):Sound Γ Tryz.prog 87 (D1 N):=e9 hq Tryz.f87 (axF N) trivial
noncomputable def K8:List AK:=[.v bo .k,.v (.int .i64) .k]
noncomputable def ah6 (N:Nat) (x:aw K8) (kf:aa→Option aa):Option aa:=aaN N x.1 x.2.1 (fun r0=>kf ⟨[⟨(.int .i64),.k,r0⟩],[]⟩)
noncomputable def PS (N:Nat):=au K8 (ah6 N)
noncomputable def ao5 (N:Nat):List Entry:=[⟨87,[.val,.val],(D1 N)⟩]
theorem ao6 (N:Nat):bL K8 (ah6 N) hq (ao5 N) (dO N N) Tryz.f171:=fun _ _=>by kernel_rfl
theorem ao7 {Γ:Gl} (N:Nat):Sound Γ Tryz.prog 171 (PS N):=e9 hq Tryz.f171 (ao6 N) ⟨UI N,trivial⟩
noncomputable def Bs:List Kd:=.v (.sl bo) .k::.v (.int .i64) .k::dn 3 (.v (.int .i64) .k::dn 21 ([]))
noncomputable def Dd:List Kd:=dK::.v (.int .i64) .k::dn 25 ([])
noncomputable def De:List Kd:=dn 4 (.v (.int .i64) .k::dn 22 ([]))
noncomputable def ah7:Hint:={ tab,hn:=[],loops:=[(5,Bs)],outs:=[(5,2,Dd),(5,1,De)],bj:=[] }
noncomputable def UJ:List AK:=[.v (.sl bo) .k,.v (.int .i64) .k]
noncomputable def atJ (N:Nat) (x:aw UJ) (kf:aa→Option aa):Option aa:=L84 N x.1 x.2.1 (fun r0=>kf ⟨[⟨(.int .i64),.k,r0⟩],[]⟩)
noncomputable def YU (N:Nat):=au UJ (atJ N)
noncomputable def ah8 (N:Nat):List Entry:=[⟨171,[.val,.val],(PS N)⟩]
noncomputable def GB:Code:=aI Tryz.f84
noncomputable def ah9 (N n:Nat) (key:Nat) (S:St) (K:Ks):Option aa:=bif Nat.beq key 5 then ay Bs S (fun x=>uZ N x.1 n (fun z0=>K (.x 0) (shape Dd (z0,()))) (fun z0=>K .r (shape De (z0,()))) x.2.1 x.2.2.1) else none
theorem axG (N key:Nat) (S:St) (K:Ks):ah9 N 0 key S K=none:=(bC (aq fun _=>rfl) rfl)
noncomputable def YV:Code:=(af GB).getD 0 .skip
theorem axH:af GB=[YV]:=by kernel_rfl
theorem ah' (N:Nat):dB ah7 (ah8 N) (ah9 N) N 5 Bs YV:=fun _ _ _=>by kernel_rfl
theorem axI (N:Nat):bL UJ (atJ N) ah7 (ah8 N) (ah9 N N) Tryz.f84:=fun _ _=>by kernel_rfl
theorem axJ {Γ:Gl} (N:Nat):Sound Γ Tryz.prog 84 (YU N):=eZ ah7 Tryz.f84 GB (axG N) axH (axI N) (rc (ah' N) trivial) ⟨ao7 N,trivial⟩
noncomputable def K9:List AK:=[.v bY .k,.v (.int .i64) .k]
noncomputable def aia (N:Nat) (x:aw K9) (kf:aa→Option aa):Option aa:=aaO N x.1 x.2.1 (fun r0=>kf ⟨[⟨(.int .i64),.k,r0⟩],[]⟩)
noncomputable def PT (N:Nat):=au K9 (aia N)
noncomputable def ao8 (N:Nat):List Entry:=[⟨87,[.val,.val],(D1 N)⟩]
theorem ao9 (N:Nat):bL K9 (aia N) hq (ao8 N) (dO N N) Tryz.f172:=fun _ _=>by kernel_rfl
theorem ao' {Γ:Gl} (N:Nat):Sound Γ Tryz.prog 172 (PT N):=e9 hq Tryz.f172 (ao9 N) ⟨UI N,trivial⟩
noncomputable def Bt:List Kd:=.v (.sl bY) .k::.v (.int .i64) .k::dn 3 (.v (.int .i64) .k::dn 21 ([]))
noncomputable def Df:List Kd:=dK::.v (.int .i64) .k::dn 25 ([])
noncomputable def Dg:List Kd:=dn 4 (.v (.int .i64) .k::dn 22 ([]))
noncomputable def aib:Hint:={ tab,hn:=[],loops:=[(5,Bt)],outs:=[(5,2,Df),(5,1,Dg)],bj:=[] }
noncomputable def UK:List AK:=[.v (.sl bY) .k,.v (.int .i64) .k]
noncomputable def atK (N:Nat) (x:aw UK) (kf:aa→Option aa):Option aa:=L85 N x.1 x.2.1 (fun r0=>kf ⟨[⟨(.int .i64),.k,r0⟩],[]⟩)
noncomputable def YW (N:Nat):=au UK (atK N)
noncomputable def aic (N:Nat):List Entry:=[⟨172,[.val,.val],(PT N)⟩]
noncomputable def GC:Code:=aI Tryz.f85
noncomputable def aid (N n:Nat) (key:Nat) (S:St) (K:Ks):Option aa:=bif Nat.beq key 5 then ay Bt S (fun x=>u5 N x.1 n (fun z0=>K (.x 0) (shape Df (z0,()))) (fun z0=>K .r (shape Dg (z0,()))) x.2.1 x.2.2.1) else none
theorem axK (N key:Nat) (S:St) (K:Ks):aid N 0 key S K=none:=(bC (aq fun _=>rfl) rfl)
noncomputable def YX:Code:=(af GC).getD 0 .skip
theorem axL:af GC=[YX]:=by kernel_rfl
theorem aie (N:Nat):dB aib (aic N) (aid N) N 5 Bt YX:=fun _ _ _=>by kernel_rfl
theorem axM (N:Nat):bL UK (atK N) aib (aic N) (aid N N) Tryz.f85:=fun _ _=>by kernel_rfl
theorem axN {Γ:Gl} (N:Nat):Sound Γ Tryz.prog 85 (YW N):=eZ aib Tryz.f85 GC (axK N) axL (axM N) (rc (aie N) trivial) ⟨ao' N,trivial⟩
noncomputable def UL:List AK:=[.v (.sl aP) .k,.v (.int .i64) .k]
noncomputable def atL (N:Nat) (x:aw UL) (kf:aa→Option aa):Option aa:=L86 N x.1 x.2.1 (fun r0=>kf ⟨[⟨(.int .i64),.k,r0⟩],[]⟩)
noncomputable def YY (N:Nat):=au UL (atL N)
theorem axO (N:Nat):bL UL (atL N) hq [] (dO N N) Tryz.f86:=fun _ _=>by kernel_rfl
theorem axP {Γ:Gl} (N:Nat):Sound Γ Tryz.prog 86 (YY N):=e9 hq Tryz.f86 (axO N) trivial
noncomputable def UM:List AK:=[.v (.sl dh) .k,.v (.int .i64) .k]
noncomputable def atM (N:Nat) (x:aw UM) (kf:aa→Option aa):Option aa:=L88 N x.1 x.2.1 (fun r0=>kf ⟨[⟨(.int .i64),.k,r0⟩],[]⟩)
noncomputable def YZ (N:Nat):=au UM (atM N)
theorem axQ (N:Nat):bL UM (atM N) hq [] (dO N N) Tryz.f88:=fun _ _=>by kernel_rfl
theorem axR {Γ:Gl} (N:Nat):Sound Γ Tryz.prog 88 (YZ N):=e9 hq Tryz.f88 (axQ N) trivial
noncomputable def UN:List AK:=[.v (.sl bW) .k,.v (.int .i64) .k]
noncomputable def atN (N:Nat) (x:aw UN) (kf:aa→Option aa):Option aa:=L89 N x.1 x.2.1 (fun r0=>kf ⟨[⟨(.int .i64),.k,r0⟩],[]⟩)
noncomputable def Y0 (N:Nat):=au UN (atN N)
theorem axS (N:Nat):bL UN (atN N) hq [] (dO N N) Tryz.f89:=fun _ _=>by kernel_rfl
theorem axT {Γ:Gl} (N:Nat):Sound Γ Tryz.prog 89 (Y0 N):=e9 hq Tryz.f89 (axS N) trivial
noncomputable def UO:List AK:=[.v bM .k,.v (.int .i64) .k]
noncomputable def atO (N:Nat) (x:aw UO) (kf:aa→Option aa):Option aa:=L20 N x.1 x.2.1 (fun r0=>kf ⟨[⟨(.int .i64),.k,r0⟩],[]⟩)
noncomputable def Y1 (N:Nat):=au UO (atO N)
noncomputable def axU (N:Nat):List Entry:=[⟨84,[.val,.val],(YU N)⟩,⟨85,[.val,.val],(YW N)⟩,⟨86,[.val,.val],(YY N)⟩,⟨87,[.val,.val],(D1 N)⟩,⟨88,[.val,.val],(YZ N)⟩,⟨89,[.val,.val],(Y0 N)⟩]
theorem axV (N:Nat):bL UO (atO N) hq (axU N) (dO N N) Tryz.f20:=fun _ _=>by kernel_rfl
theorem axW {Γ:Gl} (N:Nat):Sound Γ Tryz.prog 20 (Y1 N):=e9 hq Tryz.f20 (axV N) ⟨axJ N,⟨axN N,⟨axP N,⟨UI N,⟨axR N,⟨axT N,trivial⟩⟩⟩⟩⟩⟩
end Go.Pv.R
