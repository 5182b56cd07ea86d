/- Each function of the program that the law reaches computes its plain function, part 2. -/
import Derived.Test.YtcpakhaogbempaaGreatSnd1
import Derived.Test.YtcpakhaogbempaaGreatProg
namespace Go.Pv.R
open Go.Proofs
set_option linter.unusedVariables false
set_option maxRecDepth 100000
noncomputable def Bi:List Kd:=.v (.sl (.int .i64)) .k::dK::dK::.v (.sl (.int .i64)) (.o 3 none .k)::.v (.int .i64) .k::dn 17 ([])
noncomputable def C0:List Kd:=dn 3 (.v (.sl (.int .i64)) (.o 3 none .k)::dn 18 ([]))
noncomputable def ahu:Hint:={ tab,hn:=[],loops:=[(3,Bi)],outs:=[(3,2,C0)],bp:=[] }
noncomputable def Uf:List AK:=[.v (.sl (.int .i64)) .k]
noncomputable def asJ (N:Nat) (x:ay Uf) (kf:aa→Option aa):Option aa:=L98 N x.1 (fun r0=>kf ⟨[⟨(.sl (.int .i64)),(.o 3 none .k),r0⟩],[]⟩)
noncomputable def DE (N:Nat):=ar Uf (asJ N)
noncomputable def F':Code:=aI Tryz.f98
noncomputable def ahv (N n:Nat) (key:Nat) (S:St) (K:Ks):Option aa:=bif Nat.beq key 3 then az Bi S (fun x=>uT x.1 n (fun z0=>K (.x 0) (shape C0 (z0,()))) x.2.1 x.2.2.1) else none
theorem awF (N key:Nat) (S:St) (K:Ks):ahv N 0 key S K=none:=(bE (aq fun _=>rfl) rfl)
noncomputable def Yk:Code:=(af F').getD 0 .skip
theorem awG:af F'=[Yk]:=by kernel_rfl
theorem ahw (N:Nat):dU ahu [] (ahv N) N 3 Bi Yk:=fun _ _ _=>by kernel_rfl
theorem awH (N:Nat):bQ Uf (asJ N) ahu [] (ahv N N) Tryz.f98:=fun _ _=>by kernel_rfl
theorem Ug {Γ:Gl} (N:Nat):Sound Γ Tryz.prog 98 (DE N):=fq ahu Tryz.f98 F' (awF N) awG (awH N) (rc (ahw N) trivial) trivial
noncomputable def KE:List AK:=[.v bj .k]
noncomputable def ahx (N:Nat) (x:ay KE) (kf:aa→Option aa):Option aa:=Z3 N x.1 (fun r0=>kf ⟨[⟨bj,(.p .k (.p .k (.p .k (.p .k (.p .k (.o 3 none .k)))))),r0⟩],[]⟩)
noncomputable def Pn (N:Nat):=ar KE (ahx N)
noncomputable def an6 (N:Nat):List Entry:=[⟨98,[.val],(DE N)⟩]
theorem an7 (N:Nat):bQ KE (ahx N) hq (an6 N) (dP N N) Tryz.f181:=fun _ _=>by kernel_rfl
theorem an8 {Γ:Gl} (N:Nat):Sound Γ Tryz.prog 181 (Pn N):=fo hq Tryz.f181 (an7 N) ⟨Ug N,trivial⟩
noncomputable def Bj:List Kd:=.v (.sl bj) .k::dK::dK::.v (.sl bj) (.o 46 none (.p .k (.p .k (.p .k (.p .k (.p .k (.o 3 none .k)))))))::.v (.int .i64) .k::dn 18 ([])
noncomputable def C1:List Kd:=dn 3 (.v (.sl bj) (.o 46 none (.p .k (.p .k (.p .k (.p .k (.p .k (.o 3 none .k)))))))::dn 19 ([]))
noncomputable def ahy:Hint:={ tab,hn:=[],loops:=[(3,Bj)],outs:=[(3,2,C1)],bp:=[] }
noncomputable def Uh:List AK:=[.v (.sl bj) .k]
noncomputable def asK (N:Nat) (x:ay Uh) (kf:aa→Option aa):Option aa:=L95 N x.1 (fun r0=>kf ⟨[⟨(.sl bj),(.o 46 none (.p .k (.p .k (.p .k (.p .k (.p .k (.o 3 none .k))))))),r0⟩],[]⟩)
noncomputable def Yl (N:Nat):=ar Uh (asK N)
noncomputable def ahz (N:Nat):List Entry:=[⟨181,[.val],(Pn N)⟩]
noncomputable def Ga:Code:=aI Tryz.f95
noncomputable def ahA (N n:Nat) (key:Nat) (S:St) (K:Ks):Option aa:=bif Nat.beq key 3 then az Bj S (fun x=>uU N x.1 n (fun z0=>K (.x 0) (shape C1 (z0,()))) x.2.1 x.2.2.1) else none
theorem awI (N key:Nat) (S:St) (K:Ks):ahA N 0 key S K=none:=(bE (aq fun _=>rfl) rfl)
noncomputable def Ym:Code:=(af Ga).getD 0 .skip
theorem awJ:af Ga=[Ym]:=by kernel_rfl
theorem ahB (N:Nat):dU ahy (ahz N) (ahA N) N 3 Bj Ym:=fun _ _ _=>by kernel_rfl
theorem awK (N:Nat):bQ Uh (asK N) ahy (ahz N) (ahA N N) Tryz.f95:=fun _ _=>by kernel_rfl
theorem awL {Γ:Gl} (N:Nat):Sound Γ Tryz.prog 95 (Yl N):=fq ahy Tryz.f95 Ga (awI N) awJ (awK N) (rc (ahB N) trivial) ⟨an8 N,trivial⟩
noncomputable def KF:List AK:=[.v bS .k]
noncomputable def ahC (N:Nat) (x:ay KF) (kf:aa→Option aa):Option aa:=Z4 N x.1 (fun r0=>kf ⟨[⟨bS,(.p .k (.p .k (.o 3 none .k))),r0⟩],[]⟩)
noncomputable def Po (N:Nat):=ar KF (ahC N)
noncomputable def an9 (N:Nat):List Entry:=[⟨98,[.val],(DE N)⟩]
theorem an' (N:Nat):bQ KF (ahC N) hq (an9 N) (dP N N) Tryz.f182:=fun _ _=>by kernel_rfl
theorem aoa {Γ:Gl} (N:Nat):Sound Γ Tryz.prog 182 (Po N):=fo hq Tryz.f182 (an' N) ⟨Ug N,trivial⟩
noncomputable def Bk:List Kd:=.v (.sl bS) .k::dK::dK::.v (.sl bS) (.o 80 none (.p .k (.p .k (.o 3 none .k))))::.v (.int .i64) .k::dn 18 ([])
noncomputable def C2:List Kd:=dn 3 (.v (.sl bS) (.o 80 none (.p .k (.p .k (.o 3 none .k))))::dn 19 ([]))
noncomputable def ahD:Hint:={ tab,hn:=[],loops:=[(3,Bk)],outs:=[(3,2,C2)],bp:=[] }
noncomputable def Ui:List AK:=[.v (.sl bS) .k]
noncomputable def asL (N:Nat) (x:ay Ui) (kf:aa→Option aa):Option aa:=L96 N x.1 (fun r0=>kf ⟨[⟨(.sl bS),(.o 80 none (.p .k (.p .k (.o 3 none .k)))),r0⟩],[]⟩)
noncomputable def Yn (N:Nat):=ar Ui (asL N)
noncomputable def ahE (N:Nat):List Entry:=[⟨182,[.val],(Po N)⟩]
noncomputable def Gb:Code:=aI Tryz.f96
noncomputable def ahF (N n:Nat) (key:Nat) (S:St) (K:Ks):Option aa:=bif Nat.beq key 3 then az Bk S (fun x=>uV N x.1 n (fun z0=>K (.x 0) (shape C2 (z0,()))) x.2.1 x.2.2.1) else none
theorem awM (N key:Nat) (S:St) (K:Ks):ahF N 0 key S K=none:=(bE (aq fun _=>rfl) rfl)
noncomputable def Yo:Code:=(af Gb).getD 0 .skip
theorem awN:af Gb=[Yo]:=by kernel_rfl
theorem ahG (N:Nat):dU ahD (ahE N) (ahF N) N 3 Bk Yo:=fun _ _ _=>by kernel_rfl
theorem awO (N:Nat):bQ Ui (asL N) ahD (ahE N) (ahF N N) Tryz.f96:=fun _ _=>by kernel_rfl
theorem awP {Γ:Gl} (N:Nat):Sound Γ Tryz.prog 96 (Yn N):=fq ahD Tryz.f96 Gb (awM N) awN (awO N) (rc (ahG N) trivial) ⟨aoa N,trivial⟩
noncomputable def KG:List AK:=[.v aM .k]
noncomputable def ahH (N:Nat) (x:ay KG) (kf:aa→Option aa):Option aa:=Z5 N x.1 (fun r0=>kf ⟨[⟨aM,.k,r0⟩],[]⟩)
noncomputable def Pp (N:Nat):=ar KG (ahH N)
theorem aob (N:Nat):bQ KG (ahH N) hq [] (dP N N) Tryz.f183:=fun _ _=>by kernel_rfl
theorem aoc {Γ:Gl} (N:Nat):Sound Γ Tryz.prog 183 (Pp N):=fo hq Tryz.f183 (aob N) trivial
noncomputable def Bl:List Kd:=.v (.sl aM) .k::dK::dK::.v (.sl aM) (.o 104 none .k)::.v (.int .i64) .k::dn 18 ([])
noncomputable def C3:List Kd:=dn 3 (.v (.sl aM) (.o 104 none .k)::dn 19 ([]))
noncomputable def ahI:Hint:={ tab,hn:=[],loops:=[(3,Bl)],outs:=[(3,2,C3)],bp:=[] }
noncomputable def Uj:List AK:=[.v (.sl aM) .k]
noncomputable def asM (N:Nat) (x:ay Uj) (kf:aa→Option aa):Option aa:=L97 N x.1 (fun r0=>kf ⟨[⟨(.sl aM),(.o 104 none .k),r0⟩],[]⟩)
noncomputable def Yp (N:Nat):=ar Uj (asM N)
noncomputable def ahJ (N:Nat):List Entry:=[⟨183,[.val],(Pp N)⟩]
noncomputable def Gc:Code:=aI Tryz.f97
noncomputable def ahK (N n:Nat) (key:Nat) (S:St) (K:Ks):Option aa:=bif Nat.beq key 3 then az Bl S (fun x=>uW N x.1 n (fun z0=>K (.x 0) (shape C3 (z0,()))) x.2.1 x.2.2.1) else none
theorem awQ (N key:Nat) (S:St) (K:Ks):ahK N 0 key S K=none:=(bE (aq fun _=>rfl) rfl)
noncomputable def Yq:Code:=(af Gc).getD 0 .skip
theorem awR:af Gc=[Yq]:=by kernel_rfl
theorem ahL (N:Nat):dU ahI (ahJ N) (ahK N) N 3 Bl Yq:=fun _ _ _=>by kernel_rfl
theorem awS (N:Nat):bQ Uj (asM N) ahI (ahJ N) (ahK N N) Tryz.f97:=fun _ _=>by kernel_rfl
theorem awT {Γ:Gl} (N:Nat):Sound Γ Tryz.prog 97 (Yp N):=fq ahI Tryz.f97 Gc (awQ N) awR (awS N) (rc (ahL N) trivial) ⟨aoc N,trivial⟩
noncomputable def KH:List AK:=[.v de .k]
noncomputable def ahM (N:Nat) (x:ay KH) (kf:aa→Option aa):Option aa:=Z6 N x.1 (fun r0=>kf ⟨[⟨de,.k,r0⟩],[]⟩)
noncomputable def Pq (N:Nat):=ar KH (ahM N)
theorem aod (N:Nat):bQ KH (ahM N) hq [] (dP N N) Tryz.f184:=fun _ _=>by kernel_rfl
theorem aoe {Γ:Gl} (N:Nat):Sound Γ Tryz.prog 184 (Pq N):=fo hq Tryz.f184 (aod N) trivial
noncomputable def Bm:List Kd:=.v (.sl de) .k::dK::dK::.v (.sl de) (.o 136 none .k)::.v (.int .i64) .k::dn 18 ([])
noncomputable def C4:List Kd:=dn 3 (.v (.sl de) (.o 136 none .k)::dn 19 ([]))
noncomputable def ahN:Hint:={ tab,hn:=[],loops:=[(3,Bm)],outs:=[(3,2,C4)],bp:=[] }
noncomputable def Uk:List AK:=[.v (.sl de) .k]
noncomputable def asN (N:Nat) (x:ay Uk) (kf:aa→Option aa):Option aa:=L99 N x.1 (fun r0=>kf ⟨[⟨(.sl de),(.o 136 none .k),r0⟩],[]⟩)
noncomputable def Yr (N:Nat):=ar Uk (asN N)
noncomputable def ahO (N:Nat):List Entry:=[⟨184,[.val],(Pq N)⟩]
noncomputable def Gd:Code:=aI Tryz.f99
noncomputable def ahP (N n:Nat) (key:Nat) (S:St) (K:Ks):Option aa:=bif Nat.beq key 3 then az Bm S (fun x=>uX N x.1 n (fun z0=>K (.x 0) (shape C4 (z0,()))) x.2.1 x.2.2.1) else none
theorem awU (N key:Nat) (S:St) (K:Ks):ahP N 0 key S K=none:=(bE (aq fun _=>rfl) rfl)
noncomputable def Ys:Code:=(af Gd).getD 0 .skip
theorem awV:af Gd=[Ys]:=by kernel_rfl
theorem ahQ (N:Nat):dU ahN (ahO N) (ahP N) N 3 Bm Ys:=fun _ _ _=>by kernel_rfl
theorem awW (N:Nat):bQ Uk (asN N) ahN (ahO N) (ahP N N) Tryz.f99:=fun _ _=>by kernel_rfl
theorem awX {Γ:Gl} (N:Nat):Sound Γ Tryz.prog 99 (Yr N):=fq ahN Tryz.f99 Gd (awU N) awV (awW N) (rc (ahQ N) trivial) ⟨aoe N,trivial⟩
noncomputable def KI:List AK:=[.v df .k]
noncomputable def ahR (N:Nat) (x:ay KI) (kf:aa→Option aa):Option aa:=Z7 N x.1 (fun r0=>kf ⟨[⟨df,.k,r0⟩],[]⟩)
noncomputable def Pr (N:Nat):=ar KI (ahR N)
theorem aof (N:Nat):bQ KI (ahR N) hq [] (dP N N) Tryz.f185:=fun _ _=>by kernel_rfl
theorem aog {Γ:Gl} (N:Nat):Sound Γ Tryz.prog 185 (Pr N):=fo hq Tryz.f185 (aof N) trivial
noncomputable def vI:List Kd:=.v (.sl df) .k::dK::dK::.v (.sl df) (.o 102 none .k)::.v (.int .i64) .k::dn 18 ([])
noncomputable def ym:List Kd:=dn 3 (.v (.sl df) (.o 102 none .k)::dn 19 ([]))
noncomputable def Ul:Hint:={ tab,hn:=[],loops:=[(3,vI)],outs:=[(3,2,ym)],bp:=[] }
noncomputable def KJ:List AK:=[.v (.sl df) .k]
noncomputable def ahS (N:Nat) (x:ay KJ) (kf:aa→Option aa):Option aa:=aj3 N x.1 (fun r0=>kf ⟨[⟨(.sl df),(.o 102 none .k),r0⟩],[]⟩)
noncomputable def Ps (N:Nat):=ar KJ (ahS N)
noncomputable def Yt (N:Nat):List Entry:=[⟨185,[.val],(Pr N)⟩]
noncomputable def Bn:Code:=aI Tryz.f100
noncomputable def Um (N n:Nat) (key:Nat) (S:St) (K:Ks):Option aa:=bif Nat.beq key 3 then az vI S (fun x=>pE N x.1 n (fun z0=>K (.x 0) (shape ym (z0,()))) x.2.1 x.2.2.1) else none
theorem aoh (N key:Nat) (S:St) (K:Ks):Um N 0 key S K=none:=(bE (aq fun _=>rfl) rfl)
noncomputable def Pt:Code:=(af Bn).getD 0 .skip
theorem aoi:af Bn=[Pt]:=by kernel_rfl
theorem abu (N:Nat):dU Ul (Yt N) (Um N) N 3 vI Pt:=fun _ _ _=>by kernel_rfl
theorem aoj (N:Nat):bQ KJ (ahS N) Ul (Yt N) (Um N N) Tryz.f100:=fun _ _=>by kernel_rfl
theorem aok {Γ:Gl} (N:Nat):Sound Γ Tryz.prog 100 (Ps N):=fq Ul Tryz.f100 Bn (aoh N) aoi (aoj N) (rc (abu N) trivial) ⟨aog N,trivial⟩
noncomputable def Un:List AK:=[.v bY .k]
noncomputable def asO (N:Nat) (x:ay Un) (kf:aa→Option aa):Option aa:=L22 N x.1 (fun r0=>kf ⟨[⟨bY,(.p (.o 46 none (.p .k (.p .k (.p .k (.p .k (.p .k (.o 3 none .k))))))) (.p (.o 80 none (.p .k (.p .k (.o 3 none .k)))) (.p (.o 104 none .k) (.p (.o 3 none .k) (.p (.o 136 none .k) (.p (.o 102 none .k) .k)))))),r0⟩],[]⟩)
noncomputable def Yu (N:Nat):=ar Un (asO N)
noncomputable def awY (N:Nat):List Entry:=[⟨95,[.val],(Yl N)⟩,⟨96,[.val],(Yn N)⟩,⟨97,[.val],(Yp N)⟩,⟨98,[.val],(DE N)⟩,⟨99,[.val],(Yr N)⟩,⟨100,[.val],(Ps N)⟩]
theorem awZ (N:Nat):bQ Un (asO N) hq (awY N) (dP N N) Tryz.f22:=fun _ _=>by kernel_rfl
theorem aw0 {Γ:Gl} (N:Nat):Sound Γ Tryz.prog 22 (Yu N):=fo hq Tryz.f22 (awZ N) ⟨awL N,⟨awP N,⟨awT N,⟨Ug N,⟨awX N,⟨aok N,trivial⟩⟩⟩⟩⟩⟩
noncomputable def vJ:List Kd:=.v (.sl bj) .k::dK::dK::.v (.sl bj) (.o 46 none (.p .k (.p .k (.p .k (.p .k (.p .k (.o 3 none .k)))))))::.v (.int .i64) .k::dn 22 ([])
noncomputable def yn:List Kd:=dn 3 (.v (.sl bj) (.o 46 none (.p .k (.p .k (.p .k (.p .k (.p .k (.o 3 none .k)))))))::dn 23 ([]))
noncomputable def Uo:Hint:={ tab,hn:=[(6,(.p .k (.p .k (.p .k (.p .k (.p .k (.o 3 none .k)))))))],loops:=[(3,vJ)],outs:=[(3,2,yn)],bp:=[] }
noncomputable def KK:List AK:=[.v (.sl bj) .k]
noncomputable def ahT (N:Nat) (x:ay KK) (kf:aa→Option aa):Option aa:=E4 N x.1 (fun r0=>kf ⟨[⟨(.sl bj),(.o 46 none (.p .k (.p .k (.p .k (.p .k (.p .k (.o 3 none .k))))))),r0⟩],[]⟩)
noncomputable def sj (N:Nat):=ar KK (ahT N)
noncomputable def Bo:Code:=aI Tryz.f173
noncomputable def Up (N n:Nat) (key:Nat) (S:St) (K:Ks):Option aa:=bif Nat.beq key 3 then az vJ S (fun x=>pF x.1 n (fun z0=>K (.x 0) (shape yn (z0,()))) x.2.1 x.2.2.1) else none
theorem aol (N key:Nat) (S:St) (K:Ks):Up N 0 key S K=none:=(bE (aq fun _=>rfl) rfl)
noncomputable def Pu:Code:=(af Bo).getD 0 .skip
theorem aom:af Bo=[Pu]:=by kernel_rfl
theorem abv (N:Nat):dU Uo [] (Up N) N 3 vJ Pu:=fun _ _ _=>by kernel_rfl
theorem aon (N:Nat):bQ KK (ahT N) Uo [] (Up N N) Tryz.f173:=fun _ _=>by kernel_rfl
theorem DF {Γ:Gl} (N:Nat):Sound Γ Tryz.prog 173 (sj N):=fq Uo Tryz.f173 Bo (aol N) aom (aon N) (rc (abv N) trivial) trivial
noncomputable def vK:List Kd:=.v (.sl bS) .k::dK::dK::.v (.sl bS) (.o 80 none (.p .k (.p .k (.o 3 none .k))))::.v (.int .i64) .k::dn 22 ([])
noncomputable def yo:List Kd:=dn 3 (.v (.sl bS) (.o 80 none (.p .k (.p .k (.o 3 none .k))))::dn 23 ([]))
noncomputable def Uq:Hint:={ tab,hn:=[(6,(.p .k (.p .k (.o 3 none .k))))],loops:=[(3,vK)],outs:=[(3,2,yo)],bp:=[] }
noncomputable def KL:List AK:=[.v (.sl bS) .k]
noncomputable def ahU (N:Nat) (x:ay KL) (kf:aa→Option aa):Option aa:=Sm N x.1 (fun r0=>kf ⟨[⟨(.sl bS),(.o 80 none (.p .k (.p .k (.o 3 none .k)))),r0⟩],[]⟩)
noncomputable def Ge (N:Nat):=ar KL (ahU N)
noncomputable def Bp:Code:=aI Tryz.f174
noncomputable def Ur (N n:Nat) (key:Nat) (S:St) (K:Ks):Option aa:=bif Nat.beq key 3 then az vK S (fun x=>pG x.1 n (fun z0=>K (.x 0) (shape yo (z0,()))) x.2.1 x.2.2.1) else none
theorem aoo (N key:Nat) (S:St) (K:Ks):Ur N 0 key S K=none:=(bE (aq fun _=>rfl) rfl)
noncomputable def Pw:Code:=(af Bp).getD 0 .skip
theorem aop:af Bp=[Pw]:=by kernel_rfl
theorem abw (N:Nat):dU Uq [] (Ur N) N 3 vK Pw:=fun _ _ _=>by kernel_rfl
theorem aoq (N:Nat):bQ KL (ahU N) Uq [] (Ur N N) Tryz.f174:=fun _ _=>by kernel_rfl
theorem Yv {Γ:Gl} (N:Nat):Sound Γ Tryz.prog 174 (Ge N):=fq Uq Tryz.f174 Bp (aoo N) aop (aoq N) (rc (abw N) trivial) trivial
noncomputable def asP:Hint:={ tab,hn:=[],loops:=[],outs:=[],bp:=[(1,(OT.seq [0,1,3,4,7,8,11,15,19,22] (.any [2,5,6,9,10,12,13,14,16,17,18,20,21,23] (OT.seq [24,25] .done))))] }
noncomputable def Us:List AK:=[.v bY .k]
noncomputable def asQ (N:Nat) (x:ay Us) (kf:aa→Option aa):Option aa:=Wx N x.1 (fun r0=>kf ⟨[⟨bY,(.p (.o 46 none (.p .k (.p .k (.p .k (.p .k (.p .k (.o 3 none .k))))))) (.p (.o 80 none (.p .k (.p .k (.o 3 none .k)))) (.p (.o 104 none .k) (.p (.o 3 none .k) (.p (.o 136 none .k) (.p (.o 102 none .k) .k)))))),r0⟩],[]⟩)
noncomputable def lE (N:Nat):=ar Us (asQ N)
noncomputable def aw1 (N:Nat):List Entry:=[⟨173,[.val],(sj N)⟩,⟨174,[.val],(Ge N)⟩]
theorem aw2 (N:Nat):bQ Us (asQ N) asP (aw1 N) (dP N N) Tryz.f90:=fun _ _=>by kernel_rfl
theorem sk {Γ:Gl} (N:Nat):Sound Γ Tryz.prog 90 (lE N):=fo asP Tryz.f90 (aw2 N) ⟨DF N,⟨Yv N,trivial⟩⟩
noncomputable def KM:List AK:=[.v (.int .i64) .k,.v (.int .i64) .k,.v (.int .i64) .k]
noncomputable def ahV (N:Nat) (x:ay KM) (kf:aa→Option aa):Option aa:=gn N x.1 x.2.1 x.2.2.1 (fun r0=>kf ⟨[⟨.bool,.k,r0⟩],[]⟩)
noncomputable def jo (N:Nat):=ar KM (ahV N)
theorem aor (N:Nat):bQ KM (ahV N) hq [] (dP N N) Tryz.f195:=fun _ _=>by kernel_rfl
theorem nm {Γ:Gl} (N:Nat):Sound Γ Tryz.prog 195 (jo N):=fo hq Tryz.f195 (aor N) trivial
noncomputable def vL:List Kd:=.v (.sl bj) .k::.v (.int .i64) .k::dn 3 (.v (.int .i64) .k::dn 14 ([]))
noncomputable def yp:List Kd:=dn 20 ([])
noncomputable def yq:List Kd:=dn 4 (.v (.int .i64) .k::dn 15 ([]))
noncomputable def Ut:Hint:={ tab,hn:=[],loops:=[(2,vL)],outs:=[(2,2,yp),(2,1,yq)],bp:=[] }
noncomputable def KN:List AK:=[.v (.sl bj) .k,.v (.int .i64) .k]
noncomputable def ahW (N:Nat) (x:ay KN) (kf:aa→Option aa):Option aa:=uY N x.1 x.2.1 (fun r0=>kf ⟨[⟨(.int .i64),.k,r0⟩],[]⟩)
noncomputable def kE (N:Nat):=ar KN (ahW N)
noncomputable def Bq:Code:=aI Tryz.f200
noncomputable def Uu (N n:Nat) (key:Nat) (S:St) (K:Ks):Option aa:=bif Nat.beq key 2 then az vL S (fun x=>pH x.1 x.2.1 n (K (.x 0) (shape yp ())) (fun z0=>K .r (shape yq (z0,()))) x.2.2.1) else none
theorem aos (N key:Nat) (S:St) (K:Ks):Uu N 0 key S K=none:=(bE (aq fun _=>rfl) rfl)
noncomputable def Px:Code:=(af Bq).getD 0 .skip
theorem aot:af Bq=[Px]:=by kernel_rfl
theorem abx (N:Nat):dU Ut [] (Uu N) N 2 vL Px:=fun _ _ _=>by kernel_rfl
theorem aou (N:Nat):bQ KN (ahW N) Ut [] (Uu N N) Tryz.f200:=fun _ _=>by kernel_rfl
theorem qi {Γ:Gl} (N:Nat):Sound Γ Tryz.prog 200 (kE N):=fq Ut Tryz.f200 Bq (aos N) aot (aou N) (rc (abx N) trivial) trivial
noncomputable def vM:List Kd:=.v (.sl (.int .i64)) .k::.v (.int .i64) .k::dn 3 (.v (.int .i64) .k::.v (.int .i64) .k::dn 15 ([]))
noncomputable def yr:List Kd:=dn 5 (.v (.int .i64) .k::dn 16 ([]))
noncomputable def Uv:Hint:={ tab,hn:=[],loops:=[(3,vM)],outs:=[(3,2,yr)],bp:=[] }
noncomputable def KO:List AK:=[.v (.sl (.int .i64)) .k,.v (.int .i64) .k]
noncomputable def ahX (N:Nat) (x:ay KO) (kf:aa→Option aa):Option aa:=Sn N x.1 x.2.1 (fun r0=>kf ⟨[⟨(.int .i64),.k,r0⟩],[]⟩)
noncomputable def Py (N:Nat):=ar KO (ahX N)
noncomputable def Br:Code:=aI Tryz.f220
noncomputable def Uw (N n:Nat) (key:Nat) (S:St) (K:Ks):Option aa:=bif Nat.beq key 3 then az vM S (fun x=>mW x.1 x.2.1 n (fun z0=>K (.x 0) (shape yr (z0,()))) x.2.2.1 x.2.2.2.1) else none
theorem aov (N key:Nat) (S:St) (K:Ks):Uw N 0 key S K=none:=(bE (aq fun _=>rfl) rfl)
noncomputable def Pz:Code:=(af Br).getD 0 .skip
theorem aow:af Br=[Pz]:=by kernel_rfl
theorem aby (N:Nat):dU Uv [] (Uw N) N 3 vM Pz:=fun _ _ _=>by kernel_rfl
theorem aox (N:Nat):bQ KO (ahX N) Uv [] (Uw N N) Tryz.f220:=fun _ _=>by kernel_rfl
theorem aoy {Γ:Gl} (N:Nat):Sound Γ Tryz.prog 220 (Py N):=fq Uv Tryz.f220 Br (aov N) aow (aox N) (rc (aby N) trivial) trivial
noncomputable def vN:List Kd:=.v (.sl bj) .k::dK::dK::.v (.int .i64) .k::.v (.ptr bj) (.o 46 none .k)::.v (.int .i64) .k::dn 109 ([])
noncomputable def yt:List Kd:=.v (.sl bj) .k::dK::dK::.v (.int .i64) .k::dn 111 ([])
noncomputable def yu:List Kd:=dK::dK::.v .bool .k::dn 112 ([])
noncomputable def vO:List Kd:=.v (.sl bj) .k::dK::dK::.v (.int .i64) .k::dn 111 ([])
noncomputable def yv:List Kd:=.v (.sl bj) .k::dn 114 ([])
noncomputable def yw:List Kd:=dK::dK::.v .bool .k::dn 112 ([])
noncomputable def KP:Hint:={ tab,hn:=[],loops:=[(8,vN),(2,vO)],outs:=[(8,4,yt),(8,1,yu),(2,2,yv),(2,1,yw)],bp:=[(5,(OT.seq [0,1,2,3,4,5,6,7,8,9,10,11,12,13,14,15,16,17,18,19,20,21,22,23,24,25,26,27,28,29,30,31,32,33,34,35,36,37,38,39,40,41,42,43,44,45,46,47,48,49,50,51,52,53,54] .done)),(11,(OT.seq [0,1,2,3,4,5,6,7,8,9,10,11,12,13,14,16,17,18,19,20,21,22,15,23,24,25] .done))] }
noncomputable def KQ:List AK:=[.v (.sl bj) .k]
noncomputable def ahY (N:Nat) (x:ay KQ) (kf:aa→Option aa):Option aa:=tu N x.1 (fun r0=>kf ⟨[⟨.bool,.k,r0⟩],[]⟩)
noncomputable def gQ (N:Nat):=ar KQ (ahY N)
noncomputable def KR (N:Nat):List Entry:=[⟨195,[.val,.val,.val],(jo N)⟩,⟨200,[.val,.val],(kE N)⟩,⟨220,[.val,.val],(Py N)⟩]
noncomputable def tc:Code:=aI Tryz.f175
noncomputable def KT (N n:Nat) (key:Nat) (S:St) (K:Ks):Option aa:=bif Nat.beq key 2 then az vO S (fun x=>mX N x.1 n (K (.x 0) (shape yv (x.1,()))) (fun z0=>K .r (shape yw (z0,()))) x.2.1) else bif Nat.beq key 8 then az vN S (fun x=>iZ N x.1 x.2.1 x.2.2.1 n (K (.x 2) (shape yt (x.1,x.2.1,()))) (fun z0=>K .r (shape yu (z0,()))) x.2.2.2.1) else none
theorem aoz (N key:Nat) (S:St) (K:Ks):KT N 0 key S K=none:=(bE (aq fun _=>rfl) (bE (aq fun _=>rfl) rfl))
noncomputable def PA:Code:=(af tc).getD 0 .skip
noncomputable def PB:Code:=(af tc).getD 1 .skip
theorem aoA:af tc=[PA,PB]:=by kernel_rfl
theorem abz (N:Nat):dU KP (KR N) (KT N) N 8 vN PB:=fun _ _ _=>by kernel_rfl
theorem abA (N:Nat):dU KP (KR N) (KT N) N 2 vO PA:=fun _ _ _=>by kernel_rfl
theorem aoB (N:Nat):bQ KQ (ahY N) KP (KR N) (KT N N) Tryz.f175:=fun _ _=>by kernel_rfl
theorem lF {Γ:Gl} (N:Nat):Sound Γ Tryz.prog 175 (gQ N):=fq KP Tryz.f175 tc (aoz N) aoA (aoB N) (rc (abA N) (rc (abz N) trivial)) ⟨nm N,⟨qi N,⟨aoy N,trivial⟩⟩⟩
noncomputable def KU:List AK:=[.v bj .k,.v bj .k]
noncomputable def ahZ (N:Nat) (x:ay KU) (kf:aa→Option aa):Option aa:=aea N x.1 x.2.1 (fun r0=>kf ⟨[⟨.bool,.k,r0⟩],[]⟩)
noncomputable def Gf (N:Nat):=ar KU (ahZ N)
theorem aoC (N:Nat):bQ KU (ahZ N) hq [] (dP N N) Tryz.f223:=fun _ _=>by kernel_rfl
theorem Yw {Γ:Gl} (N:Nat):Sound Γ Tryz.prog 223 (Gf N):=fo hq Tryz.f223 (aoC N) trivial
noncomputable def vP:List Kd:=.v (.sl bj) .k::dK::dK::.v (.sl bj) (.o 46 none .k)::.v (.int .i64) .k::.v (.int .i64) .k::dn 62 ([])
noncomputable def yx:List Kd:=.v (.sl bj) .k::dK::dK::.v (.sl bj) (.o 46 none .k)::.v (.int .i64) .k::.v (.int .i64) .k::dn 62 ([])
noncomputable def vQ:List Kd:=.v (.sl bj) .k::dK::dK::.v (.sl bj) (.o 46 none .k)::.v (.int .i64) .k::dn 63 ([])
noncomputable def yy:List Kd:=dn 3 (.v (.sl bj) (.o 46 none .k)::dn 64 ([]))
noncomputable def sn:List Kd:=dn 3 (.v (.sl bj) (.o 46 none .k)::dK::dK::.v (.sl (.int .i64)) (.o 3 none .k)::.v (.int .i64) .k::dn 60 ([]))
noncomputable def tY:List Kd:=dn 6 (.v (.sl (.int .i64)) (.o 3 none .k)::dn 61 ([]))
noncomputable def Gg:Hint:={ tab,hn:=[],loops:=[(6,vP),(3,vQ),(11,sn)],outs:=[(6,4,yx),(3,2,yy),(11,6,tY)],bp:=[(6,(OT.seq [0,1,2,3,4,5,6,7,8,9,10,11,12,13] .done)),(8,(OT.seq [1,2,3,5,6,7,11,12,13] (.par [0,4,8,9] [[44,45,46]] (OT.seq [10,14,15] .done))))] }
noncomputable def KV:List AK:=[.v (.sl bj) .k]
noncomputable def ah0 (N:Nat) (x:ay KV) (kf:aa→Option aa):Option aa:=aj4 N x.1 (fun r0=>kf ⟨[⟨(.sl (.int .i64)),(.o 3 none .k),r0⟩],[]⟩)
noncomputable def PC (N:Nat):=ar KV (ah0 N)
noncomputable def DG (N:Nat):List Entry:=[⟨175,[.val],(gQ N)⟩,⟨223,[.val,.val],(Gf N)⟩]
noncomputable def ov:Code:=aI Tryz.f177
noncomputable def Gh (N n:Nat) (key:Nat) (S:St) (K:Ks):Option aa:=bif Nat.beq key 3 then az vQ S (fun x=>pK N x.1 n (fun z0=>K (.x 0) (shape yy (z0,()))) x.2.1 x.2.2.1) else bif Nat.beq key 6 then az vP S (fun x=>pJ N x.1 x.2.1 x.2.2.1 n (fun z0=>K (.x 2) (shape yx (x.1,x.2.1,x.2.2.1,z0,()))) x.2.2.2.1) else bif Nat.beq key 11 then az sn S (fun x=>ky x.1 n (fun z0=>K (.x 4) (shape tY (z0,()))) x.2.1 x.2.2.1) else none
theorem aoD (N key:Nat) (S:St) (K:Ks):Gh N 0 key S K=none:=(bE (aq fun _=>rfl) (bE (aq fun _=>rfl) (bE (aq fun _=>rfl) rfl)))
noncomputable def PD:Code:=(af ov).getD 0 .skip
noncomputable def PE:Code:=(af ov).getD 1 .skip
noncomputable def PF:Code:=(af ov).getD 2 .skip
theorem aoE:af ov=[PD,PE,PF]:=by kernel_rfl
theorem Ux (N:Nat):dU Gg (DG N) (Gh N) N 11 sn PF:=fun _ _ _=>by kernel_rfl
theorem abB (N:Nat):dU Gg (DG N) (Gh N) N 6 vP PE:=fun _ _ _=>by kernel_rfl
theorem abC (N:Nat):dU Gg (DG N) (Gh N) N 3 vQ PD:=fun _ _ _=>by kernel_rfl
theorem aoF (N:Nat):bQ KV (ah0 N) Gg (DG N) (Gh N N) Tryz.f177:=fun _ _=>by kernel_rfl
theorem aoG {Γ:Gl} (N:Nat):Sound Γ Tryz.prog 177 (PC N):=fq Gg Tryz.f177 ov (aoD N) aoE (aoF N) (rc (abC N) (rc (abB N) (rc (Ux N) trivial))) ⟨lF N,⟨Yw N,trivial⟩⟩
noncomputable def vR:List Kd:=.v (.sl (.int .i64)) .k::.v (.int .i64) .k::dn 3 (.v (.int .i64) .k::dn 12 ([]))
noncomputable def yz:List Kd:=dn 18 ([])
noncomputable def yA:List Kd:=dn 4 (.v .bool .k::dn 13 ([]))
noncomputable def Uy:Hint:={ tab,hn:=[],loops:=[(2,vR)],outs:=[(2,2,yz),(2,1,yA)],bp:=[] }
noncomputable def KW:List AK:=[.v (.sl (.int .i64)) .k,.v (.int .i64) .k]
noncomputable def ah1 (N:Nat) (x:ay KW) (kf:aa→Option aa):Option aa:=uZ N x.1 x.2.1 (fun r0=>kf ⟨[⟨.bool,.k,r0⟩],[]⟩)
noncomputable def oy (N:Nat):=ar KW (ah1 N)
noncomputable def Bs:Code:=aI Tryz.f224
noncomputable def Uz (N n:Nat) (key:Nat) (S:St) (K:Ks):Option aa:=bif Nat.beq key 2 then az vR S (fun x=>pL x.1 x.2.1 n (K (.x 0) (shape yz ())) (fun z0=>K .r (shape yA (z0,()))) x.2.2.1) else none
theorem aoH (N key:Nat) (S:St) (K:Ks):Uz N 0 key S K=none:=(bE (aq fun _=>rfl) rfl)
noncomputable def PG:Code:=(af Bs).getD 0 .skip
theorem aoI:af Bs=[PG]:=by kernel_rfl
theorem abD (N:Nat):dU Uy [] (Uz N) N 2 vR PG:=fun _ _ _=>by kernel_rfl
theorem aoJ (N:Nat):bQ KW (ah1 N) Uy [] (Uz N N) Tryz.f224:=fun _ _=>by kernel_rfl
theorem yB {Γ:Gl} (N:Nat):Sound Γ Tryz.prog 224 (oy N):=fq Uy Tryz.f224 Bs (aoH N) aoI (aoJ N) (rc (abD N) trivial) trivial
noncomputable def KX:List AK:=[.v (.sl bj) .k,.v (.int .i64) .k,.v (.int .i64) .k]
noncomputable def ah2 (N:Nat) (x:ay KX) (kf:aa→Option aa):Option aa:=aj5 N x.1 x.2.1 x.2.2.1 (fun r0=>kf ⟨[⟨.bool,.k,r0⟩],[]⟩)
noncomputable def PH (N:Nat):=ar KX (ah2 N)
noncomputable def aoK (N:Nat):List Entry:=[⟨200,[.val,.val],(kE N)⟩,⟨224,[.val,.val],(oy N)⟩]
theorem aoL (N:Nat):bQ KX (ah2 N) hq (aoK N) (dP N N) Tryz.f250:=fun _ _=>by kernel_rfl
theorem aoM {Γ:Gl} (N:Nat):Sound Γ Tryz.prog 250 (PH N):=fo hq Tryz.f250 (aoL N) ⟨qi N,⟨yB N,trivial⟩⟩
noncomputable def ah3:Hint:={ tab,hn:=[],loops:=[],outs:=[],bp:=[(3,(OT.seq [0,1,2,3,4,5,6,7,8,9,10,11,12,13,14,15,16,17,18,19,20,21,22,23,24,25,26,27,28,29,30,31,32,33,34,35] .done))] }
noncomputable def KY:List AK:=[.v (.sl bj) .k,.v (.int .i64) .k,.v (.int .i64) .k]
noncomputable def ah4 (N:Nat) (x:ay KY) (kf:aa→Option aa):Option aa:=Sp N x.1 x.2.1 x.2.2.1 (fun r0=>kf ⟨[⟨.bool,.k,r0⟩],[]⟩)
noncomputable def Gi (N:Nat):=ar KY (ah4 N)
noncomputable def aoN (N:Nat):List Entry:=[⟨200,[.val,.val],(kE N)⟩,⟨175,[.val],(gQ N)⟩,⟨250,[.val,.val,.val],(PH N)⟩]
theorem aoO (N:Nat):bQ KY (ah4 N) ah3 (aoN N) (dP N N) Tryz.f221:=fun _ _=>by kernel_rfl
theorem Yx {Γ:Gl} (N:Nat):Sound Γ Tryz.prog 221 (Gi N):=fo ah3 Tryz.f221 (aoO N) ⟨qi N,⟨lF N,⟨aoM N,trivial⟩⟩⟩
noncomputable def ah5:Hint:={ tab,hn:=[],loops:=[],outs:=[],bp:=[(5,(OT.seq [0,1,2,3,4,5,6,7,8,9,10,11,12,13,14,15,16,17,18,19,20,21,22,23,24,25,26,27,28,29,30,31,32,33,34] .done))] }
noncomputable def KZ:List AK:=[.v (.sl bj) .k,.v (.int .i64) .k,.v (.int .i64) .k]
noncomputable def ah6 (N:Nat) (x:ay KZ) (kf:aa→Option aa):Option aa:=aj6 N x.1 x.2.1 x.2.2.1 (fun r0=>kf ⟨[⟨aM,.k,r0⟩],[]⟩)
noncomputable def PI (N:Nat):=ar KZ (ah6 N)
noncomputable def aoP (N:Nat):List Entry:=[⟨200,[.val,.val],(kE N)⟩,⟨175,[.val],(gQ N)⟩,⟨223,[.val,.val],(Gf N)⟩]
theorem aoQ (N:Nat):bQ KZ (ah6 N) ah5 (aoP N) (dP N N) Tryz.f222:=fun _ _=>by kernel_rfl
theorem aoR {Γ:Gl} (N:Nat):Sound Γ Tryz.prog 222 (PI N):=fo ah5 Tryz.f222 (aoQ N) ⟨qi N,⟨lF N,⟨Yw N,trivial⟩⟩⟩
noncomputable def vS:List Kd:=.v (.sl bj) .k::.v (.sl (.int .i64)) .k::dn 4 (.v (.int .i64) .k::dn 53 ([]))
noncomputable def yC:List Kd:=dn 60 ([])
noncomputable def yD:List Kd:=dn 4 (.v (.sl aM) (.o 104 none .k)::.v .bool .k::dn 54 ([]))
noncomputable def UA:Hint:={ tab,hn:=[],loops:=[(4,vS)],outs:=[(4,2,yC),(4,1,yD)],bp:=[(6,(OT.seq [0,1,2,3,4,5,6,7,8,9] .done)),(7,(OT.seq [1,2,3,5,6,7,8,0,4,9,10] .done)),(10,(OT.seq [0,1,2,3,4,5,6,7,10,8,9,11,12,13] .done))] }
noncomputable def DH:List AK:=[.v (.sl bj) .k,.v (.sl (.int .i64)) .k]
noncomputable def ah7 (N:Nat) (x:ay DH) (kf:aa→Option aa):Option aa:=Ss N x.1 x.2.1 (fun r0 r1=>kf ⟨[⟨(.sl aM),(.o 104 none .k),r0⟩,⟨.bool,.k,r1⟩],[]⟩)
noncomputable def yE (N:Nat):=ar DH (ah7 N)
noncomputable def K0 (N:Nat):List Entry:=[⟨221,[.val,.val,.val],(Gi N)⟩,⟨222,[.val,.val,.val],(PI N)⟩,⟨176,[.val,.val],(yE N)⟩]
noncomputable def Bt:Code:=aI Tryz.f176
noncomputable def K1 (N n:Nat) (key:Nat) (S:St) (K:Ks):Option aa:=bif Nat.beq key 4 then az vS S (fun x=>pM N (Ss N) x.1 x.2.1 n (K (.x 0) (shape yC ())) (fun z0 z1=>K .r (shape yD (z0,z1,()))) x.2.2.1) else none
theorem aoS (N key:Nat) (S:St) (K:Ks):K1 N 0 key S K=none:=(bE (aq fun _=>rfl) rfl)
noncomputable def PJ:Code:=(af Bt).getD 0 .skip
theorem aoT:af Bt=[PJ]:=by kernel_rfl
theorem abE (N:Nat):dU UA (K0 N) (K1 N) N 4 vS PJ:=fun _ _ _=>by kernel_rfl
theorem aoU (N:Nat) (x:ay DH) (kf:aa→Option aa):ah7 (N+1) x kf=lQ UA (jr.of (K0 N)) (K1 N N) Tryz.f176 (dR DH x) kf:=by kernel_rfl
theorem Yy {Γ:Gl}:∀ N:Nat,Sound Γ Tryz.prog 176 (yE N)
 |0=>o7 fun al kf=>by
  unfold yE ar
  split<;>rfl
 |N+1=>iU (hh:=UA) mixed kT (es:=K0 N) ⟨Yx N,⟨aoR N,⟨Yy N,trivial⟩⟩⟩ (fn:=Tryz.f176) (body:=Bt) (by kernel_rfl) (by kernel_rfl) (by kernel_rfl) (by kernel_rfl) (by kernel_rfl) (Lf:=K1 N) (aoS N) aoT (rc (abE N) trivial) (N:=N) (by kernel_rfl) (aoU N) (.inl (by kernel_rfl))
noncomputable def UB:List AK:=[.v (.sl bj) .k]
noncomputable def asR (N:Nat) (x:ay UB) (kf:aa→Option aa):Option aa:=S91 N x.1 (fun r0 r1=>kf ⟨[⟨(.sl aM),(.o 104 none .k),r0⟩,⟨.bool,.k,r1⟩],[]⟩)
noncomputable def Yz (N:Nat):=ar UB (asR N)
noncomputable def aw3 (N:Nat):List Entry:=[⟨175,[.val],(gQ N)⟩,⟨177,[.val],(PC N)⟩,⟨176,[.val,.val],(yE N)⟩]
theorem aw4 (N:Nat):bQ UB (asR N) hq (aw3 N) (dP N N) Tryz.f91:=fun _ _=>by kernel_rfl
theorem aw5 {Γ:Gl} (N:Nat):Sound Γ Tryz.prog 91 (Yz N):=fo hq Tryz.f91 (aw4 N) ⟨lF N,⟨aoG N,⟨Yy N,trivial⟩⟩⟩
noncomputable def vT:List Kd:=.v (.sl bS) .k::dK::dK::.v (.int .i64) .k::.v (.int .i64) .k::dn 87 ([])
noncomputable def yF:List Kd:=.v (.sl bS) .k::dK::dK::.v (.int .i64) .k::dn 88 ([])
noncomputable def yG:List Kd:=dK::dK::.v .bool .k::dn 89 ([])
noncomputable def vU:List Kd:=.v (.sl bS) .k::dK::dK::.v (.int .i64) .k::dn 88 ([])
noncomputable def yH:List Kd:=.v (.sl bS) .k::dn 91 ([])
noncomputable def yI:List Kd:=dK::dK::.v .bool .k::dn 89 ([])
noncomputable def K2:Hint:={ tab,hn:=[],loops:=[(7,vT),(2,vU)],outs:=[(7,4,yF),(7,1,yG),(2,2,yH),(2,1,yI)],bp:=[(4,(OT.seq [0,1,2,3,4,5,6,7,8,9,10,11,12,13,14,15,16,17,18,19,20,21,22,23,24,25,26,27,28,29,30,31,32,33] .done)),(9,(OT.seq [0,1,2,3,4,5,6,7,8,9,10,11,12,13,14,15,16,17,18,19,20,21,22,23,24,25,26,27,28,29,30,31,32,33] .done))] }
noncomputable def K3:List AK:=[.v (.sl bS) .k]
noncomputable def ah8 (N:Nat) (x:ay K3) (kf:aa→Option aa):Option aa:=Z9 N x.1 (fun r0=>kf ⟨[⟨.bool,.k,r0⟩],[]⟩)
noncomputable def yJ (N:Nat):=ar K3 (ah8 N)
noncomputable def K4 (N:Nat):List Entry:=[⟨195,[.val,.val,.val],(jo N)⟩]
noncomputable def td:Code:=aI Tryz.f178
noncomputable def K5 (N n:Nat) (key:Nat) (S:St) (K:Ks):Option aa:=bif Nat.beq key 2 then az vU S (fun x=>m5 N x.1 n (K (.x 0) (shape yH (x.1,()))) (fun z0=>K .r (shape yI (z0,()))) x.2.1) else bif Nat.beq key 7 then az vT S (fun x=>gX N x.1 x.2.1 n (K (.x 2) (shape yF (x.1,x.2.1,()))) (fun z0=>K .r (shape yG (z0,()))) x.2.2.1) else none
theorem aoV (N key:Nat) (S:St) (K:Ks):K5 N 0 key S K=none:=(bE (aq fun _=>rfl) (bE (aq fun _=>rfl) rfl))
noncomputable def PK:Code:=(af td).getD 0 .skip
noncomputable def PL:Code:=(af td).getD 1 .skip
theorem aoW:af td=[PK,PL]:=by kernel_rfl
theorem abF (N:Nat):dU K2 (K4 N) (K5 N) N 7 vT PL:=fun _ _ _=>by kernel_rfl
theorem abG (N:Nat):dU K2 (K4 N) (K5 N) N 2 vU PK:=fun _ _ _=>by kernel_rfl
theorem aoX (N:Nat):bQ K3 (ah8 N) K2 (K4 N) (K5 N N) Tryz.f178:=fun _ _=>by kernel_rfl
theorem K6 {Γ:Gl} (N:Nat):Sound Γ Tryz.prog 178 (yJ N):=fq K2 Tryz.f178 td (aoV N) aoW (aoX N) (rc (abG N) (rc (abF N) trivial)) ⟨nm N,trivial⟩
noncomputable def ah9:Hint:={ tab,hn:=[],loops:=[],outs:=[],bp:=[(3,(OT.seq [0,1,2,3,4,5,6,7,8,9,10,11,12,13,14,15,16,17,18,19,20,21,22,23,24,25,26,27,28,29,30,31,32,33,34,35,36,37,38,39,40,41,42] .done))] }
noncomputable def K7:List AK:=[.v (.sl bj) .k,.v bS .k,.v aM .k]
noncomputable def ah' (N:Nat) (x:ay K7) (kf:aa→Option aa):Option aa:=Z' N x.1 x.2.1 x.2.2.1 (fun r0=>kf ⟨[⟨.bool,.k,r0⟩],[]⟩)
noncomputable def Gj (N:Nat):=ar K7 (ah' N)
noncomputable def aoY (N:Nat):List Entry:=[⟨200,[.val,.val],(kE N)⟩,⟨224,[.val,.val],(oy N)⟩]
theorem aoZ (N:Nat):bQ K7 (ah' N) ah9 (aoY N) (dP N N) Tryz.f225:=fun _ _=>by kernel_rfl
theorem YA {Γ:Gl} (N:Nat):Sound Γ Tryz.prog 225 (Gj N):=fo ah9 Tryz.f225 (aoZ N) ⟨qi N,⟨yB N,trivial⟩⟩
noncomputable def vV:List Kd:=.v (.sl bj) .k::.v (.sl bS) .k::.v (.sl aM) .k::.v (.sl (.int .i64)) .k::dn 6 (.v (.int .i64) .k::dn 59 ([]))
noncomputable def yK:List Kd:=dn 70 ([])
noncomputable def yL:List Kd:=dn 8 (.v (.sl (.int .i64)) (.o 3 none .k)::.v .bool .k::dn 60 ([]))
noncomputable def UC:Hint:={ tab,hn:=[],loops:=[(4,vV)],outs:=[(4,2,yK),(4,1,yL)],bp:=[(6,(OT.seq [0,1,2,3,4,5,6,7,8,9,10,11,12,13,14,15,16,17,18] .done)),(7,(OT.seq [5,0,1,2,3,7,8,9,10] (.par [4,6,11,12] [[47,48,49]] (OT.seq [13,14,15,16,17,18,19] .done))))] }
noncomputable def DI:List AK:=[.v (.sl bj) .k,.v (.sl bS) .k,.v (.sl aM) .k,.v (.sl (.int .i64)) .k]
noncomputable def aia (N:Nat) (x:ay DI) (kf:aa→Option aa):Option aa:=Sw N x.1 x.2.1 x.2.2.1 x.2.2.2.1 (fun r0 r1=>kf ⟨[⟨(.sl (.int .i64)),(.o 3 none .k),r0⟩,⟨.bool,.k,r1⟩],[]⟩)
noncomputable def yM (N:Nat):=ar DI (aia N)
noncomputable def K8 (N:Nat):List Entry:=[⟨224,[.val,.val],(oy N)⟩,⟨225,[.val,.val,.val],(Gj N)⟩,⟨179,[.val,.val,.val,.val],(yM N)⟩]
noncomputable def Bu:Code:=aI Tryz.f179
noncomputable def K9 (N n:Nat) (key:Nat) (S:St) (K:Ks):Option aa:=bif Nat.beq key 4 then az vV S (fun x=>m6 N (Sw N) x.1 x.2.1 x.2.2.1 x.2.2.2.1 n (K (.x 0) (shape yK ())) (fun z0 z1=>K .r (shape yL (z0,z1,()))) x.2.2.2.2.1) else none
theorem ao0 (N key:Nat) (S:St) (K:Ks):K9 N 0 key S K=none:=(bE (aq fun _=>rfl) rfl)
noncomputable def PM:Code:=(af Bu).getD 0 .skip
theorem ao1:af Bu=[PM]:=by kernel_rfl
theorem abH (N:Nat):dU UC (K8 N) (K9 N) N 4 vV PM:=fun _ _ _=>by kernel_rfl
theorem ao2 (N:Nat) (x:ay DI) (kf:aa→Option aa):aia (N+1) x kf=lQ UC (jr.of (K8 N)) (K9 N N) Tryz.f179 (dR DI x) kf:=by kernel_rfl
theorem YB {Γ:Gl}:∀ N:Nat,Sound Γ Tryz.prog 179 (yM N)
 |0=>o7 fun al kf=>by
  unfold yM ar
  split<;>rfl
 |N+1=>iU (hh:=UC) mixed kT (es:=K8 N) ⟨yB N,⟨YA N,⟨YB N,trivial⟩⟩⟩ (fn:=Tryz.f179) (body:=Bu) (by kernel_rfl) (by kernel_rfl) (by kernel_rfl) (by kernel_rfl) (by kernel_rfl) (Lf:=K9 N) (ao0 N) ao1 (rc (abH N) trivial) (N:=N) (by kernel_rfl) (ao2 N) (.inl (by kernel_rfl))
noncomputable def UD:List AK:=[.v (.sl bj) .k,.v (.sl bS) .k,.v (.sl aM) .k]
noncomputable def asS (N:Nat) (x:ay UD) (kf:aa→Option aa):Option aa:=S92 N x.1 x.2.1 x.2.2.1 (fun r0 r1=>kf ⟨[⟨(.sl (.int .i64)),(.o 3 none .k),r0⟩,⟨.bool,.k,r1⟩],[]⟩)
noncomputable def YC (N:Nat):=ar UD (asS N)
noncomputable def aw6 (N:Nat):List Entry:=[⟨178,[.val],(yJ N)⟩,⟨175,[.val],(gQ N)⟩,⟨179,[.val,.val,.val,.val],(yM N)⟩]
theorem aw7 (N:Nat):bQ UD (asS N) hq (aw6 N) (dP N N) Tryz.f92:=fun _ _=>by kernel_rfl
theorem aw8 {Γ:Gl} (N:Nat):Sound Γ Tryz.prog 92 (YC N):=fo hq Tryz.f92 (aw7 N) ⟨K6 N,⟨lF N,⟨YB N,trivial⟩⟩⟩
noncomputable def UE:List AK:=[.v bY .k]
noncomputable def asT (N:Nat) (x:ay UE) (kf:aa→Option aa):Option aa:=S94 N x.1 (fun r0=>kf ⟨[⟨.bool,.k,r0⟩],[]⟩)
noncomputable def yN (N:Nat):=ar UE (asT N)
theorem aw9 (N:Nat):bQ UE (asT N) hq [] (dP N N) Tryz.f94:=fun _ _=>by kernel_rfl
theorem La {Γ:Gl} (N:Nat):Sound Γ Tryz.prog 94 (yN N):=fo hq Tryz.f94 (aw9 N) trivial
noncomputable def Lb:List AK:=[.v (.sl df) .k]
noncomputable def aib (N:Nat) (x:ay Lb) (kf:aa→Option aa):Option aa:=at7 N x.1 (fun r0=>kf ⟨[⟨(.int .i64),.k,r0⟩],[]⟩)
noncomputable def PN (N:Nat):=ar Lb (aib N)
theorem ao3 (N:Nat):bQ Lb (aib N) hq [] (dP N N) Tryz.f226:=fun _ _=>by kernel_rfl
theorem ao4 {Γ:Gl} (N:Nat):Sound Γ Tryz.prog 226 (PN N):=fo hq Tryz.f226 (ao3 N) trivial
noncomputable def Lc:List AK:=[.v (.int .i64) .k,.v (.int .i64) .k]
noncomputable def aic (N:Nat) (x:ay Lc) (kf:aa→Option aa):Option aa:=aed N x.1 x.2.1 (fun r0=>kf ⟨[⟨(.int .i64),.k,r0⟩],[]⟩)
noncomputable def PO (N:Nat):=ar Lc (aic N)
noncomputable def ao5 (N:Nat):List Entry:=[⟨195,[.val,.val,.val],(jo N)⟩]
theorem ao6 (N:Nat):bQ Lc (aic N) hq (ao5 N) (dP N N) Tryz.f261:=fun _ _=>by kernel_rfl
theorem ao7 {Γ:Gl} (N:Nat):Sound Γ Tryz.prog 261 (PO N):=fo hq Tryz.f261 (ao6 N) ⟨nm N,trivial⟩
noncomputable def vW:List Kd:=.v (.sl (.int .i64)) .k::dK::dK::.v (.int .i64) .k::.v (.int .i64) .k::dn 17 ([])
noncomputable def yO:List Kd:=dn 3 (.v (.int .i64) .k::dn 18 ([]))
noncomputable def UF:Hint:={ tab,hn:=[],loops:=[(3,vW)],outs:=[(3,2,yO)],bp:=[] }
noncomputable def Ld:List AK:=[.v (.sl (.int .i64)) .k]
noncomputable def aid (N:Nat) (x:ay Ld) (kf:aa→Option aa):Option aa:=aj7 N x.1 (fun r0=>kf ⟨[⟨(.int .i64),.k,r0⟩],[]⟩)
noncomputable def PQ (N:Nat):=ar Ld (aid N)
noncomputable def YD (N:Nat):List Entry:=[⟨261,[.val,.val],(PO N)⟩]
noncomputable def Bv:Code:=aI Tryz.f248
noncomputable def UG (N n:Nat) (key:Nat) (S:St) (K:Ks):Option aa:=bif Nat.beq key 3 then az vW S (fun x=>pP N x.1 n (fun z0=>K (.x 0) (shape yO (z0,()))) x.2.1 x.2.2.1) else none
theorem ao8 (N key:Nat) (S:St) (K:Ks):UG N 0 key S K=none:=(bE (aq fun _=>rfl) rfl)
noncomputable def PR:Code:=(af Bv).getD 0 .skip
theorem ao9:af Bv=[PR]:=by kernel_rfl
theorem abI (N:Nat):dU UF (YD N) (UG N) N 3 vW PR:=fun _ _ _=>by kernel_rfl
theorem ao' (N:Nat):bQ Ld (aid N) UF (YD N) (UG N N) Tryz.f248:=fun _ _=>by kernel_rfl
theorem apa {Γ:Gl} (N:Nat):Sound Γ Tryz.prog 248 (PQ N):=fq UF Tryz.f248 Bv (ao8 N) ao9 (ao' N) (rc (abI N) trivial) ⟨ao7 N,trivial⟩
noncomputable def Le:List AK:=[.v (.int .i64) .k,.v df .k]
noncomputable def aie (N:Nat) (x:ay Le) (kf:aa→Option aa):Option aa:=Sx N x.1 x.2.1 (fun r0=>kf ⟨[⟨(.int .i64),.k,r0⟩],[]⟩)
noncomputable def Gk (N:Nat):=ar Le (aie N)
noncomputable def apb (N:Nat):List Entry:=[⟨248,[.val],(PQ N)⟩]
theorem apc (N:Nat):bQ Le (aie N) hq (apb N) (dP N N) Tryz.f218:=fun _ _=>by kernel_rfl
theorem YE {Γ:Gl} (N:Nat):Sound Γ Tryz.prog 218 (Gk N):=fo hq Tryz.f218 (apc N) ⟨apa N,trivial⟩
noncomputable def vX:List Kd:=.v (.sl df) .k::dK::dK::.v (.int .i64) .k::.v (.int .i64) .k::dn 45 ([])
noncomputable def yP:List Kd:=.v (.sl df) .k::dn 49 ([])
noncomputable def yQ:List Kd:=dK::dK::.v .bool .k::dn 47 ([])
noncomputable def UH:Hint:={ tab,hn:=[],loops:=[(3,vX)],outs:=[(3,2,yP),(3,1,yQ)],bp:=[] }
noncomputable def Lg:List AK:=[.v (.sl df) .k]
noncomputable def aif (N:Nat) (x:ay Lg) (kf:aa→Option aa):Option aa:=aef N x.1 (fun r0=>kf ⟨[⟨.bool,.k,r0⟩],[]⟩)
noncomputable def Gm (N:Nat):=ar Lg (aif N)
noncomputable def YF (N:Nat):List Entry:=[⟨218,[.val,.val],(Gk N)⟩,⟨195,[.val,.val,.val],(jo N)⟩]
noncomputable def Bw:Code:=aI Tryz.f158
noncomputable def UI (N n:Nat) (key:Nat) (S:St) (K:Ks):Option aa:=bif Nat.beq key 3 then az vX S (fun x=>pQ N x.1 n (K (.x 0) (shape yP (x.1,()))) (fun z0=>K .r (shape yQ (z0,()))) x.2.1 x.2.2.1) else none
theorem apd (N key:Nat) (S:St) (K:Ks):UI N 0 key S K=none:=(bE (aq fun _=>rfl) rfl)
noncomputable def PS:Code:=(af Bw).getD 0 .skip
theorem ape:af Bw=[PS]:=by kernel_rfl
theorem abJ (N:Nat):dU UH (YF N) (UI N) N 3 vX PS:=fun _ _ _=>by kernel_rfl
theorem apf (N:Nat):bQ Lg (aif N) UH (YF N) (UI N N) Tryz.f158:=fun _ _=>by kernel_rfl
theorem YG {Γ:Gl} (N:Nat):Sound Γ Tryz.prog 158 (Gm N):=fq UH Tryz.f158 Bw (apd N) ape (apf N) (rc (abJ N) trivial) ⟨YE N,⟨nm N,trivial⟩⟩
noncomputable def aih:Hint:={ tab,hn:=[],loops:=[],outs:=[],bp:=[(2,(OT.seq [0,2,1,3,4,5] .done)),(3,(OT.seq [1] (.any [0,2,3,4] (OT.seq [5,6] .done))))] }
noncomputable def Lh:List AK:=[.v (.sl df) .k,.v (.int .i64) .k,.v (.int .i64) .k]
noncomputable def aii (N:Nat) (x:ay Lh) (kf:aa→Option aa):Option aa:=aj8 N x.1 x.2.1 x.2.2.1 (fun r0 r1=>kf ⟨[⟨(.sl df),(.o 102 none .k),r0⟩,⟨.bool,.k,r1⟩],[]⟩)
noncomputable def PT (N:Nat):=ar Lh (aii N)
noncomputable def apg (N:Nat):List Entry:=[⟨226,[.val],(PN N)⟩,⟨218,[.val,.val],(Gk N)⟩,⟨158,[.val],(Gm N)⟩]
theorem aph (N:Nat):bQ Lh (aii N) aih (apg N) (dP N N) Tryz.f180:=fun _ _=>by kernel_rfl
theorem api {Γ:Gl} (N:Nat):Sound Γ Tryz.prog 180 (PT N):=fo aih Tryz.f180 (aph N) ⟨ao4 N,⟨YE N,⟨YG N,trivial⟩⟩⟩
noncomputable def vY:List Kd:=.v (.sl bj) .k::dK::dK::.v (.int .i64) .k::.v (.int .i64) .k::dn 18 ([])
noncomputable def yR:List Kd:=dn 3 (.v (.int .i64) .k::dn 19 ([]))
noncomputable def UJ:Hint:={ tab,hn:=[],loops:=[(3,vY)],outs:=[(3,2,yR)],bp:=[] }
noncomputable def Li:List AK:=[.v (.sl bj) .k]
noncomputable def aij (N:Nat) (x:ay Li) (kf:aa→Option aa):Option aa:=aj9 N x.1 (fun r0=>kf ⟨[⟨(.int .i64),.k,r0⟩],[]⟩)
noncomputable def PU (N:Nat):=ar Li (aij N)
noncomputable def YH (N:Nat):List Entry:=[⟨175,[.val],(gQ N)⟩]
noncomputable def Bx:Code:=aI Tryz.f196
noncomputable def UK (N n:Nat) (key:Nat) (S:St) (K:Ks):Option aa:=bif Nat.beq key 3 then az vY S (fun x=>pR N x.1 n (fun z0=>K (.x 0) (shape yR (z0,()))) x.2.1 x.2.2.1) else none
theorem apj (N key:Nat) (S:St) (K:Ks):UK N 0 key S K=none:=(bE (aq fun _=>rfl) rfl)
noncomputable def PV:Code:=(af Bx).getD 0 .skip
theorem apk:af Bx=[PV]:=by kernel_rfl
theorem abK (N:Nat):dU UJ (YH N) (UK N) N 3 vY PV:=fun _ _ _=>by kernel_rfl
theorem apl (N:Nat):bQ Li (aij N) UJ (YH N) (UK N N) Tryz.f196:=fun _ _=>by kernel_rfl
theorem apm {Γ:Gl} (N:Nat):Sound Γ Tryz.prog 196 (PU N):=fq UJ Tryz.f196 Bx (apj N) apk (apl N) (rc (abK N) trivial) ⟨lF N,trivial⟩
noncomputable def vZ:List Kd:=.v (.sl bj) .k::.v (.sl aM) .k::dn 3 (.v (.sl (.int .i64)) (.o 3 none .k)::.v (.int .i64) .k::dn 60 ([]))
noncomputable def yS:List Kd:=.v (.sl bj) .k::dn 4 (.v (.sl (.int .i64)) (.o 3 none .k)::dn 61 ([]))
noncomputable def yT:List Kd:=dn 4 (.v .bool .k::dn 62 ([]))
noncomputable def UL:Hint:={ tab,hn:=[],loops:=[(3,vZ)],outs:=[(3,2,yS),(3,1,yT)],bp:=[(5,(OT.seq [0,1,2,3,4,5,6,7,8,9,10,11,12,13,14,15,16,17,18,19,20,21,22,23,24,25,26,27,28,29,30] .done)),(7,(OT.seq [0,1,2,3,4,5,6,7,8,9,10,11,12,13] .done))] }
noncomputable def Lj:List AK:=[.v (.sl bj) .k,.v (.sl aM) .k]
noncomputable def aik (N:Nat) (x:ay Lj) (kf:aa→Option aa):Option aa:=aj' N x.1 x.2.1 (fun r0=>kf ⟨[⟨.bool,.k,r0⟩],[]⟩)
noncomputable def PW (N:Nat):=ar Lj (aik N)
noncomputable def YI (N:Nat):List Entry:=[⟨221,[.val,.val,.val],(Gi N)⟩,⟨224,[.val,.val],(oy N)⟩,⟨175,[.val],(gQ N)⟩]
noncomputable def By:Code:=aI Tryz.f197
noncomputable def UM (N n:Nat) (key:Nat) (S:St) (K:Ks):Option aa:=bif Nat.beq key 3 then az vZ S (fun x=>pS N x.1 x.2.1 n (fun z0=>K (.x 0) (shape yS (x.1,z0,()))) (fun z0=>K .r (shape yT (z0,()))) x.2.2.1 x.2.2.2.1) else none
theorem apn (N key:Nat) (S:St) (K:Ks):UM N 0 key S K=none:=(bE (aq fun _=>rfl) rfl)
noncomputable def PX:Code:=(af By).getD 0 .skip
theorem apo:af By=[PX]:=by kernel_rfl
theorem abL (N:Nat):dU UL (YI N) (UM N) N 3 vZ PX:=fun _ _ _=>by kernel_rfl
theorem apq (N:Nat):bQ Lj (aik N) UL (YI N) (UM N N) Tryz.f197:=fun _ _=>by kernel_rfl
theorem apr {Γ:Gl} (N:Nat):Sound Γ Tryz.prog 197 (PW N):=fq UL Tryz.f197 By (apn N) apo (apq N) (rc (abL N) trivial) ⟨Yx N,⟨yB N,⟨lF N,trivial⟩⟩⟩
noncomputable def v7:List Kd:=.v (.sl bS) .k::.v (.int .i64) .k::dn 3 (.v (.int .i64) .k::dn 14 ([]))
noncomputable def yU:List Kd:=dn 20 ([])
noncomputable def yV:List Kd:=dn 4 (.v (.int .i64) .k::dn 15 ([]))
noncomputable def UN:Hint:={ tab,hn:=[],loops:=[(2,v7)],outs:=[(2,2,yU),(2,1,yV)],bp:=[] }
noncomputable def Lk:List AK:=[.v (.sl bS) .k,.v (.int .i64) .k]
noncomputable def ail (N:Nat) (x:ay Lk) (kf:aa→Option aa):Option aa:=E7 N x.1 x.2.1 (fun r0=>kf ⟨[⟨(.int .i64),.k,r0⟩],[]⟩)
noncomputable def Gn (N:Nat):=ar Lk (ail N)
noncomputable def Bz:Code:=aI Tryz.f126
noncomputable def UO (N n:Nat) (key:Nat) (S:St) (K:Ks):Option aa:=bif Nat.beq key 2 then az v7 S (fun x=>pT x.1 x.2.1 n (K (.x 0) (shape yU ())) (fun z0=>K .r (shape yV (z0,()))) x.2.2.1) else none
theorem aps (N key:Nat) (S:St) (K:Ks):UO N 0 key S K=none:=(bE (aq fun _=>rfl) rfl)
noncomputable def PY:Code:=(af Bz).getD 0 .skip
theorem apt:af Bz=[PY]:=by kernel_rfl
theorem abM (N:Nat):dU UN [] (UO N) N 2 v7 PY:=fun _ _ _=>by kernel_rfl
theorem apu (N:Nat):bQ Lk (ail N) UN [] (UO N N) Tryz.f126:=fun _ _=>by kernel_rfl
theorem YJ {Γ:Gl} (N:Nat):Sound Γ Tryz.prog 126 (Gn N):=fq UN Tryz.f126 Bz (aps N) apt (apu N) (rc (abM N) trivial) trivial
noncomputable def v8:List Kd:=.v (.sl bj) .k::.v (.sl bS) .k::.v (.sl aM) .k::.v (.sl (.int .i64)) .k::dn 5 (.v (.int .i64) .k::dn 48 ([]))
noncomputable def yW:List Kd:=dn 58 ([])
noncomputable def yX:List Kd:=dn 8 (.v .bool .k::dn 49 ([]))
noncomputable def UP:Hint:={ tab,hn:=[],loops:=[(4,v8)],outs:=[(4,2,yW),(4,1,yX)],bp:=[(7,(OT.seq [0,1,2,3,4,5,6,7,8,9,10,11,12,13,14,15,16,17,18,19,20,21,22,23,24] .done))] }
noncomputable def Ll:List AK:=[.v (.sl bj) .k,.v (.sl bS) .k,.v (.sl aM) .k,.v (.sl (.int .i64)) .k]
noncomputable def aim (N:Nat) (x:ay Ll) (kf:aa→Option aa):Option aa:=aka N x.1 x.2.1 x.2.2.1 x.2.2.2.1 (fun r0=>kf ⟨[⟨.bool,.k,r0⟩],[]⟩)
noncomputable def PZ (N:Nat):=ar Ll (aim N)
noncomputable def YK (N:Nat):List Entry:=[⟨178,[.val],(yJ N)⟩,⟨126,[.val,.val],(Gn N)⟩,⟨224,[.val,.val],(oy N)⟩,⟨225,[.val,.val,.val],(Gj N)⟩]
noncomputable def BA:Code:=aI Tryz.f198
noncomputable def UQ (N n:Nat) (key:Nat) (S:St) (K:Ks):Option aa:=bif Nat.beq key 4 then az v8 S (fun x=>pU N x.1 x.2.1 x.2.2.1 x.2.2.2.1 n (K (.x 0) (shape yW ())) (fun z0=>K .r (shape yX (z0,()))) x.2.2.2.2.1) else none
theorem apv (N key:Nat) (S:St) (K:Ks):UQ N 0 key S K=none:=(bE (aq fun _=>rfl) rfl)
noncomputable def P1:Code:=(af BA).getD 0 .skip
theorem apw:af BA=[P1]:=by kernel_rfl
theorem abN (N:Nat):dU UP (YK N) (UQ N) N 4 v8 P1:=fun _ _ _=>by kernel_rfl
theorem apx (N:Nat):bQ Ll (aim N) UP (YK N) (UQ N N) Tryz.f198:=fun _ _=>by kernel_rfl
theorem apy {Γ:Gl} (N:Nat):Sound Γ Tryz.prog 198 (PZ N):=fq UP Tryz.f198 BA (apv N) apw (apx N) (rc (abN N) trivial) ⟨K6 N,⟨YJ N,⟨yB N,⟨YA N,trivial⟩⟩⟩⟩
noncomputable def Lm:List AK:=[.v de .k]
noncomputable def ain (N:Nat) (x:ay Lm) (kf:aa→Option aa):Option aa:=NA N x.1 (fun r0=>kf ⟨[⟨.bool,.k,r0⟩],[]⟩)
noncomputable def yY (N:Nat):=ar Lm (ain N)
noncomputable def apz (N:Nat):List Entry:=[⟨195,[.val,.val,.val],(jo N)⟩]
theorem apA (N:Nat):bQ Lm (ain N) hq (apz N) (dP N N) Tryz.f199:=fun _ _=>by kernel_rfl
theorem Ln {Γ:Gl} (N:Nat):Sound Γ Tryz.prog 199 (yY N):=fo hq Tryz.f199 (apA N) ⟨nm N,trivial⟩
end Go.Pv.R
