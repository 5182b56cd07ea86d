/- Each function of the program that the law reaches computes its plain function, part 2. -/
import Derived.Test.YtpcoilhcgcpjmaaGreatDoorSnd1
import Derived.Test.YtpcoilhcgcpjmaaGreatDoorProg
set_option linter.unusedVariables false
noncomputable section
namespace Go.Pv
open List Int IntKind
abbrev mC:= @List.isEmpty_cons
end Go.Pv
namespace Go.Pv.R
open List Int IntKind
open Go.Proofs
set_option maxRecDepth 100000
def av7:Go.Shelf.Ren:=⟨λn=>bif Nat.beq n 138 then 63 else bif Nat.beq n 143 then 64 else bif Nat.beq n 146 then 11 else bif Nat.beq n 195 then 120 else bif Nat.beq n 197 then 121 else bif Nat.beq n 217 then 185 else bif Nat.beq n 218 then 122 else bif Nat.beq n 219 then 123 else bif Nat.beq n 221 then 29 else bif Nat.beq n 224 then 187 else bif Nat.beq n 225 then 186 else bif Nat.beq n 260 then 184 else bif Nat.beq n 266 then 238 else bif Nat.beq n 267 then 188 else bif Nat.beq n 268 then 62 else bif Nat.beq n 314 then 239 else n,λn=>bif Nat.beq n 0 then 0 else bif Nat.beq n 3 then 3 else bif Nat.beq n 4 then 4 else bif Nat.beq n 5 then 5 else bif Nat.beq n 9 then 9 else bif Nat.beq n 21 then 21 else bif Nat.beq n 31 then 22 else bif Nat.beq n 46 then 168 else bif Nat.beq n 51 then 206 else bif Nat.beq n 105 then 128 else bif Nat.beq n 119 then 202 else bif Nat.beq n 138 then 204 else bif Nat.beq n 139 then 205 else bif Nat.beq n 146 then 207 else n,λn=>bif Nat.beq n 1 then 0 else bif Nat.beq n 3 then 1 else bif Nat.beq n 4 then 2 else n⟩
theorem atS:Lays.n146 Tryz.prog av7:=by repeat' first |kernel_rfl |(intro _;kernel_rfl) |constructor
def amc:List AK:=[Lh,Lh]
noncomputable def axM (N:Nat) (x:fu amc) (kf:iI->aa):aa:=S11 N x.1 x.2.1 (λr0=>kf ⟨[⟨(.sl .str),.k,r0⟩],[]⟩)
noncomputable def av8 (N:Nat):=c9 amc (axM N)
theorem aAd {Γ:Gl} (AR:si Γ) (N:Nat):Sound Γ Tryz.prog 11 (av8 N):=aju atS (by kernel_rfl)
noncomputable def amd:CE:=⟨11,[.val,.val],amc,axM⟩
theorem atT:amd.ok:=λh N=>aAd h N
noncomputable def GF:CE:=⟨12,[],[],λN x kf=>HQ N (fw TN Gy kf)⟩
theorem OM:GF.ok:=qp Tryz.f12 [] trivial
def axN:Hint:={ tab,hn:=[],loops:=[],outs:=[],dt:=[] }
def adb:List AK:=[lH]
noncomputable def ajN (N:Nat) (x:fu adb) (kf:iI->aa):aa:=S68 N x.1 (λr0=>kf ⟨[⟨(.sl (.int .i64)),vu,r0⟩],[]⟩)
noncomputable def anP (N:Nat):=c9 adb (ajN N)
def ajO:Code:=iw Tryz.f68
theorem aAe:cR ajO=[]:=by kernel_rfl
theorem aAf (N:Nat):FnT adb (ajN N) axN [] (noL N N) Tryz.f68:=λ_ _=>by kernel_rfl
theorem av9 (N:Nat) (x:fu adb):ja (ajN N x):=by
 obtain⟨l,u⟩:=x;unfold ajN S68;cases l with
 |nil=>exact⟨some _,λK=>H4 _⟩
 |cons a l=>simp only[mC,ae];exact ja.bif _ (ja.pure _) ja.none
theorem atU {Γ:Gl} (AR:si Γ) (N:Nat):Sound Γ Tryz.prog 68 (anP N):=qn (hh:=axN) mixed vt (es:=[]) trivial (fn:=Tryz.f68) (body:=ajO) (by kernel_rfl) (by kernel_rfl) (by kernel_rfl) (by kernel_rfl) (by kernel_rfl) (Lf:=noL N) (ajG N) aAe trivial (N:=N) (by kernel_rfl) (aAf N) (.inr (av9 N))
noncomputable def agL:CE:=⟨68,[.val],adb,ajN⟩
theorem ame:agL.ok:=λh N=>atU h N
noncomputable def zW:CE:=⟨65,[.val],[wh],λN x kf=>oM N x.1 (fw (.sl Q5) adN kf)⟩
def Az:List Kd:=(dn 3 (anB::dn 19 ([])))
theorem Jj:zW.ok:=o9 Tryz.f65 [[agL]] 3 (dn 3 (anB::dn 3 (vw::aQ::aQ::dn 13 ([])))) (λN n x K=>k8 N x.2.1 x.2.2.1 n (λz0=>K (.x 0) (shape Az (z0,()))) x.1 x.2.2.2.1) [(3,2,Az)] ⟨ame,trivial⟩ (hn:=[(6,anA)])
noncomputable def Hd:CE:=⟨66,[.val],[WK],λN x kf=>xp N x.1 (fw (.sl tQJ) api kf)⟩
def yA:List Kd:=(dn 3 (anC::dn 19 ([])))
theorem Sj:Hd.ok:=o9 Tryz.f66 [[agL]] 3 (dn 3 (anC::dn 3 (Aq::aQ::aQ::dn 13 ([])))) (λN n x K=>jJ N x.2.1 x.2.2.1 n (λz0=>K (.x 0) (shape yA (z0,()))) x.1 x.2.2.2.1) [(3,2,yA)] ⟨ame,trivial⟩ (hn:=[(6,(.p .k (.p .k vu)))])
def axO:Hint:={ tab,hn:=[],loops:=[],outs:=[],dt:=[] }
def ade:List AK:=[acX]
noncomputable def ajP (N:Nat) (x:fu ade) (kf:iI->aa):aa:=S67 N x.1 (λr0=>kf ⟨[⟨(.sl Fi),(.o 97 none .k),r0⟩],[]⟩)
noncomputable def av' (N:Nat):=c9 ade (ajP N)
def ajQ:Code:=iw Tryz.f67
theorem aAg:cR ajQ=[]:=by kernel_rfl
theorem aAh (N:Nat):FnT ade (ajP N) axO [] (noL N N) Tryz.f67:=λ_ _=>by kernel_rfl
theorem awa (N:Nat) (x:fu ade):ja (ajP N x):=by
 obtain⟨l,u⟩:=x;unfold ajP S67;cases l with
 |nil=>exact⟨some _,λK=>H4 _⟩
 |cons a l=>simp only[mC,ae];exact ja.bif _ (ja.pure _) ja.none
theorem aAi {Γ:Gl} (AR:si Γ) (N:Nat):Sound Γ Tryz.prog 67 (av' N):=qn (hh:=axO) mixed vt (es:=[]) trivial (fn:=Tryz.f67) (body:=ajQ) (by kernel_rfl) (by kernel_rfl) (by kernel_rfl) (by kernel_rfl) (by kernel_rfl) (Lf:=noL N) (ajG N) aAg trivial (N:=N) (by kernel_rfl) (aAh N) (.inr (awa N))
noncomputable def atV:CE:=⟨67,[.val],ade,ajP⟩
theorem aAj:atV.ok:=λh N=>aAi h N
def axP:Hint:={ tab,hn:=[],loops:=[],outs:=[],dt:=[] }
def adf:List AK:=[agD]
noncomputable def ajR (N:Nat) (x:fu adf) (kf:iI->aa):aa:=S69 N x.1 (λr0=>kf ⟨[⟨(.sl tQB),(.o 101 none .k),r0⟩],[]⟩)
noncomputable def awb (N:Nat):=c9 adf (ajR N)
def ajS:Code:=iw Tryz.f69
theorem aAk:cR ajS=[]:=by kernel_rfl
theorem aAl (N:Nat):FnT adf (ajR N) axP [] (noL N N) Tryz.f69:=λ_ _=>by kernel_rfl
theorem awc (N:Nat) (x:fu adf):ja (ajR N x):=by
 obtain⟨l,u⟩:=x;unfold ajR S69;cases l with
 |nil=>exact⟨some _,λK=>H4 _⟩
 |cons a l=>simp only[mC,ae];exact ja.bif _ (ja.pure _) ja.none
theorem aAm {Γ:Gl} (AR:si Γ) (N:Nat):Sound Γ Tryz.prog 69 (awb N):=qn (hh:=axP) mixed vt (es:=[]) trivial (fn:=Tryz.f69) (body:=ajS) (by kernel_rfl) (by kernel_rfl) (by kernel_rfl) (by kernel_rfl) (by kernel_rfl) (Lf:=noL N) (ajG N) aAk trivial (N:=N) (by kernel_rfl) (aAl N) (.inr (awc N))
noncomputable def atW:CE:=⟨69,[.val],adf,ajR⟩
theorem aAn:atW.ok:=λh N=>aAm h N
def axQ:Hint:={ tab,hn:=[],loops:=[],outs:=[],dt:=[] }
def adg:List AK:=[acY]
noncomputable def ajT (N:Nat) (x:fu adg) (kf:iI->aa):aa:=S70 N x.1 (λr0=>kf ⟨[⟨(.sl tQL),(.o 104 none .k),r0⟩],[]⟩)
noncomputable def awd (N:Nat):=c9 adg (ajT N)
def ajU:Code:=iw Tryz.f70
theorem aAo:cR ajU=[]:=by kernel_rfl
theorem aAp (N:Nat):FnT adg (ajT N) axQ [] (noL N N) Tryz.f70:=λ_ _=>by kernel_rfl
theorem awe (N:Nat) (x:fu adg):ja (ajT N x):=by
 obtain⟨l,u⟩:=x;unfold ajT S70;cases l with
 |nil=>exact⟨some _,λK=>H4 _⟩
 |cons a l=>simp only[mC,ae];exact ja.bif _ (ja.pure _) ja.none
theorem aAq {Γ:Gl} (AR:si Γ) (N:Nat):Sound Γ Tryz.prog 70 (awd N):=qn (hh:=axQ) mixed vt (es:=[]) trivial (fn:=Tryz.f70) (body:=ajU) (by kernel_rfl) (by kernel_rfl) (by kernel_rfl) (by kernel_rfl) (by kernel_rfl) (Lf:=noL N) (ajG N) aAo trivial (N:=N) (by kernel_rfl) (aAp N) (.inr (awe N))
noncomputable def amf:CE:=⟨70,[.val],adg,ajT⟩
theorem atX:amf.ok:=λh N=>aAq h N
noncomputable def ir:CE:=⟨30,[.val],[tq],λN x kf=>bR N x.1 (fw TN Gy kf)⟩
theorem kd:ir.ok:=qp Tryz.f30 [[zW],[Hd],[atV],[agL],[atW],[amf]] ⟨Jj,Sj,aAj,ame,aAn,atX,trivial⟩ (dt:=[(1,(OT.seq [0,1,3,4,2,6,5,7,8,9] .done)),(2,(OT.seq [0,1,3,4,6,7,9,10,2,12,5,8,11,13,14,15,16,17,18,19] .done))])
def atY:Go.Shelf.Ren:=⟨λn=>bif Nat.beq n 137 then 189 else bif Nat.beq n 217 then 185 else bif Nat.beq n 266 then 238 else n,λn=>bif Nat.beq n 3 then 3 else bif Nat.beq n 5 then 5 else bif Nat.beq n 9 then 9 else n,λn=>n⟩
theorem apm:Lays.n137 Tryz.prog atY:=by repeat' first |kernel_rfl |(intro _;kernel_rfl) |constructor
def anQ:List AK:=[Lh,.v (.int .u8) .k]
noncomputable def aAr (N:Nat) (x:fu anQ) (kf:iI->aa):aa:=avc N x.1 x.2.1 (λr0=>kf ⟨[⟨(.int .i64),.k,r0⟩],[]⟩)
noncomputable def ajV (N:Nat):=c9 anQ (aAr N)
theorem awf {Γ:Gl} (AR:si Γ) (N:Nat):Sound Γ Tryz.prog 189 (ajV N):=ajt apm
def ajW:Go.Shelf.Ren:=⟨λn=>bif Nat.beq n 4 then 240 else n,λn=>bif Nat.beq n 0 then 0 else bif Nat.beq n 3 then 3 else bif Nat.beq n 4 then 4 else bif Nat.beq n 9 then 9 else bif Nat.beq n 20 then 20 else bif Nat.beq n 22 then 31 else bif Nat.beq n 25 then 3 else n,λn=>n⟩
theorem apn:Go.Proofs.Lays8.n4 Tryz.prog ajW:={ f4:=⟨Tryz.f240.name,by kernel_rfl,by kernel_rfl⟩,mixed:=by kernel_rfl,t0:=by kernel_rfl,a0:=λw=>by kernel_rfl,z0:=λw=>by kernel_rfl,v0:=λw=>by kernel_rfl,t3:=by kernel_rfl,a3:=λw=>by kernel_rfl,z3:=λw=>by kernel_rfl,v3:=λw=>by kernel_rfl,t4:=by kernel_rfl,a4:=λw=>by kernel_rfl,z4:=λw=>by kernel_rfl,v4:=λw=>by kernel_rfl,t9:=by kernel_rfl,a9:=λw=>by kernel_rfl,z9:=λw=>by kernel_rfl,v9:=λw=>by kernel_rfl,t20:=by kernel_rfl,a20:=λw=>by kernel_rfl,z20:=λw=>by kernel_rfl,v20:=λw=>by kernel_rfl,t22:=by kernel_rfl,a22:=λw=>by kernel_rfl,z22:=λw=>by kernel_rfl,v22:=λw=>by kernel_rfl }
noncomputable def awg:TypeInfo:=(Tryz.prog.info? 3).get (by kernel_rfl)
def agM:List AK:=[.v (.sl (.int .i64)) vu,dG]
noncomputable def atZ (N:Nat) (x:fu agM) (kf:iI->aa):aa:=avd N x.1 x.2.1 (λr0=>kf ⟨[⟨(.sl (.int .i64)),vu,r0⟩],[]⟩)
noncomputable def at0 (N:Nat):=c9 agM (atZ N)
theorem awh {Γ:Gl} (AR:si Γ) (N:Nat):Sound Γ Tryz.prog 240 (at0 N):=al3 (ρ:=ajW) (i0:=awg) (z:=.int .i64 0) apn (by kernel_rfl) (by kernel_rfl) (by kernel_rfl) (by kernel_rfl) (by kernel_rfl)
noncomputable def anR:CE:=⟨240,[.take,.val],agM,atZ⟩
theorem awi:anR.ok:=λh N=>awh h N
noncomputable def nX:CE:=⟨190,[.val],[ajF],λN x kf=>mh N x.1 (fw (.sl (.int .i64)) vu kf)⟩
def xH:List Kd:=(H2::dK::dK::aQ::dn 32 ([]))
def w6:List Kd:=(dn 6 (lM::dn 29 ([])))
theorem FT:nX.ok:=eK2 Tryz.f190 [[anR]] 3 (H2::dK::dK::aQ::dn 5 (H2::aQ::aQ::dn 24 ([]))) (λN n x K=>iQ x.1 x.2.2.1 x.2.2.2.1 n (λz0=>K (.x 0) (shape xH (x.1,z0,()))) x.2.1 x.2.2.2.2.1) 11 (dn 6 (lM::dn 18 (H2::aQ::aQ::dn 8 ([])))) (λN n x K=>eP x.2.1 x.2.2.1 n (λz0=>K (.x 2) (shape w6 (z0,()))) x.1 x.2.2.2.1) [(3,2,xH),(11,4,w6)] ⟨awi,trivial⟩
def at1:Hint:={ tab,hn:=[],loops:=[],outs:=[],dt:=[(14,(OT.seq [0,1,2,3,7,8,4,5,6,9,10,11] .done)),(15,(OT.seq [0,1,2,3,5,6,4,7,8,9] .done))] }
def Xa:List AK:=[Lh]
noncomputable def amg (N:Nat) (x:fu Xa) (kf:iI->aa):aa:=adC N x.1 (λr0 r1 r2=>kf ⟨[⟨(.sl (.int .i64)),vu,r0⟩,⟨.str,.k,r1⟩,⟨.bool,.k,r2⟩],[]⟩)
noncomputable def adh (N:Nat):=c9 Xa (amg N)
def anS (N:Nat):List Entry:=[⟨189,[.val,.val],(ajV N)⟩,⟨190,[.val],(c9 nX.l (nX.F N))⟩,⟨124,[.val],(adh N)⟩]
def afe:Code:=iw Tryz.f124
theorem awj:cR afe=[]:=by kernel_rfl
theorem awk (N:Nat) (x:fu Xa) (kf:iI->aa):amg (N+1) x kf=tU at1 (va.of (anS N)) (noL N N) Tryz.f124 (jD Xa x) kf:=by kernel_rfl
theorem anT {Γ:Gl} (AR:si Γ):∀ N:Nat,Sound Γ Tryz.prog 124 (adh N)
 |0=>wB λal kf=>by unfold adh c9;split<;>rfl
 |N+1=>qn (hh:=at1) mixed vt (es:=anS N) ⟨awf AR N,⟨FT AR N,⟨anT AR N,trivial⟩⟩⟩ (fn:=Tryz.f124) (body:=afe) (by kernel_rfl) (by kernel_rfl) (by kernel_rfl) (by kernel_rfl) (by kernel_rfl) (Lf:=noL N) (ajG N) awj trivial (N:=N) (by kernel_rfl) (awk N) (.inl (by kernel_rfl))
noncomputable def anU:CE:=⟨124,[.val],Xa,amg⟩
theorem awl:anU.ok:=λh N=>anT h N
noncomputable def fI:CE:=⟨193,[.val,.val,.val],[dG,dG,dG],λN x kf=>bq N x.1 x.2.1 x.2.2.1 (fw .bool .k kf)⟩
theorem gK:fI.ok:=qp Tryz.f193 [] trivial
noncomputable def Jk:CE:=⟨194,[.val],[dG],λN x kf=>uQ N x.1 (fw (.int .u64) .k kf)⟩
def AA:List Kd:=(dn 3 (.v (.int .u64) .k::dn 15 ([])))
theorem UK:Jk.ok:=o9 Tryz.f194 [] 3 (aQ::dK::dK::.v (.int .u64) .k::dK::aQ::dn 13 ([])) (λN n x K=>k9 x.1 n (λz0=>K (.x 0) (shape AA (z0,()))) x.2.1 x.2.2.1) [(3,2,AA)] trivial
noncomputable def CL:CE:=⟨127,[.val],[lH],λN x kf=>tJ N x.1 (Rt (.int .u64) .k .bool .k kf)⟩
def He:List Kd:=(dn 4 (axK::dn 98 ([])))
def Hf:List Kd:=(dK::dK::.v (.int .u64) .k::jA::dn 99 ([]))
theorem Jl:CL.ok:=o9 Tryz.f127 [[fI],[Jk]] 5 (dn 4 (axK::dn 10 (kj::aQ::aQ::dn 85 ([])))) (λN n x K=>iR N x.2.1 x.2.2.1 n (λz0=>K (.x 0) (shape He (z0,()))) (λz0 z1=>K .r (shape Hf (z0,z1,()))) x.1 x.2.2.2.1) [(5,2,He),(5,1,Hf)] ⟨gK,UK,trivial⟩ (dt:=[(14,(OT.seq [0,1,2,3,4,5,6,7,8,9,10,11] .done))])
noncomputable def KC:CE:=⟨191,[.val],[lH],λN x kf=>BD N x.1 (fw .bool .k kf)⟩
theorem Xb:KC.ok:=qp Tryz.f191 [[CL]] ⟨Jl,trivial⟩
noncomputable def Hg:CE:=⟨125,[.val],[lH],λN x kf=>pP N x.1 (fw .str .k kf)⟩
def yB:List Kd:=(dn 3 (B'::dn 71 ([])))
theorem Sk:Hg.ok:=o9 Tryz.f125 [[KC]] 5 (dn 3 (B'::dn 8 (kj::aQ::aQ::dn 60 ([])))) (λN n x K=>fE x.2.1 x.2.2.1 n (λz0=>K (.x 0) (shape yB (z0,()))) x.1 x.2.2.2.1) [(5,2,yB)] ⟨Xb,trivial⟩ (dt:=[(9,(OT.seq [0,1,2,3,4,5,6,7,8,9,10,11,12,13,14,15,16,17,18,19,20,21,22] .done))])
noncomputable def FU:CE:=⟨71,[.val],[Lh],λN x kf=>jY N x.1 (Rt (.sl (.int .i64)) vu .bool .k kf)⟩
theorem QK:FU.ok:=qp Tryz.f71 [[anU],[Hg]] ⟨awl,Sk,trivial⟩
noncomputable def yC:CE:=⟨128,[.val],[.v (.int .u64) .k],λN x kf=>qo N x.1 (fw (.int .i64) .k kf)⟩
theorem Ll:yC.ok:=qp Tryz.f128 [] trivial
noncomputable def KD:CE:=⟨73,[.val],[lH],λN x kf=>wK N x.1 (fw (.int .i64) .k kf)⟩
theorem Xc:KD.ok:=qp Tryz.f73 [[CL],[yC]] ⟨Jl,Ll,trivial⟩
def at2:Go.Shelf.Ren:=⟨λn=>bif Nat.beq n 129 then 259 else bif Nat.beq n 171 then 126 else bif Nat.beq n 243 then 192 else bif Nat.beq n 246 then 241 else bif Nat.beq n 283 then 277 else bif Nat.beq n 284 then 278 else bif Nat.beq n 285 then 279 else bif Nat.beq n 286 then 280 else bif Nat.beq n 317 then 305 else bif Nat.beq n 318 then 306 else bif Nat.beq n 319 then 307 else bif Nat.beq n 320 then 308 else bif Nat.beq n 337 then 316 else bif Nat.beq n 338 then 317 else n,λn=>bif Nat.beq n 0 then 0 else bif Nat.beq n 2 then 2 else bif Nat.beq n 3 then 3 else bif Nat.beq n 4 then 4 else bif Nat.beq n 5 then 5 else bif Nat.beq n 9 then 9 else bif Nat.beq n 20 then 20 else bif Nat.beq n 37 then 69 else bif Nat.beq n 46 then 168 else bif Nat.beq n 51 then 206 else bif Nat.beq n 53 then 133 else bif Nat.beq n 171 then 226 else bif Nat.beq n 173 then 228 else bif Nat.beq n 212 then 249 else bif Nat.beq n 213 then 250 else bif Nat.beq n 232 then 258 else bif Nat.beq n 233 then 259 else n,λn=>bif Nat.beq n 17 then 3 else bif Nat.beq n 18 then 4 else bif Nat.beq n 19 then 5 else n⟩
theorem apo:LaysM.n171 Tryz.prog at2:=by repeat' first |kernel_rfl |(intro _;kernel_rfl) |constructor
def agN:List AK:=[dG]
noncomputable def at3 (N:Nat) (x:fu agN) (kf:iI->aa):aa:=ay4 N x.1 (λr0=>kf ⟨[⟨.str,.k,r0⟩],[]⟩)
noncomputable def at4 (N:Nat):=c9 agN (at3 N)
theorem awm {Γ:Gl} (AR:si Γ) (N:Nat):Sound Γ Tryz.prog 126 (at4 N):=alU apo AR
noncomputable def anV:CE:=⟨126,[.val],agN,at3⟩
theorem awn:anV.ok:=λh N=>awm h N
noncomputable def ot:CE:=⟨72,[.val],[dG],λN x kf=>cO N x.1 (fw .str .k kf)⟩
theorem rv:ot.ok:=qp Tryz.f72 [[anV]] ⟨awn,trivial⟩
noncomputable def MS:CE:=⟨75,[.val],[lH],λN x kf=>yi N x.1 (fw .bool .k kf)⟩
theorem Y0:MS.ok:=qp Tryz.f75 [[CL]] ⟨Jl,trivial⟩
noncomputable def Lm:CE:=⟨74,[.val],[afa],λN x kf=>Ei N x.1 (fw .str .k kf)⟩
theorem Td:Lm.ok:=qp Tryz.f74 [] trivial
noncomputable def Hi:CE:=⟨31,[.val],[ajE],λN x kf=>jn N x.1 (fw .str .k kf)⟩
theorem Sl:Hi.ok:=qp Tryz.f31 [[FU],[KD],[ot],[MS],[Lm]] ⟨QK,Xc,rv,Y0,Td,trivial⟩
noncomputable def Te:CE:=⟨32,[.val],[Lh],λN x kf=>IE N x.1 (fw (.int .i64) .k kf)⟩
theorem adQ:Te.ok:=qp Tryz.f32 [] trivial
noncomputable def MT:CE:=⟨33,[.val],[Lh],λN x kf=>yj N x.1 (Rt (.int .i64) .k .bool .k kf)⟩
def DG:List Kd:=(dn 4 (aQ::dn 46 ([])))
def DH:List Kd:=(dK::dK::aQ::jA::dn 47 ([]))
theorem Y1:MT.ok:=o9 Tryz.f33 [] 5 (wX::dn 3 (aQ::dn 20 (aQ::aQ::dn 24 ([])))) (λN n x K=>pQ x.1 x.2.2.1 n (λz0=>K (.x 0) (shape DG (z0,()))) (λz0 z1=>K .r (shape DH (z0,z1,()))) x.2.1 x.2.2.2.1) [(5,2,DG),(5,1,DH)] trivial
noncomputable def Jm:CE:=⟨196,[.val],[.v Q5 .k,atD],λN x kf=>y5 N x.1 x.2.1 (fw .bool .k kf)⟩
theorem UL:Jm.ok:=qp Tryz.f196 [] trivial
noncomputable def ni:CE:=⟨195,[.val,.val],[wh,.fn 196 [(.ptr (.int .i64))]],λN x kf=>jo N x.1 x.2.1.1 (fw (.int .i64) .k kf)⟩
def kL:List Kd:=(dn 19 ([]))
def kM:List Kd:=(dn 4 (aQ::dn 14 ([])))
theorem vA:ni.ok:=o9 Tryz.f195 [[Jm]] 2 (vw::.EL 196 [.kv (.ptr (.int .i64))]::dn 5 (aQ::aQ::dn 10 ([]))) (λN n x K=>cK N x.1 x.2.1.1 x.2.2.1 n (K (.x 0) (shape kL ())) (λz0=>K .r (shape kM (z0,()))) x.2.2.2.1) [(2,2,kL),(2,1,kM)] ⟨UL,trivial⟩
noncomputable def jw:CE:=⟨129,[.val,.val],[wh,dG],λN x kf=>eF N x.1 x.2.1 (fw (.int .i64) .k kf)⟩
theorem lC:jw.ok:=qp Tryz.f129 [[ni]] ⟨vA,trivial⟩
noncomputable def ou:CE:=⟨130,[.val],[tq],λN x kf=>iS N x.1 (fw .bool .k kf)⟩
theorem ry:ou.ok:=qp Tryz.f130 [] trivial
def at5:Go.Shelf.Ren:=⟨λn=>bif Nat.beq n 22 then 131 else bif Nat.beq n 29 then 197 else bif Nat.beq n 30 then 198 else n,λn=>bif Nat.beq n 0 then 0 else bif Nat.beq n 3 then 3 else bif Nat.beq n 4 then 4 else bif Nat.beq n 9 then 106 else bif Nat.beq n 24 then 28 else n,λn=>n⟩
def awo:Array Value:=#[.int .i64 0,.int .i64 0,.int .i64 0,.int .i64 0,.int .i64 0,.slice none 0 0]
noncomputable def awp:TypeInfo:=(Tryz.prog.info? 106).get (by kernel_rfl)
theorem at6:ae8 Tryz.prog at5 (Ty.size Q5) awo awp:={ FB:=⟨Tryz.f131.name,by kernel_rfl,by kernel_rfl⟩,FO:=⟨Tryz.f197,by kernel_rfl,by kernel_rfl,by kernel_rfl,by kernel_rfl,by kernel_rfl⟩,mixed:=by kernel_rfl,t0:=by kernel_rfl,a0:=λw=>by kernel_rfl,z0:=λw=>by kernel_rfl,v0:=λw=>by kernel_rfl,t3:=by kernel_rfl,a3:=λw=>by kernel_rfl,z3:=λw=>by kernel_rfl,v3:=λw=>by kernel_rfl,t4:=by kernel_rfl,a4:=λw=>by kernel_rfl,z4:=λw=>by kernel_rfl,v4:=λw=>by kernel_rfl,t24:=by kernel_rfl,a24:=λw=>by kernel_rfl,z24:=λw=>by kernel_rfl,v24:=λw=>by kernel_rfl,z9:=λw=>by kernel_rfl,hz:=by kernel_rfl,hzo:=by kernel_rfl,hi0:=by kernel_rfl,hz0:=by kernel_rfl,hz1:=by kernel_rfl,hby:=bJ (by kernel_rfl),X6:=bJ (by kernel_rfl) }
def agO:List AK:=[.v (.sl Q5) adN,dG,.v (.sl Q5) adN]
noncomputable def at7 (N:Nat) (x:fu agO) (kf:iI->aa):aa:=avf N x.1 x.2.1 x.2.2.1 (λr0=>kf ⟨[⟨(.sl Q5),adN,r0⟩],[]⟩)
noncomputable def aua (N:Nat):=c9 agO (at7 N)
theorem awq {Γ:Gl} (AR:si Γ) (N:Nat):Sound Γ Tryz.prog 131 (aua N):=WJ at6 anA (by kernel_rfl)
noncomputable def anW:CE:=⟨131,[.take,.val,.take],agO,at7⟩
theorem awr:anW.ok:=λh N=>awq h N
noncomputable def MU:CE:=⟨244,[.val],[acY],λN x kf=>K8 N x.1 (fw (.int .i64) .k kf)⟩
theorem Y2:MU.ok:=qp Tryz.f244 [] trivial
noncomputable def ZO:CE:=⟨318,[.val,.val],[dG,dG],λN x kf=>VM N x.1 x.2.1 (fw (.int .i64) .k kf)⟩
theorem ajX:ZO.ok:=qp Tryz.f318 [[fI]] ⟨gK,trivial⟩
noncomputable def Xd:CE:=⟨309,[.val,.val],[dG,dG],λN x kf=>Ra N x.1 x.2.1 (fw (.int .i64) .k kf)⟩
theorem agP:Xd.ok:=qp Tryz.f309 [[ZO]] ⟨ajX,trivial⟩
noncomputable def Xe:CE:=⟨282,[.val],[lH],λN x kf=>Rb N x.1 (fw (.int .i64) .k kf)⟩
def KE:List Kd:=(dn 3 (aQ::dn 13 ([])))
theorem agQ:Xe.ok:=o9 Tryz.f282 [[Xd]] 3 (dn 3 (aQ::dK::dK::kj::aQ::aQ::dn 8 ([]))) (λN n x K=>uk N x.2.1 x.2.2.1 n (λz0=>K (.x 0) (shape KE (z0,()))) x.1 x.2.2.2.1) [(3,2,KE)] ⟨agP,trivial⟩
noncomputable def EE:CE:=⟨243,[.val,.val],[dG,.v tQL .k],λN x kf=>rU N x.1 x.2.1 (fw (.int .i64) .k kf)⟩
theorem MV:EE.ok:=qp Tryz.f243 [[Xe]] ⟨agQ,trivial⟩
noncomputable def uD:CE:=⟨205,[.val],[acY],λN x kf=>qH N x.1 (fw .bool .k kf)⟩
def AB:List Kd:=(dn 44 ([]))
def AD:List Kd:=(dK::dK::jA::dn 41 ([]))
theorem zX:uD.ok:=o9 Tryz.f205 [[fI],[EE]] 5 (dn 3 (aQ::dn 5 (anE::aQ::aQ::dn 32 ([])))) (λN n x K=>ld N x.2.1 x.2.2.1 n (K (.x 0) (shape AB ())) (λz0=>K .r (shape AD (z0,()))) x.1 x.2.2.2.1) [(5,2,AB),(5,1,AD)] ⟨gK,MV,trivial⟩ (dt:=[(7,(OT.seq [0,1,2,3,4,5,6,7,8,9,10,11,12,13,14,15,16,17,18,19,20,21,22,23,24] .done))])
noncomputable def KF:CE:=⟨199,[.val,.val,.val],[acY,dG,dG],λN x kf=>BE N x.1 x.2.1 x.2.2.1 (Rt (.sl tQL) (.o 104 none .k) .bool .k kf)⟩
theorem Xf:KF.ok:=qp Tryz.f199 [[MU],[EE],[amf],[uD]] ⟨Y2,MV,atX,zX,trivial⟩ (dt:=[(2,(OT.seq [0,2,1,3,4,5] .done)),(3,(OT.seq [0,2] (.any [1,3] (OT.seq [4,5] .done))))])
noncomputable def E7:CE:=⟨217,[.val,.val],[lH,dG],λN x kf=>qe N x.1 x.2.1 (fw (.int .i64) .k kf)⟩
def Jn:List Kd:=(dn 5 (aQ::dn 15 ([])))
theorem Ln:E7.ok:=o9 Tryz.f217 [] 3 (dK::aQ::dn 3 (aQ::dK::dK::kj::aQ::aQ::dn 10 ([]))) (λN n x K=>pF x.1 x.2.2.1 x.2.2.2.1 n (λz0=>K (.x 0) (shape Jn (z0,()))) x.2.1 x.2.2.2.2.1) [(3,2,Jn)] trivial
noncomputable def gU:CE:=⟨145,[.val],[wh],λN x kf=>fY N x.1 (fw .bool .k kf)⟩
def CM:List Kd:=(vw::dn 11 (vw::aQ::aQ::dn 91 ([])))
def CN:List Kd:=(dK::dK::jA::dn 103 ([]))
def DI:List Kd:=(dn 106 ([]))
def DJ:List Kd:=(dK::dK::jA::dn 103 ([]))
theorem jx:gU.ok:=eK2 Tryz.f145 [[fI],[jw],[E7]] 4 (vw::dn 11 (vw::aQ::aQ::dn 91 ([]))) (λN n x K=>lx N x.1 x.2.1 x.2.2.1 n (K (.x 0) (shape DI ())) (λz0=>K .r (shape DJ (z0,()))) x.2.2.2.1) 10 (vw::dn 3 (atF::dn 7 (vw::aQ::aQ::dn 57 (kj::aQ::aQ::dn 31 ([]))))) (λN n x K=>fX N x.1 x.2.1 x.2.2.1 x.2.2.2.1 x.2.2.2.2.1 x.2.2.2.2.2.1 x.2.2.2.2.2.2.1 n (K (.x 2) (shape CM (x.1,x.2.2.1,x.2.2.2.1,x.2.2.2.2.1,()))) (λz0=>K .r (shape CN (z0,()))) x.2.2.2.2.2.2.2.1) [(10,4,CM),(10,1,CN),(4,2,DI),(4,1,DJ)] ⟨gK,lC,Ln,trivial⟩ (dt:=[(7,(OT.seq [0,1,2,3,4,5,6,7,8,9,10,11,12,13,14,15,16,17,18,19,20,21,22,23,24,25,26,27,28,29,30,31,32,33,34,35,36,37,38,39,40,41,42,43,44,45,46,47,48] .done)),(13,(OT.seq [0,1,2,3,4,5,6,7,8,9,10,11,13,14,15,16,17,18,19,12,20,21,22] .done))])
noncomputable def vZ:CE:=⟨204,[.val],[WK],λN x kf=>sZ N x.1 (fw .bool .k kf)⟩
def CO:List Kd:=(Aq::dn 9 (Aq::aQ::aQ::dn 56 ([])))
def CP:List Kd:=(dK::dK::jA::dn 66 ([]))
def CQ:List Kd:=(dn 69 ([]))
def CR:List Kd:=(dK::dK::jA::dn 66 ([]))
theorem CS:vZ.ok:=eK2 Tryz.f204 [[fI]] 4 (Aq::dn 9 (Aq::aQ::aQ::dn 56 ([]))) (λN n x K=>j0 N x.1 x.2.1 x.2.2.1 n (K (.x 0) (shape CQ ())) (λz0=>K .r (shape CR (z0,()))) x.2.2.2.1) 9 (Aq::dn 3 (.v (.ptr tQJ) (.o 108 none .k)::dn 5 (Aq::aQ::aQ::dn 30 (kj::aQ::aQ::dn 23 ([]))))) (λN n x K=>fg N x.1 x.2.1 x.2.2.1 x.2.2.2.1 x.2.2.2.2.1 x.2.2.2.2.2.1 x.2.2.2.2.2.2.1 n (K (.x 2) (shape CO (x.1,x.2.2.1,x.2.2.2.1,x.2.2.2.2.1,()))) (λz0=>K .r (shape CP (z0,()))) x.2.2.2.2.2.2.2.1) [(9,4,CO),(9,1,CP),(4,2,CQ),(4,1,CR)] ⟨gK,trivial⟩ (dt:=[(6,(OT.seq [0,1,2,3,4,5,6,7,8,9,10,11,12,13,14,15,16,17,18,19,20,21,22,23,24] .done))])
noncomputable def xW:CE:=⟨274,[.val,.val],[lH,dG],λN x kf=>nu N x.1 x.2.1 (fw (.int .i64) .k kf)⟩
def yD:List Kd:=(dn 19 ([]))
def yE:List Kd:=(dn 4 (aQ::dn 14 ([])))
theorem Hj:xW.ok:=o9 Tryz.f274 [] 2 (kj::aQ::dn 5 (aQ::aQ::dn 10 ([]))) (λN n x K=>jK x.1 x.2.1 x.2.2.1 n (K (.x 0) (shape yD ())) (λz0=>K .r (shape yE (z0,()))) x.2.2.2.1) [(2,2,yD),(2,1,yE)] trivial
noncomputable def eB:CE:=⟨229,[.val,.val],[lH,dG],λN x kf=>dB N x.1 x.2.1 (fw .bool .k kf)⟩
theorem gB:eB.ok:=qp Tryz.f229 [[xW]] ⟨Hj,trivial⟩
noncomputable def ON:CE:=⟨284,[.val,.val,.val],[wh,dG,dG],λN x kf=>HS N x.1 x.2.1 x.2.2.1 (fw .bool .k kf)⟩
theorem aah:ON.ok:=qp Tryz.f284 [[jw],[eB]] ⟨lC,gB,trivial⟩
noncomputable def zk:CE:=⟨246,[.val,.val,.val],[wh,dG,dG],λN x kf=>um N x.1 x.2.1 x.2.2.1 (fw .bool .k kf)⟩
theorem OO:zk.ok:=qp Tryz.f246 [[jw],[gU],[ON]] ⟨lC,jx,aah,trivial⟩ (dt:=[(2,(OT.seq [0,1,2,3,4,5,6,7,8,9,10,11,12,13,14,15,16,17,18,19,20,21,22,23,24,25,26,27,28,29,30,31,32,33,34,35] .done))])
end Go.Pv.R
