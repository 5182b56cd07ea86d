/- Each function of the program that the law reaches computes its plain function, part 2. -/
import Derived.Test.YteplhdhbdkpgjaaGreatDoorSnd1b
import Derived.Test.YteplhdhbdkpgjaaGreatDoorProg
set_option linter.unusedVariables false
noncomputable section
namespace Go.Pv
open List Int IntKind
abbrev mB:= @List.isEmpty_cons
end Go.Pv
namespace Go.Pv.R
open List Int IntKind
open Go.Proofs
set_option maxRecDepth 100000
def aww:Go.Shelf.Ren:=⟨XI [(138,159),(143,160),(146,38),(195,221),(197,222),(217,275),(218,223),(219,224),(221,96),(224,277),(225,276),(260,274),(266,316),(267,278),(268,158),(314,317)],XI [(0,0),(3,3),(4,4),(5,5),(9,9),(21,21),(31,50),(46,210),(51,250),(105,204),(119,258),(138,260),(139,261),(146,262)],XI [(1,0),(3,1),(4,2)]⟩
theorem auf:Lays.n146 Tryz.prog aww:=by repeat' first |kernel_rfl |(intro _;kernel_rfl) |constructor
def amZ:List AK:=[Ng,Ng]
noncomputable def ayk (N:Nat) (x:fK amZ) (kf:jD->aa):aa:=S38 N x.1 x.2.1 (λr0=>kf ⟨[⟨(.sl .str),.k,r0⟩],[]⟩)
noncomputable def awx (N:Nat):=cX amZ (ayk N)
theorem aAM {Γ:Gl} (zU:sA Γ) (N:Nat):Sound Γ Tryz.prog 38 (awx N):=akb auf (by kernel_rfl)
theorem aAN:CE.ok ⟨38,[.val,.val],amZ,ayk⟩:=λh N=>aAM h N
def aug:Hint:={ tab,hn:=[],loops:=[],outs:=[],dA:=[] }
def Wz:List AK:=[kg]
noncomputable def adG (N:Nat) (x:fK Wz) (kf:jD->aa):aa:=agy N x.1 (λr0=>kf ⟨[⟨(.sl (.int .i64)),wL,r0⟩],[]⟩)
noncomputable def akv (N:Nat):=cX Wz (adG N)
def afL:Code:=iF Tryz.f100
theorem awy:cY afL=[]:=by kernel_rfl
theorem awz (N:Nat):FnT Wz (adG N) aug [] (noL N N) Tryz.f100:=λ_ _=>by kernel_rfl
theorem auh (N:Nat) (x:fK Wz):jk (adG N x):=by
 obtain⟨l,u⟩:=x;unfold adG agy;cases l with
 |nil=>exact⟨some _,λK=>Ii _⟩
 |cons a l=>simp only[mB,ae];exact jk.bif _ (jk.pure _) jk.none
theorem aou {Γ:Gl} (zU:sA Γ) (N:Nat):Sound Γ Tryz.prog 100 (akv N):=qz (hh:=aug) mixed vz (es:=[]) trivial (fn:=Tryz.f100) (body:=afL) (by kernel_rfl) (by kernel_rfl) (by kernel_rfl) (by kernel_rfl) (by kernel_rfl) (Lf:=noL N) (ako N) awy trivial (N:=N) (by kernel_rfl) (awz N) (.inr (auh N))
theorem aht:CE.ok ⟨100,[.val],Wz,adG⟩:=λh N=>aou h N
def Aq:List Kd:=(dn 3 (afG::dn 19 ([])))
theorem JH:CE.ok ⟨97,[.val],[tF],λN x kf=>o7 N x.1 (eH (.sl lG) adi kf)⟩:=lK Tryz.f97 3 (dn 3 (afG::dn 3 (sC::aN::aN::dn 13 ([])))) (λN n x K=>kV N x.2.1 x.2.2.1 n (λz0=>K (.x 0) (shape Aq (z0,()))) x.1 x.2.2.2.1) [(3,2,Aq)] (bE aht dC) (hn:=[(6,adh)])
def yr:List Kd:=(dn 3 (afH::dn 19 ([])))
theorem Rc:CE.ok ⟨98,[.val],[Nf],λN x kf=>xd N x.1 (eH (.sl n5) amQ kf)⟩:=lK Tryz.f98 3 (dn 3 (afH::dn 3 (GS::aN::aN::dn 13 ([])))) (λN n x K=>jH N x.2.1 x.2.2.1 n (λz0=>K (.x 0) (shape yr (z0,()))) x.1 x.2.2.2.1) [(3,2,yr)] (bE aht dC) (hn:=[(6,Zz)])
def ayl:Hint:={ tab,hn:=[],loops:=[],outs:=[],dA:=[] }
def adH:List AK:=[Q6]
noncomputable def akw (N:Nat) (x:fK adH) (kf:jD->aa):aa:=S99 N x.1 (λr0=>kf ⟨[⟨(.sl dt),(.o 133 none .k),r0⟩],[]⟩)
noncomputable def awA (N:Nat):=cX adH (akw N)
def akx:Code:=iF Tryz.f99
theorem aAO:cY akx=[]:=by kernel_rfl
theorem aAP (N:Nat):FnT adH (akw N) ayl [] (noL N N) Tryz.f99:=λ_ _=>by kernel_rfl
theorem awB (N:Nat) (x:fK adH):jk (akw N x):=by
 obtain⟨l,u⟩:=x;unfold akw S99;cases l with
 |nil=>exact⟨some _,λK=>Ii _⟩
 |cons a l=>simp only[mB,ae];exact jk.bif _ (jk.pure _) jk.none
theorem aAQ {Γ:Gl} (zU:sA Γ) (N:Nat):Sound Γ Tryz.prog 99 (awA N):=qz (hh:=ayl) mixed vz (es:=[]) trivial (fn:=Tryz.f99) (body:=akx) (by kernel_rfl) (by kernel_rfl) (by kernel_rfl) (by kernel_rfl) (by kernel_rfl) (Lf:=noL N) (ako N) aAO trivial (N:=N) (by kernel_rfl) (aAP N) (.inr (awB N))
theorem aAR:CE.ok ⟨99,[.val],adH,akw⟩:=λh N=>aAQ h N
def aui:Hint:={ tab,hn:=[],loops:=[],outs:=[],dA:=[] }
def WA:List AK:=[V']
noncomputable def adI (N:Nat) (x:fK WA) (kf:jD->aa):aa:=avC N x.1 (λr0=>kf ⟨[⟨(.sl vo),(.o 137 none .k),r0⟩],[]⟩)
noncomputable def auj (N:Nat):=cX WA (adI N)
def afM:Code:=iF Tryz.f101
theorem awC:cY afM=[]:=by kernel_rfl
theorem awD (N:Nat):FnT WA (adI N) aui [] (noL N N) Tryz.f101:=λ_ _=>by kernel_rfl
theorem auk (N:Nat) (x:fK WA):jk (adI N x):=by
 obtain⟨l,u⟩:=x;unfold adI avC;cases l with
 |nil=>exact⟨some _,λK=>Ii _⟩
 |cons a l=>simp only[mB,ae];exact jk.bif _ (jk.pure _) jk.none
theorem awE {Γ:Gl} (zU:sA Γ) (N:Nat):Sound Γ Tryz.prog 101 (auj N):=qz (hh:=aui) mixed vz (es:=[]) trivial (fn:=Tryz.f101) (body:=afM) (by kernel_rfl) (by kernel_rfl) (by kernel_rfl) (by kernel_rfl) (by kernel_rfl) (Lf:=noL N) (ako N) awC trivial (N:=N) (by kernel_rfl) (awD N) (.inr (auk N))
theorem awF:CE.ok ⟨101,[.val],WA,adI⟩:=λh N=>awE h N
def aul:Hint:={ tab,hn:=[],loops:=[],outs:=[],dA:=[] }
def WB:List AK:=[Z']
noncomputable def adJ (N:Nat) (x:fK WB) (kf:jD->aa):aa:=apj N x.1 (λr0=>kf ⟨[⟨(.sl tM),(.o 141 none .k),r0⟩],[]⟩)
noncomputable def aum (N:Nat):=cX WB (adJ N)
def afN:Code:=iF Tryz.f102
theorem awG:cY afN=[]:=by kernel_rfl
theorem awH (N:Nat):FnT WB (adJ N) aul [] (noL N N) Tryz.f102:=λ_ _=>by kernel_rfl
theorem aun (N:Nat) (x:fK WB):jk (adJ N x):=by
 obtain⟨l,u⟩:=x;unfold adJ apj;cases l with
 |nil=>exact⟨some _,λK=>Ii _⟩
 |cons a l=>simp only[mB,ae];exact jk.bif _ (jk.pure _) jk.none
theorem awI {Γ:Gl} (zU:sA Γ) (N:Nat):Sound Γ Tryz.prog 102 (aum N):=qz (hh:=aul) mixed vz (es:=[]) trivial (fn:=Tryz.f102) (body:=afN) (by kernel_rfl) (by kernel_rfl) (by kernel_rfl) (by kernel_rfl) (by kernel_rfl) (Lf:=noL N) (ako N) awG trivial (N:=N) (by kernel_rfl) (awH N) (.inr (aun N))
theorem aov:CE.ok ⟨102,[.val],WB,adJ⟩:=λh N=>awI h N
theorem j8:CE.ok ⟨39,[.val],[qv],λN x kf=>bU N x.1 (eH pG zH kf)⟩:=nb Tryz.f39 (bE JH (bE Rc (bE aAR (bE aht (bE awF (bE aov dC)))))) (dA:=[(1,(OT.seq [0,1,3,4,2,6,5,7,8,9] .done)),(2,(OT.seq [0,1,3,4,6,7,9,10,2,12,5,8,11,13,14,15,16,17,18,19] .done))])
def auo:Go.Shelf.Ren:=⟨XI [(137,225),(217,275),(266,316)],XI [(3,3),(5,5),(9,9)],XI []⟩
theorem apR:Lays.n137 Tryz.prog auo:=by repeat' first |kernel_rfl |(intro _;kernel_rfl) |constructor
def aow:List AK:=[Ng,.v (.int .u8) .k]
noncomputable def aAS (N:Nat) (x:fK aow) (kf:jD->aa):aa:=avD N x.1 x.2.1 (λr0=>kf ⟨[⟨(.int .i64),.k,r0⟩],[]⟩)
noncomputable def aky (N:Nat):=cX aow (aAS N)
theorem awJ {Γ:Gl} (zU:sA Γ) (N:Nat):Sound Γ Tryz.prog 225 (aky N):=aka apR
def akz:Go.Shelf.Ren:=⟨XI [(4,279)],XI [(0,0),(3,3),(4,4),(9,9),(20,20),(22,25),(25,3)],λn=>n⟩
theorem apS:Go.Proofs.Lays8.n4 Tryz.prog akz:={ f4:=⟨Tryz.f279.name,by kernel_rfl,by kernel_rfl⟩,mixed:=by kernel_rfl,t0:=by kernel_rfl,a0:=λw=>by kernel_rfl,z0:=λw=>by kernel_rfl,v0:=λw=>by kernel_rfl,t3:=by kernel_rfl,a3:=λw=>by kernel_rfl,z3:=λw=>by kernel_rfl,v3:=λw=>by kernel_rfl,t4:=by kernel_rfl,a4:=λw=>by kernel_rfl,z4:=λw=>by kernel_rfl,v4:=λw=>by kernel_rfl,t9:=by kernel_rfl,a9:=λw=>by kernel_rfl,z9:=λw=>by kernel_rfl,v9:=λw=>by kernel_rfl,t20:=by kernel_rfl,a20:=λw=>by kernel_rfl,z20:=λw=>by kernel_rfl,v20:=λw=>by kernel_rfl,t22:=by kernel_rfl,a22:=λw=>by kernel_rfl,z22:=λw=>by kernel_rfl,v22:=λw=>by kernel_rfl }
noncomputable def awK:TypeInfo:=(Tryz.prog.info? 3).get (by kernel_rfl)
def ahu:List AK:=[.v (.sl (.int .i64)) wL,db]
noncomputable def aup (N:Nat) (x:fK ahu) (kf:jD->aa):aa:=avE N x.1 x.2.1 (λr0=>kf ⟨[⟨(.sl (.int .i64)),wL,r0⟩],[]⟩)
noncomputable def auq (N:Nat):=cX ahu (aup N)
theorem awL {Γ:Gl} (zU:sA Γ) (N:Nat):Sound Γ Tryz.prog 279 (auq N):=amP (ρ:=akz) (i0:=awK) (z:=.int .i64 0) apS (by kernel_rfl) (by kernel_rfl) (by kernel_rfl) (by kernel_rfl) (by kernel_rfl)
theorem awM:CE.ok ⟨279,[.take,.val],ahu,aup⟩:=λh N=>awL h N
noncomputable def n0:CE:=⟨226,[.val],[akn],λN x kf=>mf N x.1 (eH (.sl (.int .i64)) wL kf)⟩
def xv:List Kd:=(Ig::dK::dK::aN::dn 32 ([]))
def wN:List Kd:=(dn 6 (lz::dn 29 ([])))
theorem F9:n0.ok:=eK2 Tryz.f226 3 (Ig::dK::dK::aN::dn 5 (Ig::aN::aN::dn 24 ([]))) (λN n x K=>iW x.1 x.2.2.1 x.2.2.2.1 n (λz0=>K (.x 0) (shape xv (x.1,z0,()))) x.2.1 x.2.2.2.2.1) 11 (dn 6 (lz::dn 18 (Ig::aN::aN::dn 8 ([])))) (λN n x K=>fi x.2.1 x.2.2.1 n (λz0=>K (.x 2) (shape wN (z0,()))) x.1 x.2.2.2.1) [(3,2,xv),(11,4,wN)] (bE awM dC)
def aur:Hint:={ tab,hn:=[],loops:=[],outs:=[],dA:=[(14,(OT.seq [0,1,2,3,7,8,4,5,6,9,10,11] .done)),(15,(OT.seq [0,1,2,3,5,6,4,7,8,9] .done))] }
def WC:List AK:=[Ng]
noncomputable def am0 (N:Nat) (x:fK WC) (kf:jD->aa):aa:=ad' N x.1 (λr0 r1 r2=>kf ⟨[⟨(.sl (.int .i64)),wL,r0⟩,⟨.str,.k,r1⟩,⟨.bool,.k,r2⟩],[]⟩)
noncomputable def adK (N:Nat):=cX WC (am0 N)
def aox (N:Nat):List Entry:=[⟨225,[.val,.val],(aky N)⟩,⟨226,[.val],(cX n0.l (n0.F N))⟩,⟨161,[.val],(adK N)⟩]
def afO:Code:=iF Tryz.f161
theorem awN:cY afO=[]:=by kernel_rfl
theorem awO (N:Nat) (x:fK WC) (kf:jD->aa):am0 (N+1) x kf=rP aur (vi.of (aox N)) (noL N N) Tryz.f161 (iS WC x) kf:=by kernel_rfl
theorem aoy {Γ:Gl} (zU:sA Γ):∀ N:Nat,Sound Γ Tryz.prog 161 (adK N)
 |0=>wk λal kf=>by unfold adK cX;split<;>rfl
 |N+1=>qz (hh:=aur) mixed vz (es:=aox N) ⟨awJ zU N,⟨F9 zU N,⟨aoy zU N,trivial⟩⟩⟩ (fn:=Tryz.f161) (body:=afO) (by kernel_rfl) (by kernel_rfl) (by kernel_rfl) (by kernel_rfl) (by kernel_rfl) (Lf:=noL N) (ako N) awN trivial (N:=N) (by kernel_rfl) (awO N) (.inl (by kernel_rfl))
theorem awP:CE.ok ⟨161,[.val],WC,am0⟩:=λh N=>aoy h N
theorem gT:CE.ok ⟨229,[.val,.val,.val],[db,db,db],λN x kf=>bw N x.1 x.2.1 x.2.2.1 (eH .bool .k kf)⟩:=nb Tryz.f229 dC
def Ar:List Kd:=(dn 3 (.v (.int .u64) .k::dn 15 ([])))
theorem Tv:CE.ok ⟨230,[.val],[db],λN x kf=>uR N x.1 (eH (.int .u64) .k kf)⟩:=lK Tryz.f230 3 (aN::dK::dK::.v (.int .u64) .k::dK::aN::dn 13 ([])) (λN n x K=>kW x.1 n (λz0=>K (.x 0) (shape Ar (z0,()))) x.2.1 x.2.2.1) [(3,2,Ar)] dC
def Hq:List Kd:=(dn 4 (ayh::dn 98 ([])))
def Hr:List Kd:=(dK::dK::.v (.int .u64) .k::iE::dn 99 ([]))
theorem JI:CE.ok ⟨164,[.val],[kg],λN x kf=>tS N x.1 (RS (.int .u64) .k .bool .k kf)⟩:=lK Tryz.f164 5 (dn 4 (ayh::dn 10 (jh::aN::aN::dn 85 ([])))) (λN n x K=>iX N x.2.1 x.2.2.1 n (λz0=>K (.x 0) (shape Hq (z0,()))) (λz0 z1=>K .r (shape Hr (z0,z1,()))) x.1 x.2.2.2.1) [(5,2,Hq),(5,1,Hr)] (bE gT (bE Tv dC)) (dA:=[(14,(OT.seq [0,1,2,3,4,5,6,7,8,9,10,11] .done))])
theorem WD:CE.ok ⟨227,[.val],[kg],λN x kf=>Bu N x.1 (eH .bool .k kf)⟩:=nb Tryz.f227 (bE JI dC)
def yt:List Kd:=(dn 3 (xr::dn 71 ([])))
theorem Re:CE.ok ⟨162,[.val],[kg],λN x kf=>pY N x.1 (eH .str .k kf)⟩:=lK Tryz.f162 5 (dn 3 (xr::dn 8 (jh::aN::aN::dn 60 ([])))) (λN n x K=>fT x.2.1 x.2.2.1 n (λz0=>K (.x 0) (shape yt (z0,()))) x.1 x.2.2.2.1) [(5,2,yt)] (bE WD dC) (dA:=[(9,(OT.seq [0,1,2,3,4,5,6,7,8,9,10,11,12,13,14,15,16,17,18,19,20,21,22] .done))])
theorem PF:CE.ok ⟨103,[.val],[Ng],λN x kf=>jV N x.1 (RS (.sl (.int .i64)) wL .bool .k kf)⟩:=nb Tryz.f103 (bE awP (bE Re dC))
theorem Le:CE.ok ⟨165,[.val],[.v (.int .u64) .k],λN x kf=>qA N x.1 (eH (.int .i64) .k kf)⟩:=nb Tryz.f165 dC
theorem WE:CE.ok ⟨105,[.val],[kg],λN x kf=>wy N x.1 (eH (.int .i64) .k kf)⟩:=nb Tryz.f105 (bE JI (bE Le dC))
def aus:Go.Shelf.Ren:=⟨XI [(129,298),(171,163),(243,228),(246,280),(283,318),(284,319),(285,320),(286,321),(317,346),(318,347),(319,348),(320,349),(337,357),(338,358)],XI [(0,0),(2,2),(3,3),(4,4),(5,5),(9,9),(20,20),(37,109),(46,210),(51,250),(53,172),(171,264),(173,266),(212,287),(213,288),(232,296),(233,297)],XI [(17,3),(18,4),(19,5)]⟩
theorem apT:LaysM.n171 Tryz.prog aus:=by repeat' first |kernel_rfl |(intro _;kernel_rfl) |constructor
def ahv:List AK:=[db]
noncomputable def aut (N:Nat) (x:fK ahv) (kf:jD->aa):aa:=azx N x.1 (λr0=>kf ⟨[⟨.str,.k,r0⟩],[]⟩)
noncomputable def auu (N:Nat):=cX ahv (aut N)
theorem awQ {Γ:Gl} (zU:sA Γ) (N:Nat):Sound Γ Tryz.prog 163 (auu N):=amG apT zU
theorem awR:CE.ok ⟨163,[.val],ahv,aut⟩:=λh N=>awQ h N
theorem rH:CE.ok ⟨104,[.val],[db],λN x kf=>cS N x.1 (eH .str .k kf)⟩:=nb Tryz.f104 (bE awR dC)
theorem YJ:CE.ok ⟨107,[.val],[kg],λN x kf=>x9 N x.1 (eH .bool .k kf)⟩:=nb Tryz.f107 (bE JI dC)
theorem RV:CE.ok ⟨106,[.val],[afF],λN x kf=>El N x.1 (eH .str .k kf)⟩:=nb Tryz.f106 dC
theorem Rf:CE.ok ⟨40,[.val],[akm],λN x kf=>ju N x.1 (eH .str .k kf)⟩:=nb Tryz.f40 (bE PF (bE WE (bE rH (bE YJ (bE RV dC)))))
theorem ael:CE.ok ⟨41,[.val],[Ng],λN x kf=>IU N x.1 (eH (.int .i64) .k kf)⟩:=nb Tryz.f41 dC
def DD:List Kd:=(dn 4 (aN::dn 46 ([])))
def DE:List Kd:=(dK::dK::aN::iE::dn 47 ([]))
theorem YK:CE.ok ⟨42,[.val],[Ng],λN x kf=>ya N x.1 (RS (.int .i64) .k .bool .k kf)⟩:=lK Tryz.f42 5 (xt::dn 3 (aN::dn 20 (aN::aN::dn 24 ([])))) (λN n x K=>pZ x.1 x.2.2.1 n (λz0=>K (.x 0) (shape DD (z0,()))) (λz0 z1=>K .r (shape DE (z0,z1,()))) x.2.1 x.2.2.2.1) [(5,2,DD),(5,1,DE)] dC
theorem aaq:CE.ok ⟨108,[],[],λN x kf=>UK N (eH pG zH kf)⟩:=nb Tryz.f108 dC
theorem Tw:CE.ok ⟨232,[.val],[Wa,at1],λN x kf=>yR N x.1 x.2.1 (eH .bool .k kf)⟩:=nb Tryz.f232 dC
def kI:List Kd:=(dn 19 ([]))
def kJ:List Kd:=(dn 4 (aN::dn 14 ([])))
theorem vA:CE.ok ⟨231,[.val,.val],[tF,.fn 232 [(.ptr (.int .i64))]],λN x kf=>jv N x.1 x.2.1.1 (eH (.int .i64) .k kf)⟩:=lK Tryz.f231 2 (sC::.EY 232 [.kv (.ptr (.int .i64))]::dn 5 (aN::aN::dn 10 ([]))) (λN n x K=>cO N x.1 x.2.1.1 x.2.2.1 n (K (.x 0) (shape kI ())) (λz0=>K .r (shape kJ (z0,()))) x.2.2.2.1) [(2,2,kI),(2,1,kJ)] (bE Tw dC)
theorem lA:CE.ok ⟨166,[.val,.val],[tF,db],λN x kf=>eR N x.1 x.2.1 (eH (.int .i64) .k kf)⟩:=nb Tryz.f166 (bE vA dC)
theorem rI:CE.ok ⟨167,[.val],[qv],λN x kf=>iY N x.1 (eH .bool .k kf)⟩:=nb Tryz.f167 dC
def auv:Go.Shelf.Ren:=⟨XI [(22,168),(29,233),(30,234)],XI [(0,0),(3,3),(4,4),(9,128),(24,31)],λn=>n⟩
def awS:Array Value:=#[.int .i64 0,.int .i64 0,.int .i64 0,.int .i64 0,.int .i64 0,.slice none 0 0]
noncomputable def awT:TypeInfo:=(Tryz.prog.info? 128).get (by kernel_rfl)
theorem auw:afC Tryz.prog auv (Ty.size lG) awS awT:={ FB:=⟨Tryz.f168.name,by kernel_rfl,by kernel_rfl⟩,FO:=⟨Tryz.f233,by kernel_rfl,by kernel_rfl,by kernel_rfl,by kernel_rfl,by kernel_rfl⟩,mixed:=by kernel_rfl,t0:=by kernel_rfl,a0:=λw=>by kernel_rfl,z0:=λw=>by kernel_rfl,v0:=λw=>by kernel_rfl,t3:=by kernel_rfl,a3:=λw=>by kernel_rfl,z3:=λw=>by kernel_rfl,v3:=λw=>by kernel_rfl,t4:=by kernel_rfl,a4:=λw=>by kernel_rfl,z4:=λw=>by kernel_rfl,v4:=λw=>by kernel_rfl,t24:=by kernel_rfl,a24:=λw=>by kernel_rfl,z24:=λw=>by kernel_rfl,v24:=λw=>by kernel_rfl,z9:=λw=>by kernel_rfl,hz:=by kernel_rfl,hzo:=by kernel_rfl,hi0:=by kernel_rfl,hz0:=by kernel_rfl,hz1:=by kernel_rfl,hby:=bH (by kernel_rfl),ZH:=bH (by kernel_rfl) }
def ahw:List AK:=[.v (.sl lG) adi,db,.v (.sl lG) adi]
noncomputable def auy (N:Nat) (x:fK ahw) (kf:jD->aa):aa:=avG N x.1 x.2.1 x.2.2.1 (λr0=>kf ⟨[⟨(.sl lG),adi,r0⟩],[]⟩)
noncomputable def auz (N:Nat):=cX ahw (auy N)
theorem awU {Γ:Gl} (zU:sA Γ) (N:Nat):Sound Γ Tryz.prog 168 (auz N):=V9 auw adh (by kernel_rfl)
theorem awV:CE.ok ⟨168,[.take,.val,.take],ahw,auy⟩:=λh N=>awU h N
theorem YL:CE.ok ⟨283,[.val],[Z'],λN x kf=>K5 N x.1 (eH (.int .i64) .k kf)⟩:=nb Tryz.f283 dC
theorem akA:CE.ok ⟨359,[.val,.val],[db,db],λN x kf=>UL N x.1 x.2.1 (eH (.int .i64) .k kf)⟩:=nb Tryz.f359 (bE gT dC)
theorem ahx:CE.ok ⟨350,[.val,.val],[db,db],λN x kf=>P5 N x.1 x.2.1 (eH (.int .i64) .k kf)⟩:=nb Tryz.f350 (bE akA dC)
def KN:List Kd:=(dn 3 (aN::dn 13 ([])))
theorem ahy:CE.ok ⟨323,[.val],[kg],λN x kf=>P6 N x.1 (eH (.int .i64) .k kf)⟩:=lK Tryz.f323 3 (dn 3 (aN::dK::dK::jh::aN::aN::dn 8 ([]))) (λN n x K=>ur N x.2.1 x.2.2.1 n (λz0=>K (.x 0) (shape KN (z0,()))) x.1 x.2.2.2.1) [(3,2,KN)] (bE ahx dC)
theorem Mq:CE.ok ⟨282,[.val,.val],[db,.v tM .k],λN x kf=>sk N x.1 x.2.1 (eH (.int .i64) .k kf)⟩:=nb Tryz.f282 (bE ahy dC)
def As:List Kd:=(dn 44 ([]))
def Au:List Kd:=(dK::dK::iE::dn 41 ([]))
theorem zL:CE.ok ⟨241,[.val],[Z'],λN x kf=>qS N x.1 (eH .bool .k kf)⟩:=lK Tryz.f241 5 (dn 3 (aN::dn 5 (ZB::aN::aN::dn 32 ([])))) (λN n x K=>kX N x.2.1 x.2.2.1 n (K (.x 0) (shape As ())) (λz0=>K .r (shape Au (z0,()))) x.1 x.2.2.2.1) [(5,2,As),(5,1,Au)] (bE gT (bE Mq dC)) (dA:=[(7,(OT.seq [0,1,2,3,4,5,6,7,8,9,10,11,12,13,14,15,16,17,18,19,20,21,22,23,24] .done))])
theorem WG:CE.ok ⟨235,[.val,.val,.val],[Z',db,db],λN x kf=>Bw N x.1 x.2.1 x.2.2.1 (RS (.sl tM) (.o 141 none .k) .bool .k kf)⟩:=nb Tryz.f235 (bE YL (bE Mq (bE aov (bE zL dC)))) (dA:=[(2,(OT.seq [0,2,1,3,4,5] .done)),(3,(OT.seq [0,2] (.any [1,3] (OT.seq [4,5] .done))))])
def JJ:List Kd:=(dn 5 (aN::dn 15 ([])))
theorem Lg:CE.ok ⟨253,[.val,.val],[kg,db],λN x kf=>qp N x.1 x.2.1 (eH (.int .i64) .k kf)⟩:=lK Tryz.f253 3 (dK::aN::dn 3 (aN::dK::dK::jh::aN::aN::dn 10 ([]))) (λN n x K=>pP x.1 x.2.2.1 x.2.2.2.1 n (λz0=>K (.x 0) (shape JJ (z0,()))) x.2.1 x.2.2.2.2.1) [(3,2,JJ)] dC
def Ct:List Kd:=(sC::dn 11 (sC::aN::aN::dn 91 ([])))
def Cu:List Kd:=(dK::dK::iE::dn 103 ([]))
def DF:List Kd:=(dn 106 ([]))
def DG:List Kd:=(dK::dK::iE::dn 103 ([]))
theorem jA:CE.ok ⟨182,[.val],[tF],λN x kf=>gq N x.1 (eH .bool .k kf)⟩:=eK2 Tryz.f182 4 (sC::dn 11 (sC::aN::aN::dn 91 ([]))) (λN n x K=>lr N x.1 x.2.1 x.2.2.1 n (K (.x 0) (shape DF ())) (λz0=>K .r (shape DG (z0,()))) x.2.2.2.1) 10 (sC::dn 3 (at3::dn 7 (sC::aN::aN::dn 57 (jh::aN::aN::dn 31 ([]))))) (λN n x K=>gp N x.1 x.2.1 x.2.2.1 x.2.2.2.1 x.2.2.2.2.1 x.2.2.2.2.2.1 x.2.2.2.2.2.2.1 n (K (.x 2) (shape Ct (x.1,x.2.2.1,x.2.2.2.1,x.2.2.2.2.1,()))) (λz0=>K .r (shape Cu (z0,()))) x.2.2.2.2.2.2.2.1) [(10,4,Ct),(10,1,Cu),(4,2,DF),(4,1,DG)] (bE gT (bE lA (bE Lg dC))) (dA:=[(7,(OT.seq [0,1,2,3,4,5,6,7,8,9,10,11,12,13,14,15,16,17,18,19,20,21,22,23,24,25,26,27,28,29,30,31,32,33,34,35,36,37,38,39,40,41,42,43,44,45,46,47,48] .done)),(13,(OT.seq [0,1,2,3,4,5,6,7,8,9,10,11,13,14,15,16,17,18,19,12,20,21,22] .done))])
def Cv:List Kd:=(GS::dn 9 (GS::aN::aN::dn 56 ([])))
def Cw:List Kd:=(dK::dK::iE::dn 66 ([]))
def Cx:List Kd:=(dn 69 ([]))
def Cy:List Kd:=(dK::dK::iE::dn 66 ([]))
theorem Cz:CE.ok ⟨240,[.val],[Nf],λN x kf=>tu N x.1 (eH .bool .k kf)⟩:=eK2 Tryz.f240 4 (GS::dn 9 (GS::aN::aN::dn 56 ([]))) (λN n x K=>jX N x.1 x.2.1 x.2.2.1 n (K (.x 0) (shape Cx ())) (λz0=>K .r (shape Cy (z0,()))) x.2.2.2.1) 9 (GS::dn 3 (.v (.ptr n5) (.o 130 none .k)::dn 5 (GS::aN::aN::dn 30 (jh::aN::aN::dn 23 ([]))))) (λN n x K=>fA N x.1 x.2.1 x.2.2.1 x.2.2.2.1 x.2.2.2.2.1 x.2.2.2.2.2.1 x.2.2.2.2.2.2.1 n (K (.x 2) (shape Cv (x.1,x.2.2.1,x.2.2.2.1,x.2.2.2.2.1,()))) (λz0=>K .r (shape Cw (z0,()))) x.2.2.2.2.2.2.2.1) [(9,4,Cv),(9,1,Cw),(4,2,Cx),(4,1,Cy)] (bE gT dC) (dA:=[(6,(OT.seq [0,1,2,3,4,5,6,7,8,9,10,11,12,13,14,15,16,17,18,19,20,21,22,23,24] .done))])
def yu:List Kd:=(dn 19 ([]))
def yv:List Kd:=(dn 4 (aN::dn 14 ([])))
theorem Hs:CE.ok ⟨313,[.val,.val],[kg,db],λN x kf=>nu N x.1 x.2.1 (eH (.int .i64) .k kf)⟩:=lK Tryz.f313 2 (jh::aN::dn 5 (aN::aN::dn 10 ([]))) (λN n x K=>jI x.1 x.2.1 x.2.2.1 n (K (.x 0) (shape yu ())) (λz0=>K .r (shape yv (z0,()))) x.2.2.2.1) [(2,2,yu),(2,1,yv)] dC
noncomputable def uF:CE:=⟨265,[.val,.val],[kg,db],λN x kf=>dQ N x.1 x.2.1 (eH .bool .k kf)⟩
theorem gO:uF.ok:=nb Tryz.f265 (bE Hs dC)
theorem aar:CE.ok ⟨325,[.val,.val,.val],[tF,db,db],λN x kf=>HY N x.1 x.2.1 x.2.2.1 (eH .bool .k kf)⟩:=nb Tryz.f325 (bE lA (bE gO dC))
noncomputable def GY:CE:=⟨285,[.val,.val,.val],[tF,db,db],λN x kf=>uu N x.1 x.2.1 x.2.2.1 (eH .bool .k kf)⟩
theorem NP:GY.ok:=nb Tryz.f285 (bE lA (bE jA (bE aar dC))) (dA:=[(2,(OT.seq [0,1,2,3,4,5,6,7,8,9,10,11,12,13,14,15,16,17,18,19,20,21,22,23,24,25,26,27,28,29,30,31,32,33,34,35] .done))])
def F':List Kd:=(sC::dn 4 (lz::dn 38 ([])))
def Ga:List Kd:=(dn 4 (iE::dn 39 ([])))
def DH:List Kd:=(dn 44 ([]))
def DI:List Kd:=(dn 4 (iE::dn 39 ([])))
theorem aas:CE.ok ⟨242,[.val,.val],[tF,Q6],λN x kf=>HZ N x.1 x.2.1 (eH .bool .k kf)⟩:=eK2 Tryz.f242 3 (sC::dn 4 (lz::dn 5 (KF::aN::aN::dn 30 ([])))) (λN n x K=>o8 N x.1 x.2.2.1 x.2.2.2.1 n (λz0=>K (.x 0) (shape F' (x.1,z0,()))) (λz0=>K .r (shape Ga (z0,()))) x.2.1 x.2.2.2.2.1) 10 (dn 5 (lz::dn 26 (sC::aN::aN::dn 9 ([])))) (λN n x K=>nw N x.1 x.2.1 x.2.2.1 n (K (.x 2) (shape DH ())) (λz0=>K .r (shape DI (z0,()))) x.2.2.2.1) [(3,2,F'),(3,1,Ga),(10,4,DH),(10,1,DI)] (bE NP (bE Lg dC))
theorem Rg:CE.ok ⟨286,[.val],[ZA,at1],λN x kf=>xh N x.1 x.2.1 (eH .bool .k kf)⟩:=nb Tryz.f286 dC
def j9:List Kd:=(dn 19 ([]))
def ka:List Kd:=(dn 4 (aN::dn 14 ([])))
theorem uG:CE.ok ⟨236,[.val,.val],[Nf,.fn 286 [(.ptr (.int .i64))]],λN x kf=>eo N x.1 x.2.1.1 (eH (.int .i64) .k kf)⟩:=lK Tryz.f236 2 (GS::.EY 286 [.kv (.ptr (.int .i64))]::dn 5 (aN::aN::dn 10 ([]))) (λN n x K=>cI N x.1 x.2.1.1 x.2.2.1 n (K (.x 0) (shape j9 ())) (λz0=>K .r (shape ka (z0,()))) x.2.2.2.1) [(2,2,j9),(2,1,ka)] (bE Rg dC)
noncomputable def EP:CE:=⟨267,[.val,.val,.val],[tF,ZA,.v dt .k],λN x kf=>pQ N x.1 x.2.1 x.2.2.1 (eH .bool .k kf)⟩
def DJ:List Kd:=(dn 42 ([]))
def DK:List Kd:=(dn 6 (iE::dn 35 ([])))
theorem ER:EP.ok:=lK Tryz.f267 2 (sC::dn 3 (.v (.ptr n5) (.o 130 none .k)::dn 9 (lz::aN::aN::dn 25 ([])))) (λN n x K=>nx N x.1 x.2.1 x.2.2.1 x.2.2.2.1 n (K (.x 0) (shape DJ ())) (λz0=>K .r (shape DK (z0,()))) x.2.2.2.2.1) [(2,2,DJ),(2,1,DK)] (bE lA (bE gO dC)) (dA:=[(5,(OT.seq [0,1,2,3,4,5,6,7,8,9,10,11,12,13,14,15,16,17] .done))])
def CA:List Kd:=(dn 55 ([]))
def CB:List Kd:=(dn 8 (iE::dn 46 ([])))
theorem WH:CE.ok ⟨243,[.val,.val,.val,.val],[tF,Nf,Q6,kg],λN x kf=>By N x.1 x.2.1 x.2.2.1 x.2.2.2.1 (eH .bool .k kf)⟩:=lK Tryz.f243 4 (sC::GS::KF::jh::dn 18 (jh::aN::aN::dn 30 ([]))) (λN n x K=>mh N x.1 x.2.1 x.2.2.1 x.2.2.2.1 x.2.2.2.2.1 x.2.2.2.2.2.1 n (K (.x 0) (shape CA ())) (λz0=>K .r (shape CB (z0,()))) x.2.2.2.2.2.2.1) [(4,2,CA),(4,1,CB)] (bE Cz (bE uG (bE gO (bE ER dC)))) (dA:=[(7,(OT.seq [0,1,2,3,4,5,6,7,8,9,10,11,12,13,14,15,16,17,18,19,20,21] .done))])
theorem ES:CE.ok ⟨175,[.val],[adk],λN x kf=>pR N x.1 (eH .bool .k kf)⟩:=nb Tryz.f175 (bE gT dC)
def CC:List Kd:=(dn 3 (aN::dn 18 ([])))
theorem WI:CE.ok ⟨244,[.val],[tF],λN x kf=>Bz N x.1 (eH (.int .i64) .k kf)⟩:=lK Tryz.f244 5 (dn 3 (aN::dn 6 (sC::aN::aN::dn 9 ([])))) (λN n x K=>mj x.2.1 x.2.2.1 n (λz0=>K (.x 0) (shape CC (z0,()))) x.1 x.2.2.2.1) [(5,2,CC)] (bE jA dC)
end Go.Pv.R
