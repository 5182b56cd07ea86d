/- Each function of the program that the law reaches computes its plain function, part 3. -/
import Derived.Test.YteplhdhbdkpgjaaGreatDoorSnd2
import Derived.Test.YteplhdhbdkpgjaaGreatDoorProg
set_option linter.unusedVariables false
noncomputable section
namespace Go.Pv.R
open List Int IntKind
open Go.Proofs
set_option maxRecDepth 100000
def Ht:List Kd:=(dK::xM::dn 97 ([]))
def Hu:List Kd:=(dK::dK::iE::dn 96 ([]))
theorem wO:CE.ok ⟨172,[.val],[qv],λN x kf=>rB N x.1 (eH .bool .k kf)⟩:=lK Tryz.f172 6 (dK::xM::dn 60 (KG::aN::aN::dn 34 ([]))) (λN n x K=>nW N x.1 x.2.1 x.2.2.1 n (K (.x 0) (shape Ht (x.1,()))) (λz0=>K .r (shape Hu (z0,()))) x.2.2.2.1) [(6,2,Ht),(6,1,Hu)] (bE jA (bE Cz (bE zL (bE rI (bE aas (bE WH (bE ES (bE gT (bE WI dC))))))))) (dA:=[(8,(OT.seq [0,1,2,3,4,5,6,7,8,9,10,11,12,13,14,15,16,17] .done)),(11,(OT.seq [0,1,2,3,4,5,7,8,6,9,10,11] .done))])
theorem qX:CE.ok ⟨169,[.val,.take,.val,.val],[qv,.v pG zH,db,db],λN x kf=>pH N x.1 x.2.1 x.2.2.1 x.2.2.2.1 (RS pG zH .bool .k kf)⟩:=nb Tryz.f169 (bE WG (bE wO (bE j8 dC)))
def DL:List Kd:=(dK::aN::aN::xM::dK::dK::AH::dK::AH::aN::dn 44 ([]))
theorem YM:CE.ok ⟨109,[.val,.val,.val],[qv,db,db],λN x kf=>yb N x.1 x.2.1 x.2.2.1 (RS pG zH .bool .k kf)⟩:=lK Tryz.f109 5 (dK::aN::aN::xM::dK::dK::AH::dK::AH::aN::dn 44 ([])) (λN n x K=>lu x.1 x.2.1 x.2.2.1 x.2.2.2.1 x.2.2.2.2.1 n (λz0=>K (.x 0) (shape DL (x.1,x.2.1,x.2.2.1,x.2.2.2.1,x.2.2.2.2.1,z0,()))) x.2.2.2.2.2.1) [(5,2,DL)] (bE j8 (bE lA (bE rI (bE awV (bE qX dC)))))
theorem WJ:CE.ok ⟨237,[.val],[ZA,at1],λN x kf=>BB N x.1 x.2.1 (eH .bool .k kf)⟩:=nb Tryz.f237 dC
def kK:List Kd:=(dn 19 ([]))
def kL:List Kd:=(dn 4 (aN::dn 14 ([])))
theorem vB:CE.ok ⟨236,[.val,.val],[Nf,.fn 237 [(.ptr (.int .i64))]],λN x kf=>jw N x.1 x.2.1.1 (eH (.int .i64) .k kf)⟩:=lK Tryz.f236 2 (GS::.EY 237 [.kv (.ptr (.int .i64))]::dn 5 (aN::aN::dn 10 ([]))) (λN n x K=>cP N x.1 x.2.1.1 x.2.2.1 n (K (.x 0) (shape kK ())) (λz0=>K .r (shape kL (z0,()))) x.2.2.2.1) [(2,2,kK),(2,1,kL)] (bE WJ dC)
theorem GZ:CE.ok ⟨170,[.val,.val],[Nf,db],λN x kf=>pI N x.1 x.2.1 (eH (.int .i64) .k kf)⟩:=nb Tryz.f170 (bE vB dC)
def auA:Go.Shelf.Ren:=⟨XI [(22,171),(29,238),(30,239)],XI [(0,0),(3,3),(4,4),(9,130),(24,32)],λn=>n⟩
def awW:Array Value:=#[.int .i64 0,.int .i64 0,.slice none 0 0]
noncomputable def awX:TypeInfo:=(Tryz.prog.info? 130).get (by kernel_rfl)
theorem auB:afC Tryz.prog auA (Ty.size n5) awW awX:={ FB:=⟨Tryz.f171.name,by kernel_rfl,by kernel_rfl⟩,FO:=⟨Tryz.f238,by kernel_rfl,by kernel_rfl,by kernel_rfl,by kernel_rfl,by kernel_rfl⟩,mixed:=by kernel_rfl,t0:=by kernel_rfl,a0:=λw=>by kernel_rfl,z0:=λw=>by kernel_rfl,v0:=λw=>by kernel_rfl,t3:=by kernel_rfl,a3:=λw=>by kernel_rfl,z3:=λw=>by kernel_rfl,v3:=λw=>by kernel_rfl,t4:=by kernel_rfl,a4:=λw=>by kernel_rfl,z4:=λw=>by kernel_rfl,v4:=λw=>by kernel_rfl,t24:=by kernel_rfl,a24:=λw=>by kernel_rfl,z24:=λw=>by kernel_rfl,v24:=λw=>by kernel_rfl,z9:=λw=>by kernel_rfl,hz:=by kernel_rfl,hzo:=by kernel_rfl,hi0:=by kernel_rfl,hz0:=by kernel_rfl,hz1:=by kernel_rfl,hby:=bH (by kernel_rfl),ZH:=bH (by kernel_rfl) }
def ahz:List AK:=[.v (.sl n5) amQ,db,.v (.sl n5) amQ]
noncomputable def auC (N:Nat) (x:fK ahz) (kf:jD->aa):aa:=avI N x.1 x.2.1 x.2.2.1 (λr0=>kf ⟨[⟨(.sl n5),amQ,r0⟩],[]⟩)
noncomputable def auD (N:Nat):=cX ahz (auC N)
theorem awY {Γ:Gl} (zU:sA Γ) (N:Nat):Sound Γ Tryz.prog 171 (auD N):=V9 auB Zz (by kernel_rfl)
theorem awZ:CE.ok ⟨171,[.take,.val,.take],ahz,auC⟩:=λh N=>awY h N
def CD:List Kd:=(dK::aN::aN::xM::dK::dK::AH::dK::AH::aN::dn 40 ([]))
theorem WK:CE.ok ⟨110,[.val,.val,.val],[qv,db,db],λN x kf=>wz N x.1 x.2.1 x.2.2.1 (RS pG zH .bool .k kf)⟩:=lK Tryz.f110 5 (dK::aN::aN::xM::dK::dK::AH::dK::AH::aN::dn 40 ([])) (λN n x K=>jY x.1 x.2.1 x.2.2.1 x.2.2.2.1 x.2.2.2.2.1 n (λz0=>K (.x 0) (shape CD (x.1,x.2.1,x.2.2.1,x.2.2.2.1,x.2.2.2.2.1,z0,()))) x.2.2.2.2.2.1) [(5,2,CD)] (bE j8 (bE GZ (bE awZ (bE qX dC))))
def auE:Hint:={ tab,hn:=[],loops:=[],outs:=[],dA:=[] }
def WL:List AK:=[tF]
noncomputable def adL (N:Nat) (x:fK WL) (kf:jD->aa):aa:=avJ N x.1 (λr0=>kf ⟨[⟨(.sl lG),(.o 128 none .k),r0⟩],[]⟩)
noncomputable def auF (N:Nat):=cX WL (adL N)
def afP:Code:=iF Tryz.f183
theorem aw0:cY afP=[]:=by kernel_rfl
theorem aw1 (N:Nat):FnT WL (adL N) auE [] (noL N N) Tryz.f183:=λ_ _=>by kernel_rfl
theorem auG (N:Nat) (x:fK WL):jk (adL N x):=by
 obtain⟨l,u⟩:=x;unfold adL avJ;cases l with
 |nil=>exact⟨some _,λK=>Ii _⟩
 |cons a l=>simp only[mB,ae];exact jk.bif _ (jk.pure _) jk.none
theorem aw2 {Γ:Gl} (zU:sA Γ) (N:Nat):Sound Γ Tryz.prog 183 (auF N):=qz (hh:=auE) mixed vz (es:=[]) trivial (fn:=Tryz.f183) (body:=afP) (by kernel_rfl) (by kernel_rfl) (by kernel_rfl) (by kernel_rfl) (by kernel_rfl) (Lf:=noL N) (ako N) aw0 trivial (N:=N) (by kernel_rfl) (aw1 N) (.inr (auG N))
theorem aw3:CE.ok ⟨183,[.val],WL,adL⟩:=λh N=>aw2 h N
theorem Tx:CE.ok ⟨298,[.val],[.v (.int .u64) .k],λN x kf=>GB N x.1 (eH (.int .i64) .k kf)⟩:=nb Tryz.f298 dC
theorem Mr:CE.ok ⟨252,[.val],[.v (.int .u64) .k],λN x kf=>yc N x.1 (eH (.int .i64) .k kf)⟩:=nb Tryz.f252 (bE Tx dC)
theorem YN:CE.ok ⟨255,[.val],[db],λN x kf=>cmp_isNaN_int N x.1 (eH .bool .k kf)⟩:=nb Tryz.f255 dC
theorem JK:CE.ok ⟨187,[.val,.val],[db,db],λN x kf=>o9 N x.1 x.2.1 (eH (.int .i64) .k kf)⟩:=nb Tryz.f187 (bE YN dC)
def JL:List Kd:=(dn 3 (aN::dn 14 ([])))
def JM:List Kd:=(dK::dK::aN::dn 15 ([]))
theorem aem:CE.ok ⟨186,[.val],[kg],λN x kf=>MX N x.1 (eH (.int .i64) .k kf)⟩:=lK Tryz.f186 3 (dn 3 (aN::dK::dK::jh::aN::aN::dn 9 ([]))) (λN n x K=>sn x.1 x.2.1 x.2.2.1 n (K (.x 0) (shape JL (x.1,()))) (λz0=>K .r (shape JM (z0,()))) x.2.2.2.1) [(3,2,JL),(3,1,JM)] dC
theorem Tz:CE.ok ⟨185,[.val,.val],[Wa,Wa],λN x kf=>yS N x.1 x.2.1 (eH (.int .i64) .k kf)⟩:=nb Tryz.f185 (bE JK (bE aem dC)) (dA:=[(1,(OT.seq [0,1,2,3,5,6,7,8,10,11,12,13,4,9,14,15,16,17] .done))])
def gF:List Kd:=(afJ::aN::aN::.EY 185 []::dn 4 (aN::dn 44 ([])))
def gG:List Kd:=(afJ::dn 52 ([]))
theorem qb:CE.ok ⟨299,[.Gq,.val,.val,.val],[.v (.sl lG) adj,db,db,.fn 185 []],λN x kf=>fo N x.1 x.2.1 x.2.2.1 (λz=>kf ⟨[],[⟨(.sl lG),adj,z⟩]⟩)⟩:=eK2 Tryz.f299 1 (afJ::aN::aN::.EY 185 []::dn 4 (aN::dn 44 ([]))) (λN n x K=>bW N x.2.1 x.2.2.1 n (λz0=>K (.x 0) (shape gG (z0,()))) x.1 x.2.2.2.2.1) 4 (afJ::aN::aN::.EY 185 []::dn 4 (aN::aN::dn 43 ([]))) (λN n x K=>cy N x.2.1 x.2.2.1 x.2.2.2.2.1 n (λz0=>K (.x 2) (shape gF (z0,x.2.1,x.2.2.1,(),x.2.2.2.2.1,()))) x.1 x.2.2.2.2.2.1) [(4,4,gF),(1,2,gG)] (bE Tz dC) (dA:=[(4,(OT.seq [0,1,2,3,4,5,6,7,8,9,10,11,12,13,14,15,16] .done)),(6,(OT.seq [0,1,5,6,7,8,9,10,11,12,13,14,2,3,4,15,16,17] .done))]) (nH:=some (0,false))
def jc:List Kd:=(afJ::dn 147 ([]))
theorem sD:CE.ok ⟨254,[.Gq,.val,.val,.val,.val],[.v (.sl lG) adj,db,db,db,.fn 185 []],λN x kf=>eN N x.1 x.2.1 x.2.2.1 x.2.2.2.1 (λz=>kf ⟨[],[⟨(.sl lG),adj,z⟩]⟩)⟩:=lK Tryz.f254 2 (afJ::aN::aN::aN::.EY 185 []::dn 5 (iE::iE::dn 136 ([]))) (λN n x K=>fM N x.1 x.2.1 x.2.2.1 x.2.2.2.1 x.2.2.2.2.2.1 x.2.2.2.2.2.2.1 n (λz0=>K .r (shape jc (z0,())))) [(2,1,jc)] (bE qb dC) (nH:=some (0,false))
theorem vZ:CE.ok ⟨184,[.Gq,.val],[.v (.sl lG) adj,.fn 185 []],λN x kf=>fU N x.1 (λz=>kf ⟨[],[⟨(.sl lG),adj,z⟩]⟩)⟩:=nb Tryz.f184 (bE Mr (bE sD dC)) (nH:=some (0,false))
def DM:List Kd:=(dn 3 (lz::dn 25 ([])))
theorem ET:CE.ok ⟨116,[.val],[tF],λN x kf=>so N x.1 (eH (.sl (.int .i64)) wL kf)⟩:=lK Tryz.f116 7 (dn 3 (lz::dn 12 (afI::aN::aN::dn 10 ([])))) (λN n x K=>ny x.2.1 x.2.2.1 n (λz0=>K (.x 0) (shape DM (z0,()))) x.1 x.2.2.2.1) [(7,2,DM)] (bE jA (bE aw3 (bE vZ dC)))
noncomputable def G0:CE:=⟨287,[.val,.val,.val],[tF,db,db],λN x kf=>H3 N x.1 x.2.1 x.2.2.1 (eH dt .k kf)⟩
theorem aat:G0.ok:=nb Tryz.f287 (bE lA (bE jA (bE ET (bE Hs dC)))) (dA:=[(4,(OT.seq [0,1,2,3,4,5,6,7,8,9,10,11] .done))])
def TA:List Kd:=sC::jh::dn 4 (aN::dn 50 ([]))
def WM:List Kd:=dn 57 ([])
def WN:List Kd:=dn 4 (aok::iE::dn 51 ([]))
def am1:Hint:={ tab,hn:=[],loops:=[(4,TA)],outs:=[(4,2,WM),(4,1,WN)],dA:=[(6,(OT.seq [0,1,2,3,4,5,6,7,8,9] .done)),(7,(OT.seq [0,1,2,3,4,5,6,7,8,9,10,11,12,13,14,15] .done)),(9,(OT.seq [0,1,2,3,4,5,6,7,10,8,9,11,12,13] .done))] }
def WO:List AK:=[tF,kg]
noncomputable def am2 (N:Nat) (x:fK WO) (kf:jD->aa):aa:=al2 N x.1 x.2.1 (λr0 r1=>kf ⟨[⟨(.sl dt),(.o 133 none .k),r0⟩,⟨.bool,.k,r1⟩],[]⟩)
noncomputable def adM (N:Nat):=cX WO (am2 N)
def ahA (N:Nat):List Entry:=[⟨285,[.val,.val,.val],(cX GY.l (GY.F N))⟩,⟨226,[.val],(cX n0.l (n0.F N))⟩,⟨287,[.val,.val,.val],(cX G0.l (G0.F N))⟩,⟨245,[.val,.val],(adM N)⟩]
def YO:Code:=iF Tryz.f245
noncomputable def ahB (N n:Nat) (key:Nat) (S:St) (K:Ks):aa:=bif Nat.beq key 4 then wj TA S (λx=>MZ N (al2 N) x.1 x.2.1 n (K (.x 0) (shape WM ())) (λz0 z1=>K .r (shape WN (z0,z1,()))) x.2.2.1) else none
theorem aw4 (N key:Nat) (S:St) (K:Ks):ahB N 0 key S K=none:=(agk (w6 λ_=>rfl) rfl)
def akB:Code:=(cY YO).getD 0 .skip
theorem aw5:cY YO=[akB]:=by kernel_rfl
theorem apU (N:Nat):RdT am1 (ahA N) (ahB N) N 4 TA akB:=λ_ _ _=>by kernel_rfl
theorem aw6 (N:Nat) (x:fK WO) (kf:jD->aa):am2 (N+1) x kf=rP am1 (vi.of (ahA N)) (ahB N N) Tryz.f245 (iS WO x) kf:=by kernel_rfl
theorem aoz {Γ:Gl} (zU:sA Γ):∀ N:Nat,Sound Γ Tryz.prog 245 (adM N)
 |0=>wk λal kf=>by unfold adM cX;split<;>rfl
 |N+1=>qz (hh:=am1) mixed vz (es:=ahA N) ⟨NP zU N,⟨F9 zU N,⟨aat zU N,⟨aoz zU N,trivial⟩⟩⟩⟩ (fn:=Tryz.f245) (body:=YO) (by kernel_rfl) (by kernel_rfl) (by kernel_rfl) (by kernel_rfl) (by kernel_rfl) (Lf:=ahB N) (aw4 N) aw5 (rc (apU N) trivial) (N:=N) (by kernel_rfl) (aw6 N) (.inl (by kernel_rfl))
theorem aw7:CE.ok ⟨245,[.val,.val],WO,am2⟩:=λh N=>aoz h N
theorem WQ:CE.ok ⟨173,[.val],[tF],λN x kf=>BC N x.1 (RS (.sl dt) (.o 133 none .k) .bool .k kf)⟩:=nb Tryz.f173 (bE jA (bE ET (bE aw7 dC)))
def TB:List Kd:=sC::GS::KF::jh::dn 14 (GS::aN::aN::dn 38 ([]))
def WR:List Kd:=dn 59 ([])
def WS:List Kd:=dn 8 (lz::iE::dn 49 ([]))
def am3:Hint:={ tab,hn:=[],loops:=[(4,TB)],outs:=[(4,2,WR),(4,1,WS)],dA:=[(6,(OT.seq [0,1,2,3,4,5,6,7,8,9,10,11,12] .done)),(7,(OT.seq [4,6,7,0,1,2,3] (.any [5,8] (OT.seq [9,10,11,12,13,14,15] .done))))] }
def WT:List AK:=[tF,Nf,Q6,kg]
noncomputable def am4 (N:Nat) (x:fK WT) (kf:jD->aa):aa:=al4 N x.1 x.2.1 x.2.2.1 x.2.2.2.1 (λr0 r1=>kf ⟨[⟨(.sl (.int .i64)),wL,r0⟩,⟨.bool,.k,r1⟩],[]⟩)
noncomputable def adN (N:Nat):=cX WT (am4 N)
def ahC (N:Nat):List Entry:=[⟨265,[.val,.val],(cX uF.l (uF.F N))⟩,⟨267,[.val,.val,.val],(cX EP.l (EP.F N))⟩,⟨100,[.val],(akv N)⟩,⟨246,[.val,.val,.val,.val],(adN N)⟩]
def YP:Code:=iF Tryz.f246
noncomputable def ahD (N n:Nat) (key:Nat) (S:St) (K:Ks):aa:=bif Nat.beq key 4 then wj TB S (λx=>Kq N (al4 N) x.1 x.2.1 x.2.2.1 x.2.2.2.1 x.2.2.2.2.1 x.2.2.2.2.2.1 n (K (.x 0) (shape WR ())) (λz0 z1=>K .r (shape WS (z0,z1,()))) x.2.2.2.2.2.2.1) else none
theorem aw8 (N key:Nat) (S:St) (K:Ks):ahD N 0 key S K=none:=(agk (w6 λ_=>rfl) rfl)
def akC:Code:=(cY YP).getD 0 .skip
theorem aw9:cY YP=[akC]:=by kernel_rfl
theorem apV (N:Nat):RdT am3 (ahC N) (ahD N) N 4 TB akC:=λ_ _ _=>by kernel_rfl
theorem aw' (N:Nat) (x:fK WT) (kf:jD->aa):am4 (N+1) x kf=rP am3 (vi.of (ahC N)) (ahD N N) Tryz.f246 (iS WT x) kf:=by kernel_rfl
theorem aoA {Γ:Gl} (zU:sA Γ):∀ N:Nat,Sound Γ Tryz.prog 246 (adN N)
 |0=>wk λal kf=>by unfold adN cX;split<;>rfl
 |N+1=>qz (hh:=am3) mixed vz (es:=ahC N) ⟨gO zU N,⟨ER zU N,⟨aou zU N,⟨aoA zU N,trivial⟩⟩⟩⟩ (fn:=Tryz.f246) (body:=YP) (by kernel_rfl) (by kernel_rfl) (by kernel_rfl) (by kernel_rfl) (by kernel_rfl) (Lf:=ahD N) (aw8 N) aw9 (rc (apV N) trivial) (N:=N) (by kernel_rfl) (aw' N) (.inl (by kernel_rfl))
theorem axa:CE.ok ⟨246,[.val,.val,.val,.val],WT,am4⟩:=λh N=>aoA h N
theorem TC:CE.ok ⟨174,[.val,.val,.val],[tF,Nf,Q6],λN x kf=>yT N x.1 x.2.1 x.2.2.1 (RS (.sl (.int .i64)) wL .bool .k kf)⟩:=nb Tryz.f174 (bE Cz (bE jA (bE axa dC)))
theorem YQ:CE.ok ⟨111,[.val],[qv],λN x kf=>yd N x.1 (RS pG zH .bool .k kf)⟩:=nb Tryz.f111 (bE j8 (bE wO (bE rI (bE WQ (bE TC (bE qX dC)))))) (dA:=[(8,(OT.seq [0,5,1,2,3] (.par [4,6,7,8] [[50,51]] (OT.seq [9,10] .done))))])
theorem TD:CE.ok ⟨112,[.val,.val,.val,.val],[qv,db,db,db],λN x kf=>uU N x.1 x.2.1 x.2.2.1 x.2.2.2.1 (RS pG zH .bool .k kf)⟩:=nb Tryz.f112 (bE j8 (bE wO (bE ES (bE qX dC))))
def Gb:List Kd:=(dn 3 (lz::dn 20 ([])))
theorem y5:CE.ok ⟨119,[.val],[qv],λN x kf=>pJ N x.1 (eH (.sl (.int .i64)) wL kf)⟩:=lK Tryz.f119 3 (dn 3 (lz::dn 4 (KG::aN::aN::dn 13 ([])))) (λN n x K=>mQ x.2.1 x.2.2.1 n (λz0=>K (.x 0) (shape Gb (z0,()))) x.1 x.2.2.2.1) [(3,2,Gb)] dC
def Aw:List Kd:=(dn 34 ([]))
def Ax:List Kd:=(dK::dK::iE::dn 31 ([]))
theorem zM:CE.ok ⟨247,[.val],[V'],λN x kf=>qT N x.1 (eH .bool .k kf)⟩:=lK Tryz.f247 4 (KG::dn 7 (KG::aN::aN::dn 23 ([]))) (λN n x K=>iZ N x.1 x.2.1 x.2.2.1 n (K (.x 0) (shape Aw ())) (λz0=>K .r (shape Ax (z0,()))) x.2.2.2.1) [(4,2,Aw),(4,1,Ax)] (bE ES dC) (dA:=[(6,(OT.seq [0,1,2,3,4,5,6,7,8,9,10,11,12,13,14,15,16,17] .done))])
theorem PG:CE.ok ⟨250,[.val],[adk],λN x kf=>Ac N x.1 (eH (.int .i64) .k kf)⟩:=nb Tryz.f250 dC
def DN:List Kd:=(dn 5 (aN::dn 20 ([])))
theorem YR:CE.ok ⟨248,[.val,.val],[V',db],λN x kf=>ye N x.1 x.2.1 (eH (.int .i64) .k kf)⟩:=lK Tryz.f248 5 (dK::aN::dn 3 (aN::dn 6 (KG::aN::aN::dn 11 ([])))) (λN n x K=>lv N x.1 x.2.2.1 x.2.2.2.1 n (λz0=>K (.x 0) (shape DN (z0,()))) x.2.1 x.2.2.2.2.1) [(5,2,DN)] (bE zM (bE PG dC))
def Hv:List Kd:=(dn 5 (aN::dn 27 ([])))
theorem adO:CE.ok ⟨249,[.val,.val],[V',db],λN x kf=>wA N x.1 x.2.1 (eH (.int .i64) .k kf)⟩:=lK Tryz.f249 5 (dK::aN::dn 3 (aN::dn 6 (KG::aN::aN::dn 18 ([])))) (λN n x K=>mm x.1 x.2.2.1 x.2.2.2.1 n (λz0=>K (.x 0) (shape Hv (z0,()))) x.2.1 x.2.2.2.2.1) [(5,2,Hv)] (bE zM dC)
theorem YS:CE.ok ⟨177,[.val],[V'],λN x kf=>ve N x.1 (eH (.int .i64) .k kf)⟩:=nb Tryz.f177 (bE zM (bE YR (bE adO (bE PG dC))))
theorem WU:CE.ok ⟨176,[.val,.val,.val,.val,.val,.val],[tF,db,db,db,db,db],λN x kf=>tw N x.1 x.2.1 x.2.2.1 x.2.2.2.1 x.2.2.2.2.1 x.2.2.2.2.2.1 (RS (.sl lG) adi .bool .k kf)⟩:=nb Tryz.f176 (bE JH (bE lA (bE jA (bE gT dC)))) (dA:=[(5,(OT.seq [4,5,6,7,8] (.own 65 (OT.seq [9,0,1,2,3,12,13,14,15,17] (.par [10,11,16,18] [[66,67],[65,66,67,68],[74,75]] (.own 73 (OT.seq [19,20,21,22,23,24,25] .done)))))))])
def auH:Go.Shelf.Ren:=⟨XI [(125,252),(128,297),(129,298),(189,178),(215,255),(216,294),(257,251),(294,288),(295,289),(296,290),(297,291),(298,292),(299,293),(300,295),(301,296),(328,326),(329,327),(330,328),(331,329),(332,330),(343,351)],XI [(0,0),(3,3),(4,4),(5,5),(9,9),(28,25),(46,210),(51,250),(53,172),(131,82),(182,242),(183,243),(218,270),(222,274),(228,289),(229,290)],XI []⟩
theorem apW:Lays.n189 Tryz.prog auH:=by repeat' first |kernel_rfl |(intro _;kernel_rfl) |constructor
def ahE:List AK:=[ayg]
noncomputable def auI (N:Nat) (x:fK ahE) (kf:jD->aa):aa:=al5 N x.1 (λz=>kf ⟨[],[⟨(.sl (.int .i64)),(.o 3 (some 0) .k),z⟩]⟩)
noncomputable def auJ (N:Nat):=cX ahE (auI N)
theorem axb {Γ:Gl} (zU:sA Γ) (N:Nat):Sound Γ Tryz.prog 178 (auJ N):=amI apW 3
theorem aoB:CE.ok ⟨178,[.Gq],ahE,auI⟩:=λh N=>axb h N
def auK:Go.Shelf.Ren:=⟨XI [(20,179)],XI [(0,0),(3,3),(4,4),(22,25)],XI []⟩
theorem apX:Lays2.n20 Tryz.prog auK:=by repeat' first |kernel_rfl |(intro _;kernel_rfl) |constructor
def ahF:List AK:=[.v (.sl (.int .i64)) wL]
noncomputable def auL (N:Nat) (x:fK ahF) (kf:jD->aa):aa:=apm N x.1 (λr0=>kf ⟨[⟨(.sl (.int .i64)),wL,r0⟩],[]⟩)
noncomputable def auM (N:Nat):=cX ahF (auL N)
theorem axc {Γ:Gl} (zU:sA Γ) (N:Nat):Sound Γ Tryz.prog 179 (auM N):=aei apX 3
theorem aoC:CE.ok ⟨179,[.take],ahF,auL⟩:=λh N=>axc h N
def CF:List Kd:=(dK::xM::AH::dK::AH::dn 104 ([]))
def CG:List Kd:=(dK::dK::AH::iE::dn 105 ([]))
theorem WV:CE.ok ⟨113,[.val],[qv],λN x kf=>wC N x.1 (RS pG zH .bool .k kf)⟩:=lK Tryz.f113 5 (dK::xM::AH::dK::AH::dn 25 (KF::aN::aN::dn 76 ([]))) (λN n x K=>mn N x.1 x.2.1 x.2.2.2.1 x.2.2.2.2.1 n (λz0=>K (.x 0) (shape CF (x.1,x.2.1,z0,()))) (λz0 z1=>K .r (shape CG (z0,z1,()))) x.2.2.1 x.2.2.2.2.2.1) [(5,2,CF),(5,1,CG)] (bE wO (bE rI (bE y5 (bE j8 (bE YS (bE WU (bE GZ (bE aoB (bE aoC (bE qX dC)))))))))) (dA:=[(8,(OT.seq [0,1,2,3,4,5,6,9,10,11,12,7,8,13,14,15,17,16,18,19] .done)),(11,(OT.seq [0,1,2,3,4,5,6,7,8] .done)),(12,(OT.seq [0,1,2,3,4,5,6,7,8,9,10,11,12] .done)),(14,(OT.seq [3,0,2] (.par [1,4] [[4,86,87]] (OT.seq [5,6,7] .done))))])
def auN:Go.Shelf.Ren:=⟨XI [(45,180)],XI [(0,0),(3,3),(4,4),(22,31),(23,128)],λn=>n⟩
def axd:Array Value:=#[.int .i64 0,.int .i64 0,.int .i64 0,.int .i64 0,.int .i64 0,.slice none 0 0]
noncomputable def axe:TypeInfo:=(Tryz.prog.info? 128).get (by kernel_rfl)
theorem auO:aye Tryz.prog auN (lG).size axd axe:={ FB:=⟨Tryz.f180.name,by kernel_rfl,by kernel_rfl⟩,mixed:=by kernel_rfl,t0:=by kernel_rfl,a0:=λw=>by kernel_rfl,z0:=λw=>by kernel_rfl,v0:=λw=>by kernel_rfl,t3:=by kernel_rfl,a3:=λw=>by kernel_rfl,z3:=λw=>by kernel_rfl,v3:=λw=>by kernel_rfl,t4:=by kernel_rfl,a4:=λw=>by kernel_rfl,z4:=λw=>by kernel_rfl,v4:=λw=>by kernel_rfl,t22:=by kernel_rfl,a22:=λw=>by kernel_rfl,z22:=λw=>by kernel_rfl,v22:=λw=>by kernel_rfl,z23:=λw=>by kernel_rfl,v23:=λw=>by kernel_rfl,hz:=by kernel_rfl,hzo:=by kernel_rfl,hi0:=by kernel_rfl,hz1:=by kernel_rfl }
def ahG:List AK:=[.v (.sl lG) adi,db,db]
noncomputable def auP (N:Nat) (x:fK ahG) (kf:jD->aa):aa:=azK N x.1 x.2.1 x.2.2.1 (λr0=>kf ⟨[⟨(.sl lG),adi,r0⟩],[]⟩)
noncomputable def auQ (N:Nat):=cX ahG (auP N)
theorem axf {Γ:Gl} (zU:sA Γ) (N:Nat):Sound Γ Tryz.prog 180 (auQ N):=ahj auO 128 adh (by kernel_rfl)
theorem axg:CE.ok ⟨180,[.take,.val,.val],ahG,auP⟩:=λh N=>axf h N
theorem WW:CE.ok ⟨114,[.val,.val],[qv,db],λN x kf=>wD N x.1 x.2.1 (RS pG zH .bool .k kf)⟩:=nb Tryz.f114 (bE j8 (bE lA (bE rI (bE axg (bE qX dC)))))
theorem aau:CE.ok ⟨43,[.val,.val,.val],[qv,Ng,kg],λN x kf=>jx N x.1 x.2.1 x.2.2.1 (λr0 r1=>kf ⟨[⟨pG,.k,r0⟩,⟨.bool,.k,r1⟩,⟨.bool,.k,false⟩],[]⟩) (λr0 r1=>kf ⟨[⟨pG,zH,r0⟩,⟨.bool,.k,r1⟩,⟨.bool,.k,true⟩],[]⟩)⟩:=nb Tryz.f43 (bE aaq (bE YM (bE WK (bE YQ (bE TD (bE WV (bE WW dC))))))) (dA:=[(7,(OT.seq [0,1,2,3,4,5,6,7,8,9,10,11,12] .done)),(9,(OT.seq [0,1,2,3,4,5,6,7,8,9,10,11,12] .done)),(13,(OT.seq [0,1,2,3,4,5,6,7,8,9,10,11,12,13,14,15] .done)),(17,(OT.seq [0,1,2,3,4,5,6,7,8,9] .done))])
def akD:Go.Shelf.Ren:=⟨XI [(156,189),(165,258),(166,259),(169,260),(240,309),(241,310),(276,335),(277,336)],XI [(0,0),(3,3),(4,4),(5,5),(9,9),(20,20),(31,50),(37,109),(70,221),(72,223),(75,226),(76,227),(80,229),(127,256),(164,278)],XI []⟩
theorem apY:Lays.n156 Tryz.prog akD:=by repeat' first |kernel_rfl |(intro _;kernel_rfl) |constructor
theorem apZ:Builder.Extra Tryz.prog akD:={ sizeBuilder:=by kernel_rfl,liesBuilder:=by kernel_rfl,t5:=by kernel_rfl,a5:=λw=>by kernel_rfl,z5:=λw=>by kernel_rfl,v5:=λw=>by kernel_rfl,infoByte:=by kernel_rfl,cellsByte:=by kernel_rfl,sizeByte:=by kernel_rfl,neB5:=by decide }
def ahH:List AK:=[akm,Ng]
noncomputable def auR (N:Nat) (x:fK ahH) (kf:jD->aa):aa:=avK N x.1 x.2.1 (λr0=>kf ⟨[⟨.str,.k,r0⟩],[]⟩)
noncomputable def auS (N:Nat):=cX ahH (auR N)
theorem axh {Γ:Gl} (zU:sA Γ) (N:Nat):Sound Γ Tryz.prog 189 (auS N):=amH apY apZ
theorem aoD:CE.ok ⟨189,[.val,.val],ahH,auR⟩:=λh N=>axh h N
theorem JN:CE.ok ⟨181,[.val],[akm],λN x kf=>tU N x.1 (eH .str .k kf)⟩:=nb Tryz.f181 (bE aoD dC)
def wP:List Kd:=(dn 3 (xr::dn 17 ([])))
theorem DO:CE.ok ⟨115,[.val],[kg],λN x kf=>gL N x.1 (eH .str .k kf)⟩:=lK Tryz.f115 3 (dn 3 (xr::dn 3 (jh::aN::aN::dn 11 ([])))) (λN n x K=>iv N x.2.1 x.2.2.1 n (λz0=>K (.x 0) (shape wP (z0,()))) x.1 x.2.2.2.1) [(3,2,wP)] (bE rH (bE JN dC))
end Go.Pv.R
