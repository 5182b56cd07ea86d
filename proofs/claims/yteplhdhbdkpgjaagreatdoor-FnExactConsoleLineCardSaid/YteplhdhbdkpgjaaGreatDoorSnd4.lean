/- Each function of the program that the law reaches computes its plain function, part 4. -/
import Derived.Test.YteplhdhbdkpgjaaGreatDoorSnd3
import Derived.Test.YteplhdhbdkpgjaaGreatDoorProg
set_option linter.unusedVariables false
noncomputable section
namespace Go.Pv.R
open List Int IntKind
open Go.Proofs
set_option maxRecDepth 100000
def yw:List Kd:=(dn 3 (xr::dn 34 ([])))
theorem Rh:CE.ok ⟨117,[.val],[tF],λN x kf=>tx N x.1 (eH .str .k kf)⟩:=lK Tryz.f117 3 (dn 3 (xr::dn 3 (sC::aN::aN::dn 28 ([])))) (λN n x K=>jJ N x.2.1 x.2.2.1 n (λz0=>K (.x 0) (shape yw (z0,()))) x.1 x.2.2.2.1) [(3,2,yw)] (bE rH (bE JN dC)) (dA:=[(5,(OT.seq [0,1,2,5,6,10,11,12,16,17,3,4,7,8,9,13,14,15,18,19,20,21,22] .done))])
def yx:List Kd:=(dn 5 (xr::dn 37 ([])))
theorem Ri:CE.ok ⟨118,[.val,.val],[Q6,kg],λN x kf=>tz N x.1 x.2.1 (eH .str .k kf)⟩:=lK Tryz.f118 3 (dK::jh::dn 3 (xr::dn 4 (KF::aN::aN::dn 30 ([])))) (λN n x K=>ig N x.1 x.2.2.1 x.2.2.2.1 n (λz0=>K (.x 0) (shape yx (z0,()))) x.2.1 x.2.2.2.2.1) [(3,2,yx)] (bE rH (bE JN dC)) (dA:=[(8,(OT.seq [0,1,2,5,6,10,3,4,7,8,9,11,12,13,14] .done))])
theorem TE:CE.ok ⟨120,[.val],[qv],λN x kf=>yU N x.1 (eH .str .k kf)⟩:=nb Tryz.f120 (bE y5 (bE DO dC)) (dA:=[(1,(OT.seq [0,1,2,3,4,5,6,7,8,9,12,13,14,15,16,10,11,17,18,19] .done))])
theorem PH:CE.ok ⟨122,[],[],λN x kf=>ov N (eH PW .k kf)⟩:=nb Tryz.f122 dC (G2:=[(1,[(0,[.deref])])])
theorem y7:CE.ok ⟨195,[.val,.val],[zI,db],λN x kf=>uw N x.1 x.2.1 (eH .bool .k kf)⟩:=nb Tryz.f195 (bE gT dC)
def wQ:List Kd:=(jh::jh::dn 34 ([]))
def wR:List Kd:=(dn 4 (aN::dn 31 ([])))
theorem DP:CE.ok ⟨263,[.val,.val],[kg,kg],λN x kf=>zu N x.1 x.2.1 (eH (.int .i64) .k kf)⟩:=lK Tryz.f263 2 (jh::jh::dn 7 (jh::aN::aN::dn 24 ([]))) (λN n x K=>vt N x.1 x.2.1 x.2.2.1 x.2.2.2.1 n (K (.x 0) (shape wQ (x.1,x.2.1,()))) (λz0=>K .r (shape wR (z0,()))) x.2.2.2.2.1) [(2,2,wQ),(2,1,wR)] (bE JK dC)
def Gc:List Kd:=(dn 52 ([]))
def Gd:List Kd:=(dK::dK::iE::dn 49 ([]))
theorem qY:CE.ok ⟨194,[.val],[zI],λN x kf=>rD N x.1 (eH .bool .k kf)⟩:=lK Tryz.f194 4 (dK::BY::dn 8 (Ig::aN::aN::dn 39 ([]))) (λN n x K=>yV N x.1 x.2.1 x.2.2.1 n (K (.x 0) (shape Gc ())) (λz0=>K .r (shape Gd (z0,()))) x.2.2.2.1) [(4,2,Gc),(4,1,Gd)] (bE gT (bE y7 (bE DP dC))) (dA:=[(6,(OT.seq [0,1,2,3,4,5,6,7,8,9,10,11,12,13,14,15,16,17,18,19,20,21,22,23,24,25,26,27,28,29,30,31,32,33] .done))])
def JO:List Kd:=(dn 35 ([]))
def JP:List Kd:=(dn 4 (iE::dn 30 ([])))
theorem Lh:CE.ok ⟨307,[.val,.val],[zI,kg],λN x kf=>M1 N x.1 x.2.1 (eH .bool .k kf)⟩:=lK Tryz.f307 4 (dK::jh::BY::dn 7 (jh::aN::aN::dn 22 ([]))) (λN n x K=>Fh N x.1 x.2.1 x.2.2.1 x.2.2.2.1 n (K (.x 0) (shape JO ())) (λz0=>K .r (shape JP (z0,()))) x.2.2.2.2.1) [(4,2,JO),(4,1,JP)] (bE qY (bE y7 dC))
def CH:List Kd:=(dn 5 (lz::dn 27 ([])))
theorem WX:CE.ok ⟨353,[.val,.val],[zI,db],λN x kf=>O1 N x.1 x.2.1 (eH (.sl (.int .i64)) wL kf)⟩:=lK Tryz.f353 5 (dK::aN::dn 3 (lz::dn 8 (Ig::aN::aN::dn 16 ([])))) (λN n x K=>vR x.1 x.2.2.1 x.2.2.2.1 n (λz0=>K (.x 0) (shape CH (z0,()))) x.2.1 x.2.2.2.2.1) [(5,2,CH)] (bE qY dC)
def JQ:List Kd:=(dn 5 (lz::dn 19 ([])))
theorem RW:CE.ok ⟨334,[.val,.val],[zI,kg],λN x kf=>SC N x.1 x.2.1 (eH (.sl (.int .i64)) wL kf)⟩:=lK Tryz.f334 3 (dK::dK::BY::dK::dK::lz::dn 3 (jh::aN::aN::dn 13 ([]))) (λN n x K=>K6 N x.1 x.2.2.1 x.2.2.2.1 n (λz0=>K (.x 0) (shape JQ (z0,()))) x.2.1 x.2.2.2.2.1) [(3,2,JQ)] (bE WX (bE aoB (bE aoC dC)))
noncomputable def xQ:CE:=⟨266,[.val,.val],[zI,db],λN x kf=>xj N x.1 x.2.1 (eH (.sl (.int .i64)) wL kf)⟩
def yy:List Kd:=(dn 5 (lz::dn 27 ([])))
theorem Hw:xQ.ok:=lK Tryz.f266 5 (dK::aN::dn 3 (lz::dn 8 (Ig::aN::aN::dn 16 ([])))) (λN n x K=>sQ x.1 x.2.2.1 x.2.2.2.1 n (λz0=>K (.x 0) (shape yy (z0,()))) x.2.1 x.2.2.2.2.1) [(5,2,yy)] (bE qY dC)
def Ge:List Kd:=(dn 36 ([]))
def Gf:List Kd:=(dn 6 (iE::dn 29 ([])))
theorem aav:CE.ok ⟨308,[.val,.val,.val],[zI,kg,db],λN x kf=>UT N x.1 x.2.1 x.2.2.1 (eH .bool .k kf)⟩:=lK Tryz.f308 5 (dn 7 (lz::dn 17 (lz::aN::aN::dn 8 ([])))) (λN n x K=>GC N x.1 x.2.1 x.2.2.1 n (K (.x 0) (shape Ge ())) (λz0=>K .r (shape Gf (z0,()))) x.2.2.2.1) [(5,2,Ge),(5,1,Gf)] (bE Lh (bE y7 (bE RW (bE Hw (bE gO dC)))))
def Ay:List Kd:=(dn 5 (lz::dn 22 ([])))
theorem JR:CE.ok ⟨256,[.val,.val],[zI,kg],λN x kf=>GD N x.1 x.2.1 (eH (.sl (.int .i64)) wL kf)⟩:=lK Tryz.f256 5 (dK::jh::BY::dK::dK::lz::dn 8 (aN::aN::dn 12 ([]))) (λN n x K=>ux N x.1 x.2.1 x.2.2.2.1 n (λz0=>K (.x 0) (shape Ay (z0,()))) x.2.2.1 x.2.2.2.2.1) [(5,2,Ay)] (bE Lh (bE aav dC))
def yz:List Kd:=(dn 26 ([]))
def yA:List Kd:=(dn 4 (iE::dn 21 ([])))
theorem Hy:CE.ok ⟨257,[.val,.val],[kg,kg],λN x kf=>Es N x.1 x.2.1 (eH .bool .k kf)⟩:=lK Tryz.f257 4 (jh::jh::dn 10 (aN::aN::dn 12 ([]))) (λN n x K=>xJ x.1 x.2.1 x.2.2.1 n (K (.x 0) (shape yz ())) (λz0=>K .r (shape yA (z0,()))) x.2.2.2.1) [(4,2,yz),(4,1,yA)] dC (dA:=[(6,(OT.seq [0,1,2,3,4,5,6,7,8] .done))])
def Hz:List Kd:=(dK::dK::Mo::dn 26 ([]))
theorem adP:CE.ok ⟨188,[.val],[zI],λN x kf=>Zn N x.1 (eH (.sl (.sl (.int .i64))) akk kf)⟩:=lK Tryz.f188 4 (dK::BY::dK::Mo::dn 25 ([])) (λN n x K=>IZ N x.1 n (λz0=>K .r (shape Hz (z0,()))) x.2.1) [(4,1,Hz)] (bE qY (bE JR (bE Hy dC))) (hn:=[(6,.k)]) (G2:=[(5,[(5,[])])])
theorem YT:CE.ok ⟨121,[.val],[zI],λN x kf=>RF N x.1 (eH (.sl (.int .i64)) .k kf)⟩:=nb Tryz.f121 (bE adP dC) (G2:=[(0,[(2,[])]),(2,[(2,[])])])
def HA:List Kd:=(dn 23 ([]))
def HB:List Kd:=(dn 4 (iE::dn 18 ([])))
theorem adQ:CE.ok ⟨311,[.val,.val],[zI,kg],λN x kf=>Zo N x.1 x.2.1 (eH .bool .k kf)⟩:=lK Tryz.f311 4 (dK::jh::dn 11 (lz::aN::aN::dn 7 ([]))) (λN n x K=>I0 N x.1 x.2.1 x.2.2.1 n (K (.x 0) (shape HA ())) (λz0=>K .r (shape HB (z0,()))) x.2.2.2.1) [(4,2,HA),(4,1,HB)] (bE Lh (bE RW (bE gO dC)))
theorem TF:CE.ok ⟨261,[.val,.val],[zI,kg],λN x kf=>Nx N x.1 x.2.1 (eH .bool .k kf)⟩:=nb Tryz.f261 (bE adQ (bE JR (bE Hy dC)))
def fP:List Kd:=(afK::aN::aN::.EY 263 []::dn 4 (aN::dn 44 ([])))
def fQ:List Kd:=(afK::dn 52 ([]))
theorem pk:CE.ok ⟨337,[.Gq,.val,.val,.val],[at2,db,db,.fn 263 []],λN x kf=>iJ N x.1 x.2.1 x.2.2.1 (λz=>kf ⟨[],[⟨(.sl (.sl (.int .i64))),akl,z⟩]⟩)⟩:=eK2 Tryz.f337 1 (afK::aN::aN::.EY 263 []::dn 4 (aN::dn 44 ([]))) (λN n x K=>eG N x.2.1 x.2.2.1 n (λz0=>K (.x 0) (shape fQ (z0,()))) x.1 x.2.2.2.2.1) 4 (afK::aN::aN::.EY 263 []::dn 4 (aN::aN::dn 43 ([]))) (λN n x K=>eF N x.2.1 x.2.2.1 x.2.2.2.2.1 n (λz0=>K (.x 2) (shape fP (z0,x.2.1,x.2.2.1,(),x.2.2.2.2.1,()))) x.1 x.2.2.2.2.2.1) [(4,4,fP),(1,2,fQ)] (bE DP dC) (dA:=[(4,(OT.seq [0,1,2,3,4,5,6,7,8,9,10,11,12,13,14,15,16] .done)),(6,(OT.seq [0,1,5,6,7,8,9,10,11,12,13,14,2,3,4,15,16,17] .done))]) (nH:=some (0,false))
def ik:List Kd:=(afK::dn 147 ([]))
theorem qN:CE.ok ⟨312,[.Gq,.val,.val,.val,.val],[at2,db,db,db,.fn 263 []],λN x kf=>kH N x.1 x.2.1 x.2.2.1 x.2.2.2.1 (λz=>kf ⟨[],[⟨(.sl (.sl (.int .i64))),akl,z⟩]⟩)⟩:=lK Tryz.f312 2 (afK::aN::aN::aN::.EY 263 []::dn 5 (iE::iE::dn 136 ([]))) (λN n x K=>jC N x.1 x.2.1 x.2.2.1 x.2.2.2.1 x.2.2.2.2.2.1 x.2.2.2.2.2.2.1 n (λz0=>K .r (shape ik (z0,())))) [(2,1,ik)] (bE pk dC) (nH:=some (0,false))
theorem uH:CE.ok ⟨262,[.Gq,.val],[at2,.fn 263 []],λN x kf=>nG N x.1 (λz=>kf ⟨[],[⟨(.sl (.sl (.int .i64))),akl,z⟩]⟩)⟩:=nb Tryz.f262 (bE Mr (bE qN dC)) (nH:=some (0,false))
def yB:List Kd:=(dK::BY::dK::Mo::dK::lz::dn 8 (aN::aN::dn 29 ([])))
def yC:List Kd:=(dn 3 (Mo::dn 41 ([])))
theorem Rj:CE.ok ⟨190,[.val],[zI],λN x kf=>L6 N x.1 (eH (.sl (.sl (.int .i64))) akk kf)⟩:=eK2 Tryz.f190 5 (dK::BY::dK::Mo::dn 10 (aN::aN::dn 29 ([]))) (λN n x K=>sS N x.1 x.2.2.1 n (λz0=>K (.x 0) (shape yC (z0,()))) x.2.1 x.2.2.2.1) 9 (dK::BY::dK::Mo::aN::lz::dn 8 (aN::aN::dn 4 (aN::aN::dn 23 ([])))) (λN n x K=>sR x.1 x.2.1 x.2.2.1 x.2.2.2.2.1 x.2.2.2.2.2.1 x.2.2.2.2.2.2.1 n (λz0=>K (.x 2) (shape yB (x.1,x.2.1,z0,x.2.2.2.2.1,x.2.2.2.2.2.1,()))) x.2.2.2.1 x.2.2.2.2.2.2.2.1) [(9,4,yB),(5,2,yC)] (bE qY (bE TF (bE uH dC))) (G2:=[(14,[(5,[])])])
def DQ:List Kd:=(dn 18 ([]))
def DR:List Kd:=(dn 4 (iE::dn 13 ([])))
theorem YU:CE.ok ⟨193,[.val,.val],[kg,kg],λN x kf=>RG N x.1 x.2.1 (eH .bool .k kf)⟩:=lK Tryz.f193 2 (dK::jh::dn 5 (jh::aN::aN::dn 8 ([]))) (λN n x K=>Et N x.1 x.2.1 x.2.2.1 n (K (.x 0) (shape DQ ())) (λz0=>K .r (shape DR (z0,()))) x.2.2.2.1) [(2,2,DQ),(2,1,DR)] (bE gO dC)
theorem Rk:CE.ok ⟨192,[.val],[kg,.v (.ptr (.sl (.int .i64))) .k],λN x kf=>L7 N x.1 x.2.1 (eH .bool .k kf)⟩:=nb Tryz.f192 (bE YU dC)
def kC:List Kd:=(dn 19 ([]))
def kD:List Kd:=(dn 4 (aN::dn 14 ([])))
theorem uY:CE.ok ⟨264,[.val,.val],[akn,.fn 192 [(.ptr (.sl (.int .i64)))]],λN x kf=>nX N x.1 x.2.1.1 (eH (.int .i64) .k kf)⟩:=lK Tryz.f264 2 (Ig::.EY 192 [.kv (.ptr (.sl (.int .i64)))]::dn 5 (aN::aN::dn 10 ([]))) (λN n x K=>gS N x.1 x.2.1.1 x.2.2.1 n (K (.x 0) (shape kC ())) (λz0=>K .r (shape kD (z0,()))) x.2.2.2.1) [(2,2,kC),(2,1,kD)] (bE Rk dC)
theorem tG:CE.ok ⟨191,[.val,.val],[akn,.fn 192 [(.ptr (.sl (.int .i64)))]],λN x kf=>mR N x.1 x.2.1.1 (eH .bool .k kf)⟩:=nb Tryz.f191 (bE uY dC)
def CI:List Kd:=(dn 4 (Mo::dn 21 ([])))
theorem WY:CE.ok ⟨124,[.val],[zI],λN x kf=>I1 N x.1 (eH (.sl (.sl (.int .i64))) akk kf)⟩:=lK Tryz.f124 3 (dn 3 (Mo::Mo::dn 5 (.al (.sl (.sl (.int .i64))) 3::aN::aN::dn 13 ([])))) (λN n x K=>vS N x.1 x.2.2.1 n (λz0=>K (.x 0) (shape CI (z0,()))) x.2.1 x.2.2.2.1) [(3,2,CI)] (bE Rj (bE tG dC)) (G2:=[(0,[(2,[])]),(8,[(2,[])])])
def DS:List Kd:=(dn 3 (xt::dK::dK::xr::dn 5 (Ig::aN::aN::dn 24 ([]))))
def DT:List Kd:=(dn 3 (xt::dn 35 ([])))
theorem YV:CE.ok ⟨123,[.val],[akn],λN x kf=>K7 N x.1 (eH .str .k kf)⟩:=eK2 Tryz.f123 5 (dn 3 (xt::dn 8 (Ig::aN::aN::dn 24 ([])))) (λN n x K=>Ev N x.2.1 x.2.2.1 n (λz0=>K (.x 0) (shape DT (z0,()))) x.1 x.2.2.2.1) 9 (dn 3 (xt::dK::dK::xr::dn 5 (Ig::aN::aN::dn 4 (jh::aN::aN::dn 17 ([]))))) (λN n x K=>Eu N x.1 x.2.2.1 x.2.2.2.1 x.2.2.2.2.1 x.2.2.2.2.2.1 x.2.2.2.2.2.2.1 n (λz0=>K (.x 2) (shape DS (x.1,z0,x.2.2.1,x.2.2.2.1,x.2.2.2.2.1,()))) x.2.1 x.2.2.2.2.2.2.2.1) [(9,4,DS),(5,2,DT)] (bE rH (bE aoD dC))
def PI:List Kd:=dK::aN::dK::aom::BY::dn 4 (aon::dK::dK::iE::dK::dK::iE::dn 15 (lz::aN::aN::dn 5 (lz::aN::aN::dn 26 ([]))))
def RX:List Kd:=dK::aN::dK::aom::BY::dn 4 (aon::dK::dK::iE::dK::dK::iE::dn 15 (lz::aN::aN::dn 34 ([])))
def TG:List Kd:=dK::aN::dK::aom::BY::dn 4 (aon::dK::dK::iE::dn 18 (lz::aN::aN::dn 34 ([])))
def WZ:List Kd:=dn 3 (aom::dn 5 (aon::dK::dK::iE::dn 55 ([])))
def ahI:Hint:={ tab,hn:=[],loops:=[(11,PI),(7,TG)],outs:=[(11,4,RX),(7,2,WZ)],dA:=[(13,(OT.seq [0,1,2,3,4,5,6,7,8,9,10,11,12,13,14] .done))],nH:=some (3,false) }
def W2:List AK:=[zI,db,db,.v .mp (.o 188 (some 0) .k)]
noncomputable def am5 (N:Nat) (x:fK W2) (kf:jD->aa):aa:=asI N x.1 x.2.1 x.2.2.1 x.2.2.2.1 (λr0 z=>kf ⟨[⟨.bool,.k,r0⟩],[⟨.mp,(.o 188 (some 0) .k),z⟩]⟩)
noncomputable def adR (N:Nat):=cX W2 (am5 N)
def aaP (N:Nat):List Entry:=[⟨266,[.val,.val],(cX xQ.l (xQ.F N))⟩,⟨196,[.val,.val,.val,.Gq],(adR N)⟩]
def Qf:Code:=iF Tryz.f196
noncomputable def adS (N n:Nat) (key:Nat) (S:St) (K:Ks):aa:=bif Nat.beq key 7 then wj TG S (λx=>agN N (asI N) x.1 x.2.2.1 x.2.2.2.1 x.2.2.2.2.1 x.2.2.2.2.2.1 x.2.2.2.2.2.2.1 n (λz0 z1=>K (.x 0) (shape WZ (z0,x.2.2.2.1,z1,()))) x.2.1 x.2.2.2.2.2.2.2.1) else bif Nat.beq key 11 then wj PI S (λx=>UU (asI N) x.1 x.2.2.1 x.2.2.2.1 x.2.2.2.2.1 x.2.2.2.2.2.1 x.2.2.2.2.2.2.1 x.2.2.2.2.2.2.2.1 x.2.2.2.2.2.2.2.2.1 x.2.2.2.2.2.2.2.2.2.1 x.2.2.2.2.2.2.2.2.2.2.1 n (λz0 z1=>K (.x 2) (shape RX (x.1,z0,x.2.2.1,x.2.2.2.1,x.2.2.2.2.1,z1,x.2.2.2.2.2.2.1,x.2.2.2.2.2.2.2.1,x.2.2.2.2.2.2.2.2.1,()))) x.2.1 x.2.2.2.2.2.2.2.2.2.2.2.1) else none
theorem axi (N key:Nat) (S:St) (K:Ks):adS N 0 key S K=none:=(agk (w6 λ_=>rfl) (agk (w6 λ_=>rfl) rfl))
def akE:Code:=(cY Qf).getD 0 .skip
def akF:Code:=(cY Qf).getD 1 .skip
theorem axj:cY Qf=[akE,akF]:=by kernel_rfl
theorem am6 (N:Nat):RdT ahI (aaP N) (adS N) N 11 PI akF:=λ_ _ _=>by kernel_rfl
theorem ap0 (N:Nat):RdT ahI (aaP N) (adS N) N 7 TG akE:=λ_ _ _=>by kernel_rfl
theorem axk (N:Nat) (x:fK W2) (kf:jD->aa):am5 (N+1) x kf=rP ahI (vi.of (aaP N)) (adS N N) Tryz.f196 (iS W2 x) kf:=by kernel_rfl
theorem aoE {Γ:Gl} (zU:sA Γ):∀ N:Nat,Sound Γ Tryz.prog 196 (adR N)
 |0=>wk λal kf=>by unfold adR cX;split<;>rfl
 |N+1=>qz (hh:=ahI) mixed vz (es:=aaP N) ⟨Hw zU N,⟨aoE zU N,trivial⟩⟩ (fn:=Tryz.f196) (body:=Qf) (by kernel_rfl) (by kernel_rfl) (by kernel_rfl) (by kernel_rfl) (by kernel_rfl) (Lf:=adS N) (axi N) axj (rc (ap0 N) (rc (am6 N) trivial)) (N:=N) (by kernel_rfl) (axk N) (.inl (by kernel_rfl))
theorem axl:CE.ok ⟨196,[.val,.val,.val,.Gq],W2,am5⟩:=λh N=>aoE h N
theorem adT:CE.ok ⟨125,[.val,.val],[zI,db],λN x kf=>Ae N x.1 x.2.1 (eH .bool .k kf)⟩:=nb Tryz.f125 (bE qY (bE y7 (bE axl dC))) (dA:=[(1,(OT.seq [0,1,2,3,4,5,6,7,8,9,10,11,12,13,14,15] .done))])
def CJ:List Kd:=(dn 8 (sC::aN::aN::dn 17 ([])))
def CL:List Kd:=(dK::dK::iE::dn 25 ([]))
def CM:List Kd:=(dn 28 ([]))
def CN:List Kd:=(dK::dK::iE::dn 25 ([]))
theorem W3:CE.ok ⟨197,[.val],[qv],λN x kf=>BF N x.1 (eH .bool .k kf)⟩:=eK2 Tryz.f197 2 (dn 8 (sC::aN::aN::dn 17 ([]))) (λN n x K=>mq N x.1 x.2.1 n (K (.x 0) (shape CM ())) (λz0=>K .r (shape CN (z0,()))) x.2.2.1) 5 (dn 4 (at3::dn 3 (sC::aN::aN::dn 4 (jh::aN::aN::dn 10 ([]))))) (λN n x K=>jZ N x.1 x.2.1 x.2.2.1 x.2.2.2.1 x.2.2.2.2.1 x.2.2.2.2.2.1 n (K (.x 2) (shape CJ (x.2.1,x.2.2.1,x.2.2.2.1,()))) (λz0=>K .r (shape CL (z0,()))) x.2.2.2.2.2.2.1) [(5,4,CJ),(5,1,CL),(2,2,CM),(2,1,CN)] (bE Lg dC)
def yD:List Kd:=(dn 42 ([]))
def yE:List Kd:=(dK::dK::iE::dn 39 ([]))
theorem Rl:CE.ok ⟨198,[.val],[qv],λN x kf=>xk N x.1 (eH .bool .k kf)⟩:=lK Tryz.f198 2 (dK::xM::dn 5 (KF::aN::aN::dn 32 ([]))) (λN n x K=>jK N x.1 x.2.1 x.2.2.1 n (K (.x 0) (shape yD ())) (λz0=>K .r (shape yE (z0,()))) x.2.2.2.1) [(2,2,yD),(2,1,yE)] (bE GZ (bE ER dC)) (dA:=[(6,(OT.seq [0,1,2,3,4,5,6,7,8] .done)),(7,(OT.seq [0,1,2,3,4,5,6,7,8,9,10,11,12,13] .done))])
def CO:List Kd:=(dK::xM::dK::aN::dn 37 ([]))
theorem W4:CE.ok ⟨199,[.val],[qv],λN x kf=>BG N x.1 (eH .bool .k kf)⟩:=lK Tryz.f199 3 (dK::xM::dK::aN::dn 13 (ZB::aN::aN::dn 21 ([]))) (λN n x K=>j0 x.1 x.2.2.1 x.2.2.2.1 n (λz0=>K (.x 0) (shape CO (x.1,z0,()))) x.2.1 x.2.2.2.2.1) [(3,2,CO)] (bE y5 (bE zL (bE gT dC))) (dA:=[(1,(OT.seq [0,1,2,3,4,5,6,7,8,9,10] .done))])
def CP:List Kd:=(dK::xM::dK::aN::aN::aN::dn 38 ([]))
theorem W5:CE.ok ⟨200,[.val],[qv],λN x kf=>BH N x.1 (eH .bool .k kf)⟩:=lK Tryz.f200 3 (dK::xM::dK::aN::aN::aN::dn 3 (sC::aN::aN::dn 32 ([]))) (λN n x K=>mu x.1 x.2.2.2.2.1 x.2.2.2.2.2.1 n (λz0 z1 z2=>K (.x 0) (shape CP (x.1,z0,z1,z2,()))) x.2.1 x.2.2.1 x.2.2.2.1 x.2.2.2.2.2.2.1) [(3,2,CP)] (bE jA dC)
theorem aaw:CE.ok ⟨126,[.val],[qv],λN x kf=>BI N x.1 (eH .str .k kf)⟩:=nb Tryz.f126 (bE W3 (bE Rl (bE W4 (bE W5 (bE wO dC)))))
theorem ahJ:CE.ok ⟨44,[.val,.val,.val],[qv,Ng,kg],λN x kf=>gY N x.1 x.2.1 x.2.2.1 (eH .str .k kf)⟩:=nb Tryz.f44 (bE ET (bE DO (bE Rh (bE Ri (bE y5 (bE TE (bE PH (bE YT (bE WY (bE YV (bE adT (bE RV (bE aaw dC))))))))))))) (dA:=[(17,(OT.seq [1,2,3,0,4,5,6] .done))])
noncomputable def xR:CE:=⟨7,[.val,.val],[qv,Ng],λN x kf=>lx N x.1 x.2.1 (RS pG zH .str .k kf)⟩
def yF:List Kd:=(dK::xt::xM::dK::AH::dK::xr::dn 108 ([]))
def xw:List Kd:=(dK::dK::xM::dK::AH::dK::adl::dK::dK::lz::dn 105 ([]))
def xx:List Kd:=(dn 4 (AH::xt::dn 109 ([])))
theorem Rm:xR.ok:=eK2 Tryz.f7 3 (dK::xt::xM::dK::AH::dK::xr::dn 12 (adl::aN::aN::dn 93 ([]))) (λN n x K=>fV x.1 x.2.1 x.2.2.1 x.2.2.2.2.1 x.2.2.2.2.2.1 n (λz0=>K (.x 0) (shape yF (x.1,x.2.1,x.2.2.1,z0,()))) x.2.2.2.1 x.2.2.2.2.2.2.1) 16 (dK::dK::xM::dK::AH::dK::adl::dK::dK::lz::dn 58 (adl::aN::aN::dn 44 ([]))) (λN n x K=>gC N x.1 x.2.1 x.2.2.1 x.2.2.2.2.1 x.2.2.2.2.2.1 n (λz0=>K (.x 2) (shape xw (x.1,x.2.1,x.2.2.1,z0,()))) (λz0 z1=>K .r (shape xx (z0,z1,()))) x.2.2.2.1 x.2.2.2.2.2.2.1) [(3,2,yF),(16,4,xw),(16,1,xx)] (bE aAN (bE j8 (bE Rf (bE ael (bE YK (bE aau (bE ahJ dC))))))) (dA:=[(23,(.fz (9,[]) (OT.seq [0,1,2,3,4] (.par [5,6,7,8,9,10] [[14]] (OT.seq [11,12,13] .done))))),(25,(OT.seq [0,2,3,4,5,6,1,7,8,9] .done))]) (G2:=[(8,[(6,[])])])
def HC:List Kd:=(dn 26 ([]))
def HD:List Kd:=(dn 4 (iE::dn 21 ([])))
theorem JS:CE.ok ⟨48,[.val,.val],[kg,kg],λN x kf=>Af N x.1 x.2.1 (eH .bool .k kf)⟩:=lK Tryz.f48 4 (jh::jh::dn 3 (aN::dn 20 ([]))) (λN n x K=>qq x.1 x.2.1 n (K (.x 0) (shape HC ())) (λz0=>K .r (shape HD (z0,()))) x.2.2.1) [(4,2,HC),(4,1,HD)] dC (dA:=[(6,(OT.seq [0,1,2,3,4,5,6,7,8] .done))])
theorem adU:CE.ok ⟨127,[.val,.val],[Wa,Wa],λN x kf=>FE N x.1 x.2.1 (eH .bool .k kf)⟩:=nb Tryz.f127 (bE JS dC)
def Gg:List Kd:=(dn 27 ([]))
def Gh:List Kd:=(dn 4 (iE::dn 22 ([])))
theorem aax:CE.ok ⟨45,[.val,.val],[tF,tF],λN x kf=>H4 N x.1 x.2.1 (eH .bool .k kf)⟩:=lK Tryz.f45 4 (sC::sC::dn 3 (aN::dn 21 ([]))) (λN n x K=>pc N x.1 x.2.1 n (K (.x 0) (shape Gg ())) (λz0=>K .r (shape Gh (z0,()))) x.2.2.1) [(4,2,Gg),(4,1,Gh)] (bE adU dC) (dA:=[(6,(OT.seq [0,1,2,3,4,5,6,7,8,9] .done))])
theorem aay:CE.ok ⟨128,[.val,.val],[ZA,ZA],λN x kf=>BK N x.1 x.2.1 (eH .bool .k kf)⟩:=nb Tryz.f128 (bE JS dC)
def DU:List Kd:=(dn 27 ([]))
def DV:List Kd:=(dn 4 (iE::dn 22 ([])))
theorem YW:CE.ok ⟨46,[.val,.val],[Nf,Nf],λN x kf=>Fi N x.1 x.2.1 (eH .bool .k kf)⟩:=lK Tryz.f46 4 (GS::GS::dn 3 (aN::dn 21 ([]))) (λN n x K=>nz N x.1 x.2.1 n (K (.x 0) (shape DU ())) (λz0=>K .r (shape DV (z0,()))) x.2.2.1) [(4,2,DU),(4,1,DV)] (bE aay dC) (dA:=[(6,(OT.seq [0,1,2,3,4,5,6,7,8,9] .done))])
theorem adV:CE.ok ⟨129,[.val,.val],[.v dt .k,.v dt .k],λN x kf=>FF N x.1 x.2.1 (eH .bool .k kf)⟩:=nb Tryz.f129 dC
def Gi:List Kd:=(dn 27 ([]))
def Gj:List Kd:=(dn 4 (iE::dn 22 ([])))
theorem aaz:CE.ok ⟨47,[.val,.val],[Q6,Q6],λN x kf=>H5 N x.1 x.2.1 (eH .bool .k kf)⟩:=lK Tryz.f47 4 (KF::KF::dn 3 (aN::dn 21 ([]))) (λN n x K=>pd N x.1 x.2.1 n (K (.x 0) (shape Gi ())) (λz0=>K .r (shape Gj (z0,()))) x.2.2.1) [(4,2,Gi),(4,1,Gj)] (bE adV dC) (dA:=[(6,(OT.seq [0,1,2,3,4,5,6,7,8,9] .done))])
theorem YX:CE.ok ⟨130,[.val,.val],[adk,adk],λN x kf=>yf N x.1 x.2.1 (eH .bool .k kf)⟩:=nb Tryz.f130 dC
def CQ:List Kd:=(dn 27 ([]))
def CR:List Kd:=(dn 4 (iE::dn 22 ([])))
theorem W6:CE.ok ⟨49,[.val,.val],[V',V'],λN x kf=>BL N x.1 x.2.1 (eH .bool .k kf)⟩:=lK Tryz.f49 4 (KG::KG::dn 3 (aN::dn 21 ([]))) (λN n x K=>mv N x.1 x.2.1 n (K (.x 0) (shape CQ ())) (λz0=>K .r (shape CR (z0,()))) x.2.2.1) [(4,2,CQ),(4,1,CR)] (bE YX dC) (dA:=[(6,(OT.seq [0,1,2,3,4,5,6,7,8,9] .done))])
theorem adW:CE.ok ⟨131,[.val,.val],[.v tM .k,.v tM .k],λN x kf=>FH N x.1 x.2.1 (eH .bool .k kf)⟩:=nb Tryz.f131 dC
def Gk:List Kd:=(dn 27 ([]))
def Gm:List Kd:=(dn 4 (iE::dn 22 ([])))
theorem aaA:CE.ok ⟨50,[.val,.val],[Z',Z'],λN x kf=>H6 N x.1 x.2.1 (eH .bool .k kf)⟩:=lK Tryz.f50 4 (ZB::ZB::dn 3 (aN::dn 21 ([]))) (λN n x K=>pf N x.1 x.2.1 n (K (.x 0) (shape Gk ())) (λz0=>K .r (shape Gm (z0,()))) x.2.2.1) [(4,2,Gk),(4,1,Gm)] (bE adW dC) (dA:=[(6,(OT.seq [0,1,2,3,4,5,6,7,8,9] .done))])
noncomputable def JT:CE:=⟨8,[.val,.val],[qv,qv],λN x kf=>wE N x.1 x.2.1 (eH .bool .k kf)⟩
theorem adX:JT.ok:=nb Tryz.f8 (bE aax (bE YW (bE aaz (bE JS (bE W6 (bE aaA dC))))))
def DW:List Kd:=(ayi::aN::dn 17 ([]))
theorem EU:CE.ok ⟨54,[.Gq,.val],[ayg,db],λN x kf=>yg N x.1 x.2.1 (λr0 z=>kf ⟨[⟨(.int .i64),.k,r0⟩],[⟨(.sl (.int .i64)),(.o 3 (some 0) .k),z⟩]⟩)⟩:=lK Tryz.f54 2 (ayi::aN::dn 3 (aN::dn 13 ([]))) (λN n x K=>p8 n (λz0 z1=>K (.x 0) (shape DW (z0,z1,()))) x.1 x.2.1 x.2.2.1) [(2,2,DW)] dC (nH:=some (0,false))
def CS:List Kd:=(.v (.sl lG) (.o 128 (some 0) adh)::aN::dn 53 ([]))
theorem W7:CE.ok ⟨51,[.Gq,.val],[.v (.sl lG) (.o 128 (some 0) adh),db],λN x kf=>I5 N x.1 x.2.1 (λr0 z=>kf ⟨[⟨(.int .i64),.k,r0⟩],[⟨(.sl lG),(.o 128 (some 0) adh),z⟩]⟩)⟩:=lK Tryz.f51 2 (.v (.sl lG) (.o 128 (some 0) adh)::aN::dn 3 (aN::dn 49 ([]))) (λN n x K=>oA N n (λz0 z1=>K (.x 0) (shape CS (z0,z1,()))) x.1 x.2.1 x.2.2.1) [(2,2,CS)] (bE EU dC) (nH:=some (0,false))
def Az:List Kd:=(.v (.sl n5) (.o 130 (some 0) Zz)::aN::dn 32 ([]))
theorem TH:CE.ok ⟨52,[.Gq,.val],[.v (.sl n5) (.o 130 (some 0) Zz),db],λN x kf=>GF N x.1 x.2.1 (λr0 z=>kf ⟨[⟨(.int .i64),.k,r0⟩],[⟨(.sl n5),(.o 130 (some 0) Zz),z⟩]⟩)⟩:=lK Tryz.f52 2 (.v (.sl n5) (.o 130 (some 0) Zz)::aN::dn 3 (aN::dn 28 ([]))) (λN n x K=>nA N n (λz0 z1=>K (.x 0) (shape Az (z0,z1,()))) x.1 x.2.1 x.2.2.1) [(2,2,Az)] (bE EU dC) (nH:=some (0,false))
def CT:List Kd:=(.v (.sl dt) (.o 133 (some 0) .k)::aN::dn 25 ([]))
theorem W8:CE.ok ⟨53,[.Gq,.val],[.v (.sl dt) (.o 133 (some 0) .k),db],λN x kf=>I6 N x.1 x.2.1 (λr0 z=>kf ⟨[⟨(.int .i64),.k,r0⟩],[⟨(.sl dt),(.o 133 (some 0) .k),z⟩]⟩)⟩:=lK Tryz.f53 2 (.v (.sl dt) (.o 133 (some 0) .k)::aN::dn 3 (aN::dn 21 ([]))) (λN n x K=>oD n (λz0 z1=>K (.x 0) (shape CT (z0,z1,()))) x.1 x.2.1 x.2.2.1) [(2,2,CT)] dC (nH:=some (0,false))
def yG:List Kd:=(.v (.sl vo) (.o 137 (some 0) .k)::aN::dn 32 ([]))
theorem Rn:CE.ok ⟨55,[.Gq,.val],[.v (.sl vo) (.o 137 (some 0) .k),db],λN x kf=>Ew N x.1 x.2.1 (λr0 z=>kf ⟨[⟨(.int .i64),.k,r0⟩],[⟨(.sl vo),(.o 137 (some 0) .k),z⟩]⟩)⟩:=lK Tryz.f55 2 (.v (.sl vo) (.o 137 (some 0) .k)::aN::dn 3 (aN::dn 28 ([]))) (λN n x K=>mE n (λz0 z1=>K (.x 0) (shape yG (z0,z1,()))) x.1 x.2.1 x.2.2.1) [(2,2,yG)] dC (nH:=some (0,false))
def CU:List Kd:=(.v (.sl tM) (.o 141 (some 0) .k)::aN::dn 39 ([]))
theorem W9:CE.ok ⟨56,[.Gq,.val],[.v (.sl tM) (.o 141 (some 0) .k),db],λN x kf=>I7 N x.1 x.2.1 (λr0 z=>kf ⟨[⟨(.int .i64),.k,r0⟩],[⟨(.sl tM),(.o 141 (some 0) .k),z⟩]⟩)⟩:=lK Tryz.f56 2 (.v (.sl tM) (.o 141 (some 0) .k)::aN::dn 3 (aN::dn 35 ([]))) (λN n x K=>oH n (λz0 z1=>K (.x 0) (shape CU (z0,z1,()))) x.1 x.2.1 x.2.2.1) [(2,2,CU)] dC (nH:=some (0,false))
noncomputable def EV:CE:=⟨9,[.Gq,.val],[.v pG awk,db],λN x kf=>sq N x.1 x.2.1 (λr0 z=>kf ⟨[⟨(.int .i64),.k,r0⟩],[⟨pG,awk,z⟩]⟩)⟩
theorem YY:EV.ok:=nb Tryz.f9 (bE W7 (bE TH (bE W8 (bE EU (bE Rn (bE W9 dC)))))) (nH:=some (2,true))
def DX:List Kd:=(dK::aN::dn 19 ([]))
def DY:List Kd:=(dn 4 (aN::dn 16 ([])))
theorem EW:CE.ok ⟨60,[.val,.val],[kg,db],λN x kf=>yh N x.1 x.2.1 (eH (.int .i64) .k kf)⟩:=lK Tryz.f60 2 (jh::aN::dn 3 (aN::dn 15 ([]))) (λN n x K=>p9 x.1 n (λz0=>K (.x 0) (shape DX (z0,()))) (λz0=>K .r (shape DY (z0,()))) x.2.1 x.2.2.1) [(2,2,DX),(2,1,DY)] dC
def CV:List Kd:=(dK::aN::dn 65 ([]))
def CW:List Kd:=(dn 4 (aN::dn 62 ([])))
theorem Xa:CE.ok ⟨57,[.val,.val],[tF,db],λN x kf=>I8 N x.1 x.2.1 (eH (.int .i64) .k kf)⟩:=lK Tryz.f57 2 (sC::aN::dn 3 (aN::dn 61 ([]))) (λN n x K=>oI N x.1 n (λz0=>K (.x 0) (shape CV (z0,()))) (λz0=>K .r (shape CW (z0,()))) x.2.1 x.2.2.1) [(2,2,CV),(2,1,CW)] (bE EW dC)
end Go.Pv.R
