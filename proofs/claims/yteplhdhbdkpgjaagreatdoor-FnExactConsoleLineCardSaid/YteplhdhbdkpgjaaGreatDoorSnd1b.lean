/- Each function of the program that the law reaches computes its plain function, part 1. -/
import Derived.Test.YteplhdhbdkpgjaaGreatDoorSnd1
import Derived.Test.YteplhdhbdkpgjaaGreatDoorProg
set_option linter.unusedVariables false
noncomputable section
namespace Go.Pv.R
open List Int IntKind
open Go.Proofs
set_option maxRecDepth 100000
def JE:List Kd:=(dK::jh::BY::dK::dK::lz::aN::iE::dn 48 ([]))
def JF:List Kd:=(dn 5 (lz::dn 50 ([])))
theorem RU:CE.ok ⟨272,[.val,.val],[zI,kg],λN x kf=>Sz N x.1 x.2.1 (eH (.sl (.int .i64)) wL kf)⟩:=eK2 Tryz.f272 3 (dK::jh::BY::dK::dK::lz::aN::dn 49 ([])) (λN n x K=>Fe N x.1 x.2.1 n (λz0=>K (.x 0) (shape JF (z0,()))) x.2.2.1 x.2.2.2.1) 7 (dK::jh::BY::dK::dK::lz::aN::iE::aN::dn 47 ([])) (λN n x K=>x8 N x.1 x.2.1 x.2.2.1 x.2.2.2.1 n (λz0=>K (.x 2) (shape JE (x.1,x.2.1,x.2.2.1,x.2.2.2.1,z0,()))) x.2.2.2.2.1 x.2.2.2.2.2.1) [(7,4,JE),(3,2,JF)] (bE uX (bE ky dC))
noncomputable def xN:CE:=⟨156,[.val,.val],[zI,db],λN x kf=>xb N x.1 x.2.1 (eH (.sl (.int .i64)) wL kf)⟩
def yo:List Kd:=(dn 5 (lz::dn 33 ([])))
theorem xO:xN.ok:=lK Tryz.f156 3 (dK::aN::BY::dK::dK::lz::aN::dn 32 ([])) (λN n x K=>sJ N x.1 x.2.1 n (λz0=>K (.x 0) (shape yo (z0,()))) x.2.2.1 x.2.2.2.1) [(3,2,yo)] (bE uX dC)
def F7:List Kd:=(dn 41 ([]))
def F8:List Kd:=(dn 6 (iE::dn 34 ([])))
theorem aap:CE.ok ⟨217,[.val,.val,.val],[zI,kg,db],λN x kf=>UG N x.1 x.2.1 x.2.2.1 (eH .bool .k kf)⟩:=lK Tryz.f217 6 (dn 7 (lz::lz::aN::dn 31 ([]))) (λN n x K=>Gw N x.1 x.2.1 n (K (.x 0) (shape F7 ())) (λz0=>K .r (shape F8 (z0,()))) x.2.2.1) [(6,2,F7),(6,1,F8)] (bE Ld (bE gN (bE RU (bE xO (bE ky dC)))))
def Ap:List Kd:=(dn 5 (lz::dn 22 ([])))
theorem JG:CE.ok ⟨152,[.val,.val],[zI,kg],λN x kf=>Gx N x.1 x.2.1 (eH (.sl (.int .i64)) wL kf)⟩:=lK Tryz.f152 3 (dK::jh::BY::dK::dK::lz::aN::dn 21 ([])) (λN n x K=>uq N x.1 x.2.1 n (λz0=>K (.x 0) (shape Ap (z0,()))) x.2.2.1 x.2.2.2.1) [(3,2,Ap)] (bE Ld (bE aap dC))
def Cn:List Kd:=(dn 26 ([]))
def Co:List Kd:=(dn 4 (iE::dn 21 ([])))
theorem KM:CE.ok ⟨153,[.val,.val],[kg,kg],λN x kf=>IL N x.1 x.2.1 (eH .bool .k kf)⟩:=lK Tryz.f153 4 (jh::jh::dn 3 (aN::dn 20 ([]))) (λN n x K=>Bt x.1 x.2.1 n (K (.x 0) (shape Cn ())) (λz0=>K .r (shape Co (z0,()))) x.2.2.1) [(4,2,Cn),(4,1,Co)] dC (dA:=[(6,(OT.seq [0,1,2,3,4,5,6,7,8] .done))])
def Dy:List Kd:=(dK::dK::lz::dn 11 ([]))
theorem YE:CE.ok ⟨85,[.val],[zI],λN x kf=>RB N x.1 (eH (.sl (.int .i64)) wL kf)⟩:=lK Tryz.f85 2 (dK::BY::dK::lz::dn 10 ([])) (λN n x K=>Eh N x.1 n (λz0=>K .r (shape Dy (z0,()))) x.2.1) [(2,1,Dy)] (bE JG (bE KM dC)) (G2:=[(0,[(2,[])]),(4,[(2,[])])])
def Hl:List Kd:=(dK::jh::BY::dn 22 ([]))
def Hm:List Kd:=(dn 4 (iE::dn 20 ([])))
theorem adA:CE.ok ⟨273,[.val,.val],[zI,kg],λN x kf=>Zj N x.1 x.2.1 (eH .bool .k kf)⟩:=lK Tryz.f273 3 (dK::jh::BY::dK::dK::lz::aN::dn 18 ([])) (λN n x K=>IM N x.1 x.2.1 x.2.2.1 n (K (.x 0) (shape Hl (x.1,x.2.1,()))) (λz0=>K .r (shape Hm (z0,()))) x.2.2.2.1) [(3,2,Hl),(3,1,Hm)] (bE RU (bE ky (bE Ld dC)))
theorem Tt:CE.ok ⟨218,[.val,.val],[zI,kg],λN x kf=>Nu N x.1 x.2.1 (eH .bool .k kf)⟩:=nb Tryz.f218 (bE adA (bE JG (bE KM dC)))
def Dz:List Kd:=(jh::jh::dn 39 ([]))
def DA:List Kd:=(dn 4 (iE::dn 36 ([])))
theorem YF:CE.ok ⟨219,[.val,.val],[kg,kg],λN x kf=>RC N x.1 x.2.1 (eH .bool .k kf)⟩:=lK Tryz.f219 2 (jh::jh::dn 3 (aN::dn 35 ([]))) (λN n x K=>Ei x.1 x.2.1 n (K (.x 0) (shape Dz (x.1,x.2.1,()))) (λz0=>K .r (shape DA (z0,()))) x.2.2.1) [(2,2,Dz),(2,1,DA)] dC (dA:=[(4,(OT.seq [0,1,2,3,4,5,6,7,8] .done)),(5,(OT.seq [0,1,2,3,4,5,6,7,8,9] .done))])
def yp:List Kd:=(dK::BY::dK::Ig::aN::lz::dn 61 ([]))
def xu:List Kd:=(dK::BY::dK::Ig::aN::jh::dK::aN::dn 59 ([]))
def yq:List Kd:=(dn 3 (Ig::dn 63 ([])))
theorem Ra:CE.ok ⟨154,[.val],[zI],λN x kf=>LV N x.1 (eH (.sl (.sl (.int .i64))) .k kf)⟩:=eK3 Tryz.f154 5 (dK::BY::dK::Ig::aN::dn 62 ([])) (λN n x K=>sL N x.1 n (λz0=>K (.x 0) (shape yq (z0,()))) x.2.1 x.2.2.1) 9 (dK::BY::dK::Ig::aN::lz::aN::dn 60 ([])) (λN n x K=>sK x.1 x.2.1 x.2.2.1 n (λz0=>K (.x 2) (shape yp (x.1,x.2.1,x.2.2.1,z0,()))) x.2.2.2.1 x.2.2.2.2.1) 15 (dK::BY::dK::Ig::aN::jh::dK::aN::dn 59 ([])) (λN n x K=>wx N x.1 x.2.1 x.2.2.1 x.2.2.2.1 n (λz0=>K (.x 4) (shape xu (x.1,x.2.1,x.2.2.1,x.2.2.2.1,z0,()))) x.2.2.2.2.1) [(9,4,yp),(15,6,xu),(5,2,yq)] (bE uX (bE Tt (bE YF dC))) (hn:=[(8,wL)]) (dA:=[(17,(OT.seq [1,2,3,5,8,9,10] (.any [0,4,6] (OT.seq [7,11,12] .done))))]) (G2:=[(0,[(2,[])]),(1,[(3,[])]),(3,[(2,[])]),(13,[(5,[])]),(17,[(3,[])]),(18,[(2,[])])])
def Ho:List Kd:=(dn 19 ([]))
def Hp:List Kd:=(dn 4 (iE::dn 14 ([])))
theorem adB:CE.ok ⟨155,[.val,.val],[kg,kg],λN x kf=>Zk N x.1 x.2.1 (eH .bool .k kf)⟩:=lK Tryz.f155 2 (jh::jh::dn 3 (aN::dn 13 ([]))) (λN n x K=>IN N x.1 x.2.1 n (K (.x 0) (shape Ho ())) (λz0=>K .r (shape Hp (z0,()))) x.2.2.1) [(2,2,Ho),(2,1,Hp)] (bE ky dC)
def Cp:List Kd:=(dn 3 (Mo::Ig::aN::iE::dn 43 ([])))
def Cq:List Kd:=(dn 3 (Mo::dn 46 ([])))
theorem Wv:CE.ok ⟨87,[.val],[zI],λN x kf=>IP N x.1 (eH (.sl (.sl (.int .i64))) akk kf)⟩:=eK2 Tryz.f87 4 (dn 3 (Mo::Ig::aN::dn 44 ([]))) (λN n x K=>vN N x.2.1 n (λz0=>K (.x 0) (shape Cq (z0,()))) x.1 x.2.2.1) 8 (dn 3 (Mo::Ig::aN::iE::aN::dn 42 ([]))) (λN n x K=>rz N x.1 x.2.1 x.2.2.1 n (λz0=>K (.x 2) (shape Cp (x.1,x.2.1,x.2.2.1,z0,()))) x.2.2.2.1 x.2.2.2.2.1) [(8,4,Cp),(4,2,Cq)] (bE Ra (bE adB dC)) (dA:=[(10,(OT.seq [0,1,2,3,4,5,6,7,8,9,10,11,12,13,14,15,16,17,18] .done))]) (G2:=[(0,[(2,[])]),(13,[(2,[])])])
def DB:List Kd:=(Ig::dK::dK::xt::aN::dn 38 ([]))
def DC:List Kd:=(Ig::dK::dK::xt::dn 39 ([]))
theorem YG:CE.ok ⟨86,[.val],[akn],λN x kf=>K1 N x.1 (eH .str .k kf)⟩:=eK2 Tryz.f86 3 (Ig::dK::dK::xt::aN::dn 38 ([])) (λN n x K=>Ej N x.1 n (λz0=>K (.x 0) (shape DC (x.1,z0,()))) x.2.1 x.2.2.1) 7 (Ig::dK::dK::xt::aN::aN::dn 37 ([])) (λN n x K=>xc N x.1 x.2.2.1 n (λz0=>K (.x 2) (shape DB (x.1,z0,x.2.2.1,()))) x.2.1 x.2.2.2.1) [(7,4,DB),(3,2,DC)] (bE oN dC)
theorem adC:CE.ok ⟨29,[.val,.val],[qv,Ng],λN x kf=>eC N x.1 x.2.1 (eH .str .k kf)⟩:=nb Tryz.f29 (bE Mp (bE Dx (bE Q8 (bE Q9 (bE yZ (bE Tr (bE aao (bE F4 (bE YE (bE Wv (bE YG dC)))))))))))
noncomputable def Cr:CE:=⟨220,[.val,.val,.val],[zI,kg,db],λN x kf=>OU N x.1 x.2.1 x.2.2.1 (eH (.sl (.int .i64)) wL kf)⟩
def Cs:List Kd:=(dn 7 (lz::dn 27 ([])))
theorem Ww:Cr.ok:=lK Tryz.f220 4 (dK::jh::dn 5 (lz::lz::aN::dn 25 ([]))) (λN n x K=>vO N x.1 x.2.2.1 n (λz0=>K (.x 0) (shape Cs (z0,()))) x.2.1 x.2.2.2.1) [(4,2,Cs)] (bE xO (bE ky dC))
def YH:List Kd:=dK::jh::dK::BY::dn 3 (lz::aN::dn 17 ([]))
def ZC:List Kd:=dn 26 ([])
def ZD:List Kd:=dn 6 (iE::dn 19 ([]))
def at7:Hint:={ tab,hn:=[],loops:=[(3,YH)],outs:=[(3,2,ZC),(3,1,ZD)],dA:=[(5,(OT.seq [0,1,2,3,4,5,6,7] .done))] }
def adD:List AK:=[zI,kg,db]
noncomputable def aua (N:Nat) (x:fK adD) (kf:jD->aa):aa:=S90 N x.1 x.2.1 x.2.2.1 (λr0=>kf ⟨[⟨.bool,.k,r0⟩],[]⟩)
noncomputable def aaO (N:Nat):=cX adD (aua N)
def Tu:List Kd:=dK::jh::dK::BY::dn 3 (lz::aN::dn 29 ([]))
def Wx:List Kd:=dn 38 ([])
def Wy:List Kd:=dn 6 (aN::dn 31 ([]))
def amW:Hint:={ tab,hn:=[],loops:=[(3,Tu)],outs:=[(3,2,Wx),(3,1,Wy)],dA:=[(5,(OT.seq [2,4,5,6,10,11,12] (.par [0,1,3,7,8,9,13] [[20],[3,19],[19],[26],[32],[20,21,22],[26,27],[20,21,22,26,27,28]] (OT.seq [14] .done))))] }
def ahs:List AK:=[zI,kg,db]
noncomputable def aub (N:Nat) (x:fK ahs) (kf:jD->aa):aa:=aB' N x.1 x.2.1 x.2.2.1 (λr0=>kf ⟨[⟨(.int .i64),.k,r0⟩],[]⟩)
noncomputable def akt (N:Nat):=cX ahs (aub N)
def aor (N:Nat):List Entry:=[⟨220,[.val,.val,.val],(cX Cr.l (Cr.F N))⟩,⟨90,[.val,.val,.val],(aaO N)⟩]
def YI:Code:=iF Tryz.f157
noncomputable def amX (N n:Nat) (key:Nat) (S:St) (K:Ks):aa:=bif Nat.beq key 3 then wj Tu S (λx=>agx (S90 N) x.1 x.2.1 x.2.2.1 n (K (.x 0) (shape Wx ())) (λz0=>K .r (shape Wy (z0,()))) x.2.2.2.1) else none
theorem awt (N key:Nat) (S:St) (K:Ks):amX N 0 key S K=none:=(agk (w6 λ_=>rfl) rfl)
def aku:Code:=(cY YI).getD 0 .skip
theorem awu:cY YI=[aku]:=by kernel_rfl
theorem apQ (N:Nat):RdT amW (aor N) (amX N) N 3 Tu aku:=λ_ _ _=>by kernel_rfl
theorem awv (N:Nat):FnT ahs (aub N) amW (aor N) (amX N N) Tryz.f157:=λ_ _=>by kernel_rfl
theorem auc {Γ:Gl} (zU:sA Γ) (N:Nat) (hA:Sound Γ Tryz.prog 90 (aaO N)):Sound Γ Tryz.prog 157 (akt N):=sdk amW Tryz.f157 YI (awt N) awu (awv N) (rc (apQ N) trivial) ⟨Ww zU N,⟨hA,trivial⟩⟩
def amY (N:Nat):List Entry:=[⟨156,[.val,.val],(cX xN.l (xN.F N))⟩,⟨157,[.val,.val,.val],(akt N)⟩]
def adE:Code:=iF Tryz.f90
noncomputable def aos (N n:Nat) (key:Nat) (S:St) (K:Ks):aa:=bif Nat.beq key 3 then wj YH S (λx=>alK (aB' N) x.1 x.2.1 x.2.2.1 n (K (.x 0) (shape ZC ())) (λz0=>K .r (shape ZD (z0,()))) x.2.2.2.1) else none
theorem aAI (N key:Nat) (S:St) (K:Ks):aos N 0 key S K=none:=(agk (w6 λ_=>rfl) rfl)
def aot:Code:=(cY adE).getD 0 .skip
theorem aAJ:cY adE=[aot]:=by kernel_rfl
theorem aud (N:Nat):RdT at7 (amY N) (aos N) N 3 YH aot:=λ_ _ _=>by kernel_rfl
theorem aAK (N:Nat) (x:fK adD) (kf:jD->aa):aua (N+1) x kf=rP at7 (vi.of (amY N)) (aos N N) Tryz.f90 (iS adD x) kf:=by kernel_rfl
theorem aue {Γ:Gl} (zU:sA Γ):∀ N:Nat,Sound Γ Tryz.prog 90 (aaO N)
 |0=>wk λal kf=>by unfold aaO cX;split<;>rfl
 |N+1=>qz (hh:=at7) mixed vz (es:=amY N) ⟨xO zU N,⟨auc zU N (aue zU N),trivial⟩⟩ (fn:=Tryz.f90) (body:=adE) (by kernel_rfl) (by kernel_rfl) (by kernel_rfl) (by kernel_rfl) (by kernel_rfl) (Lf:=aos N) (aAI N) aAJ (rc (aud N) trivial) (N:=N) (by kernel_rfl) (aAK N) (.inl (by kernel_rfl))
theorem aAL:CE.ok ⟨90,[.val,.val,.val],adD,aua⟩:=λh N=>aue h N
theorem adF:CE.ok ⟨30,[.val,.val],[zI,db],λN x kf=>tR N x.1 x.2.1 (eH .bool .k kf)⟩:=nb Tryz.f30 (bE uX (bE gN (bE aAL dC)))
noncomputable def xP:CE:=⟨5,[.val,.val],[qv,Ng],λN x kf=>lq N x.1 x.2.1 (RS pG zH .str .k kf)⟩
theorem Rb:xP.ok:=nb Tryz.f5 (bE Ys (bE jf (bE PE (bE KJ (bE oN (bE Yt (bE adv (bE aai (bE Yv (bE Tq (bE aam (bE aan (bE adC (bE F4 (bE adF dC))))))))))))))) (dA:=[(21,(OT.seq [0,2,3,4,5,1,6,7,8] .done)),(23,(OT.seq [0,3,4,5,1,2,6,7,8,9] .done))])
end Go.Pv.R
