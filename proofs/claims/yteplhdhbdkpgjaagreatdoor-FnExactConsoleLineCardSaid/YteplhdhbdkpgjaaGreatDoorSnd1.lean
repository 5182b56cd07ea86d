/- Each function of the program that the law reaches computes its plain function, part 1. -/
import Derived.Test.YteplhdhbdkpgjaaGreatDoorSnd0
import Derived.Test.YteplhdhbdkpgjaaGreatDoorProg
set_option linter.unusedVariables false
noncomputable section
namespace Go.Pv.R
open List Int IntKind
open Go.Proofs
set_option maxRecDepth 100000
def Tn:List Kd:=sC::GS::KF::jh::dn 6 (aN::dn 59 ([]))
def Wl:List Kd:=dn 70 ([])
def Wm:List Kd:=dn 8 (lz::iE::dn 60 ([]))
def amU:Hint:={ tab,hn:=[],loops:=[(4,Tn)],outs:=[(4,2,Wl),(4,1,Wm)],dA:=[(6,(OT.seq [0,1,2,3,4,5,6,7,8,9,10,11,12,13,14,15,16,17,18] .done)),(7,(OT.seq [5,0,1,2,3,7,8,9,10] (.par [4,6,11,12] [[47],[53,54],[54,55]] (OT.seq [13,14,15,16,17,18,19] .done))))] }
def Wn:List AK:=[tF,Nf,Q6,kg]
noncomputable def amV (N:Nat) (x:fK Wn) (kf:jD->aa):aa:=alG N x.1 x.2.1 x.2.2.1 x.2.2.2.1 (λr0 r1=>kf ⟨[⟨(.sl (.int .i64)),wL,r0⟩,⟨.bool,.k,r1⟩],[]⟩)
noncomputable def adx (N:Nat):=cX Wn (amV N)
def ahq (N:Nat):List Entry:=[⟨214,[.val,.val],(cX Lb.l (Lb.F N))⟩,⟨215,[.val,.val,.val],(cX EM.l (EM.F N))⟩,⟨204,[.val,.val,.val,.val],(adx N)⟩]
def YA:Code:=iF Tryz.f204
noncomputable def ahr (N n:Nat) (key:Nat) (S:St) (K:Ks):aa:=bif Nat.beq key 4 then wj Tn S (λx=>Kk N (alG N) x.1 x.2.1 x.2.2.1 x.2.2.2.1 n (K (.x 0) (shape Wl ())) (λz0 z1=>K .r (shape Wm (z0,z1,()))) x.2.2.2.2.1) else none
theorem awp (N key:Nat) (S:St) (K:Ks):ahr N 0 key S K=none:=(agk (w6 λ_=>rfl) rfl)
def aks:Code:=(cY YA).getD 0 .skip
theorem awq:cY YA=[aks]:=by kernel_rfl
theorem apP (N:Nat):RdT amU (ahq N) (ahr N) N 4 Tn aks:=λ_ _ _=>by kernel_rfl
theorem awr (N:Nat) (x:fK Wn) (kf:jD->aa):amV (N+1) x kf=rP amU (vi.of (ahq N)) (ahr N N) Tryz.f204 (iS Wn x) kf:=by kernel_rfl
theorem aoq {Γ:Gl} (zU:sA Γ):∀ N:Nat,Sound Γ Tryz.prog 204 (adx N)
 |0=>wk λal kf=>by unfold adx cX;split<;>rfl
 |N+1=>qz (hh:=amU) mixed vz (es:=ahq N) ⟨ky zU N,⟨EN zU N,⟨aoq zU N,trivial⟩⟩⟩ (fn:=Tryz.f204) (body:=YA) (by kernel_rfl) (by kernel_rfl) (by kernel_rfl) (by kernel_rfl) (by kernel_rfl) (Lf:=ahr N) (awp N) awq (rc (apP N) trivial) (N:=N) (by kernel_rfl) (awr N) (.inl (by kernel_rfl))
theorem aws:CE.ok ⟨204,[.val,.val,.val,.val],Wn,amV⟩:=λh N=>aoq h N
theorem To:CE.ok ⟨137,[.val,.val,.val],[tF,Nf,Q6],λN x kf=>yM N x.1 x.2.1 x.2.2.1 (RS (.sl (.int .i64)) wL .bool .k kf)⟩:=nb Tryz.f137 (bE B' (bE hY (bE aws dC)))
theorem YB:CE.ok ⟨74,[.val],[qv],λN x kf=>Fa N x.1 (RS pG zH .bool .k kf)⟩:=nb Tryz.f74 (bE jf (bE Wk (bE To (bE vV (bE qW dC))))) (dA:=[(7,(OT.seq [0,1,2,3,4,5,6,7,8,9,10,11,12,13,14,15,16,17,18,19,20,21] .done))])
theorem Tp:CE.ok ⟨75,[.val,.val,.val,.val],[qv,db,db,db],λN x kf=>yN N x.1 x.2.1 x.2.2.1 x.2.2.2.1 (RS pG zH .bool .k kf)⟩:=nb Tryz.f75 (bE jf (bE Cd (bE gN (bE EO (bE qW dC))))) (dA:=[(3,(OT.seq [0,1,2,3,4,5,6,7,8,9,10,11,12,13,14,15,16,17,18,19,20] .done)),(5,(OT.seq [0,1,2,3,4,5,6,7,8,9,10,11,12] .done)),(6,(OT.seq [0,1,2,3,4,5,6,8,9,10,11,12,7,13,14,15,16,17] .done))])
def F0:List Kd:=(dn 3 (lz::dn 23 ([])))
theorem yZ:CE.ok ⟨82,[.val],[qv],λN x kf=>rv N x.1 (eH (.sl (.int .i64)) wL kf)⟩:=lK Tryz.f82 4 (dK::xM::dK::lz::.v (.ptr vo) (.o 137 none .k)::aN::dn 21 ([])) (λN n x K=>mM x.1 x.2.2.1 n (λz0=>K (.x 0) (shape F0 (z0,()))) x.2.1 x.2.2.2.1) [(4,2,F0)] dC (dA:=[(6,(OT.seq [0,1,2,3,4,5,6] .done))])
def An:List Kd:=(KG::dn 36 ([]))
def Ao:List Kd:=(dK::dK::iE::dn 34 ([]))
theorem zK:CE.ok ⟨209,[.val],[V'],λN x kf=>o6 N x.1 (eH .bool .k kf)⟩:=lK Tryz.f209 2 (KG::dK::dK::aN::dn 33 ([])) (λN n x K=>iU N x.1 n (K (.x 0) (shape An (x.1,()))) (λz0=>K .r (shape Ao (z0,()))) x.2.1) [(2,2,An),(2,1,Ao)] (bE EO dC) (dA:=[(4,(OT.seq [0,1,2,3,4,5,6,7,8,9,10,11,12,13,14,15,16,17,18,19,20,21,22,23] .done))])
theorem RT:CE.ok ⟨212,[.val],[adk],λN x kf=>Ef N x.1 (eH (.int .i64) .k kf)⟩:=nb Tryz.f212 dC
def Dw:List Kd:=(dn 5 (aN::dn 21 ([])))
theorem YC:CE.ok ⟨210,[.val,.val],[V',db],λN x kf=>x7 N x.1 x.2.1 (eH (.int .i64) .k kf)⟩:=lK Tryz.f210 3 (KG::aN::dn 3 (aN::aN::dn 20 ([]))) (λN n x K=>lp N x.1 x.2.1 n (λz0=>K (.x 0) (shape Dw (z0,()))) x.2.2.1 x.2.2.2.1) [(3,2,Dw)] (bE zK (bE RT dC))
def Hj:List Kd:=(dn 5 (aN::dn 31 ([])))
theorem ady:CE.ok ⟨211,[.val,.val],[V',db],λN x kf=>OP N x.1 x.2.1 (eH (.int .i64) .k kf)⟩:=lK Tryz.f211 3 (KG::aN::dn 3 (aN::aN::dn 30 ([]))) (λN n x K=>wu N x.1 x.2.1 n (λz0=>K (.x 0) (shape Hj (z0,()))) x.2.2.1 x.2.2.2.1) [(3,2,Hj)] (bE zK dC)
theorem YD:CE.ok ⟨141,[.val],[V'],λN x kf=>vd N x.1 (eH (.int .i64) .k kf)⟩:=nb Tryz.f141 (bE zK (bE YC (bE ady (bE RT dC))))
theorem Wo:CE.ok ⟨140,[.val,.val,.val,.val,.val,.val],[tF,db,db,db,db,db],λN x kf=>tc N x.1 x.2.1 x.2.2.1 x.2.2.2.1 x.2.2.2.2.1 x.2.2.2.2.2.1 (RS (.sl lG) adi .bool .k kf)⟩:=nb Tryz.f140 (bE yY (bE nD (bE hY (bE gN dC))))
def Hk:List Kd:=(jh::aN::dn 3 (aN::dn 41 ([])))
theorem adz:CE.ok ⟨143,[.val,.val],[kg,db],λN x kf=>iV N x.1 x.2.1 (eH (.sl (.int .i64)) wL kf)⟩:=lK Tryz.f143 2 (jh::aN::dn 3 (aN::dn 41 ([]))) (λN n x K=>qn x.1 x.2.1 n (λz0=>K (.x 0) (shape Hk (x.1,x.2.1,z0,()))) x.2.2.1) [(2,2,Hk)] dC (dA:=[(6,(OT.seq [1,2,3,5,8,9,10] (.any [0,4,6] (OT.seq [7,11,12] .done))))])
def Cg:List Kd:=(dK::xM::AH::dK::AH::iE::dn 114 ([]))
theorem Wp:CE.ok ⟨76,[.val],[qv],λN x kf=>Bm N x.1 (RS pG zH .bool .k kf)⟩:=lK Tryz.f76 6 (dK::xM::AH::dK::AH::iE::aN::dn 113 ([])) (λN n x K=>jS N x.1 x.2.1 n (λz0 z1=>K (.x 0) (shape Cg (x.1,x.2.1,z0,z1,()))) x.2.2.1 x.2.2.2.1 x.2.2.2.2.1) [(6,2,Cg)] (bE jf (bE Cd (bE vV (bE yZ (bE YD (bE Wo (bE GV (bE adz (bE qW dC))))))))) (dA:=[(9,(OT.seq [0,1,2,3,4,5,6,7,8,9,10,11,12,13,14,17,18,19,20,15,16,21,22,23,24,25,26] .done)),(12,(OT.seq [0,1,2,3,4,5,6,7,8] .done)),(13,(OT.seq [0,1,2,3,4,5,6,7,8,9,10,11,12,13,14,16,17,18,19,20,21,15,22,23,24,25] .done))])
theorem Wq:CE.ok ⟨77,[.val,.val],[qv,db],λN x kf=>Bn N x.1 x.2.1 (RS pG zH .bool .k kf)⟩:=nb Tryz.f77 (bE jf (bE nD (bE vV (bE yY (bE qW dC))))) (dA:=[(5,(OT.seq [0,1,2,3,5,6,7,8,9,4,10,11,12,13] .done))])
theorem Tq:CE.ok ⟨26,[.val,.val],[qv,.v tM .k],λN x kf=>uP N x.1 x.2.1 (RS pG zH .bool .k kf)⟩:=nb Tryz.f26 (bE Yy (bE Wg (bE YB (bE Tp (bE Wp (bE Wq (bE jf dC)))))))
theorem aam:CE.ok ⟨27,[.val,.take,.val],[qv,.v pG zH,afF],λN x kf=>HV N x.1 x.2.1 x.2.2.1 (RS pG zH .str .k kf)⟩:=nb Tryz.f27 (bE jf dC)
theorem aan:CE.ok ⟨28,[],[],λN x kf=>UC N (eH pG zH kf)⟩:=nb Tryz.f28 dC
def F3:List Kd:=(adl::dK::dK::xt::dn 21 ([]))
theorem GX:CE.ok ⟨145,[.val],[akm],λN x kf=>ry N x.1 (eH .str .k kf)⟩:=lK Tryz.f145 3 (adl::dK::dK::xt::aN::dn 20 ([])) (λN n x K=>mO x.1 n (λz0=>K (.x 0) (shape F3 (x.1,z0,()))) x.2.1 x.2.2.1) [(3,2,F3)] dC
def wM:List Kd:=(dn 3 (xr::dn 18 ([])))
theorem Dx:CE.ok ⟨78,[.val],[kg],λN x kf=>gK N x.1 (eH .str .k kf)⟩:=lK Tryz.f78 3 (jh::dK::dK::xr::aN::dn 17 ([])) (λN n x K=>iu N x.1 n (λz0=>K (.x 0) (shape wM (z0,()))) x.2.1 x.2.2.1) [(3,2,wM)] (bE oN (bE GX dC))
def yk:List Kd:=(dn 3 (xr::dn 44 ([])))
theorem Q8:CE.ok ⟨80,[.val],[tF],λN x kf=>tq N x.1 (eH .str .k kf)⟩:=lK Tryz.f80 3 (sC::dK::dK::xr::aN::dn 43 ([])) (λN n x K=>jF N x.1 n (λz0=>K (.x 0) (shape yk (z0,()))) x.2.1 x.2.2.1) [(3,2,yk)] (bE oN (bE GX dC)) (dA:=[(5,(OT.seq [0,1,2,3,4,5,8,9,10,11,12,16,17,18,19,20,21,25,26,27,28,29,6,7,13,14,15,22,23,24,30,31,32,33,34] .done))])
def yl:List Kd:=(dn 5 (xr::dn 40 ([])))
theorem Q9:CE.ok ⟨81,[.val,.val],[Q6,kg],λN x kf=>tr N x.1 x.2.1 (eH .str .k kf)⟩:=lK Tryz.f81 3 (KF::jh::dn 3 (xr::aN::dn 39 ([]))) (λN n x K=>ic N x.1 x.2.1 n (λz0=>K (.x 0) (shape yl (z0,()))) x.2.2.1 x.2.2.2.1) [(3,2,yl)] (bE oN (bE GX dC)) (dA:=[(8,(OT.seq [0,1,2,3,4,5,8,9,10,11,12,16,6,7,13,14,15,17,18,19,20] .done))])
theorem Tr:CE.ok ⟨83,[.val],[qv],λN x kf=>yQ N x.1 (eH .str .k kf)⟩:=nb Tryz.f83 (bE yZ (bE Dx dC)) (dA:=[(1,(OT.seq [0,1,2,3,4,5,6,7,8,9,12,13,14,15,16,10,11,17,18,19] .done))])
def Ch:List Kd:=(dK::xM::dK::aN::dn 29 ([]))
def Ci:List Kd:=(dK::dK::iE::dn 30 ([]))
def Cj:List Kd:=(dn 33 ([]))
def Ck:List Kd:=(dK::dK::iE::dn 30 ([]))
theorem Ws:CE.ok ⟨148,[.val],[qv],λN x kf=>Bo N x.1 (eH .bool .k kf)⟩:=eK2 Tryz.f148 2 (dK::xM::dK::aN::dn 29 ([])) (λN n x K=>l7 N x.1 n (K (.x 0) (shape Cj ())) (λz0=>K .r (shape Ck (z0,()))) x.2.1) 6 (dK::xM::dK::aN::jh::aN::dn 27 ([])) (λN n x K=>jT N x.1 x.2.1 x.2.2.1 n (K (.x 2) (shape Ch (x.1,x.2.1,()))) (λz0=>K .r (shape Ci (z0,()))) x.2.2.2.1) [(6,4,Ch),(6,1,Ci),(2,2,Cj),(2,1,Ck)] (bE ky dC) (dA:=[(8,(OT.seq [0,1,2,3,4,5,6,7] .done))])
def ym:List Kd:=(dn 43 ([]))
def yn:List Kd:=(dK::dK::iE::dn 40 ([]))
theorem Q':CE.ok ⟨149,[.val],[qv],λN x kf=>xa N x.1 (eH .bool .k kf)⟩:=lK Tryz.f149 2 (dK::xM::dK::aN::dn 39 ([])) (λN n x K=>jG N x.1 n (K (.x 0) (shape ym ())) (λz0=>K .r (shape yn (z0,()))) x.2.1) [(2,2,ym),(2,1,yn)] (bE GV (bE EN dC)) (dA:=[(6,(OT.seq [0,1,2,3,4,5,6,7,8] .done)),(7,(OT.seq [0,1,2,3,4,5,6,7,8,9,10,11,12,13,14,15,16,17] .done))])
def Cl:List Kd:=(dK::xM::dK::aN::dn 39 ([]))
theorem Wt:CE.ok ⟨150,[.val],[qv],λN x kf=>Bp N x.1 (eH .bool .k kf)⟩:=lK Tryz.f150 3 (dK::xM::dK::aN::aN::dn 38 ([])) (λN n x K=>jU x.1 n (λz0=>K (.x 0) (shape Cl (x.1,z0,()))) x.2.1 x.2.2.1) [(3,2,Cl)] (bE zJ (bE gN (bE yZ dC))) (dA:=[(7,(OT.seq [0,1,2,3,4,5,6,7,8,9,10,11,12,13,14,15,16,17,18,19,20,21,22] .done))])
def Cm:List Kd:=(dK::xM::dK::aN::aN::aN::dn 53 ([]))
theorem Wu:CE.ok ⟨151,[.val],[qv],λN x kf=>Bq N x.1 (eH .bool .k kf)⟩:=lK Tryz.f151 5 (dK::xM::dK::aN::aN::aN::aN::dn 52 ([])) (λN n x K=>l8 N x.1 n (λz0 z1 z2=>K (.x 0) (shape Cm (x.1,z0,z1,z2,()))) x.2.1 x.2.2.1 x.2.2.2.1 x.2.2.2.2.1) [(5,2,Cm)] (bE hY dC)
theorem aao:CE.ok ⟨84,[.val],[qv],λN x kf=>Br N x.1 (eH .str .k kf)⟩:=nb Tryz.f84 (bE Ws (bE Q' (bE Wt (bE Wu (bE Cd dC)))))
theorem F4:CE.ok ⟨31,[],[],λN x kf=>oq N (eH PW .k kf)⟩:=nb Tryz.f31 dC (G2:=[(1,[(0,[.deref])])])
def F5:List Kd:=(dK::BY::dn 75 ([]))
def F6:List Kd:=(dK::dK::iE::dn 74 ([]))
theorem uX:CE.ok ⟨88,[.val],[zI],λN x kf=>uo N x.1 (eH .bool .k kf)⟩:=lK Tryz.f88 2 (dK::BY::dK::aN::dn 73 ([])) (λN n x K=>uQ N x.1 n (K (.x 0) (shape F5 (x.1,()))) (λz0=>K .r (shape F6 (z0,()))) x.2.1) [(2,2,F5),(2,1,F6)] (bE gN dC) (dA:=[(5,(OT.seq [0,1,2,3,4,5,6,7,8,9,10,11,12,13,14,15,16,17,18,19,20,21,22] .done)),(9,(OT.seq [0,1,2,3,4,5,6,7,8,9,10,11,12,13,14,15,16,17,18,19,20,21,22,23,24] .done))])
def JC:List Kd:=(dn 40 ([]))
def JD:List Kd:=(dn 4 (iE::dn 35 ([])))
theorem Ld:CE.ok ⟨216,[.val,.val],[zI,kg],λN x kf=>MU N x.1 x.2.1 (eH .bool .k kf)⟩:=lK Tryz.f216 4 (dK::jh::BY::dK::dK::aN::dn 34 ([])) (λN n x K=>Fb N x.1 x.2.1 n (K (.x 0) (shape JC ())) (λz0=>K .r (shape JD (z0,()))) x.2.2.1) [(4,2,JC),(4,1,JD)] (bE uX (bE gN dC)) (dA:=[(6,(OT.seq [0,1,2,3,4,5,6,7,8,9,10,11,12,13,14,15,16,17,18,19,20,21,22,23,24] .done))])
end Go.Pv.R
