/- Each function of the program that the law reaches computes its plain function, part 5. -/
import Derived.Test.YteplhdhbdkpgjaaGreatDoorSnd4
import Derived.Test.YteplhdhbdkpgjaaGreatDoorProg
set_option linter.unusedVariables false
noncomputable section
namespace Go.Pv.R
open List Int IntKind
open Go.Proofs
set_option maxRecDepth 100000
def AA:List Kd:=(dK::aN::dn 38 ([]))
def AB:List Kd:=(dn 4 (aN::dn 35 ([])))
theorem TJ:CE.ok ⟨58,[.val,.val],[Nf,db],λN x kf=>GG N x.1 x.2.1 (eH (.int .i64) .k kf)⟩:=lK Tryz.f58 2 (GS::aN::dn 3 (aN::dn 34 ([]))) (λN n x K=>nB N x.1 n (λz0=>K (.x 0) (shape AA (z0,()))) (λz0=>K .r (shape AB (z0,()))) x.2.1 x.2.2.1) [(2,2,AA),(2,1,AB)] (bE EW dC)
def CX:List Kd:=(dK::aN::dn 29 ([]))
def CY:List Kd:=(dn 4 (aN::dn 26 ([])))
theorem Xb:CE.ok ⟨59,[.val,.val],[Q6,db],λN x kf=>I9 N x.1 x.2.1 (eH (.int .i64) .k kf)⟩:=lK Tryz.f59 2 (KF::aN::dn 3 (aN::dn 25 ([]))) (λN n x K=>oJ x.1 n (λz0=>K (.x 0) (shape CX (z0,()))) (λz0=>K .r (shape CY (z0,()))) x.2.1 x.2.2.1) [(2,2,CX),(2,1,CY)] dC
def yH:List Kd:=(dK::aN::dn 38 ([]))
def yI:List Kd:=(dn 4 (aN::dn 35 ([])))
theorem Ro:CE.ok ⟨61,[.val,.val],[V',db],λN x kf=>Ey N x.1 x.2.1 (eH (.int .i64) .k kf)⟩:=lK Tryz.f61 2 (KG::aN::dn 3 (aN::dn 34 ([]))) (λN n x K=>mF x.1 n (λz0=>K (.x 0) (shape yH (z0,()))) (λz0=>K .r (shape yI (z0,()))) x.2.1 x.2.2.1) [(2,2,yH),(2,1,yI)] dC
def CZ:List Kd:=(dK::aN::dn 47 ([]))
def C0:List Kd:=(dn 4 (aN::dn 44 ([])))
theorem Xc:CE.ok ⟨62,[.val,.val],[Z',db],λN x kf=>I' N x.1 x.2.1 (eH (.int .i64) .k kf)⟩:=lK Tryz.f62 2 (ZB::aN::dn 3 (aN::dn 43 ([]))) (λN n x K=>oK x.1 n (λz0=>K (.x 0) (shape CZ (z0,()))) (λz0=>K .r (shape C0 (z0,()))) x.2.1 x.2.2.1) [(2,2,CZ),(2,1,C0)] dC
noncomputable def EX:CE:=⟨10,[.val,.val],[qv,db],λN x kf=>vf N x.1 x.2.1 (eH (.int .i64) .k kf)⟩
theorem YZ:EX.ok:=nb Tryz.f10 (bE Xa (bE TJ (bE Xb (bE EW (bE Ro (bE Xc dC))))))
def aAT:Hint:={ tab,hn:=[],loops:=[],outs:=[],dA:=[(12,(OT.seq [0,1,2,3,4] .done))] }
def afQ:List AK:=[qv,Ng]
noncomputable def aDu (N:Nat) (x:fK afQ) (kf:jD->aa):aa:=L3 N x.1 x.2.1 (λr0=>kf ⟨[⟨.bool,.k,r0⟩],[]⟩)
noncomputable def ahK (N:Nat):=cX afQ (aDu N)
def aDv (N:Nat):List Entry:=[⟨4,[.val,.val],(cX Jw.l (Jw.F N))⟩,⟨6,[.val],(cX Jy.l (Jy.F N))⟩,⟨5,[.val,.val],(cX xP.l (xP.F N))⟩,⟨7,[.val,.val],(cX xR.l (xR.F N))⟩,⟨8,[.val,.val],(cX JT.l (JT.F N))⟩,⟨9,[.Gq,.val],(cX EV.l (EV.F N))⟩,⟨10,[.val,.val],(cX EX.l (EX.F N))⟩]
def ahL:Code:=iF Tryz.f3
theorem aDw:cY ahL=[]:=by kernel_rfl
theorem aAU (g0:agS) (g1:asR) (g2:agT) (g3:agT) (g4:asS) (g5:asT) (g6:agS) (N:Nat) (x:fK afQ) (kf:jD->aa):az7 g0 g1 g2 g3 g4 g5 g6 N x.1 x.2.1 (λr0=>kf ⟨[⟨.bool,.k,r0⟩],[]⟩)=rP aAT (vi.of [⟨4,[.val,.val],(cX [.v pG .k,.v (.int .i64) .k] (λx kf=>g0 N x.1 x.2.1 (λr0=>kf ⟨[⟨(.int .i64),.k,r0⟩],[]⟩)))⟩,⟨6,[.val],(cX [.v pG .k] (λx kf=>g1 N x.1 (λr0=>kf ⟨[⟨pG,zH,r0⟩],[]⟩)))⟩,⟨5,[.val,.val],(cX [.v pG .k,.v .str .k] (λx kf=>g2 N x.1 x.2.1 (λr0 r1=>kf ⟨[⟨pG,zH,r0⟩,⟨.str,.k,r1⟩],[]⟩)))⟩,⟨7,[.val,.val],(cX [.v pG .k,.v .str .k] (λx kf=>g3 N x.1 x.2.1 (λr0 r1=>kf ⟨[⟨pG,zH,r0⟩,⟨.str,.k,r1⟩],[]⟩)))⟩,⟨8,[.val,.val],(cX [.v pG .k,.v pG .k] (λx kf=>g4 N x.1 x.2.1 (λr0=>kf ⟨[⟨.bool,.k,r0⟩],[]⟩)))⟩,⟨9,[.Gq,.val],(cX [.v pG awk,.v (.int .i64) .k] (λx kf=>g5 N x.1 x.2.1 (λr0 z=>kf ⟨[⟨(.int .i64),.k,r0⟩],[⟨pG,awk,z⟩]⟩)))⟩,⟨10,[.val,.val],(cX [.v pG .k,.v (.int .i64) .k] (λx kf=>g6 N x.1 x.2.1 (λr0=>kf ⟨[⟨(.int .i64),.k,r0⟩],[]⟩)))⟩]) (λkey S K=>none) Tryz.f3 (iS afQ x) kf:=by kernel_rfl
theorem aDx (N:Nat) (x:fK afQ) (kf:jD->aa):aDu N x kf=rP aAT (vi.of (aDv N)) (noL N N) Tryz.f3 (iS afQ x) kf:=aAU Fy z' lq lx wE sq vf N x kf
theorem aDy {Γ:Gl} (zU:sA Γ) (N:Nat):Sound Γ Tryz.prog 3 (ahK N):=sdk aAT Tryz.f3 ahL (ako N) aDw (aDx N) trivial ⟨ado zU N,⟨ads zU N,⟨Rb zU N,⟨Rm zU N,⟨adX zU N,⟨YY zU N,⟨YZ zU N,trivial⟩⟩⟩⟩⟩⟩⟩
end Go.Pv.R
