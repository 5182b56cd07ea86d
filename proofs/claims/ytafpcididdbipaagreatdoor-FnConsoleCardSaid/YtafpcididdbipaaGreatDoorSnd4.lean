/- Each function of the program that the law reaches computes its plain function, part 4. -/
import Derived.Test.YtafpcididdbipaaGreatDoorSnd3
import Derived.Test.YtafpcididdbipaaGreatDoorProg
set_option linter.unusedVariables false
noncomputable section
namespace Go.Pv.R
open List Int IntKind
open Go.Proofs
set_option maxRecDepth 100000
noncomputable def CC:CE:=⟨127,[.val],[.v fg .k],λN x kf=>uK N x.1 (ek .bool .k kf)⟩
def vO:List Kd:=(dn 8 (.v (.sl gm) .k::.v (.int .i64) .k::.v (.int .i64) .k::dn 17 ([])))
def vP:List Kd:=(dK::dK::.v .bool .k::dn 25 ([]))
def vQ:List Kd:=(dn 28 ([]))
def vR:List Kd:=(dK::dK::.v .bool .k::dn 25 ([]))
theorem N6:CC.ok:=eK2 Tryz.f127 [[xS]] 2 (dn 8 (.v (.sl gm) .k::.v (.int .i64) .k::.v (.int .i64) .k::dn 17 ([]))) (λN n x K=>gM N x.1 x.2.1 n (K (.x 0) (shape vQ ())) (λz0=>K .r (shape vR (z0,()))) x.2.2.1) 5 (dn 4 (.v (.ptr gm) (.o 60 none .k)::dn 3 (.v (.sl gm) .k::.v (.int .i64) .k::.v (.int .i64) .k::dn 4 (.v (.sl (.int .i64)) .k::.v (.int .i64) .k::.v (.int .i64) .k::dn 10 ([]))))) (λN n x K=>eV N x.1 x.2.1 x.2.2.1 x.2.2.2.1 x.2.2.2.2.1 x.2.2.2.2.2.1 n (K (.x 2) (shape vO (x.2.1,x.2.2.1,x.2.2.2.1,()))) (λz0=>K .r (shape vP (z0,()))) x.2.2.2.2.2.2.1) [(5,4,vO),(5,1,vP),(2,2,vQ),(2,1,vR)] ⟨CZ,trivial⟩
noncomputable def zL:CE:=⟨128,[.val],[.v fg .k],λN x kf=>qE N x.1 (ek .bool .k kf)⟩
def rU:List Kd:=(dn 42 ([]))
def rV:List Kd:=(dK::dK::.v .bool .k::dn 39 ([]))
theorem JA:zL.ok:=oX Tryz.f128 [[sr],[nc]] 2 (dK::.v (.ptr fg) (.o 31 none .k)::dn 5 (.v (.sl ib) .k::.v (.int .i64) .k::.v (.int .i64) .k::dn 32 ([]))) (λN n x K=>eO N x.1 x.2.1 x.2.2.1 n (K (.x 0) (shape rU ())) (λz0=>K .r (shape rV (z0,()))) x.2.2.2.1) [(2,2,rU),(2,1,rV)] ⟨y5,xx,trivial⟩ (bw:=[(6,(OT.seq [0,1,2,3,4,5,6,7,8] .done)),(7,(OT.seq [0,1,2,3,4,5,6,7,8,9,10,11,12,13] .done))])
noncomputable def CD:CE:=⟨129,[.val],[.v fg .k],λN x kf=>uL N x.1 (ek .bool .k kf)⟩
def vS:List Kd:=(dK::.v (.ptr fg) (.o 31 none .k)::dK::.v (.int .i64) .k::dn 37 ([]))
theorem N7:CD.ok:=oX Tryz.f129 [[oA],[nX],[cA]] 3 (dK::.v (.ptr fg) (.o 31 none .k)::dK::.v (.int .i64) .k::dn 13 (.v (.sl QS) .k::.v (.int .i64) .k::.v (.int .i64) .k::dn 21 ([]))) (λN n x K=>eW x.1 x.2.2.1 x.2.2.2.1 n (λz0=>K (.x 0) (shape vS (x.1,z0,()))) x.2.1 x.2.2.2.2.1) [(3,2,vS)] ⟨su,sV,cY,trivial⟩ (bw:=[(1,(OT.seq [0,1,2,3,4,5,6,7,8,9,10] .done))])
noncomputable def CF:CE:=⟨130,[.val],[.v fg .k],λN x kf=>uM N x.1 (ek .bool .k kf)⟩
def vT:List Kd:=(dK::.v (.ptr fg) (.o 31 none .k)::dK::.v (.int .i64) .k::.v (.int .i64) .k::.v (.int .i64) .k::dn 38 ([]))
theorem N8:CF.ok:=oX Tryz.f130 [[da]] 3 (dK::.v (.ptr fg) (.o 31 none .k)::dK::.v (.int .i64) .k::.v (.int .i64) .k::.v (.int .i64) .k::dn 3 (.v (.sl gm) .k::.v (.int .i64) .k::.v (.int .i64) .k::dn 32 ([]))) (λN n x K=>gN x.1 x.2.2.2.2.1 x.2.2.2.2.2.1 n (λz0 z1 z2=>K (.x 0) (shape vT (x.1,z0,z1,z2,()))) x.2.1 x.2.2.1 x.2.2.2.1 x.2.2.2.2.2.2.1) [(3,2,vT)] ⟨er,trivial⟩
noncomputable def Gw:CE:=⟨71,[.val],[.v fg .k],λN x kf=>uN N x.1 (ek .str .k kf)⟩
theorem QM:Gw.ok:=lK Tryz.f71 [[CC],[zL],[CD],[CF],[nf]] ⟨N6,JA,N7,N8,qg,trivial⟩
noncomputable def N9:CE:=⟨21,[.val,.val,.val],[.v fg .k,.v .str .k,.v (.sl (.int .i64)) .k],λN x kf=>fb N x.1 x.2.1 x.2.2.1 (ek .str .k kf)⟩
theorem XZ:N9.ok:=lK Tryz.f21 [[qI],[pf],[zD],[zE],[oA],[Bs],[lN],[Ep],[CB],[Et],[H8],[CY],[Gw]] ⟨xA,wM,Jw,Jx,su,Lx,yr,PA,N3,PC,T8,Kc,QM,trivial⟩ (bw:=[(17,(OT.seq [1,2,3,0,4,5,6] .done))])
noncomputable def mG:CE:=⟨6,[.val,.val],[.v fg .k,.v .str .k],λN x kf=>bA N x.1 x.2.1 (Pd fg .k .str .k kf)⟩
def rW:List Kd:=(dK::.v .str .k::.v (.ptr fg) (.o 31 none .k)::dK::.v (.ptr fg) (.o 31 none (.p (.o 60 none (.p .k (.p .k (.p .k (.p .k (.p .k (.o 3 none .k))))))) (.p (.o 65 none (.p .k (.p .k (.o 3 none .k)))) (.p (.o 69 none .k) (.p (.o 3 none .k) (.p (.o 72 none .k) (.p (.o 75 none .k) .k)))))))::dK::.v (.sl .str) (.o 9 none .k)::dn 108 ([]))
def qP:List Kd:=(dK::dK::.v (.ptr fg) (.o 31 none .k)::dK::.v (.ptr fg) (.o 31 none (.p (.o 60 none (.p .k (.p .k (.p .k (.p .k (.p .k (.o 3 none .k))))))) (.p (.o 65 none (.p .k (.p .k (.o 3 none .k)))) (.p (.o 69 none .k) (.p (.o 3 none .k) (.p (.o 72 none .k) (.p (.o 75 none .k) .k)))))))::dK::.v (.sl .str) .k::dK::dK::.v (.sl (.int .i64)) (.o 3 none .k)::dn 105 ([]))
def qQ:List Kd:=(dn 4 (.v (.ptr fg) (.o 31 none .k)::.v .str .k::dn 109 ([])))
theorem zM:mG.ok:=eK2 Tryz.f6 [[ac8],[dv],[zx],[Ke],[Ee],[Gu],[N9]] 3 (dK::.v .str .k::.v (.ptr fg) (.o 31 none .k)::dK::.v (.ptr fg) (.o 31 none (.p (.o 60 none (.p .k (.p .k (.p .k (.p .k (.p .k (.o 3 none .k))))))) (.p (.o 65 none (.p .k (.p .k (.o 3 none .k)))) (.p (.o 69 none .k) (.p (.o 3 none .k) (.p (.o 72 none .k) (.p (.o 75 none .k) .k)))))))::dK::.v (.sl .str) (.o 9 none .k)::dn 12 (.v (.sl .str) .k::.v (.int .i64) .k::.v (.int .i64) .k::dn 93 ([]))) (λN n x K=>mD x.1 x.2.1 x.2.2.1 x.2.2.2.2.1 x.2.2.2.2.2.1 n (λz0=>K (.x 0) (shape rW (x.1,x.2.1,x.2.2.1,z0,()))) x.2.2.2.1 x.2.2.2.2.2.2.1) 16 (dK::dK::.v (.ptr fg) (.o 31 none .k)::dK::.v (.ptr fg) (.o 31 none (.p (.o 60 none (.p .k (.p .k (.p .k (.p .k (.p .k (.o 3 none .k))))))) (.p (.o 65 none (.p .k (.p .k (.o 3 none .k)))) (.p (.o 69 none .k) (.p (.o 3 none .k) (.p (.o 72 none .k) (.p (.o 75 none .k) .k)))))))::dK::.v (.sl .str) .k::dK::dK::.v (.sl (.int .i64)) (.o 3 none .k)::dn 58 (.v (.sl .str) .k::.v (.int .i64) .k::.v (.int .i64) .k::dn 44 ([]))) (λN n x K=>p9 N x.1 x.2.1 x.2.2.1 x.2.2.2.2.1 x.2.2.2.2.2.1 n (λz0=>K (.x 2) (shape qP (x.1,x.2.1,x.2.2.1,z0,()))) (λz0 z1=>K .r (shape qQ (z0,z1,()))) x.2.2.2.1 x.2.2.2.2.2.2.1) [(3,2,rW),(16,4,qP),(16,1,qQ)] ⟨ajE,eX,Ju,UI,Pq,QI,XZ,trivial⟩ (bw:=[(23,(.fz (9,[]) (OT.seq [0,1,2,3,4] (.par [5,6,7,8,9,10] [[14]] (OT.seq [11,12,13] .done))))),(25,(OT.seq [0,2,3,4,5,6,1,7,8,9] .done))]) (zO:=[(0,[(5,[])]),(8,[(6,[])]),(9,[(4,[.deref]),(5,[])]),(11,[(4,[.deref]),(5,[])]),(13,[(4,[.deref]),(5,[])]),(20,[(4,[.deref]),(5,[])]),(25,[(4,[.deref]),(5,[])]),(27,[(4,[.deref]),(5,[])]),(28,[(4,[.deref]),(5,[])])])
noncomputable def yx:CE:=⟨23,[.val,.val],[.v gm .k,.v gm .k],λN x kf=>pB N x.1 x.2.1 (ek .bool .k kf)⟩
theorem H9:yx.ok:=lK Tryz.f23 [[gZ]] ⟨jS,trivial⟩
noncomputable def gX:CE:=⟨22,[.val,.val,.val],[.v (.sl gm) .k,.v (.sl gm) .k,.fn 23 []],λN x kf=>bX N x.1 x.2.1 (ek .bool .k kf)⟩
def e7:List Kd:=(dn 32 ([]))
def e8:List Kd:=(dn 6 (.v .bool .k::dn 25 ([])))
theorem n5:gX.ok:=oX Tryz.f22 [[yx]] 4 (dK::.v (.sl gm) .k::.vY 23 []::dn 12 (.v (.sl gm) .k::.v (.int .i64) .k::.v (.int .i64) .k::dn 14 ([]))) (λN n x K=>aP N x.1 x.2.2.1 x.2.2.2.1 n (K (.x 0) (shape e7 ())) (λz0=>K .r (shape e8 (z0,()))) x.2.2.2.2.1) [(4,2,e7),(4,1,e8)] ⟨H9,trivial⟩
noncomputable def yy:CE:=⟨26,[.val,.val],[.v tI .k,.v tI .k],λN x kf=>pC N x.1 x.2.1 (ek .bool .k kf)⟩
theorem Ia:yy.ok:=lK Tryz.f26 [[gZ]] ⟨jS,trivial⟩
noncomputable def gv:CE:=⟨25,[.val,.val,.val],[.v (.sl tI) .k,.v (.sl tI) .k,.fn 26 []],λN x kf=>bS N x.1 x.2.1 (ek .bool .k kf)⟩
def eE:List Kd:=(dn 32 ([]))
def eF:List Kd:=(dn 6 (.v .bool .k::dn 25 ([])))
theorem ni:gv.ok:=oX Tryz.f25 [[yy]] 4 (dK::.v (.sl tI) .k::.vY 26 []::dn 12 (.v (.sl tI) .k::.v (.int .i64) .k::.v (.int .i64) .k::dn 14 ([]))) (λN n x K=>aK N x.1 x.2.2.1 x.2.2.2.1 n (K (.x 0) (shape eE ())) (λz0=>K .r (shape eF (z0,()))) x.2.2.2.2.1) [(4,2,eE),(4,1,eF)] ⟨Ia,trivial⟩
noncomputable def yz:CE:=⟨27,[.val,.val],[.v (.sl ib) .k,.v (.sl ib) .k],λN x kf=>pD N x.1 x.2.1 (ek .bool .k kf)⟩
def qR:List Kd:=(dn 26 ([]))
def qS:List Kd:=(dn 4 (.v .bool .k::dn 21 ([])))
theorem Ib:yz.ok:=oX Tryz.f27 [] 4 (.v (.sl ib) .k::.v (.sl ib) .k::dn 10 (.v (.int .i64) .k::.v (.int .i64) .k::dn 12 ([]))) (λN n x K=>dO x.1 x.2.1 x.2.2.1 n (K (.x 0) (shape qR ())) (λz0=>K .r (shape qS (z0,()))) x.2.2.2.1) [(4,2,qR),(4,1,qS)] trivial (bw:=[(6,(OT.seq [0,1,2,3,4,5,6,7,8] .done))])
noncomputable def vU:CE:=⟨28,[.val,.val],[.v (.sl It) .k,.v (.sl It) .k],λN x kf=>mE N x.1 x.2.1 (ek .bool .k kf)⟩
def pI:List Kd:=(dn 26 ([]))
def pJ:List Kd:=(dn 4 (.v .bool .k::dn 21 ([])))
theorem FK:vU.ok:=oX Tryz.f28 [] 4 (.v (.sl It) .k::.v (.sl It) .k::dn 10 (.v (.int .i64) .k::.v (.int .i64) .k::dn 12 ([]))) (λN n x K=>cT x.1 x.2.1 x.2.2.1 n (K (.x 0) (shape pI ())) (λz0=>K .r (shape pJ (z0,()))) x.2.2.2.1) [(4,2,pI),(4,1,pJ)] trivial (bw:=[(6,(OT.seq [0,1,2,3,4,5,6,7,8] .done))])
noncomputable def yA:CE:=⟨29,[.val,.val],[.v (.sl QS) .k,.v (.sl QS) .k],λN x kf=>pE N x.1 x.2.1 (ek .bool .k kf)⟩
def qT:List Kd:=(dn 26 ([]))
def qU:List Kd:=(dn 4 (.v .bool .k::dn 21 ([])))
theorem Ic:yA.ok:=oX Tryz.f29 [] 4 (.v (.sl QS) .k::.v (.sl QS) .k::dn 10 (.v (.int .i64) .k::.v (.int .i64) .k::dn 12 ([]))) (λN n x K=>dP x.1 x.2.1 x.2.2.1 n (K (.x 0) (shape qT ())) (λz0=>K .r (shape qU (z0,()))) x.2.2.2.1) [(4,2,qT),(4,1,qU)] trivial (bw:=[(6,(OT.seq [0,1,2,3,4,5,6,7,8] .done))])
noncomputable def sZ:CE:=⟨7,[.val,.val],[.v fg .k,.v fg .k],λN x kf=>fv N x.1 x.2.1 (ek .bool .k kf)⟩
theorem LB:sZ.ok:=lK Tryz.f7 [[gX],[gv],[yz],[gZ],[vU],[yA]] ⟨n5,ni,Ib,jS,FK,Ic,trivial⟩
noncomputable def vV:CE:=⟨8,[.val],[.v cy .k],λN x kf=>mW N x.1 (ek .str .k kf)⟩
def vW:List Kd:=(dn 3 (.v .str .k::dn 30 ([])))
theorem N':vV.ok:=oX Tryz.f8 [[im],[gU]] 5 (dn 3 (.v .str .k::dn 9 (.v (.sl (.sl (.int .i64))) .k::.v (.int .i64) .k::.v (.int .i64) .k::dn 18 ([])))) (λN n x K=>uO N x.2.1 x.2.2.1 n (λz0=>K (.x 0) (shape vW (z0,()))) x.1 x.2.2.2.1) [(5,2,vW)] ⟨jJ,jr,trivial⟩ (bw:=[(7,(OT.seq [0,1,2,3,7,8,9,4,5,6,10,11,12,13] .done))])
noncomputable def Ie:CE:=⟨32,[.Al,.val],[.v (.ptr gn) (.o 82 (some 0) .k),.v (.int .i64) .k],λN x kf=>yb N x.1 x.2.1 (λr0 z=>kf ⟨[⟨.bool,.k,r0⟩],[⟨(.ptr gn),(.o 82 (some 0) .k),z⟩]⟩)⟩
theorem T9:Ie.ok:=lK Tryz.f32 [[ll]] ⟨ou,trivial⟩ (iQ:=some (0,false))
noncomputable def n7:CE:=⟨10,[.val],[.v (.sl (.int .u8)) .k],λN x kf=>de N x.1 (ek .str .k kf)⟩
def pK:List Kd:=(dn 4 (.v .str .k::dn 28 ([])))
def oI:List Kd:=(dn 4 (.v .str .k::dn 28 ([])))
theorem FL:n7.ok:=eK2 Tryz.f10 [[CV],[Ie],[ll],[yY]] 5 (dn 4 (.v .str .k::.v (.int .i64) .k::dn 27 ([]))) (λN n x K=>ef n (λz0=>K (.x 0) (shape pK (z0,()))) x.1 x.2.1) 12 (dn 3 (.v (.ptr gn) (.o 82 none .k)::.v .str .k::dK::.v (.int .i64) .k::dn 26 ([]))) (λN n x K=>dz N n (λz0=>K (.x 2) (shape oI (z0,()))) x.1 x.2.1 x.2.2.1) [(5,2,pK),(12,4,oI)] ⟨J9,T9,ou,Gp,trivial⟩
noncomputable def s4:CE:=⟨11,[.val],[.v .str .k],λN x kf=>jG N x.1 (Pd (.sl .str) (.o 9 none .k) .bool .k kf)⟩
def tH:List Kd:=(dn 6 (.v (.sl .str) (.o 9 none .k)::dn 40 ([])))
theorem LC:s4.ok:=oX Tryz.f11 [[ac8],[yZ],[mG]] 8 (dn 5 (.v (.ptr fg) (.o 31 none .k)::.v (.sl .str) (.o 9 none .k)::dn 22 (.v (.sl .str) .k::.v (.int .i64) .k::.v (.int .i64) .k::dn 15 ([])))) (λN n x K=>fP N x.2.2.1 x.2.2.2.1 n (λz0=>K (.x 0) (shape tH (z0,()))) x.1 x.2.1 x.2.2.2.2.1) [(8,2,tH)] ⟨ajE,Gq,zM,trivial⟩ (zO:=[(6,[(5,[.deref])])])
def Oa:List Kd:=.v (.sl (.int .u8)) .k::dn 4 (.v (.ptr fg) (.o 31 none .k)::dn 35 (.v (.sl .str) (.o 9 none .k)::.v (.int .i64) .k::.v (.int .i64) .k::dn 60 ([])))
def LD:List Kd:=.v (.sl (.int .u8)) .k::dn 103 ([])
def LF:List Kd:=dK::dK::.v .bool .k::dn 101 ([])
def IZ:List Kd:=dn 11 (.v .str .k::.v (.sl .str) (.o 9 none .k)::.v .bool .k::.v (.int .i64) .k::.v (.int .i64) .k::dn 88 ([]))
def Ig:List Kd:=dn 12 (.v (.sl .str) (.o 9 none .k)::.v .bool .k::.v (.int .i64) .k::dn 89 ([]))
def akf:Hint:={ tab,hn:=[],loops:=[(8,Oa),(20,IZ)],outs:=[(8,2,LD),(8,1,LF),(20,4,Ig)],bw:=[],zO:=[(3,[(3,[.deref])])] }
def V5:List AK:=[.v (.sl (.int .u8)) .k]
noncomputable def asG (N:Nat) (x:cG V5) (kf:aa->Option aa):Option aa:=L3 N x.1 (λr0=>kf ⟨[⟨.bool,.k,r0⟩],[]⟩)
noncomputable def X0 (N:Nat):=aV V5 (asG N)
def akg (N:Nat):List Entry:=[⟨4,[.val],(aV HX.l (HX.F N))⟩,⟨5,[.val],(aV nb.l (nb.F N))⟩,⟨6,[.val,.val],(aV mG.l (mG.F N))⟩,⟨7,[.val,.val],(aV sZ.l (sZ.F N))⟩,⟨9,[],(aV lN.l (lN.F N))⟩,⟨8,[.val],(aV vV.l (vV.F N))⟩,⟨10,[.val],(aV n7.l (n7.F N))⟩,⟨11,[.val],(aV s4.l (s4.F N))⟩]
def Ob:Code:=cX Tryz.f3
noncomputable def amq (N n:Nat) (key:Nat) (S:St) (K:Ks):Option aa:=bif Nat.beq key 8 then mJ Oa S (λx=>J1 N x.1 x.2.1 x.2.2.1 x.2.2.2.1 n (K (.x 0) (shape LD (x.1,()))) (λz0=>K .r (shape LF (z0,()))) x.2.2.2.2.1) else bif Nat.beq key 20 then mJ IZ S (λx=>Fv x.1 x.2.1 x.2.2.1 n (λz0=>K (.x 2) (shape Ig (x.2.1,x.2.2.1,z0,()))) x.2.2.2.1 x.2.2.2.2.1) else none
theorem asH (N key:Nat) (S:St) (K:Ks):amq N 0 key S K=none:=(WI (qw λ_=>rfl) (WI (qw λ_=>rfl) rfl))
def akh:Code:=(a8 Ob).getD 0 .skip
def aki:Code:=(a8 Ob).getD 1 .skip
theorem asI:a8 Ob=[akh,aki]:=by kernel_rfl
theorem akj (N:Nat):RdT akf (akg N) (amq N) N 20 IZ aki:=λ_ _ _=>by kernel_rfl
theorem amr (N:Nat):RdT akf (akg N) (amq N) N 8 Oa akh:=λ_ _ _=>by kernel_rfl
theorem apS (g0:aiO) (g1:aiP) (g2:aiQ) (g3:aiR) (g4:aiS) (g5:aiT) (g6:aiU) (g7:aiV) (g8:aiW) (g9:aiX) (N:Nat) (x:cG V5) (kf:aa->Option aa):ak9 g0 g1 g2 g3 g4 g5 g6 g7 g8 g9 N x.1 (λr0=>kf ⟨[⟨.bool,.k,r0⟩],[]⟩)=ny akf (n9.of [⟨4,[.val],(aV [.v (.sl (.int .u8)) .k] (λx kf=>g0 N x.1 (λr0=>kf ⟨[⟨.bool,.k,r0⟩],[]⟩)))⟩,⟨5,[.val],(aV [.v (.sl (.int .u8)) .k] (λx kf=>g1 N x.1 (λr0 r1=>kf ⟨[⟨fg,(.p (.o 60 none (.p .k (.p .k (.p .k (.p .k (.p .k (.o 3 none .k))))))) (.p (.o 65 none (.p .k (.p .k (.o 3 none .k)))) (.p (.o 69 none .k) (.p (.o 3 none .k) (.p (.o 72 none .k) (.p (.o 75 none .k) .k)))))),r0⟩,⟨.str,.k,r1⟩],[]⟩)))⟩,⟨6,[.val,.val],(aV [.v fg .k,.v .str .k] (λx kf=>g2 N x.1 x.2.1 (λr0 r1=>kf ⟨[⟨fg,.k,r0⟩,⟨.str,.k,r1⟩],[]⟩)))⟩,⟨7,[.val,.val],(aV [.v fg .k,.v fg .k] (λx kf=>g3 N x.1 x.2.1 (λr0=>kf ⟨[⟨.bool,.k,r0⟩],[]⟩)))⟩,⟨9,[],(aV [] (λx kf=>g4 N (λr0=>kf ⟨[⟨cy,.k,r0⟩],[]⟩)))⟩,⟨8,[.val],(aV [.v cy .k] (λx kf=>g5 N x.1 (λr0=>kf ⟨[⟨.str,.k,r0⟩],[]⟩)))⟩,⟨10,[.val],(aV [.v (.sl (.int .u8)) .k] (λx kf=>g6 N x.1 (λr0=>kf ⟨[⟨.str,.k,r0⟩],[]⟩)))⟩,⟨11,[.val],(aV [.v .str .k] (λx kf=>g7 N x.1 (λr0 r1=>kf ⟨[⟨(.sl .str),(.o 9 none .k),r0⟩,⟨.bool,.k,r1⟩],[]⟩)))⟩]) (λkey S K=>bif Nat.beq key 8 then mJ Oa S (λx=>g8 N x.1 x.2.1 x.2.2.1 x.2.2.2.1 N (K (.x 0) (shape LD (x.1,()))) (λz0=>K .r (shape LF (z0,()))) x.2.2.2.2.1) else bif Nat.beq key 20 then mJ IZ S (λx=>g9 x.1 x.2.1 x.2.2.1 N (λz0=>K (.x 2) (shape Ig (x.2.1,x.2.2.1,z0,()))) x.2.2.2.1 x.2.2.2.2.1) else none) Tryz.f3 (dF V5 x) kf:=by kernel_rfl
theorem asJ (N:Nat) (x:cG V5) (kf:aa->Option aa):asG N x kf=ny akf (n9.of (akg N)) (amq N N) Tryz.f3 (dF V5 x) kf:=apS Dn iW bA fv cd mW de jG J1 Fv N x kf
theorem asK {Γ:Gl} (xa:ot Γ) (N:Nat):Sound Γ Tryz.prog 3 (X0 N):=sdk akf Tryz.f3 Ob (asH N) asI (asJ N) (rc (amr N) (rc (akj N) trivial)) ⟨aaC xa N,⟨Ea xa N,⟨zM xa N,⟨LB xa N,⟨yr xa N,⟨N' xa N,⟨FL xa N,⟨LC xa N,trivial⟩⟩⟩⟩⟩⟩⟩⟩
end Go.Pv.R
