/- Each function of the program that the law reaches computes its plain function, part 5. -/
import Derived.Test.YtpcoilhcgcpjmaaGreatDoorSnd4
import Derived.Test.YtpcoilhcgcpjmaaGreatDoorProg
set_option linter.unusedVariables false
noncomputable section
namespace Go.Pv.R
open List Int IntKind
open Go.Proofs
set_option maxRecDepth 100000
noncomputable def HA:CE:=⟨13,[.val,.val],[tq,Lh],λN x kf=>jt N x.1 x.2.1 (Rt TN .k .str .k kf)⟩
def yO:List Kd:=(dK::wX::wW::dK::AP::dK::B'::dn 108 ([]))
def xI:List Kd:=(dK::dK::wW::dK::AP::dK::Qw::dK::dK::lM::dn 105 ([]))
def xJ:List Kd:=(dn 4 (wW::wX::dn 109 ([])))
theorem Su:HA.ok:=eK2 Tryz.f13 [[amd],[ir],[Hi],[Te],[MT],[OQ],[XC]] 3 (dK::wX::wW::dK::AP::dK::B'::dn 12 (Qw::aQ::aQ::dn 93 ([]))) (λN n x K=>fG x.1 x.2.1 x.2.2.1 x.2.2.2.2.1 x.2.2.2.2.2.1 n (λz0=>K (.x 0) (shape yO (x.1,x.2.1,x.2.2.1,z0,()))) x.2.2.2.1 x.2.2.2.2.2.2.1) 16 (dK::dK::wW::dK::AP::dK::Qw::dK::dK::lM::dn 58 (Qw::aQ::aQ::dn 44 ([]))) (λN n x K=>gk N x.1 x.2.1 x.2.2.1 x.2.2.2.2.1 x.2.2.2.2.2.1 n (λz0=>K (.x 2) (shape xI (x.1,x.2.1,x.2.2.1,z0,()))) (λz0 z1=>K .r (shape xJ (z0,z1,()))) x.2.2.2.1 x.2.2.2.2.2.2.1) [(3,2,yO),(16,4,xI),(16,1,xJ)] ⟨atT,kd,Sl,adQ,Y1,aak,ag6,trivial⟩ (dt:=[(23,(.fz (9,[]) (OT.seq [0,1,2,3,4] (.par [5,6,7,8,9,10] [[14]] (OT.seq [11,12,13] .done))))),(25,(OT.seq [0,2,3,4,5,6,1,7,8,9] .done))]) (F5:=[(0,[(5,[])]),(8,[(6,[])]),(9,[(4,[.deref]),(5,[])]),(11,[(4,[.deref]),(5,[])]),(13,[(4,[.deref]),(5,[])]),(20,[(4,[.deref]),(5,[])]),(25,[(4,[.deref]),(5,[])]),(27,[(4,[.deref]),(5,[])]),(28,[(4,[.deref]),(5,[])])])
noncomputable def z7:CE:=⟨5,[.val],[Lh],λN x kf=>qJ N x.1 (Rt (.sl .str) avU .bool .k kf)⟩
def AH:List Kd:=(dn 6 (B'::dn 40 ([])))
theorem UW:z7.ok:=o9 Tryz.f5 [[amd],[GF],[HA]] 8 (dn 5 (wW::B'::dn 22 (Qw::aQ::aQ::dn 15 ([])))) (λN n x K=>lf N x.2.2.1 x.2.2.2.1 n (λz0=>K (.x 0) (shape AH (z0,()))) x.1 x.2.1 x.2.2.2.2.1) [(8,2,AH)] ⟨atT,OM,Su,trivial⟩ (F5:=[(6,[(5,[.deref])])])
noncomputable def C8:CE:=⟨6,[.val,.val],[ajE,ajE],λN x kf=>s7 N x.1 x.2.1 (fw .bool .k kf)⟩
def C9:List Kd:=(dn 26 ([]))
def C':List Kd:=(dn 4 (jA::dn 21 ([])))
theorem XD:C8.ok:=o9 Tryz.f6 [] 4 (Qw::Qw::dn 3 (aQ::dn 20 ([]))) (λN n x K=>mu x.1 x.2.1 n (K (.x 0) (shape C9 ())) (λz0=>K .r (shape C' (z0,()))) x.2.2.1) [(4,2,C9),(4,1,C')] trivial (dt:=[(6,(OT.seq [0,1,2,3,4,5,6,7,8] .done))])
noncomputable def EK:CE:=⟨14,[.val],[dG],λN x kf=>gQ N x.1 (fw .str .k kf)⟩
def DX:List Kd:=(dn 3 (wX::dn 16 ([])))
theorem M6:EK.ok:=o9 Tryz.f14 [] 4 (aQ::dK::dK::wX::dn 16 ([])) (λN n x K=>nz n (λz0=>K (.x 0) (shape DX (z0,()))) x.1 x.2.1) [(4,2,DX)] trivial
noncomputable def xY:CE:=⟨7,[.OU,.val],[.v (.sl .str) (.o 9 (some 0) .k),dG],λN x kf=>s8 N x.1 x.2.1 (λr0 z=>kf ⟨[⟨(.int .i64),.k,r0⟩],[⟨(.sl .str),(.o 9 (some 0) .k),z⟩]⟩)⟩
def yP:List Kd:=(.v (.sl .str) (.o 9 (some 0) .k)::aQ::dn 18 ([]))
theorem Sv:xY.ok:=o9 Tryz.f7 [[EK]] 2 (.v (.sl .str) (.o 9 (some 0) .k)::aQ::dn 3 (aQ::dn 14 ([]))) (λN n x K=>mH N n (λz0 z1=>K (.x 0) (shape yP (z0,z1,()))) x.1 x.2.1 x.2.2.1) [(2,2,yP)] ⟨M6,trivial⟩ (pK:=some (0,false))
noncomputable def xZ:CE:=⟨8,[.val,.val],[ajE,dG],λN x kf=>pR N x.1 x.2.1 (fw (.int .i64) .k kf)⟩
def yQ:List Kd:=(dK::aQ::dn 20 ([]))
def yR:List Kd:=(dn 4 (aQ::dn 17 ([])))
theorem Sw:xZ.ok:=o9 Tryz.f8 [[EK]] 2 (Qw::aQ::dn 3 (aQ::dn 16 ([]))) (λN n x K=>jO N x.1 n (λz0=>K (.x 0) (shape yQ (z0,()))) (λz0=>K .r (shape yR (z0,()))) x.2.1 x.2.2.1) [(2,2,yQ),(2,1,yR)] ⟨M6,trivial⟩ (dt:=[(4,(OT.seq [0,1,2,3,4,5,6] .done))])
def aCY:Hint:={ tab,hn:=[],loops:=[],outs:=[],dt:=[] }
def auu:List AK:=[Lh]
noncomputable def aCZ (N:Nat) (x:fu auu) (kf:iI->aa):aa:=L3 N x.1 (λr0=>kf ⟨[⟨.bool,.k,r0⟩],[]⟩)
noncomputable def ag7 (N:Nat):=c9 auu (aCZ N)
def aC0 (N:Nat):List Entry:=[⟨4,[.val],(c9 zV.l (zV.F N))⟩,⟨5,[.val],(c9 z7.l (z7.F N))⟩,⟨6,[.val,.val],(c9 C8.l (C8.F N))⟩,⟨7,[.OU,.val],(c9 xY.l (xY.F N))⟩,⟨8,[.val,.val],(c9 xZ.l (xZ.F N))⟩]
def ag8:Code:=iw Tryz.f3
theorem aC1:cR ag8=[]:=by kernel_rfl
theorem aC2 (N:Nat):FnT auu (aCZ N) aCY (aC0 N) (noL N N) Tryz.f3:=λ_ _=>by kernel_rfl
theorem aC3 {Γ:Gl} (AR:si Γ) (N:Nat):Sound Γ Tryz.prog 3 (ag7 N):=sdk aCY Tryz.f3 ag8 (ajG N) aC1 (aC2 N) trivial ⟨UJ AR N,⟨UW AR N,⟨XD AR N,⟨Sv AR N,⟨Sw AR N,trivial⟩⟩⟩⟩⟩
end Go.Pv.R
