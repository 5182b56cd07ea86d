/- Each function of the program that the law reaches computes its plain function, part 1. -/
import Derived.Test.YtpcoilhcgcpjmaaGreatDoorSnd0
import Derived.Test.YtpcoilhcgcpjmaaGreatDoorProg
set_option linter.unusedVariables false
noncomputable section
namespace Go.Pv.R
open List Int IntKind
open Go.Proofs
set_option maxRecDepth 100000
noncomputable def uX:CE:=⟨53,[.val],[tq],λN x kf=>qZ N x.1 (fw (.sl (.int .i64)) vu kf)⟩
def FK:List Kd:=(dn 3 (lM::dn 23 ([])))
theorem zi:uX.ok:=o9 Tryz.f53 [] 4 (dK::wW::dK::lM::.v (.ptr tQB) (.o 101 none .k)::aQ::dn 21 ([])) (λN n x K=>mO x.1 x.2.2.1 n (λz0=>K (.x 0) (shape FK (z0,()))) x.2.1 x.2.2.2.1) [(4,2,FK)] trivial (dt:=[(6,(OT.seq [0,1,2,3,4,5,6] .done))])
noncomputable def uC:CE:=⟨172,[.val],[agD],λN x kf=>oK N x.1 (fw .bool .k kf)⟩
def Au:List Kd:=(S8::dn 36 ([]))
def Aw:List Kd:=(dK::dK::jA::dn 34 ([]))
theorem zT:uC.ok:=o9 Tryz.f172 [[xx]] 2 (S8::dK::dK::aQ::dn 33 ([])) (λN n x K=>iO N x.1 n (K (.x 0) (shape Au (x.1,()))) (λz0=>K .r (shape Aw (z0,()))) x.2.1) [(2,2,Au),(2,1,Aw)] ⟨EC,trivial⟩ (dt:=[(4,(OT.seq [0,1,2,3,4,5,6,7,8,9,10,11,12,13,14,15,16,17,18,19,20,21,22,23] .done))])
noncomputable def Li:CE:=⟨175,[.val],[.v tQB .k],λN x kf=>Eb N x.1 (fw (.int .i64) .k kf)⟩
theorem Tb:Li.ok:=qp Tryz.f175 [] trivial
noncomputable def MN:CE:=⟨173,[.val,.val],[agD,dG],λN x kf=>yf N x.1 x.2.1 (fw (.int .i64) .k kf)⟩
def Dz:List Kd:=(dn 5 (aQ::dn 21 ([])))
theorem YT:MN.ok:=o9 Tryz.f173 [[uC],[Li]] 3 (S8::aQ::dn 3 (aQ::aQ::dn 20 ([]))) (λN n x K=>lu N x.1 x.2.1 n (λz0=>K (.x 0) (shape Dz (z0,()))) x.2.2.1 x.2.2.2.1) [(3,2,Dz)] ⟨zT,Tb,trivial⟩
noncomputable def QD:CE:=⟨174,[.val,.val],[agD,dG],λN x kf=>PS N x.1 x.2.1 (fw (.int .i64) .k kf)⟩
def G3:List Kd:=(dn 5 (aQ::dn 31 ([])))
theorem ac4:QD.ok:=o9 Tryz.f174 [[uC]] 3 (S8::aQ::dn 3 (aQ::aQ::dn 30 ([]))) (λN n x K=>wG N x.1 x.2.1 n (λz0=>K (.x 0) (shape G3 (z0,()))) x.2.2.1 x.2.2.2.1) [(3,2,G3)] ⟨zT,trivial⟩
noncomputable def MO:CE:=⟨103,[.val],[agD],λN x kf=>vg N x.1 (fw (.int .i64) .k kf)⟩
theorem YU:MO.ok:=qp Tryz.f103 [[uC],[MN],[QD],[Li]] ⟨zT,YT,ac4,Tb,trivial⟩
noncomputable def Ku:CE:=⟨102,[.val,.val,.val,.val,.val,.val],[wh,dG,dG,dG,dG,dG],λN x kf=>sR N x.1 x.2.1 x.2.2.1 x.2.2.2.1 x.2.2.2.2.1 x.2.2.2.2.2.1 (Rt (.sl Q5) adN .bool .k kf)⟩
theorem WY:Ku.ok:=qp Tryz.f102 [[uW],[lB],[fU],[fH]] ⟨zf,nB,gS,gA,trivial⟩
noncomputable def QE:CE:=⟨105,[.val,.val],[lH,dG],λN x kf=>iP N x.1 x.2.1 (fw (.sl (.int .i64)) vu kf)⟩
def G4:List Kd:=(kj::aQ::dn 3 (aQ::dn 41 ([])))
theorem ac5:QE.ok:=o9 Tryz.f105 [] 2 (kj::aQ::dn 3 (aQ::dn 41 ([]))) (λN n x K=>qd x.1 x.2.1 n (λz0=>K (.x 0) (shape G4 (x.1,x.2.1,z0,()))) x.2.2.1) [(2,2,G4)] trivial (dt:=[(6,(OT.seq [1,2,3,5,8,9,10] (.any [0,4,6] (OT.seq [7,11,12] .done))))])
noncomputable def Kv:CE:=⟨47,[.val],[tq],λN x kf=>Bt N x.1 (Rt TN Gy .bool .k kf)⟩
def Cv:List Kd:=(dK::wW::AP::dK::AP::jA::dn 114 ([]))
theorem WZ:Kv.ok:=o9 Tryz.f47 [[gJ],[wY],[ru],[uX],[MO],[Ku],[zh],[QE],[oU]] 6 (dK::wW::AP::dK::AP::jA::aQ::dn 113 ([])) (λN n x K=>jV N x.1 x.2.1 n (λz0 z1=>K (.x 0) (shape Cv (x.1,x.2.1,z0,z1,()))) x.2.2.1 x.2.2.2.1 x.2.2.2.2.1) [(6,2,Cv)] ⟨iZ,Cr,vX,zi,YU,WY,GB,ac5,qM,trivial⟩ (dt:=[(9,(OT.seq [0,1,2,3,4,5,6,7,8,9,10,11,12,13,14,17,18,19,20,15,16,21,22,23,24,25,26] .done)),(12,(OT.seq [0,1,2,3,4,5,6,7,8] .done)),(13,(OT.seq [0,1,2,3,4,5,6,7,8,9,10,11,12,13,14,16,17,18,19,20,21,15,22,23,24,25] .done))])
noncomputable def Kw:CE:=⟨48,[.val,.val],[tq,dG],λN x kf=>Bu N x.1 x.2.1 (Rt TN Gy .bool .k kf)⟩
theorem W2:Kw.ok:=qp Tryz.f48 [[gJ],[lB],[ru],[uW],[oU]] ⟨iZ,nB,vX,zf,qM,trivial⟩ (dt:=[(5,(OT.seq [0,1,2,3,5,6,7,8,9,4,10,11,12,13] .done))])
noncomputable def Jb:CE:=⟨24,[.val,.val],[tq,.v tQL .k],λN x kf=>uN N x.1 x.2.1 (Rt TN Gy .bool .k kf)⟩
theorem UF:Jb.ok:=qp Tryz.f24 [[MK],[Kq],[MM],[Ja],[Kv],[Kw],[gJ]] ⟨YP,WQ,YS,UE,WZ,W2,iZ,trivial⟩
noncomputable def OJ:CE:=⟨25,[.val,.take,.val],[tq,.v TN Gy,afa],λN x kf=>HN N x.1 x.2.1 x.2.2.1 (Rt TN Gy .str .k kf)⟩
theorem aae:OJ.ok:=qp Tryz.f25 [[gJ]] ⟨iZ,trivial⟩
noncomputable def zj:CE:=⟨107,[.val],[ajE],λN x kf=>q7 N x.1 (fw .str .k kf)⟩
def FL:List Kd:=(Qw::dK::dK::wX::dn 21 ([]))
theorem GD:zj.ok:=o9 Tryz.f107 [] 3 (Qw::dK::dK::wX::aQ::dn 20 ([])) (λN n x K=>mP x.1 n (λz0=>K (.x 0) (shape FL (x.1,z0,()))) x.2.1 x.2.2.1) [(3,2,FL)] trivial
noncomputable def vz:CE:=⟨49,[.val],[lH],λN x kf=>gy N x.1 (fw .str .k kf)⟩
def wZ:List Kd:=(dn 3 (B'::dn 18 ([])))
theorem DA:vz.ok:=o9 Tryz.f49 [[mB],[zj]] 3 (kj::dK::dK::B'::aQ::dn 17 ([])) (λN n x K=>ib N x.1 n (λz0=>K (.x 0) (shape wZ (z0,()))) x.2.1 x.2.2.1) [(3,2,wZ)] ⟨oq,GD,trivial⟩
noncomputable def G5:CE:=⟨51,[.val],[wh],λN x kf=>sW N x.1 (fw .str .k kf)⟩
def yr:List Kd:=(dn 3 (B'::dn 44 ([])))
theorem Se:G5.ok:=o9 Tryz.f51 [[mB],[zj]] 3 (vw::dK::dK::B'::aQ::dn 43 ([])) (λN n x K=>jG N x.1 n (λz0=>K (.x 0) (shape yr (z0,()))) x.2.1 x.2.2.1) [(3,2,yr)] ⟨oq,GD,trivial⟩ (dt:=[(5,(OT.seq [0,1,2,3,4,5,8,9,10,11,12,16,17,18,19,20,21,25,26,27,28,29,6,7,13,14,15,22,23,24,30,31,32,33,34] .done))])
noncomputable def G6:CE:=⟨52,[.val,.val],[acX,lH],λN x kf=>sX N x.1 x.2.1 (fw .str .k kf)⟩
def yt:List Kd:=(dn 5 (B'::dn 40 ([])))
theorem Sf:G6.ok:=o9 Tryz.f52 [[mB],[zj]] 3 (S7::kj::dn 3 (B'::aQ::dn 39 ([]))) (λN n x K=>gX N x.1 x.2.1 n (λz0=>K (.x 0) (shape yt (z0,()))) x.2.2.1 x.2.2.2.1) [(3,2,yt)] ⟨oq,GD,trivial⟩ (dt:=[(8,(OT.seq [0,1,2,3,4,5,8,9,10,11,12,16,6,7,13,14,15,17,18,19,20] .done))])
noncomputable def Jc:CE:=⟨54,[.val],[tq],λN x kf=>yZ N x.1 (fw .str .k kf)⟩
theorem UG:Jc.ok:=qp Tryz.f54 [[uX],[vz]] ⟨zi,DA,trivial⟩ (dt:=[(1,(OT.seq [0,1,2,3,4,5,6,7,8,9,12,13,14,15,16,10,11,17,18,19] .done))])
noncomputable def Kx:CE:=⟨110,[.val],[tq],λN x kf=>Bv N x.1 (fw .bool .k kf)⟩
def Cw:List Kd:=(dK::wW::dK::aQ::dn 29 ([]))
def Cx:List Kd:=(dK::dK::jA::dn 30 ([]))
def Cy:List Kd:=(dn 33 ([]))
def Cz:List Kd:=(dK::dK::jA::dn 30 ([]))
theorem W3:Kx.ok:=eK2 Tryz.f110 [[gT]] 2 (dK::wW::dK::aQ::dn 29 ([])) (λN n x K=>mc N x.1 n (K (.x 0) (shape Cy ())) (λz0=>K .r (shape Cz (z0,()))) x.2.1) 6 (dK::wW::dK::aQ::kj::aQ::dn 27 ([])) (λN n x K=>jW N x.1 x.2.1 x.2.2.1 n (K (.x 2) (shape Cw (x.1,x.2.1,()))) (λz0=>K .r (shape Cx (z0,()))) x.2.2.2.1) [(6,4,Cw),(6,1,Cx),(2,2,Cy),(2,1,Cz)] ⟨kE,trivial⟩ (dt:=[(8,(OT.seq [0,1,2,3,4,5,6,7] .done))])
noncomputable def G7:CE:=⟨111,[.val],[tq],λN x kf=>xm N x.1 (fw .bool .k kf)⟩
def yu:List Kd:=(dn 43 ([]))
def yv:List Kd:=(dK::dK::jA::dn 40 ([]))
theorem Sg:G7.ok:=o9 Tryz.f111 [[zh],[tr]] 2 (dK::wW::dK::aQ::dn 39 ([])) (λN n x K=>jH N x.1 n (K (.x 0) (shape yu ())) (λz0=>K .r (shape yv (z0,()))) x.2.1) [(2,2,yu),(2,1,yv)] ⟨GB,EB,trivial⟩ (dt:=[(6,(OT.seq [0,1,2,3,4,5,6,7,8] .done)),(7,(OT.seq [0,1,2,3,4,5,6,7,8,9,10,11,12,13,14,15,16,17] .done))])
noncomputable def Ky:CE:=⟨112,[.val],[tq],λN x kf=>Bw N x.1 (fw .bool .k kf)⟩
def CA:List Kd:=(dK::wW::dK::aQ::dn 39 ([]))
theorem W4:Ky.ok:=o9 Tryz.f112 [[uB],[fH],[uX]] 3 (dK::wW::dK::aQ::aQ::dn 38 ([])) (λN n x K=>jX x.1 n (λz0=>K (.x 0) (shape CA (x.1,z0,()))) x.2.1 x.2.2.1) [(3,2,CA)] ⟨zS,gA,zi,trivial⟩ (dt:=[(7,(OT.seq [0,1,2,3,4,5,6,7,8,9,10,11,12,13,14,15,16,17,18,19,20,21,22] .done))])
noncomputable def Kz:CE:=⟨113,[.val],[tq],λN x kf=>Bx N x.1 (fw .bool .k kf)⟩
def CB:List Kd:=(dK::wW::dK::aQ::aQ::aQ::dn 53 ([]))
theorem W5:Kz.ok:=o9 Tryz.f113 [[fU]] 5 (dK::wW::dK::aQ::aQ::aQ::aQ::dn 52 ([])) (λN n x K=>mf N x.1 n (λz0 z1 z2=>K (.x 0) (shape CB (x.1,z0,z1,z2,()))) x.2.1 x.2.2.1 x.2.2.2.1 x.2.2.2.2.1) [(5,2,CB)] ⟨gS,trivial⟩
noncomputable def OK:CE:=⟨55,[.val],[tq],λN x kf=>By N x.1 (fw .str .k kf)⟩
theorem aaf:OK.ok:=qp Tryz.f55 [[Kx],[G7],[Ky],[Kz],[wY]] ⟨W3,Sg,W4,W5,Cr,trivial⟩
noncomputable def w5:CE:=⟨28,[],[],λN x kf=>oc N (fw Q6 .k kf)⟩
theorem FM:w5.ok:=qp Tryz.f28 [] trivial (F5:=[(1,[(0,[.deref])])])
noncomputable def qN:CE:=⟨59,[.val],[zR],λN x kf=>uh N x.1 (fw .bool .k kf)⟩
def FN:List Kd:=(dK::Ca::dn 75 ([]))
def FP:List Kd:=(dK::dK::jA::dn 74 ([]))
theorem uY:qN.ok:=o9 Tryz.f59 [[fH]] 2 (dK::Ca::dK::aQ::dn 73 ([])) (λN n x K=>uO N x.1 n (K (.x 0) (shape FN (x.1,()))) (λz0=>K .r (shape FP (z0,()))) x.2.1) [(2,2,FN),(2,1,FP)] ⟨gA,trivial⟩ (dt:=[(5,(OT.seq [0,1,2,3,4,5,6,7,8,9,10,11,12,13,14,15,16,17,18,19,20,21,22] .done)),(9,(OT.seq [0,1,2,3,4,5,6,7,8,9,10,11,12,13,14,15,16,17,18,19,20,21,22,23,24] .done))])
noncomputable def E6:CE:=⟨179,[.val,.val],[zR,lH],λN x kf=>NH N x.1 x.2.1 (fw .bool .k kf)⟩
def Jd:List Kd:=(dn 40 ([]))
def Je:List Kd:=(dn 4 (jA::dn 35 ([])))
theorem Lj:E6.ok:=o9 Tryz.f179 [[qN],[fH]] 4 (dK::kj::Ca::dK::dK::aQ::dn 34 ([])) (λN n x K=>EV N x.1 x.2.1 n (K (.x 0) (shape Jd ())) (λz0=>K .r (shape Je (z0,()))) x.2.2.1) [(4,2,Jd),(4,1,Je)] ⟨uY,gA,trivial⟩ (dt:=[(6,(OT.seq [0,1,2,3,4,5,6,7,8,9,10,11,12,13,14,15,16,17,18,19,20,21,22,23,24] .done))])
noncomputable def Lk:CE:=⟨236,[.val,.val],[zR,lH],λN x kf=>TT N x.1 x.2.1 (fw (.sl (.int .i64)) vu kf)⟩
def Jf:List Kd:=(dK::kj::Ca::dK::dK::lM::aQ::jA::dn 48 ([]))
def Jg:List Kd:=(dn 5 (lM::dn 50 ([])))
theorem Tc:Lk.ok:=eK2 Tryz.f236 [[qN],[gT]] 3 (dK::kj::Ca::dK::dK::lM::aQ::dn 49 ([])) (λN n x K=>EW N x.1 x.2.1 n (λz0=>K (.x 0) (shape Jg (z0,()))) x.2.2.1 x.2.2.2.1) 7 (dK::kj::Ca::dK::dK::lM::aQ::jA::aQ::dn 47 ([])) (λN n x K=>yg N x.1 x.2.1 x.2.2.1 x.2.2.2.1 n (λz0=>K (.x 2) (shape Jf (x.1,x.2.1,x.2.2.1,x.2.2.2.1,z0,()))) x.2.2.2.2.1 x.2.2.2.2.2.1) [(7,4,Jf),(3,2,Jg)] ⟨uY,kE,trivial⟩
noncomputable def o8:CE:=⟨118,[.val,.val],[zR,dG],λN x kf=>xn N x.1 x.2.1 (fw (.sl (.int .i64)) vu kf)⟩
def yw:List Kd:=(dn 5 (lM::dn 33 ([])))
theorem xV:o8.ok:=o9 Tryz.f118 [[qN]] 3 (dK::aQ::Ca::dK::dK::lM::aQ::dn 32 ([])) (λN n x K=>sw N x.1 x.2.1 n (λz0=>K (.x 0) (shape yw (z0,()))) x.2.2.1 x.2.2.2.1) [(3,2,yw)] ⟨uY,trivial⟩
noncomputable def OL:CE:=⟨180,[.val,.val,.val],[zR,lH,dG],λN x kf=>VJ N x.1 x.2.1 x.2.2.1 (fw .bool .k kf)⟩
def FQ:List Kd:=(dn 41 ([]))
def FR:List Kd:=(dn 6 (jA::dn 34 ([])))
theorem aag:OL.ok:=o9 Tryz.f180 [[E6],[fH],[Lk],[o8],[gT]] 6 (dn 7 (lM::lM::aQ::dn 31 ([]))) (λN n x K=>Gc N x.1 x.2.1 n (K (.x 0) (shape FQ ())) (λz0=>K .r (shape FR (z0,()))) x.2.2.1) [(6,2,FQ),(6,1,FR)] ⟨Lj,gA,Tc,xV,kE,trivial⟩
noncomputable def zU:CE:=⟨114,[.val,.val],[zR,lH],λN x kf=>Gd N x.1 x.2.1 (fw (.sl (.int .i64)) vu kf)⟩
def Ax:List Kd:=(dn 5 (lM::dn 22 ([])))
theorem Jh:zU.ok:=o9 Tryz.f114 [[E6],[OL]] 3 (dK::kj::Ca::dK::dK::lM::aQ::dn 21 ([])) (λN n x K=>ui N x.1 x.2.1 n (λz0=>K (.x 0) (shape Ax (z0,()))) x.2.2.1 x.2.2.2.1) [(3,2,Ax)] ⟨Lj,aag,trivial⟩
noncomputable def CC:CE:=⟨115,[.val,.val],[lH,lH],λN x kf=>Iy N x.1 x.2.1 (fw .bool .k kf)⟩
def CD:List Kd:=(dn 26 ([]))
def CF:List Kd:=(dn 4 (jA::dn 21 ([])))
theorem KA:CC.ok:=o9 Tryz.f115 [] 4 (kj::kj::dn 3 (aQ::dn 20 ([]))) (λN n x K=>BB x.1 x.2.1 n (K (.x 0) (shape CD ())) (λz0=>K .r (shape CF (z0,()))) x.2.2.1) [(4,2,CD),(4,1,CF)] trivial (dt:=[(6,(OT.seq [0,1,2,3,4,5,6,7,8] .done))])
noncomputable def MP:CE:=⟨56,[.val],[zR],λN x kf=>SK N x.1 (fw (.sl (.int .i64)) vu kf)⟩
def DB:List Kd:=(dK::dK::lM::dn 11 ([]))
theorem YV:MP.ok:=o9 Tryz.f56 [[zU],[CC]] 2 (dK::Ca::dK::lM::dn 10 ([])) (λN n x K=>Ee N x.1 n (λz0=>K .r (shape DB (z0,()))) x.2.1) [(2,1,DB)] ⟨Jh,KA,trivial⟩ (F5:=[(0,[(2,[])]),(4,[(2,[])])])
noncomputable def QF:CE:=⟨237,[.val,.val],[zR,lH],λN x kf=>Zw N x.1 x.2.1 (fw .bool .k kf)⟩
def G8:List Kd:=(dK::kj::Ca::dn 22 ([]))
def G9:List Kd:=(dn 4 (jA::dn 20 ([])))
theorem ac6:QF.ok:=o9 Tryz.f237 [[Lk],[gT],[E6]] 3 (dK::kj::Ca::dK::dK::lM::aQ::dn 18 ([])) (λN n x K=>Iz N x.1 x.2.1 x.2.2.1 n (K (.x 0) (shape G8 (x.1,x.2.1,()))) (λz0=>K .r (shape G9 (z0,()))) x.2.2.2.1) [(3,2,G8),(3,1,G9)] ⟨Tc,kE,Lj,trivial⟩
noncomputable def Ji:CE:=⟨181,[.val,.val],[zR,lH],λN x kf=>Oj N x.1 x.2.1 (fw .bool .k kf)⟩
theorem UH:Ji.ok:=qp Tryz.f181 [[QF],[zU],[CC]] ⟨ac6,Jh,KA,trivial⟩
noncomputable def MQ:CE:=⟨182,[.val,.val],[lH,lH],λN x kf=>SL N x.1 x.2.1 (fw .bool .k kf)⟩
def DC:List Kd:=(kj::kj::dn 39 ([]))
def DD:List Kd:=(dn 4 (jA::dn 36 ([])))
theorem YW:MQ.ok:=o9 Tryz.f182 [] 2 (kj::kj::dn 3 (aQ::dn 35 ([]))) (λN n x K=>Ef x.1 x.2.1 n (K (.x 0) (shape DC (x.1,x.2.1,()))) (λz0=>K .r (shape DD (z0,()))) x.2.2.1) [(2,2,DC),(2,1,DD)] trivial (dt:=[(4,(OT.seq [0,1,2,3,4,5,6,7,8] .done)),(5,(OT.seq [0,1,2,3,4,5,6,7,8,9] .done))])
noncomputable def G':CE:=⟨116,[.val],[zR],λN x kf=>L0 N x.1 (fw (.sl (.sl (.int .i64))) .k kf)⟩
def yx:List Kd:=(dK::Ca::dK::H2::aQ::lM::dn 61 ([]))
def xG:List Kd:=(dK::Ca::dK::H2::aQ::kj::dK::aQ::dn 59 ([]))
def yy:List Kd:=(dn 3 (H2::dn 63 ([])))
theorem Sh:G'.ok:=eK3 Tryz.f116 [[qN],[Ji],[MQ]] 5 (dK::Ca::dK::H2::aQ::dn 62 ([])) (λN n x K=>sy N x.1 n (λz0=>K (.x 0) (shape yy (z0,()))) x.2.1 x.2.2.1) 9 (dK::Ca::dK::H2::aQ::lM::aQ::dn 60 ([])) (λN n x K=>sx x.1 x.2.1 x.2.2.1 n (λz0=>K (.x 2) (shape yx (x.1,x.2.1,x.2.2.1,z0,()))) x.2.2.2.1 x.2.2.2.2.1) 15 (dK::Ca::dK::H2::aQ::kj::dK::aQ::dn 59 ([])) (λN n x K=>wJ N x.1 x.2.1 x.2.2.1 x.2.2.2.1 n (λz0=>K (.x 4) (shape xG (x.1,x.2.1,x.2.2.1,x.2.2.2.1,z0,()))) x.2.2.2.2.1) [(9,4,yx),(15,6,xG),(5,2,yy)] ⟨uY,UH,YW,trivial⟩ (hn:=[(8,vu)]) (dt:=[(17,(OT.seq [1,2,3,5,8,9,10] (.any [0,4,6] (OT.seq [7,11,12] .done))))]) (F5:=[(0,[(2,[])]),(1,[(3,[])]),(3,[(2,[])]),(13,[(5,[])]),(17,[(3,[])]),(18,[(2,[])])])
noncomputable def QG:CE:=⟨117,[.val,.val],[lH,lH],λN x kf=>Zx N x.1 x.2.1 (fw .bool .k kf)⟩
def Ha:List Kd:=(dn 19 ([]))
def Hb:List Kd:=(dn 4 (jA::dn 14 ([])))
theorem ac7:QG.ok:=o9 Tryz.f117 [[gT]] 2 (kj::kj::dn 3 (aQ::dn 13 ([]))) (λN n x K=>IA N x.1 x.2.1 n (K (.x 0) (shape Ha ())) (λz0=>K .r (shape Hb (z0,()))) x.2.2.1) [(2,2,Ha),(2,1,Hb)] ⟨kE,trivial⟩
noncomputable def KB:CE:=⟨58,[.val],[zR],λN x kf=>IB N x.1 (fw (.sl (.sl (.int .i64))) atC kf)⟩
def CG:List Kd:=(dn 3 (MD::H2::aQ::jA::dn 43 ([])))
def CH:List Kd:=(dn 3 (MD::dn 46 ([])))
theorem W6:KB.ok:=eK2 Tryz.f58 [[G'],[QG]] 4 (dn 3 (MD::H2::aQ::dn 44 ([]))) (λN n x K=>vP N x.2.1 n (λz0=>K (.x 0) (shape CH (z0,()))) x.1 x.2.2.1) 8 (dn 3 (MD::H2::aQ::jA::aQ::dn 42 ([]))) (λN n x K=>q8 N x.1 x.2.1 x.2.2.1 n (λz0=>K (.x 2) (shape CG (x.1,x.2.1,x.2.2.1,z0,()))) x.2.2.2.1 x.2.2.2.2.1) [(8,4,CG),(4,2,CH)] ⟨Sh,ac7,trivial⟩ (dt:=[(10,(OT.seq [0,1,2,3,4,5,6,7,8,9,10,11,12,13,14,15,16,17,18] .done))]) (F5:=[(0,[(2,[])]),(13,[(2,[])])])
noncomputable def MR:CE:=⟨57,[.val],[ajF],λN x kf=>K4 N x.1 (fw .str .k kf)⟩
def DE:List Kd:=(H2::dK::dK::wX::aQ::dn 38 ([]))
def DF:List Kd:=(H2::dK::dK::wX::dn 39 ([]))
theorem YX:MR.ok:=eK2 Tryz.f57 [[mB]] 3 (H2::dK::dK::wX::aQ::dn 38 ([])) (λN n x K=>Eg N x.1 n (λz0=>K (.x 0) (shape DF (x.1,z0,()))) x.2.1 x.2.2.1) 7 (H2::dK::dK::wX::aQ::aQ::dn 37 ([])) (λN n x K=>xo N x.1 x.2.2.1 n (λz0=>K (.x 2) (shape DE (x.1,z0,x.2.2.1,()))) x.2.1 x.2.2.2.1) [(7,4,DE),(3,2,DF)] ⟨oq,trivial⟩
noncomputable def QH:CE:=⟨26,[.val,.val],[tq,Lh],λN x kf=>dY N x.1 x.2.1 (fw .str .k kf)⟩
theorem ac8:QH.ok:=qp Tryz.f26 [[ED],[vz],[G5],[G6],[uX],[Jc],[OK],[w5],[MP],[KB],[MR]] ⟨ML,DA,Se,Sf,zi,UG,aaf,FM,YV,W6,YX,trivial⟩
noncomputable def CI:CE:=⟨183,[.val,.val,.val],[zR,lH,dG],λN x kf=>PU N x.1 x.2.1 x.2.2.1 (fw (.sl (.int .i64)) vu kf)⟩
def CJ:List Kd:=(dn 7 (lM::dn 27 ([])))
theorem W7:CI.ok:=o9 Tryz.f183 [[o8],[gT]] 4 (dK::kj::dn 5 (lM::lM::aQ::dn 25 ([]))) (λN n x K=>vQ N x.1 x.2.2.1 n (λz0=>K (.x 0) (shape CJ (z0,()))) x.2.1 x.2.2.2.1) [(4,2,CJ)] ⟨xV,kE,trivial⟩
def YY:List Kd:=dK::kj::dK::Ca::dn 3 (lM::aQ::dn 17 ([]))
def ZM:List Kd:=dn 26 ([])
def ZN:List Kd:=dn 6 (jA::dn 19 ([]))
def atK:Hint:={ tab,hn:=[],loops:=[(3,YY)],outs:=[(3,2,ZM),(3,1,ZN)],dt:=[(5,(OT.seq [0,1,2,3,4,5,6,7] .done))] }
def ac9:List AK:=[zR,lH,dG]
noncomputable def atL (N:Nat) (x:fu ac9) (kf:iI->aa):aa:=S61 N x.1 x.2.1 x.2.2.1 (λr0=>kf ⟨[⟨.bool,.k,r0⟩],[]⟩)
noncomputable def aaz (N:Nat):=c9 ac9 (atL N)
def UI:List Kd:=dK::kj::dK::Ca::dn 3 (lM::aQ::dn 29 ([]))
def W8:List Kd:=dn 38 ([])
def W9:List Kd:=dn 6 (aQ::dn 31 ([]))
def al':Hint:={ tab,hn:=[],loops:=[(3,UI)],outs:=[(3,2,W8),(3,1,W9)],dt:=[(5,(OT.seq [2,4,5,6,10,11,12] (.par [0,1,3,7,8,9,13] [[20],[3,19],[19],[26],[32],[20,21,22],[26,27],[20,21,22,26,27,28]] (OT.seq [14] .done))))] }
def agK:List AK:=[zR,lH,dG]
noncomputable def atM (N:Nat) (x:fu agK) (kf:iI->aa):aa:=aBI N x.1 x.2.1 x.2.2.1 (λr0=>kf ⟨[⟨(.int .i64),.k,r0⟩],[]⟩)
noncomputable def ajL (N:Nat):=c9 agK (atM N)
def anM (N:Nat):List Entry:=[⟨183,[.val,.val,.val],(c9 CI.l (CI.F N))⟩,⟨61,[.val,.val,.val],(aaz N)⟩]
def YZ:Code:=iw Tryz.f119
noncomputable def ama (N n:Nat) (key:Nat) (S:St) (K:Ks):aa:=bif Nat.beq key 3 then wA UI S (λx=>afU (S61 N) x.1 x.2.1 x.2.2.1 n (K (.x 0) (shape W8 ())) (λz0=>K .r (shape W9 (z0,()))) x.2.2.2.1) else none
theorem av4 (N key:Nat) (S:St) (K:Ks):ama N 0 key S K=none:=(afJ (xk λ_=>rfl) rfl)
def ajM:Code:=(cR YZ).getD 0 .skip
theorem av5:cR YZ=[ajM]:=by kernel_rfl
theorem apl (N:Nat):RdT al' (anM N) (ama N) N 3 UI ajM:=λ_ _ _=>by kernel_rfl
theorem av6 (N:Nat):FnT agK (atM N) al' (anM N) (ama N N) Tryz.f119:=λ_ _=>by kernel_rfl
theorem atN {Γ:Gl} (AR:si Γ) (N:Nat) (hA:Sound Γ Tryz.prog 61 (aaz N)):Sound Γ Tryz.prog 119 (ajL N):=sdk al' Tryz.f119 YZ (av4 N) av5 (av6 N) (rc (apl N) trivial) ⟨W7 AR N,⟨hA,trivial⟩⟩
def amb (N:Nat):List Entry:=[⟨118,[.val,.val],(c9 o8.l (o8.F N))⟩,⟨119,[.val,.val,.val],(ajL N)⟩]
def ac':Code:=iw Tryz.f61
noncomputable def anN (N n:Nat) (key:Nat) (S:St) (K:Ks):aa:=bif Nat.beq key 3 then wA YY S (λx=>ak1 (aBI N) x.1 x.2.1 x.2.2.1 n (K (.x 0) (shape ZM ())) (λz0=>K .r (shape ZN (z0,()))) x.2.2.2.1) else none
theorem az' (N key:Nat) (S:St) (K:Ks):anN N 0 key S K=none:=(afJ (xk λ_=>rfl) rfl)
def anO:Code:=(cR ac').getD 0 .skip
theorem aAa:cR ac'=[anO]:=by kernel_rfl
theorem atO (N:Nat):RdT atK (amb N) (anN N) N 3 YY anO:=λ_ _ _=>by kernel_rfl
theorem aAb (N:Nat) (x:fu ac9) (kf:iI->aa):atL (N+1) x kf=tU atK (va.of (amb N)) (anN N N) Tryz.f61 (jD ac9 x) kf:=by kernel_rfl
theorem atP {Γ:Gl} (AR:si Γ):∀ N:Nat,Sound Γ Tryz.prog 61 (aaz N)
 |0=>wB λal kf=>by unfold aaz c9;split<;>rfl
 |N+1=>qn (hh:=atK) mixed vt (es:=amb N) ⟨xV AR N,⟨atN AR N (atP AR N),trivial⟩⟩ (fn:=Tryz.f61) (body:=ac') (by kernel_rfl) (by kernel_rfl) (by kernel_rfl) (by kernel_rfl) (by kernel_rfl) (Lf:=anN N) (az' N) aAa (rc (atO N) trivial) (N:=N) (by kernel_rfl) (aAb N) (.inl (by kernel_rfl))
noncomputable def atQ:CE:=⟨61,[.val,.val,.val],ac9,atL⟩
theorem aAc:atQ.ok:=λh N=>atP h N
noncomputable def QI:CE:=⟨27,[.val,.val],[zR,dG],λN x kf=>tI N x.1 x.2.1 (fw .bool .k kf)⟩
theorem ada:QI.ok:=qp Tryz.f27 [[qN],[fH],[atQ]] ⟨uY,gA,aAc,trivial⟩
noncomputable def Hc:CE:=⟨10,[.val,.val],[tq,Lh],λN x kf=>jk N x.1 x.2.1 (Rt TN Gy .str .k kf)⟩
theorem Si:Hc.ok:=qp Tryz.f10 [[ME],[gJ],[FA],[Cg],[mB],[MF],[QA],[OE],[MH],[Jb],[OJ],[Gz],[QH],[w5],[QI]] ⟨YJ,iZ,Qy,Kl,oq,YK,ac1,aaa,YM,UF,aae,OD,ac8,FM,ada,trivial⟩ (dt:=[(21,(OT.seq [0,2,3,4,5,1,6,7,8] .done)),(23,(OT.seq [0,3,4,5,1,2,6,7,8,9] .done))])
noncomputable def zV:CE:=⟨4,[.val],[Lh],λN x kf=>uP N x.1 (Rt (.sl .str) avU .bool .k kf)⟩
def Ay:List Kd:=(dn 4 (B'::dn 70 ([])))
def yz:List Kd:=(dn 8 (B'::dn 66 ([])))
theorem UJ:zV.ok:=eK2 Tryz.f4 [[Gz],[Hc]] 4 (wX::dn 3 (B'::aQ::aQ::dn 68 ([]))) (λN n x K=>fk x.1 n (λz0=>K (.x 0) (shape Ay (z0,()))) x.2.1 x.2.2.1 x.2.2.2.1) 15 (dn 4 (B'::dK::dK::AP::B'::aQ::dn 65 ([]))) (λN n x K=>jI N x.1 n (λz0=>K (.x 2) (shape yz (z0,()))) x.2.1 x.2.2.1 x.2.2.2.1) [(4,2,Ay),(15,4,yz)] ⟨OD,Si,trivial⟩ (dt:=[(17,(OT.seq [0,1,2,3,4] (.par [5,6,7,8,9] [[10]] (OT.seq [10,11] .done))))])
end Go.Pv.R
