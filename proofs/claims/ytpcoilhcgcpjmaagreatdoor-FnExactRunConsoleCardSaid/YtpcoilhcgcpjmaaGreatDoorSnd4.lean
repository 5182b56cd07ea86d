/- Each function of the program that the law reaches computes its plain function, part 4. -/
import Derived.Test.YtpcoilhcgcpjmaaGreatDoorSnd3
import Derived.Test.YtpcoilhcgcpjmaaGreatDoorProg
set_option linter.unusedVariables false
noncomputable section
namespace Go.Pv.R
open List Int IntKind
open Go.Proofs
set_option maxRecDepth 100000
noncomputable def KM:CE:=⟨80,[.val],[tq],λN x kf=>wO N x.1 (Rt TN Gy .bool .k kf)⟩
def CX:List Kd:=(dK::wW::AP::dK::AP::dn 104 ([]))
def CY:List Kd:=(dK::dK::AP::jA::dn 105 ([]))
theorem Xt:KM.ok:=o9 Tryz.f80 [[tx],[ou],[uZ],[ir],[M1],[KL],[zm],[agX],[agZ],[oV]] 5 (dK::wW::AP::dK::AP::dn 25 (S7::aQ::aQ::dn 76 ([]))) (λN n x K=>mn N x.1 x.2.1 x.2.2.2.1 x.2.2.2.2.1 n (λz0=>K (.x 0) (shape CX (x.1,x.2.1,z0,()))) (λz0 z1=>K .r (shape CY (z0,z1,()))) x.2.2.1 x.2.2.2.2.2.1) [(5,2,CX),(5,1,CY)] ⟨w7,ry,zn,kd,Y9,Xs,GG,an3,an4,qO,trivial⟩ (dt:=[(8,(OT.seq [0,1,2,3,4,5,6,9,10,11,12,7,8,13,14,15,17,16,18,19] .done)),(11,(OT.seq [0,1,2,3,4,5,6,7,8] .done)),(12,(OT.seq [0,1,2,3,4,5,6,7,8,9,10,11,12] .done)),(14,(OT.seq [3,0,2] (.par [1,4] [[4,86,87]] (OT.seq [5,6,7] .done))))])
def auo:Go.Shelf.Ren:=⟨λn=>bif Nat.beq n 45 then 143 else n,λn=>bif Nat.beq n 0 then 0 else bif Nat.beq n 3 then 3 else bif Nat.beq n 4 then 4 else bif Nat.beq n 22 then 28 else bif Nat.beq n 23 then 106 else n,λn=>n⟩
def awK:Array Value:=#[.int .i64 0,.int .i64 0,.int .i64 0,.int .i64 0,.int .i64 0,.slice none 0 0]
noncomputable def awL:TypeInfo:=(Tryz.prog.info? 106).get (by kernel_rfl)
theorem aup:axI Tryz.prog auo (Q5).size awK awL:={ FB:=⟨Tryz.f143.name,by kernel_rfl,by kernel_rfl⟩,mixed:=by kernel_rfl,t0:=by kernel_rfl,a0:=λw=>by kernel_rfl,z0:=λw=>by kernel_rfl,v0:=λw=>by kernel_rfl,t3:=by kernel_rfl,a3:=λw=>by kernel_rfl,z3:=λw=>by kernel_rfl,v3:=λw=>by kernel_rfl,t4:=by kernel_rfl,a4:=λw=>by kernel_rfl,z4:=λw=>by kernel_rfl,v4:=λw=>by kernel_rfl,t22:=by kernel_rfl,a22:=λw=>by kernel_rfl,z22:=λw=>by kernel_rfl,v22:=λw=>by kernel_rfl,z23:=λw=>by kernel_rfl,v23:=λw=>by kernel_rfl,hz:=by kernel_rfl,hzo:=by kernel_rfl,hi0:=by kernel_rfl,hz1:=by kernel_rfl }
def ag0:List AK:=[.v (.sl Q5) adN,dG,dG]
noncomputable def auq (N:Nat) (x:fu ag0) (kf:iI->aa):aa:=aze N x.1 x.2.1 x.2.2.1 (λr0=>kf ⟨[⟨(.sl Q5),adN,r0⟩],[]⟩)
noncomputable def aur (N:Nat):=c9 ag0 (auq N)
theorem awM {Γ:Gl} (AR:si Γ) (N:Nat):Sound Γ Tryz.prog 143 (aur N):=agA aup 106 anA (by kernel_rfl)
noncomputable def an5:CE:=⟨143,[.take,.val,.val],ag0,auq⟩
theorem awN:an5.ok:=λh N=>awM h N
noncomputable def KN:CE:=⟨81,[.val,.val],[tq,dG],λN x kf=>wP N x.1 x.2.1 (Rt TN Gy .bool .k kf)⟩
theorem Xu:KN.ok:=qp Tryz.f81 [[ir],[jw],[ou],[an5],[oV]] ⟨kd,lC,ry,awN,qO,trivial⟩
noncomputable def OQ:CE:=⟨34,[.val,.val,.val],[tq,Lh,lH],λN x kf=>jr N x.1 x.2.1 x.2.2.1 (rk3 TN .k .bool .k .bool .k kf)⟩
theorem aak:OQ.ok:=qp Tryz.f34 [[GF],[MW],[KJ],[MZ],[Ju],[KM],[KN]] ⟨OM,Y3,Xj,Y7,UR,Xt,Xu,trivial⟩ (dt:=[(7,(OT.seq [0,1,2,3,4,5,6,7,8,9,10,11,12] .done)),(9,(OT.seq [0,1,2,3,4,5,6,7,8,9,10,11,12] .done)),(13,(OT.seq [0,1,2,3,4,5,6,7,8,9,10,11,12,13,14,15] .done)),(17,(OT.seq [0,1,2,3,4,5,6,7,8,9] .done))]) (F5:=[(0,[(7,[]),(8,[])]),(3,[(6,[.deref]),(7,[]),(8,[])]),(18,[(6,[.deref]),(7,[]),(8,[])])])
def aj0:Go.Shelf.Ren:=⟨λn=>bif Nat.beq n 156 then 152 else bif Nat.beq n 165 then 222 else bif Nat.beq n 166 then 223 else bif Nat.beq n 169 then 224 else bif Nat.beq n 240 then 270 else bif Nat.beq n 241 then 271 else bif Nat.beq n 276 then 294 else bif Nat.beq n 277 then 295 else n,λn=>bif Nat.beq n 0 then 0 else bif Nat.beq n 3 then 3 else bif Nat.beq n 4 then 4 else bif Nat.beq n 5 then 5 else bif Nat.beq n 9 then 9 else bif Nat.beq n 20 then 20 else bif Nat.beq n 31 then 22 else bif Nat.beq n 37 then 69 else bif Nat.beq n 70 then 184 else bif Nat.beq n 72 then 186 else bif Nat.beq n 75 then 189 else bif Nat.beq n 76 then 190 else bif Nat.beq n 80 then 192 else bif Nat.beq n 127 then 224 else bif Nat.beq n 164 then 240 else n,λn=>n⟩
theorem apu:Lays.n156 Tryz.prog aj0:=by repeat' first |kernel_rfl |(intro _;kernel_rfl) |constructor
theorem apv:Builder.Extra Tryz.prog aj0:={ sizeBuilder:=by kernel_rfl,liesBuilder:=by kernel_rfl,t5:=by kernel_rfl,a5:=λw=>by kernel_rfl,z5:=λw=>by kernel_rfl,v5:=λw=>by kernel_rfl,infoByte:=by kernel_rfl,cellsByte:=by kernel_rfl,sizeByte:=by kernel_rfl,neB5:=by decide }
def ag3:List AK:=[ajE,Lh]
noncomputable def aus (N:Nat) (x:fu ag3) (kf:iI->aa):aa:=avl N x.1 x.2.1 (λr0=>kf ⟨[⟨.str,.k,r0⟩],[]⟩)
noncomputable def aut (N:Nat):=c9 ag3 (aus N)
theorem awO {Γ:Gl} (AR:si Γ) (N:Nat):Sound Γ Tryz.prog 152 (aut N):=alV apu apv
noncomputable def ag4:CE:=⟨152,[.val,.val],ag3,aus⟩
theorem an6:ag4.ok:=λh N=>awO h N
noncomputable def CZ:CE:=⟨144,[.val],[ajE],λN x kf=>tL N x.1 (fw .str .k kf)⟩
theorem Jw:CZ.ok:=qp Tryz.f144 [[ag4]] ⟨an6,trivial⟩
noncomputable def vC:CE:=⟨82,[.val],[lH],λN x kf=>gz N x.1 (fw .str .k kf)⟩
def w8:List Kd:=(dn 3 (B'::dn 17 ([])))
theorem DR:vC.ok:=o9 Tryz.f82 [[ot],[CZ]] 3 (dn 3 (B'::dn 3 (kj::aQ::aQ::dn 11 ([])))) (λN n x K=>ig N x.2.1 x.2.2.1 n (λz0=>K (.x 0) (shape w8 (z0,()))) x.1 x.2.2.2.1) [(3,2,w8)] ⟨rv,Jw,trivial⟩
noncomputable def Hp:CE:=⟨84,[.val],[wh],λN x kf=>s5 N x.1 (fw .str .k kf)⟩
def yF:List Kd:=(dn 3 (B'::dn 34 ([])))
theorem Sn:Hp.ok:=o9 Tryz.f84 [[ot],[CZ]] 3 (dn 3 (B'::dn 3 (vw::aQ::aQ::dn 28 ([])))) (λN n x K=>jL N x.2.1 x.2.2.1 n (λz0=>K (.x 0) (shape yF (z0,()))) x.1 x.2.2.2.1) [(3,2,yF)] ⟨rv,Jw,trivial⟩ (dt:=[(5,(OT.seq [0,1,2,5,6,10,11,12,16,17,3,4,7,8,9,13,14,15,18,19,20,21,22] .done))])
noncomputable def Hq:CE:=⟨85,[.val,.val],[acX,lH],λN x kf=>s6 N x.1 x.2.1 (fw .str .k kf)⟩
def yG:List Kd:=(dn 5 (B'::dn 37 ([])))
theorem Sp:Hq.ok:=o9 Tryz.f85 [[ot],[CZ]] 3 (dK::kj::dn 3 (B'::dn 4 (S7::aQ::aQ::dn 30 ([])))) (λN n x K=>gZ N x.1 x.2.2.1 x.2.2.2.1 n (λz0=>K (.x 0) (shape yG (z0,()))) x.2.1 x.2.2.2.2.1) [(3,2,yG)] ⟨rv,Jw,trivial⟩ (dt:=[(8,(OT.seq [0,1,2,5,6,10,3,4,7,8,9,11,12,13,14] .done))])
noncomputable def Jx:CE:=⟨87,[.val],[tq],λN x kf=>za N x.1 (fw .str .k kf)⟩
theorem US:Jx.ok:=qp Tryz.f87 [[uZ],[vC]] ⟨zn,DR,trivial⟩ (dt:=[(1,(OT.seq [0,1,2,3,4,5,6,7,8,9,12,13,14,15,16,10,11,17,18,19] .done))])
noncomputable def FY:CE:=⟨89,[],[],λN x kf=>oh N (fw Q6 .k kf)⟩
theorem QO:FY.ok:=qp Tryz.f89 [] trivial (F5:=[(1,[(0,[.deref])])])
noncomputable def u5:CE:=⟨158,[.val,.val],[zR,dG],λN x kf=>ur N x.1 x.2.1 (fw .bool .k kf)⟩
theorem zo:u5.ok:=qp Tryz.f158 [[fI]] ⟨gK,trivial⟩
noncomputable def vD:CE:=⟨227,[.val,.val],[lH,lH],λN x kf=>zF N x.1 x.2.1 (fw (.int .i64) .k kf)⟩
def w9:List Kd:=(kj::kj::dn 34 ([]))
def xa:List Kd:=(dn 4 (aQ::dn 31 ([])))
theorem DS:vD.ok:=o9 Tryz.f227 [[zY]] 2 (kj::kj::dn 7 (kj::aQ::aQ::dn 24 ([]))) (λN n x K=>vo N x.1 x.2.1 x.2.2.1 x.2.2.2.1 n (K (.x 0) (shape w9 (x.1,x.2.1,()))) (λz0=>K .r (shape xa (z0,()))) x.2.2.2.2.1) [(2,2,w9),(2,1,xa)] ⟨Jp,trivial⟩
noncomputable def oW:CE:=⟨157,[.val],[zR],λN x kf=>rk N x.1 (fw .bool .k kf)⟩
def FZ:List Kd:=(dn 52 ([]))
def F0:List Kd:=(dK::dK::jA::dn 49 ([]))
theorem qP:oW.ok:=o9 Tryz.f157 [[fI],[u5],[vD]] 4 (dK::Ca::dn 8 (H2::aQ::aQ::dn 39 ([]))) (λN n x K=>zb N x.1 x.2.1 x.2.2.1 n (K (.x 0) (shape FZ ())) (λz0=>K .r (shape F0 (z0,()))) x.2.2.2.1) [(4,2,FZ),(4,1,F0)] ⟨gK,zo,DS,trivial⟩ (dt:=[(6,(OT.seq [0,1,2,3,4,5,6,7,8,9,10,11,12,13,14,15,16,17,18,19,20,21,22,23,24,25,26,27,28,29,30,31,32,33] .done))])
noncomputable def E8:CE:=⟨268,[.val,.val],[zR,lH],λN x kf=>NW N x.1 x.2.1 (fw .bool .k kf)⟩
def Jy:List Kd:=(dn 35 ([]))
def Jz:List Kd:=(dn 4 (jA::dn 30 ([])))
theorem Lo:E8.ok:=o9 Tryz.f268 [[oW],[u5]] 4 (dK::kj::Ca::dn 7 (kj::aQ::aQ::dn 22 ([]))) (λN n x K=>E3 N x.1 x.2.1 x.2.2.1 x.2.2.2.1 n (K (.x 0) (shape Jy ())) (λz0=>K .r (shape Jz (z0,()))) x.2.2.2.2.1) [(4,2,Jy),(4,1,Jz)] ⟨qP,zo,trivial⟩
noncomputable def KO:CE:=⟨312,[.val,.val],[zR,dG],λN x kf=>PY N x.1 x.2.1 (fw (.sl (.int .i64)) vu kf)⟩
def C0:List Kd:=(dn 5 (lM::dn 27 ([])))
theorem Xv:KO.ok:=o9 Tryz.f312 [[oW]] 5 (dK::aQ::dn 3 (lM::dn 8 (H2::aQ::aQ::dn 16 ([])))) (λN n x K=>vT x.1 x.2.2.1 x.2.2.2.1 n (λz0=>K (.x 0) (shape C0 (z0,()))) x.2.1 x.2.2.2.2.1) [(5,2,C0)] ⟨qP,trivial⟩
noncomputable def Lp:CE:=⟨293,[.val,.val],[zR,lH],λN x kf=>TY N x.1 x.2.1 (fw (.sl (.int .i64)) vu kf)⟩
def JA:List Kd:=(dn 5 (lM::dn 19 ([])))
theorem Tg:Lp.ok:=o9 Tryz.f293 [[KO],[agX],[agZ]] 3 (dK::dK::Ca::dK::dK::lM::dn 3 (kj::aQ::aQ::dn 13 ([]))) (λN n x K=>Lb N x.1 x.2.2.1 x.2.2.2.1 n (λz0=>K (.x 0) (shape JA (z0,()))) x.2.1 x.2.2.2.2.1) [(3,2,JA)] ⟨Xv,an3,an4,trivial⟩
noncomputable def sH:CE:=⟨230,[.val,.val],[zR,dG],λN x kf=>xu N x.1 x.2.1 (fw (.sl (.int .i64)) vu kf)⟩
def yH:List Kd:=(dn 5 (lM::dn 27 ([])))
theorem Hr:sH.ok:=o9 Tryz.f230 [[oW]] 5 (dK::aQ::dn 3 (lM::dn 8 (H2::aQ::aQ::dn 16 ([])))) (λN n x K=>sC x.1 x.2.2.1 x.2.2.2.1 n (λz0=>K (.x 0) (shape yH (z0,()))) x.2.1 x.2.2.2.2.1) [(5,2,yH)] ⟨qP,trivial⟩
noncomputable def OR:CE:=⟨269,[.val,.val,.val],[zR,lH,dG],λN x kf=>VP N x.1 x.2.1 x.2.2.1 (fw .bool .k kf)⟩
def F3:List Kd:=(dn 36 ([]))
def F4:List Kd:=(dn 6 (jA::dn 29 ([])))
theorem aal:OR.ok:=o9 Tryz.f269 [[E8],[u5],[Lp],[sH],[eB]] 5 (dn 7 (lM::dn 17 (lM::aQ::aQ::dn 8 ([])))) (λN n x K=>Gh N x.1 x.2.1 x.2.2.1 n (K (.x 0) (shape F3 ())) (λz0=>K .r (shape F4 (z0,()))) x.2.2.2.1) [(5,2,F3),(5,1,F4)] ⟨Lo,zo,Tg,Hr,gB,trivial⟩
noncomputable def z6:CE:=⟨220,[.val,.val],[zR,lH],λN x kf=>Gi N x.1 x.2.1 (fw (.sl (.int .i64)) vu kf)⟩
def AG:List Kd:=(dn 5 (lM::dn 22 ([])))
theorem JB:z6.ok:=o9 Tryz.f220 [[E8],[OR]] 5 (dK::kj::Ca::dK::dK::lM::dn 8 (aQ::aQ::dn 12 ([]))) (λN n x K=>uu N x.1 x.2.1 x.2.2.2.1 n (λz0=>K (.x 0) (shape AG (z0,()))) x.2.2.1 x.2.2.2.2.1) [(5,2,AG)] ⟨Lo,aal,trivial⟩
noncomputable def xX:CE:=⟨221,[.val,.val],[lH,lH],λN x kf=>Ej N x.1 x.2.1 (fw .bool .k kf)⟩
def yI:List Kd:=(dn 26 ([]))
def yJ:List Kd:=(dn 4 (jA::dn 21 ([])))
theorem Hs:xX.ok:=o9 Tryz.f221 [] 4 (kj::kj::dn 10 (aQ::aQ::dn 12 ([]))) (λN n x K=>xT x.1 x.2.1 x.2.2.1 n (K (.x 0) (shape yI ())) (λz0=>K .r (shape yJ (z0,()))) x.2.2.2.1) [(4,2,yI),(4,1,yJ)] trivial (dt:=[(6,(OT.seq [0,1,2,3,4,5,6,7,8] .done))])
noncomputable def QP:CE:=⟨151,[.val],[zR],λN x kf=>ZA N x.1 (fw (.sl (.sl (.int .i64))) atC kf)⟩
def Ht:List Kd:=(dK::dK::MD::dn 26 ([]))
theorem adm:QP.ok:=o9 Tryz.f151 [[oW],[z6],[xX]] 4 (dK::Ca::dK::MD::dn 25 ([])) (λN n x K=>II N x.1 n (λz0=>K .r (shape Ht (z0,()))) x.2.1) [(4,1,Ht)] ⟨qP,JB,Hs,trivial⟩ (hn:=[(6,.k)]) (F5:=[(5,[(5,[])])])
noncomputable def M3:CE:=⟨88,[.val],[zR],λN x kf=>SR N x.1 (fw (.sl (.int .i64)) .k kf)⟩
theorem Y':M3.ok:=qp Tryz.f88 [[QP]] ⟨adm,trivial⟩ (F5:=[(0,[(2,[])]),(2,[(2,[])])])
noncomputable def QQ:CE:=⟨272,[.val,.val],[zR,lH],λN x kf=>ZB N x.1 x.2.1 (fw .bool .k kf)⟩
def Hu:List Kd:=(dn 23 ([]))
def Hv:List Kd:=(dn 4 (jA::dn 18 ([])))
theorem adn:QQ.ok:=o9 Tryz.f272 [[E8],[Lp],[eB]] 4 (dK::kj::dn 11 (lM::aQ::aQ::dn 7 ([]))) (λN n x K=>IJ N x.1 x.2.1 x.2.2.1 n (K (.x 0) (shape Hu ())) (λz0=>K .r (shape Hv (z0,()))) x.2.2.2.1) [(4,2,Hu),(4,1,Hv)] ⟨Lo,Tg,gB,trivial⟩
noncomputable def JC:CE:=⟨225,[.val,.val],[zR,lH],λN x kf=>Om N x.1 x.2.1 (fw .bool .k kf)⟩
theorem UT:JC.ok:=qp Tryz.f225 [[QQ],[z6],[xX]] ⟨adn,JB,Hs,trivial⟩
noncomputable def gL:CE:=⟨296,[.OU,.val,.val,.val],[atE,dG,dG,.fn 227 []],λN x kf=>iA N x.1 x.2.1 x.2.2.1 (λz=>kf ⟨[],[⟨(.sl (.sl (.int .i64))),ajD,z⟩]⟩)⟩
def fx:List Kd:=(afd::aQ::aQ::.EL 227 []::dn 4 (aQ::dn 44 ([])))
def fy:List Kd:=(afd::dn 52 ([]))
theorem oX:gL.ok:=eK2 Tryz.f296 [[vD]] 1 (afd::aQ::aQ::.EL 227 []::dn 4 (aQ::dn 44 ([]))) (λN n x K=>ef N x.2.1 x.2.2.1 n (λz0=>K (.x 0) (shape fy (z0,()))) x.1 x.2.2.2.2.1) 4 (afd::aQ::aQ::.EL 227 []::dn 4 (aQ::aQ::dn 43 ([]))) (λN n x K=>ee N x.2.1 x.2.2.1 x.2.2.2.2.1 n (λz0=>K (.x 2) (shape fx (z0,x.2.1,x.2.2.1,(),x.2.2.2.2.1,()))) x.1 x.2.2.2.2.2.1) [(4,4,fx),(1,2,fy)] ⟨DS,trivial⟩ (dt:=[(4,(OT.seq [0,1,2,3,4,5,6,7,8,9,10,11,12,13,14,15,16] .done)),(6,(OT.seq [0,1,5,6,7,8,9,10,11,12,13,14,2,3,4,15,16,17] .done))]) (pK:=some (0,false))
noncomputable def jB:CE:=⟨273,[.OU,.val,.val,.val,.val],[atE,dG,dG,dG,.fn 227 []],λN x kf=>kK N x.1 x.2.1 x.2.2.1 x.2.2.2.1 (λz=>kf ⟨[],[⟨(.sl (.sl (.int .i64))),ajD,z⟩]⟩)⟩
def hJ:List Kd:=(afd::dn 147 ([]))
theorem qC:jB.ok:=o9 Tryz.f273 [[gL]] 2 (afd::aQ::aQ::aQ::.EL 227 []::dn 5 (jA::jA::dn 136 ([]))) (λN n x K=>jz N x.1 x.2.1 x.2.2.1 x.2.2.2.1 x.2.2.2.2.2.1 x.2.2.2.2.2.2.1 n (λz0=>K .r (shape hJ (z0,())))) [(2,1,hJ)] ⟨oX,trivial⟩ (pK:=some (0,false))
noncomputable def mE:CE:=⟨226,[.OU,.val],[atE,.fn 227 []],λN x kf=>nD N x.1 (λz=>kf ⟨[],[⟨(.sl (.sl (.int .i64))),ajD,z⟩]⟩)⟩
theorem uG:mE.ok:=qp Tryz.f226 [[EH],[jB]] ⟨MX,qC,trivial⟩ (pK:=some (0,false))
noncomputable def Hw:CE:=⟨153,[.val],[zR],λN x kf=>Mi N x.1 (fw (.sl (.sl (.int .i64))) atC kf)⟩
def yK:List Kd:=(dK::Ca::dK::MD::dK::lM::dn 8 (aQ::aQ::dn 29 ([])))
def yL:List Kd:=(dn 3 (MD::dn 41 ([])))
theorem Sq:Hw.ok:=eK2 Tryz.f153 [[oW],[JC],[mE]] 5 (dK::Ca::dK::MD::dn 10 (aQ::aQ::dn 29 ([]))) (λN n x K=>sE N x.1 x.2.2.1 n (λz0=>K (.x 0) (shape yL (z0,()))) x.2.1 x.2.2.2.1) 9 (dK::Ca::dK::MD::aQ::lM::dn 8 (aQ::aQ::dn 4 (aQ::aQ::dn 23 ([])))) (λN n x K=>sD x.1 x.2.1 x.2.2.1 x.2.2.2.2.1 x.2.2.2.2.2.1 x.2.2.2.2.2.2.1 n (λz0=>K (.x 2) (shape yK (x.1,x.2.1,z0,x.2.2.2.2.1,x.2.2.2.2.2.1,()))) x.2.2.2.1 x.2.2.2.2.2.2.2.1) [(9,4,yK),(5,2,yL)] ⟨qP,UT,uG,trivial⟩ (F5:=[(14,[(5,[])])])
noncomputable def M4:CE:=⟨156,[.val,.val],[lH,lH],λN x kf=>SS N x.1 x.2.1 (fw .bool .k kf)⟩
def DT:List Kd:=(dn 18 ([]))
def DU:List Kd:=(dn 4 (jA::dn 13 ([])))
theorem Za:M4.ok:=o9 Tryz.f156 [[eB]] 2 (dK::kj::dn 5 (kj::aQ::aQ::dn 8 ([]))) (λN n x K=>El N x.1 x.2.1 x.2.2.1 n (K (.x 0) (shape DT ())) (λz0=>K .r (shape DU (z0,()))) x.2.2.2.1) [(2,2,DT),(2,1,DU)] ⟨gB,trivial⟩
noncomputable def Hy:CE:=⟨155,[.val],[lH,.v (.ptr (.sl (.int .i64))) .k],λN x kf=>Mj N x.1 x.2.1 (fw .bool .k kf)⟩
theorem Sr:Hy.ok:=qp Tryz.f155 [[M4]] ⟨Za,trivial⟩
noncomputable def mU:CE:=⟨228,[.val,.val],[ajF,.fn 155 [(.ptr (.sl (.int .i64)))]],λN x kf=>nU N x.1 x.2.1.1 (fw (.int .i64) .k kf)⟩
def kF:List Kd:=(dn 19 ([]))
def kG:List Kd:=(dn 4 (aQ::dn 14 ([])))
theorem u6:mU.ok:=o9 Tryz.f228 [[Hy]] 2 (H2::.EL 155 [.kv (.ptr (.sl (.int .i64)))]::dn 5 (aQ::aQ::dn 10 ([]))) (λN n x K=>gH N x.1 x.2.1.1 x.2.2.1 n (K (.x 0) (shape kF ())) (λz0=>K .r (shape kG (z0,()))) x.2.2.2.1) [(2,2,kF),(2,1,kG)] ⟨Sr,trivial⟩
noncomputable def lD:CE:=⟨154,[.val,.val],[ajF,.fn 155 [(.ptr (.sl (.int .i64)))]],λN x kf=>mS N x.1 x.2.1.1 (fw .bool .k kf)⟩
theorem tz:lD.ok:=qp Tryz.f154 [[mU]] ⟨u6,trivial⟩
noncomputable def KP:CE:=⟨91,[.val],[zR],λN x kf=>IK N x.1 (fw (.sl (.sl (.int .i64))) atC kf)⟩
def C1:List Kd:=(dn 4 (MD::dn 21 ([])))
theorem Xw:KP.ok:=o9 Tryz.f91 [[Hw],[lD]] 3 (dn 3 (MD::MD::dn 5 (.al (.sl (.sl (.int .i64))) 3::aQ::aQ::dn 13 ([])))) (λN n x K=>vU N x.1 x.2.2.1 n (λz0=>K (.x 0) (shape C1 (z0,()))) x.2.1 x.2.2.2.1) [(3,2,C1)] ⟨Sq,tz,trivial⟩ (F5:=[(0,[(2,[])]),(8,[(2,[])])])
noncomputable def M5:CE:=⟨90,[.val],[ajF],λN x kf=>Ld N x.1 (fw .str .k kf)⟩
def DV:List Kd:=(dn 3 (wX::dK::dK::B'::dn 5 (H2::aQ::aQ::dn 24 ([]))))
def DW:List Kd:=(dn 3 (wX::dn 35 ([])))
theorem Zb:M5.ok:=eK2 Tryz.f90 [[ot],[ag4]] 5 (dn 3 (wX::dn 8 (H2::aQ::aQ::dn 24 ([])))) (λN n x K=>Eo N x.2.1 x.2.2.1 n (λz0=>K (.x 0) (shape DW (z0,()))) x.1 x.2.2.2.1) 9 (dn 3 (wX::dK::dK::B'::dn 5 (H2::aQ::aQ::dn 4 (kj::aQ::aQ::dn 17 ([]))))) (λN n x K=>Em N x.1 x.2.2.1 x.2.2.2.1 x.2.2.2.2.1 x.2.2.2.2.2.1 x.2.2.2.2.2.2.1 n (λz0=>K (.x 2) (shape DV (x.1,z0,x.2.2.1,x.2.2.2.1,x.2.2.2.2.1,()))) x.2.1 x.2.2.2.2.2.2.2.1) [(9,4,DV),(5,2,DW)] ⟨rv,an6,trivial⟩
def QR:List Kd:=dK::aQ::dK::anF::Ca::dn 4 (anG::dK::dK::jA::dK::dK::jA::dn 15 (lM::aQ::aQ::dn 5 (lM::aQ::aQ::dn 26 ([]))))
def Th:List Kd:=dK::aQ::dK::anF::Ca::dn 4 (anG::dK::dK::jA::dK::dK::jA::dn 15 (lM::aQ::aQ::dn 34 ([])))
def UU:List Kd:=dK::aQ::dK::anF::Ca::dn 4 (anG::dK::dK::jA::dn 18 (lM::aQ::aQ::dn 34 ([])))
def Xx:List Kd:=dn 3 (anF::dn 5 (anG::dK::dK::jA::dn 55 ([])))
def ag5:Hint:={ tab,hn:=[],loops:=[(11,QR),(7,UU)],outs:=[(11,4,Th),(7,2,Xx)],dt:=[(13,(OT.seq [0,1,2,3,4,5,6,7,8,9,10,11,12,13,14] .done))],pK:=some (3,false) }
def Xy:List AK:=[zR,dG,dG,.v .mp (.o 149 (some 0) .k)]
noncomputable def aml (N:Nat) (x:fu Xy) (kf:iI->aa):aa:=asn N x.1 x.2.1 x.2.2.1 x.2.2.2.1 (λr0 z=>kf ⟨[⟨.bool,.k,r0⟩],[⟨.mp,(.o 149 (some 0) .k),z⟩]⟩)
noncomputable def ado (N:Nat):=c9 Xy (aml N)
def aaA (N:Nat):List Entry:=[⟨230,[.val,.val],(c9 sH.l (sH.F N))⟩,⟨159,[.val,.val,.val,.OU],(ado N)⟩]
def Ru:Code:=iw Tryz.f159
noncomputable def adp (N n:Nat) (key:Nat) (S:St) (K:Ks):aa:=bif Nat.beq key 7 then wA UU S (λx=>af' N (asn N) x.1 x.2.2.1 x.2.2.2.1 x.2.2.2.2.1 x.2.2.2.2.2.1 x.2.2.2.2.2.2.1 n (λz0 z1=>K (.x 0) (shape Xx (z0,x.2.2.2.1,z1,()))) x.2.1 x.2.2.2.2.2.2.2.1) else bif Nat.beq key 11 then wA QR S (λx=>VQ (asn N) x.1 x.2.2.1 x.2.2.2.1 x.2.2.2.2.1 x.2.2.2.2.2.1 x.2.2.2.2.2.2.1 x.2.2.2.2.2.2.2.1 x.2.2.2.2.2.2.2.2.1 x.2.2.2.2.2.2.2.2.2.1 x.2.2.2.2.2.2.2.2.2.2.1 n (λz0 z1=>K (.x 2) (shape Th (x.1,z0,x.2.2.1,x.2.2.2.1,x.2.2.2.2.1,z1,x.2.2.2.2.2.2.1,x.2.2.2.2.2.2.2.1,x.2.2.2.2.2.2.2.2.1,()))) x.2.1 x.2.2.2.2.2.2.2.2.2.2.2.1) else none
theorem awP (N key:Nat) (S:St) (K:Ks):adp N 0 key S K=none:=(afJ (xk λ_=>rfl) (afJ (xk λ_=>rfl) rfl))
def aj1:Code:=(cR Ru).getD 0 .skip
def aj2:Code:=(cR Ru).getD 1 .skip
theorem awQ:cR Ru=[aj1,aj2]:=by kernel_rfl
theorem amm (N:Nat):RdT ag5 (aaA N) (adp N) N 11 QR aj2:=λ_ _ _=>by kernel_rfl
theorem apw (N:Nat):RdT ag5 (aaA N) (adp N) N 7 UU aj1:=λ_ _ _=>by kernel_rfl
theorem awR (N:Nat) (x:fu Xy) (kf:iI->aa):aml (N+1) x kf=tU ag5 (va.of (aaA N)) (adp N N) Tryz.f159 (jD Xy x) kf:=by kernel_rfl
theorem an7 {Γ:Gl} (AR:si Γ):∀ N:Nat,Sound Γ Tryz.prog 159 (ado N)
 |0=>wB λal kf=>by unfold ado c9;split<;>rfl
 |N+1=>qn (hh:=ag5) mixed vt (es:=aaA N) ⟨Hr AR N,⟨an7 AR N,trivial⟩⟩ (fn:=Tryz.f159) (body:=Ru) (by kernel_rfl) (by kernel_rfl) (by kernel_rfl) (by kernel_rfl) (by kernel_rfl) (Lf:=adp N) (awP N) awQ (rc (apw N) (rc (amm N) trivial)) (N:=N) (by kernel_rfl) (awR N) (.inl (by kernel_rfl))
noncomputable def an8:CE:=⟨159,[.val,.val,.val,.OU],Xy,aml⟩
theorem awS:an8.ok:=λh N=>an7 h N
noncomputable def QS:CE:=⟨92,[.val,.val],[zR,dG],λN x kf=>Ak N x.1 x.2.1 (fw .bool .k kf)⟩
theorem adq:QS.ok:=qp Tryz.f92 [[oW],[u5],[an8]] ⟨qP,zo,awS,trivial⟩ (dt:=[(1,(OT.seq [0,1,2,3,4,5,6,7,8,9,10,11,12,13,14,15] .done))])
noncomputable def KQ:CE:=⟨160,[.val],[tq],λN x kf=>BR N x.1 (fw .bool .k kf)⟩
def C2:List Kd:=(dn 8 (vw::aQ::aQ::dn 17 ([])))
def C3:List Kd:=(dK::dK::jA::dn 25 ([]))
def C4:List Kd:=(dn 28 ([]))
def C5:List Kd:=(dK::dK::jA::dn 25 ([]))
theorem Xz:KQ.ok:=eK2 Tryz.f160 [[E7]] 2 (dn 8 (vw::aQ::aQ::dn 17 ([]))) (λN n x K=>mq N x.1 x.2.1 n (K (.x 0) (shape C4 ())) (λz0=>K .r (shape C5 (z0,()))) x.2.2.1) 5 (dn 4 (atF::dn 3 (vw::aQ::aQ::dn 4 (kj::aQ::aQ::dn 10 ([]))))) (λN n x K=>j9 N x.1 x.2.1 x.2.2.1 x.2.2.2.1 x.2.2.2.2.1 x.2.2.2.2.2.1 n (K (.x 2) (shape C2 (x.2.1,x.2.2.1,x.2.2.2.1,()))) (λz0=>K .r (shape C3 (z0,()))) x.2.2.2.2.2.2.1) [(5,4,C2),(5,1,C3),(2,2,C4),(2,1,C5)] ⟨Ln,trivial⟩
noncomputable def Hz:CE:=⟨161,[.val],[tq],λN x kf=>xv N x.1 (fw .bool .k kf)⟩
def yM:List Kd:=(dn 42 ([]))
def yN:List Kd:=(dK::dK::jA::dn 39 ([]))
theorem Ss:Hz.ok:=o9 Tryz.f161 [[zm],[tu]] 2 (dK::wW::dn 5 (S7::aQ::aQ::dn 32 ([]))) (λN n x K=>jM N x.1 x.2.1 x.2.2.1 n (K (.x 0) (shape yM ())) (λz0=>K .r (shape yN (z0,()))) x.2.2.2.1) [(2,2,yM),(2,1,yN)] ⟨GG,EF,trivial⟩ (dt:=[(6,(OT.seq [0,1,2,3,4,5,6,7,8] .done)),(7,(OT.seq [0,1,2,3,4,5,6,7,8,9,10,11,12,13] .done))])
noncomputable def KR:CE:=⟨162,[.val],[tq],λN x kf=>BS N x.1 (fw .bool .k kf)⟩
def C6:List Kd:=(dK::wW::dK::aQ::dn 37 ([]))
theorem XA:KR.ok:=o9 Tryz.f162 [[uZ],[uD],[fI]] 3 (dK::wW::dK::aQ::dn 13 (anE::aQ::aQ::dn 21 ([]))) (λN n x K=>ka x.1 x.2.2.1 x.2.2.2.1 n (λz0=>K (.x 0) (shape C6 (x.1,z0,()))) x.2.1 x.2.2.2.2.1) [(3,2,C6)] ⟨zn,zX,gK,trivial⟩ (dt:=[(1,(OT.seq [0,1,2,3,4,5,6,7,8,9,10] .done))])
noncomputable def KT:CE:=⟨163,[.val],[tq],λN x kf=>BT N x.1 (fw .bool .k kf)⟩
def C7:List Kd:=(dK::wW::dK::aQ::aQ::aQ::dn 38 ([]))
theorem XB:KT.ok:=o9 Tryz.f163 [[gU]] 3 (dK::wW::dK::aQ::aQ::aQ::dn 3 (vw::aQ::aQ::dn 32 ([]))) (λN n x K=>mr x.1 x.2.2.2.2.1 x.2.2.2.2.2.1 n (λz0 z1 z2=>K (.x 0) (shape C7 (x.1,z0,z1,z2,()))) x.2.1 x.2.2.1 x.2.2.2.1 x.2.2.2.2.2.2.1) [(3,2,C7)] ⟨jx,trivial⟩
noncomputable def OS:CE:=⟨93,[.val],[tq],λN x kf=>BU N x.1 (fw .str .k kf)⟩
theorem aam:OS.ok:=qp Tryz.f93 [[KQ],[Hz],[KR],[KT],[tx]] ⟨Xz,Ss,XA,XB,w7,trivial⟩
noncomputable def XC:CE:=⟨35,[.val,.val,.val],[tq,Lh,lH],λN x kf=>gP N x.1 x.2.1 x.2.2.1 (fw .str .k kf)⟩
theorem ag6:XC.ok:=qp Tryz.f35 [[xz],[vC],[Hp],[Hq],[uZ],[Jx],[FY],[M3],[KP],[M5],[QS],[Lm],[OS]] ⟨EJ,DR,Sn,Sp,zn,US,QO,Y',Xw,Zb,adq,Td,aam,trivial⟩ (dt:=[(17,(OT.seq [1,2,3,0,4,5,6] .done))])
end Go.Pv.R
