/- Each function of the program that the law reaches computes its plain function, part 3. -/
import Derived.Test.YtpcoilhcgcpjmaaGreatDoorSnd2
import Derived.Test.YtpcoilhcgcpjmaaGreatDoorProg
set_option linter.unusedVariables false
noncomputable section
namespace Go.Pv.R
open List Int IntKind
open Go.Proofs
set_option maxRecDepth 100000
noncomputable def OP:CE:=⟨206,[.val,.val],[wh,acX],λN x kf=>HT N x.1 x.2.1 (fw .bool .k kf)⟩
def FV:List Kd:=(vw::dn 4 (lM::dn 38 ([])))
def FW:List Kd:=(dn 4 (jA::dn 39 ([])))
def DK:List Kd:=(dn 44 ([]))
def DL:List Kd:=(dn 4 (jA::dn 39 ([])))
theorem aai:OP.ok:=eK2 Tryz.f206 [[zk],[E7]] 3 (vw::dn 4 (lM::dn 5 (S7::aQ::aQ::dn 30 ([])))) (λN n x K=>oN N x.1 x.2.2.1 x.2.2.2.1 n (λz0=>K (.x 0) (shape FV (x.1,z0,()))) (λz0=>K .r (shape FW (z0,()))) x.2.1 x.2.2.2.2.1) 10 (dn 5 (lM::dn 26 (vw::aQ::aQ::dn 9 ([])))) (λN n x K=>nw N x.1 x.2.1 x.2.2.1 n (K (.x 2) (shape DK ())) (λz0=>K .r (shape DL (z0,()))) x.2.2.2.1) [(3,2,FV),(3,1,FW),(10,4,DK),(10,1,DL)] ⟨OO,Ln,trivial⟩
noncomputable def Hk:CE:=⟨247,[.val],[.v tQJ .k,atD],λN x kf=>xt N x.1 x.2.1 (fw .bool .k kf)⟩
theorem Sm:Hk.ok:=qp Tryz.f247 [] trivial
noncomputable def mD:CE:=⟨200,[.val,.val],[WK,.fn 247 [(.ptr (.int .i64))]],λN x kf=>dR N x.1 x.2.1.1 (fw (.int .i64) .k kf)⟩
def ke:List Kd:=(dn 19 ([]))
def kg:List Kd:=(dn 4 (aQ::dn 14 ([])))
theorem uE:mD.ok:=o9 Tryz.f200 [[Hk]] 2 (Aq::.EL 247 [.kv (.ptr (.int .i64))]::dn 5 (aQ::aQ::dn 10 ([]))) (λN n x K=>cE N x.1 x.2.1.1 x.2.2.1 n (K (.x 0) (shape ke ())) (λz0=>K .r (shape kg (z0,()))) x.2.2.2.1) [(2,2,ke),(2,1,kg)] ⟨Sm,trivial⟩
noncomputable def tu:CE:=⟨231,[.val,.val,.val],[wh,.v tQJ .k,.v Fi .k],λN x kf=>pG N x.1 x.2.1 x.2.2.1 (fw .bool .k kf)⟩
def DM:List Kd:=(dn 42 ([]))
def DN:List Kd:=(dn 6 (jA::dn 35 ([])))
theorem EF:tu.ok:=o9 Tryz.f231 [[jw],[eB]] 2 (vw::dn 3 (.v (.ptr tQJ) (.o 108 none .k)::dn 9 (lM::aQ::aQ::dn 25 ([])))) (λN n x K=>nx N x.1 x.2.1 x.2.2.1 x.2.2.2.1 n (K (.x 0) (shape DM ())) (λz0=>K .r (shape DN (z0,()))) x.2.2.2.2.1) [(2,2,DM),(2,1,DN)] ⟨lC,gB,trivial⟩ (dt:=[(5,(OT.seq [0,1,2,3,4,5,6,7,8,9,10,11,12,13,14,15,16,17] .done))])
noncomputable def KG:CE:=⟨207,[.val,.val,.val,.val],[wh,WK,acX,lH],λN x kf=>BI N x.1 x.2.1 x.2.2.1 x.2.2.2.1 (fw .bool .k kf)⟩
def CT:List Kd:=(dn 55 ([]))
def CU:List Kd:=(dn 8 (jA::dn 46 ([])))
theorem Xg:KG.ok:=o9 Tryz.f207 [[vZ],[mD],[eB],[tu]] 4 (vw::Aq::S7::kj::dn 18 (kj::aQ::aQ::dn 30 ([]))) (λN n x K=>mi N x.1 x.2.1 x.2.2.1 x.2.2.2.1 x.2.2.2.2.1 x.2.2.2.2.2.1 n (K (.x 0) (shape CT ())) (λz0=>K .r (shape CU (z0,()))) x.2.2.2.2.2.2.1) [(4,2,CT),(4,1,CU)] ⟨CS,uE,gB,EF,trivial⟩ (dt:=[(7,(OT.seq [0,1,2,3,4,5,6,7,8,9,10,11,12,13,14,15,16,17,18,19,20,21] .done))])
noncomputable def xy:CE:=⟨138,[.val],[.v tQB .k],λN x kf=>pH N x.1 (fw .bool .k kf)⟩
theorem EG:xy.ok:=qp Tryz.f138 [[fI]] ⟨gK,trivial⟩
noncomputable def KH:CE:=⟨208,[.val],[wh],λN x kf=>BJ N x.1 (fw (.int .i64) .k kf)⟩
def CV:List Kd:=(dn 3 (aQ::dn 18 ([])))
theorem Xh:KH.ok:=o9 Tryz.f208 [[gU]] 5 (dn 3 (aQ::dn 6 (vw::aQ::aQ::dn 9 ([])))) (λN n x K=>mj x.2.1 x.2.2.1 n (λz0=>K (.x 0) (shape CV (z0,()))) x.1 x.2.2.2.1) [(5,2,CV)] ⟨jx,trivial⟩
noncomputable def tx:CE:=⟨135,[.val],[tq],λN x kf=>q9 N x.1 (fw .bool .k kf)⟩
def Hl:List Kd:=(dK::wW::dn 97 ([]))
def Hm:List Kd:=(dK::dK::jA::dn 96 ([]))
theorem w7:tx.ok:=o9 Tryz.f135 [[gU],[vZ],[uD],[ou],[OP],[KG],[xy],[fI],[KH]] 6 (dK::wW::dn 60 (S8::aQ::aQ::dn 34 ([]))) (λN n x K=>nT N x.1 x.2.1 x.2.2.1 n (K (.x 0) (shape Hl (x.1,()))) (λz0=>K .r (shape Hm (z0,()))) x.2.2.2.1) [(6,2,Hl),(6,1,Hm)] ⟨jx,CS,zX,ry,aai,Xg,EG,gK,Xh,trivial⟩ (dt:=[(8,(OT.seq [0,1,2,3,4,5,6,7,8,9,10,11,12,13,14,15,16,17] .done)),(11,(OT.seq [0,1,2,3,4,5,7,8,6,9,10,11] .done))])
noncomputable def oV:CE:=⟨132,[.val,.take,.val,.val],[tq,.v TN Gy,dG,dG],λN x kf=>pq N x.1 x.2.1 x.2.2.1 x.2.2.2.1 (Rt TN Gy .bool .k kf)⟩
theorem qO:oV.ok:=qp Tryz.f132 [[KF],[tx],[ir]] ⟨Xf,w7,kd,trivial⟩
noncomputable def MW:CE:=⟨76,[.val,.val,.val],[tq,dG,dG],λN x kf=>yl N x.1 x.2.1 x.2.2.1 (Rt TN Gy .bool .k kf)⟩
def DO:List Kd:=(dK::aQ::aQ::wW::dK::dK::AP::dK::AP::aQ::dn 44 ([]))
theorem Y3:MW.ok:=o9 Tryz.f76 [[ir],[jw],[ou],[anW],[oV]] 5 (dK::aQ::aQ::wW::dK::dK::AP::dK::AP::aQ::dn 44 ([])) (λN n x K=>ly x.1 x.2.1 x.2.2.1 x.2.2.2.1 x.2.2.2.2.1 n (λz0=>K (.x 0) (shape DO (x.1,x.2.1,x.2.2.1,x.2.2.2.1,x.2.2.2.2.1,z0,()))) x.2.2.2.2.2.1) [(5,2,DO)] ⟨kd,lC,ry,awr,qO,trivial⟩
noncomputable def KI:CE:=⟨201,[.val],[.v tQJ .k,atD],λN x kf=>BM N x.1 x.2.1 (fw .bool .k kf)⟩
theorem Xi:KI.ok:=qp Tryz.f201 [] trivial
noncomputable def nj:CE:=⟨200,[.val,.val],[WK,.fn 201 [(.ptr (.int .i64))]],λN x kf=>jq N x.1 x.2.1.1 (fw (.int .i64) .k kf)⟩
def kN:List Kd:=(dn 19 ([]))
def kO:List Kd:=(dn 4 (aQ::dn 14 ([])))
theorem vB:nj.ok:=o9 Tryz.f200 [[KI]] 2 (Aq::.EL 201 [.kv (.ptr (.int .i64))]::dn 5 (aQ::aQ::dn 10 ([]))) (λN n x K=>cL N x.1 x.2.1.1 x.2.2.1 n (K (.x 0) (shape kN ())) (λz0=>K .r (shape kO (z0,()))) x.2.2.2.1) [(2,2,kN),(2,1,kO)] ⟨Xi,trivial⟩
noncomputable def zm:CE:=⟨133,[.val,.val],[WK,dG],λN x kf=>pr N x.1 x.2.1 (fw (.int .i64) .k kf)⟩
theorem GG:zm.ok:=qp Tryz.f133 [[nj]] ⟨vB,trivial⟩
def aub:Go.Shelf.Ren:=⟨λn=>bif Nat.beq n 22 then 134 else bif Nat.beq n 29 then 202 else bif Nat.beq n 30 then 203 else n,λn=>bif Nat.beq n 0 then 0 else bif Nat.beq n 3 then 3 else bif Nat.beq n 4 then 4 else bif Nat.beq n 9 then 108 else bif Nat.beq n 24 then 29 else n,λn=>n⟩
def aws:Array Value:=#[.int .i64 0,.int .i64 0,.slice none 0 0]
noncomputable def awt:TypeInfo:=(Tryz.prog.info? 108).get (by kernel_rfl)
theorem auc:ae8 Tryz.prog aub (Ty.size tQJ) aws awt:={ FB:=⟨Tryz.f134.name,by kernel_rfl,by kernel_rfl⟩,FO:=⟨Tryz.f202,by kernel_rfl,by kernel_rfl,by kernel_rfl,by kernel_rfl,by kernel_rfl⟩,mixed:=by kernel_rfl,t0:=by kernel_rfl,a0:=λw=>by kernel_rfl,z0:=λw=>by kernel_rfl,v0:=λw=>by kernel_rfl,t3:=by kernel_rfl,a3:=λw=>by kernel_rfl,z3:=λw=>by kernel_rfl,v3:=λw=>by kernel_rfl,t4:=by kernel_rfl,a4:=λw=>by kernel_rfl,z4:=λw=>by kernel_rfl,v4:=λw=>by kernel_rfl,t24:=by kernel_rfl,a24:=λw=>by kernel_rfl,z24:=λw=>by kernel_rfl,v24:=λw=>by kernel_rfl,z9:=λw=>by kernel_rfl,hz:=by kernel_rfl,hzo:=by kernel_rfl,hi0:=by kernel_rfl,hz0:=by kernel_rfl,hz1:=by kernel_rfl,hby:=bJ (by kernel_rfl),X6:=bJ (by kernel_rfl) }
def agR:List AK:=[.v (.sl tQJ) api,dG,.v (.sl tQJ) api]
noncomputable def aud (N:Nat) (x:fu agR) (kf:iI->aa):aa:=avi N x.1 x.2.1 x.2.2.1 (λr0=>kf ⟨[⟨(.sl tQJ),api,r0⟩],[]⟩)
noncomputable def aue (N:Nat):=c9 agR (aud N)
theorem awu {Γ:Gl} (AR:si Γ) (N:Nat):Sound Γ Tryz.prog 134 (aue N):=WJ auc (.p .k (.p .k vu)) (by kernel_rfl)
noncomputable def anX:CE:=⟨134,[.take,.val,.take],agR,aud⟩
theorem awv:anX.ok:=λh N=>awu h N
noncomputable def KJ:CE:=⟨77,[.val,.val,.val],[tq,dG,dG],λN x kf=>wL N x.1 x.2.1 x.2.2.1 (Rt TN Gy .bool .k kf)⟩
def CW:List Kd:=(dK::aQ::aQ::wW::dK::dK::AP::dK::AP::aQ::dn 40 ([]))
theorem Xj:KJ.ok:=o9 Tryz.f77 [[ir],[zm],[anX],[oV]] 5 (dK::aQ::aQ::wW::dK::dK::AP::dK::AP::aQ::dn 40 ([])) (λN n x K=>j8 x.1 x.2.1 x.2.2.1 x.2.2.2.1 x.2.2.2.2.1 n (λz0=>K (.x 0) (shape CW (x.1,x.2.1,x.2.2.1,x.2.2.2.1,x.2.2.2.2.1,z0,()))) x.2.2.2.2.2.1) [(5,2,CW)] ⟨kd,GG,awv,qO,trivial⟩
def auf:Hint:={ tab,hn:=[],loops:=[],outs:=[],dt:=[] }
def Xk:List AK:=[wh]
noncomputable def adi (N:Nat) (x:fu Xk) (kf:iI->aa):aa:=avk N x.1 (λr0=>kf ⟨[⟨(.sl Q5),(.o 106 none .k),r0⟩],[]⟩)
noncomputable def aug (N:Nat):=c9 Xk (adi N)
def aff:Code:=iw Tryz.f146
theorem aww:cR aff=[]:=by kernel_rfl
theorem awx (N:Nat):FnT Xk (adi N) auf [] (noL N N) Tryz.f146:=λ_ _=>by kernel_rfl
theorem auh (N:Nat) (x:fu Xk):ja (adi N x):=by
 obtain⟨l,u⟩:=x;unfold adi avk;cases l with
 |nil=>exact⟨some _,λK=>H4 _⟩
 |cons a l=>simp only[mC,ae];exact ja.bif _ (ja.pure _) ja.none
theorem awy {Γ:Gl} (AR:si Γ) (N:Nat):Sound Γ Tryz.prog 146 (aug N):=qn (hh:=auf) mixed vt (es:=[]) trivial (fn:=Tryz.f146) (body:=aff) (by kernel_rfl) (by kernel_rfl) (by kernel_rfl) (by kernel_rfl) (by kernel_rfl) (Lf:=noL N) (ajG N) aww trivial (N:=N) (by kernel_rfl) (awx N) (.inr (auh N))
noncomputable def anY:CE:=⟨146,[.val],Xk,adi⟩
theorem awz:anY.ok:=λh N=>awy h N
noncomputable def Jo:CE:=⟨259,[.val],[.v (.int .u64) .k],λN x kf=>Gg N x.1 (fw (.int .i64) .k kf)⟩
theorem UM:Jo.ok:=qp Tryz.f259 [] trivial
noncomputable def EH:CE:=⟨216,[.val],[.v (.int .u64) .k],λN x kf=>ym N x.1 (fw (.int .i64) .k kf)⟩
theorem MX:EH.ok:=qp Tryz.f216 [[Jo]] ⟨UM,trivial⟩
noncomputable def MY:CE:=⟨219,[.val],[dG],λN x kf=>cmp_isNaN_int N x.1 (fw .bool .k kf)⟩
theorem Y4:MY.ok:=qp Tryz.f219 [] trivial
noncomputable def zY:CE:=⟨150,[.val,.val],[dG,dG],λN x kf=>oO N x.1 x.2.1 (fw (.int .i64) .k kf)⟩
theorem Jp:zY.ok:=qp Tryz.f150 [[MY]] ⟨Y4,trivial⟩
noncomputable def Tf:CE:=⟨149,[.val],[lH],λN x kf=>NR N x.1 (fw (.int .i64) .k kf)⟩
def Jq:List Kd:=(dn 3 (aQ::dn 14 ([])))
def Jr:List Kd:=(dK::dK::aQ::dn 15 ([]))
theorem adR:Tf.ok:=o9 Tryz.f149 [] 3 (dn 3 (aQ::dK::dK::kj::aQ::aQ::dn 9 ([]))) (λN n x K=>rV x.1 x.2.1 x.2.2.1 n (K (.x 0) (shape Jq (x.1,()))) (λz0=>K .r (shape Jr (z0,()))) x.2.2.2.1) [(3,2,Jq),(3,1,Jr)] trivial
noncomputable def Js:CE:=⟨148,[.val,.val],[.v Q5 .k,.v Q5 .k],λN x kf=>y8 N x.1 x.2.1 (fw (.int .i64) .k kf)⟩
theorem UN:Js.ok:=qp Tryz.f148 [[zY],[Tf]] ⟨Jp,adR,trivial⟩ (dt:=[(1,(OT.seq [0,1,2,3,5,6,7,8,10,11,12,13,4,9,14,15,16,17] .done))])
noncomputable def iC:CE:=⟨260,[.OU,.val,.val,.val],[.v (.sl Q5) al4,dG,dG,.fn 148 []],λN x kf=>eU N x.1 x.2.1 x.2.2.1 (λz=>kf ⟨[],[⟨(.sl Q5),al4,z⟩]⟩)⟩
def gp:List Kd:=(afc::aQ::aQ::.EL 148 []::dn 4 (aQ::dn 44 ([])))
def gq:List Kd:=(afc::dn 52 ([]))
theorem pT:iC.ok:=eK2 Tryz.f260 [[Js]] 1 (afc::aQ::aQ::.EL 148 []::dn 4 (aQ::dn 44 ([]))) (λN n x K=>bT N x.2.1 x.2.2.1 n (λz0=>K (.x 0) (shape gq (z0,()))) x.1 x.2.2.2.2.1) 4 (afc::aQ::aQ::.EL 148 []::dn 4 (aQ::aQ::dn 43 ([]))) (λN n x K=>cq N x.2.1 x.2.2.1 x.2.2.2.2.1 n (λz0=>K (.x 2) (shape gp (z0,x.2.1,x.2.2.1,(),x.2.2.2.2.1,()))) x.1 x.2.2.2.2.2.1) [(4,4,gp),(1,2,gq)] ⟨UN,trivial⟩ (dt:=[(4,(OT.seq [0,1,2,3,4,5,6,7,8,9,10,11,12,13,14,15,16] .done)),(6,(OT.seq [0,1,5,6,7,8,9,10,11,12,13,14,2,3,4,15,16,17] .done))]) (pK:=some (0,false))
noncomputable def kP:CE:=⟨218,[.OU,.val,.val,.val,.val],[.v (.sl Q5) al4,dG,dG,dG,.fn 148 []],λN x kf=>eA N x.1 x.2.1 x.2.2.1 x.2.2.2.1 (λz=>kf ⟨[],[⟨(.sl Q5),al4,z⟩]⟩)⟩
def iW:List Kd:=(afc::dn 147 ([]))
theorem sn:kP.ok:=o9 Tryz.f218 [[iC]] 2 (afc::aQ::aQ::aQ::.EL 148 []::dn 5 (jA::jA::dn 136 ([]))) (λN n x K=>fq N x.1 x.2.1 x.2.2.1 x.2.2.2.1 x.2.2.2.2.2.1 x.2.2.2.2.2.2.1 n (λz0=>K .r (shape iW (z0,())))) [(2,1,iW)] ⟨pT,trivial⟩ (pK:=some (0,false))
noncomputable def nE:CE:=⟨147,[.OU,.val],[.v (.sl Q5) al4,.fn 148 []],λN x kf=>fF N x.1 (λz=>kf ⟨[],[⟨(.sl Q5),al4,z⟩]⟩)⟩
theorem wi:nE.ok:=qp Tryz.f147 [[EH],[kP]] ⟨MX,sn,trivial⟩ (pK:=some (0,false))
noncomputable def xz:CE:=⟨83,[.val],[wh],λN x kf=>rW N x.1 (fw (.sl (.int .i64)) vu kf)⟩
def DP:List Kd:=(dn 3 (lM::dn 25 ([])))
theorem EJ:xz.ok:=o9 Tryz.f83 [[gU],[anY],[nE]] 7 (dn 3 (lM::dn 12 (afb::aQ::aQ::dn 10 ([])))) (λN n x K=>ny x.2.1 x.2.2.1 n (λz0=>K (.x 0) (shape DP (z0,()))) x.1 x.2.2.2.1) [(7,2,DP)] ⟨jx,awz,wi,trivial⟩
noncomputable def GH:CE:=⟨248,[.val,.val,.val],[wh,dG,dG],λN x kf=>HV N x.1 x.2.1 x.2.2.1 (fw Fi .k kf)⟩
theorem aaj:GH.ok:=qp Tryz.f248 [[jw],[gU],[xz],[xW]] ⟨lC,jx,EJ,Hj,trivial⟩ (dt:=[(4,(OT.seq [0,1,2,3,4,5,6,7,8,9,10,11] .done))])
def UO:List Kd:=vw::kj::dn 4 (aQ::dn 50 ([]))
def Xl:List Kd:=dn 57 ([])
def Xm:List Kd:=dn 4 (.v (.sl Fi) (.o 97 none .k)::jA::dn 51 ([]))
def amh:Hint:={ tab,hn:=[],loops:=[(4,UO)],outs:=[(4,2,Xl),(4,1,Xm)],dt:=[(6,(OT.seq [0,1,2,3,4,5,6,7,8,9] .done)),(7,(OT.seq [0,1,2,3,4,5,6,7,8,9,10,11,12,13,14,15] .done)),(9,(OT.seq [0,1,2,3,4,5,6,7,10,8,9,11,12,13] .done))] }
def Xn:List AK:=[wh,lH]
noncomputable def ami (N:Nat) (x:fu Xn) (kf:iI->aa):aa:=alg N x.1 x.2.1 (λr0 r1=>kf ⟨[⟨(.sl Fi),(.o 97 none .k),r0⟩,⟨.bool,.k,r1⟩],[]⟩)
noncomputable def adj (N:Nat):=c9 Xn (ami N)
def agS (N:Nat):List Entry:=[⟨246,[.val,.val,.val],(c9 zk.l (zk.F N))⟩,⟨190,[.val],(c9 nX.l (nX.F N))⟩,⟨248,[.val,.val,.val],(c9 GH.l (GH.F N))⟩,⟨209,[.val,.val],(adj N)⟩]
def Y5:Code:=iw Tryz.f209
noncomputable def agT (N n:Nat) (key:Nat) (S:St) (K:Ks):aa:=bif Nat.beq key 4 then wA UO S (λx=>NT N (alg N) x.1 x.2.1 n (K (.x 0) (shape Xl ())) (λz0 z1=>K .r (shape Xm (z0,z1,()))) x.2.2.1) else none
theorem awA (N key:Nat) (S:St) (K:Ks):agT N 0 key S K=none:=(afJ (xk λ_=>rfl) rfl)
def ajY:Code:=(cR Y5).getD 0 .skip
theorem awB:cR Y5=[ajY]:=by kernel_rfl
theorem apq (N:Nat):RdT amh (agS N) (agT N) N 4 UO ajY:=λ_ _ _=>by kernel_rfl
theorem awC (N:Nat) (x:fu Xn) (kf:iI->aa):ami (N+1) x kf=tU amh (va.of (agS N)) (agT N N) Tryz.f209 (jD Xn x) kf:=by kernel_rfl
theorem anZ {Γ:Gl} (AR:si Γ):∀ N:Nat,Sound Γ Tryz.prog 209 (adj N)
 |0=>wB λal kf=>by unfold adj c9;split<;>rfl
 |N+1=>qn (hh:=amh) mixed vt (es:=agS N) ⟨OO AR N,⟨FT AR N,⟨aaj AR N,⟨anZ AR N,trivial⟩⟩⟩⟩ (fn:=Tryz.f209) (body:=Y5) (by kernel_rfl) (by kernel_rfl) (by kernel_rfl) (by kernel_rfl) (by kernel_rfl) (Lf:=agT N) (awA N) awB (rc (apq N) trivial) (N:=N) (by kernel_rfl) (awC N) (.inl (by kernel_rfl))
noncomputable def an0:CE:=⟨209,[.val,.val],Xn,ami⟩
theorem awD:an0.ok:=λh N=>anZ h N
noncomputable def KK:CE:=⟨136,[.val],[wh],λN x kf=>BN N x.1 (Rt (.sl Fi) (.o 97 none .k) .bool .k kf)⟩
theorem Xo:KK.ok:=qp Tryz.f136 [[gU],[xz],[an0]] ⟨jx,EJ,awD,trivial⟩
def UP:List Kd:=vw::Aq::S7::kj::dn 14 (Aq::aQ::aQ::dn 38 ([]))
def Xp:List Kd:=dn 59 ([])
def Xq:List Kd:=dn 8 (lM::jA::dn 49 ([]))
def amj:Hint:={ tab,hn:=[],loops:=[(4,UP)],outs:=[(4,2,Xp),(4,1,Xq)],dt:=[(6,(OT.seq [0,1,2,3,4,5,6,7,8,9,10,11,12] .done)),(7,(OT.seq [4,6,7,0,1,2,3] (.any [5,8] (OT.seq [9,10,11,12,13,14,15] .done))))] }
def Xr:List AK:=[wh,WK,acX,lH]
noncomputable def amk (N:Nat) (x:fu Xr) (kf:iI->aa):aa:=ali N x.1 x.2.1 x.2.2.1 x.2.2.2.1 (λr0 r1=>kf ⟨[⟨(.sl (.int .i64)),vu,r0⟩,⟨.bool,.k,r1⟩],[]⟩)
noncomputable def adk (N:Nat):=c9 Xr (amk N)
def agU (N:Nat):List Entry:=[⟨229,[.val,.val],(c9 eB.l (eB.F N))⟩,⟨231,[.val,.val,.val],(c9 tu.l (tu.F N))⟩,⟨68,[.val],(anP N)⟩,⟨210,[.val,.val,.val,.val],(adk N)⟩]
def Y6:Code:=iw Tryz.f210
noncomputable def agV (N n:Nat) (key:Nat) (S:St) (K:Ks):aa:=bif Nat.beq key 4 then wA UP S (λx=>J2 N (ali N) x.1 x.2.1 x.2.2.1 x.2.2.2.1 x.2.2.2.2.1 x.2.2.2.2.2.1 n (K (.x 0) (shape Xp ())) (λz0 z1=>K .r (shape Xq (z0,z1,()))) x.2.2.2.2.2.2.1) else none
theorem awE (N key:Nat) (S:St) (K:Ks):agV N 0 key S K=none:=(afJ (xk λ_=>rfl) rfl)
def ajZ:Code:=(cR Y6).getD 0 .skip
theorem awF:cR Y6=[ajZ]:=by kernel_rfl
theorem apr (N:Nat):RdT amj (agU N) (agV N) N 4 UP ajZ:=λ_ _ _=>by kernel_rfl
theorem awG (N:Nat) (x:fu Xr) (kf:iI->aa):amk (N+1) x kf=tU amj (va.of (agU N)) (agV N N) Tryz.f210 (jD Xr x) kf:=by kernel_rfl
theorem an1 {Γ:Gl} (AR:si Γ):∀ N:Nat,Sound Γ Tryz.prog 210 (adk N)
 |0=>wB λal kf=>by unfold adk c9;split<;>rfl
 |N+1=>qn (hh:=amj) mixed vt (es:=agU N) ⟨gB AR N,⟨EF AR N,⟨atU AR N,⟨an1 AR N,trivial⟩⟩⟩⟩ (fn:=Tryz.f210) (body:=Y6) (by kernel_rfl) (by kernel_rfl) (by kernel_rfl) (by kernel_rfl) (by kernel_rfl) (Lf:=agV N) (awE N) awF (rc (apr N) trivial) (N:=N) (by kernel_rfl) (awG N) (.inl (by kernel_rfl))
noncomputable def an2:CE:=⟨210,[.val,.val,.val,.val],Xr,amk⟩
theorem awH:an2.ok:=λh N=>an1 h N
noncomputable def Jt:CE:=⟨137,[.val,.val,.val],[wh,WK,acX],λN x kf=>y9 N x.1 x.2.1 x.2.2.1 (Rt (.sl (.int .i64)) vu .bool .k kf)⟩
theorem UQ:Jt.ok:=qp Tryz.f137 [[vZ],[gU],[an2]] ⟨CS,jx,awH,trivial⟩
noncomputable def MZ:CE:=⟨78,[.val],[tq],λN x kf=>yn N x.1 (Rt TN Gy .bool .k kf)⟩
theorem Y7:MZ.ok:=qp Tryz.f78 [[ir],[tx],[ou],[KK],[Jt],[oV]] ⟨kd,w7,ry,Xo,UQ,qO,trivial⟩ (dt:=[(8,(OT.seq [0,5,1,2,3] (.par [4,6,7,8] [[50,51]] (OT.seq [9,10] .done))))])
noncomputable def Ju:CE:=⟨79,[.val,.val,.val,.val],[tq,dG,dG,dG],λN x kf=>uT N x.1 x.2.1 x.2.2.1 x.2.2.2.1 (Rt TN Gy .bool .k kf)⟩
theorem UR:Ju.ok:=qp Tryz.f79 [[ir],[tx],[xy],[oV]] ⟨kd,w7,EG,qO,trivial⟩
noncomputable def uZ:CE:=⟨86,[.val],[tq],λN x kf=>pv N x.1 (fw (.sl (.int .i64)) vu kf)⟩
def FX:List Kd:=(dn 3 (lM::dn 20 ([])))
theorem zn:uZ.ok:=o9 Tryz.f86 [] 3 (dn 3 (lM::dn 4 (S8::aQ::aQ::dn 13 ([])))) (λN n x K=>mR x.2.1 x.2.2.1 n (λz0=>K (.x 0) (shape FX (z0,()))) x.1 x.2.2.2.1) [(3,2,FX)] trivial
noncomputable def uF:CE:=⟨211,[.val],[agD],λN x kf=>qI N x.1 (fw .bool .k kf)⟩
def AE:List Kd:=(dn 34 ([]))
def AF:List Kd:=(dK::dK::jA::dn 31 ([]))
theorem zZ:uF.ok:=o9 Tryz.f211 [[xy]] 4 (S8::dn 7 (S8::aQ::aQ::dn 23 ([]))) (λN n x K=>iT N x.1 x.2.1 x.2.2.1 n (K (.x 0) (shape AE ())) (λz0=>K .r (shape AF (z0,()))) x.2.2.2.1) [(4,2,AE),(4,1,AF)] ⟨EG,trivial⟩ (dt:=[(6,(OT.seq [0,1,2,3,4,5,6,7,8,9,10,11,12,13,14,15,16,17] .done))])
noncomputable def Jv:CE:=⟨214,[.val],[.v tQB .k],λN x kf=>Ai N x.1 (fw (.int .i64) .k kf)⟩
theorem QM:Jv.ok:=qp Tryz.f214 [] trivial
noncomputable def M0:CE:=⟨212,[.val,.val],[agD,dG],λN x kf=>yo N x.1 x.2.1 (fw (.int .i64) .k kf)⟩
def DQ:List Kd:=(dn 5 (aQ::dn 20 ([])))
theorem Y8:M0.ok:=o9 Tryz.f212 [[uF],[Jv]] 5 (dK::aQ::dn 3 (aQ::dn 6 (S8::aQ::aQ::dn 11 ([])))) (λN n x K=>lz N x.1 x.2.2.1 x.2.2.2.1 n (λz0=>K (.x 0) (shape DQ (z0,()))) x.2.1 x.2.2.2.2.1) [(5,2,DQ)] ⟨zZ,QM,trivial⟩
noncomputable def QN:CE:=⟨213,[.val,.val],[agD,dG],λN x kf=>wM N x.1 x.2.1 (fw (.int .i64) .k kf)⟩
def Ho:List Kd:=(dn 5 (aQ::dn 27 ([])))
theorem adl:QN.ok:=o9 Tryz.f213 [[uF]] 5 (dK::aQ::dn 3 (aQ::dn 6 (S8::aQ::aQ::dn 18 ([])))) (λN n x K=>mm x.1 x.2.2.1 x.2.2.2.1 n (λz0=>K (.x 0) (shape Ho (z0,()))) x.2.1 x.2.2.2.2.1) [(5,2,Ho)] ⟨zZ,trivial⟩
noncomputable def M1:CE:=⟨140,[.val],[agD],λN x kf=>vh N x.1 (fw (.int .i64) .k kf)⟩
theorem Y9:M1.ok:=qp Tryz.f140 [[uF],[M0],[QN],[Jv]] ⟨zZ,Y8,adl,QM,trivial⟩
noncomputable def KL:CE:=⟨139,[.val,.val,.val,.val,.val,.val],[wh,dG,dG,dG,dG,dG],λN x kf=>s4 N x.1 x.2.1 x.2.2.1 x.2.2.2.1 x.2.2.2.2.1 x.2.2.2.2.2.1 (Rt (.sl Q5) adN .bool .k kf)⟩
theorem Xs:KL.ok:=qp Tryz.f139 [[zW],[jw],[gU],[fI]] ⟨Jj,lC,jx,gK,trivial⟩ (dt:=[(5,(OT.seq [4,5,6,7,8] (.own 65 (OT.seq [9,0,1,2,3,12,13,14,15,17] (.par [10,11,16,18] [[66,67],[65,66,67,68],[74,75]] (.own 73 (OT.seq [19,20,21,22,23,24,25] .done)))))))])
def aui:Go.Shelf.Ren:=⟨λn=>bif Nat.beq n 125 then 216 else bif Nat.beq n 128 then 258 else bif Nat.beq n 129 then 259 else bif Nat.beq n 189 then 141 else bif Nat.beq n 215 then 219 else bif Nat.beq n 216 then 255 else bif Nat.beq n 257 then 215 else bif Nat.beq n 294 then 249 else bif Nat.beq n 295 then 250 else bif Nat.beq n 296 then 251 else bif Nat.beq n 297 then 252 else bif Nat.beq n 298 then 253 else bif Nat.beq n 299 then 254 else bif Nat.beq n 300 then 256 else bif Nat.beq n 301 then 257 else bif Nat.beq n 328 then 285 else bif Nat.beq n 329 then 286 else bif Nat.beq n 330 then 287 else bif Nat.beq n 331 then 288 else bif Nat.beq n 332 then 289 else bif Nat.beq n 343 then 310 else n,λn=>bif Nat.beq n 0 then 0 else bif Nat.beq n 3 then 3 else bif Nat.beq n 4 then 4 else bif Nat.beq n 5 then 5 else bif Nat.beq n 9 then 9 else bif Nat.beq n 28 then 31 else bif Nat.beq n 46 then 168 else bif Nat.beq n 51 then 206 else bif Nat.beq n 53 then 133 else bif Nat.beq n 131 then 64 else bif Nat.beq n 182 then 211 else bif Nat.beq n 183 then 212 else bif Nat.beq n 218 then 232 else bif Nat.beq n 222 then 236 else bif Nat.beq n 228 then 251 else bif Nat.beq n 229 then 252 else n,λn=>n⟩
theorem aps:Lays.n189 Tryz.prog aui:=by repeat' first |kernel_rfl |(intro _;kernel_rfl) |constructor
def agW:List AK:=[.v (.sl (.int .i64)) (.o 3 (some 0) .k)]
noncomputable def auj (N:Nat) (x:fu agW) (kf:iI->aa):aa:=alj N x.1 (λz=>kf ⟨[],[⟨(.sl (.int .i64)),(.o 3 (some 0) .k),z⟩]⟩)
noncomputable def auk (N:Nat):=c9 agW (auj N)
theorem awI {Γ:Gl} (AR:si Γ) (N:Nat):Sound Γ Tryz.prog 141 (auk N):=alW aps 3
noncomputable def agX:CE:=⟨141,[.OU],agW,auj⟩
theorem an3:agX.ok:=λh N=>awI h N
def aul:Go.Shelf.Ren:=⟨λn=>bif Nat.beq n 20 then 142 else n,λn=>bif Nat.beq n 0 then 0 else bif Nat.beq n 3 then 3 else bif Nat.beq n 4 then 4 else bif Nat.beq n 22 then 31 else n,λn=>n⟩
theorem apt:Lays2.n20 Tryz.prog aul:=by repeat' first |kernel_rfl |(intro _;kernel_rfl) |constructor
def agY:List AK:=[.v (.sl (.int .i64)) vu]
noncomputable def aum (N:Nat) (x:fu agY) (kf:iI->aa):aa:=aoO N x.1 (λr0=>kf ⟨[⟨(.sl (.int .i64)),vu,r0⟩],[]⟩)
noncomputable def aun (N:Nat):=c9 agY (aum N)
theorem awJ {Γ:Gl} (AR:si Γ) (N:Nat):Sound Γ Tryz.prog 142 (aun N):=adM apt 3
noncomputable def agZ:CE:=⟨142,[.take],agY,aum⟩
theorem an4:agZ.ok:=λh N=>awJ h N
end Go.Pv.R
