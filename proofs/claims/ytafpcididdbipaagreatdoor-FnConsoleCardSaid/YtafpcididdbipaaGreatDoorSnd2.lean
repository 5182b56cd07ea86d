/- Each function of the program that the law reaches computes its plain function, part 2. -/
import Derived.Test.YtafpcididdbipaaGreatDoorSnd1
import Derived.Test.YtafpcididdbipaaGreatDoorProg
set_option linter.unusedVariables false
noncomputable section
namespace Go.Pv.R
open List Int IntKind
open Go.Proofs
set_option maxRecDepth 100000
noncomputable def xS:CE:=⟨177,[.val,.val],[.v (.sl (.int .i64)) .k,.v (.int .i64) .k],λN x kf=>kM N x.1 x.2.1 (ek (.int .i64) .k kf)⟩
def Bi:List Kd:=(dn 5 (.v (.int .i64) .k::dn 15 ([])))
theorem CZ:xS.ok:=oX Tryz.f177 [] 3 (dK::.v (.int .i64) .k::dn 3 (.v (.int .i64) .k::dK::dK::.v (.sl (.int .i64)) .k::.v (.int .i64) .k::.v (.int .i64) .k::dn 10 ([]))) (λN n x K=>km x.1 x.2.2.1 x.2.2.2.1 n (λz0=>K (.x 0) (shape Bi (z0,()))) x.2.1 x.2.2.2.2.1) [(3,2,Bi)] trivial
noncomputable def da:CE:=⟨114,[.val],[.v (.sl gm) .k],λN x kf=>cK N x.1 (ek .bool .k kf)⟩
def vw:List Kd:=(.v (.sl gm) .k::dn 11 (.v (.sl gm) .k::.v (.int .i64) .k::.v (.int .i64) .k::dn 91 ([])))
def vz:List Kd:=(dK::dK::.v .bool .k::dn 103 ([]))
def wD:List Kd:=(dn 106 ([]))
def wE:List Kd:=(dK::dK::.v .bool .k::dn 103 ([]))
theorem er:da.ok:=eK2 Tryz.f114 [[cA],[ep],[xS]] 4 (.v (.sl gm) .k::dn 11 (.v (.sl gm) .k::.v (.int .i64) .k::.v (.int .i64) .k::dn 91 ([]))) (λN n x K=>ga N x.1 x.2.1 x.2.2.1 n (K (.x 0) (shape wD ())) (λz0=>K .r (shape wE (z0,()))) x.2.2.2.1) 10 (.v (.sl gm) .k::dn 3 (.v (.ptr gm) (.o 60 none .k)::dn 7 (.v (.sl gm) .k::.v (.int .i64) .k::.v (.int .i64) .k::dn 57 (.v (.sl (.int .i64)) .k::.v (.int .i64) .k::.v (.int .i64) .k::dn 31 ([]))))) (λN n x K=>cJ N x.1 x.2.1 x.2.2.1 x.2.2.2.1 x.2.2.2.2.1 x.2.2.2.2.2.1 x.2.2.2.2.2.2.1 n (K (.x 2) (shape vw (x.1,x.2.2.1,x.2.2.2.1,x.2.2.2.2.1,()))) (λz0=>K .r (shape vz (z0,()))) x.2.2.2.2.2.2.2.1) [(10,4,vw),(10,1,vz),(4,2,wD),(4,1,wE)] ⟨cY,gh,CZ,trivial⟩ (bw:=[(7,(OT.seq [0,1,2,3,4,5,6,7,8,9,10,11,12,13,14,15,16,17,18,19,20,21,22,23,24,25,26,27,28,29,30,31,32,33,34,35,36,37,38,39,40,41,42,43,44,45,46,47,48] .done)),(13,(OT.seq [0,1,2,3,4,5,6,7,8,9,10,11,13,14,15,16,17,18,19,12,20,21,22] .done))])
noncomputable def pH:CE:=⟨164,[.val],[.v (.sl tI) .k],λN x kf=>mT N x.1 (ek .bool .k kf)⟩
def vA:List Kd:=(.v (.sl tI) .k::dn 9 (.v (.sl tI) .k::.v (.int .i64) .k::.v (.int .i64) .k::dn 56 ([])))
def vB:List Kd:=(dK::dK::.v .bool .k::dn 66 ([]))
def vC:List Kd:=(dn 69 ([]))
def vD:List Kd:=(dK::dK::.v .bool .k::dn 66 ([]))
theorem vE:pH.ok:=eK2 Tryz.f164 [[cA]] 4 (.v (.sl tI) .k::dn 9 (.v (.sl tI) .k::.v (.int .i64) .k::.v (.int .i64) .k::dn 56 ([]))) (λN n x K=>eT N x.1 x.2.1 x.2.2.1 n (K (.x 0) (shape vC ())) (λz0=>K .r (shape vD (z0,()))) x.2.2.2.1) 9 (.v (.sl tI) .k::dn 3 (.v (.ptr tI) (.o 65 none .k)::dn 5 (.v (.sl tI) .k::.v (.int .i64) .k::.v (.int .i64) .k::dn 30 (.v (.sl (.int .i64)) .k::.v (.int .i64) .k::.v (.int .i64) .k::dn 23 ([]))))) (λN n x K=>ca N x.1 x.2.1 x.2.2.1 x.2.2.2.1 x.2.2.2.2.1 x.2.2.2.2.2.1 x.2.2.2.2.2.2.1 n (K (.x 2) (shape vA (x.1,x.2.2.1,x.2.2.2.1,x.2.2.2.2.1,()))) (λz0=>K .r (shape vB (z0,()))) x.2.2.2.2.2.2.2.1) [(9,4,vA),(9,1,vB),(4,2,vC),(4,1,vD)] ⟨cY,trivial⟩ (bw:=[(6,(OT.seq [0,1,2,3,4,5,6,7,8,9,10,11,12,13,14,15,16,17,18,19,20,21,22,23,24] .done))])
noncomputable def rk:CE:=⟨237,[.val,.val],[.v (.sl (.int .i64)) .k,.v (.int .i64) .k],λN x kf=>iG N x.1 x.2.1 (ek (.int .i64) .k kf)⟩
def rK:List Kd:=(dn 19 ([]))
def rL:List Kd:=(dn 4 (.v (.int .i64) .k::dn 14 ([])))
theorem zy:rk.ok:=oX Tryz.f237 [] 2 (.v (.sl (.int .i64)) .k::.v (.int .i64) .k::dn 5 (.v (.int .i64) .k::.v (.int .i64) .k::dn 10 ([]))) (λN n x K=>eL x.1 x.2.1 x.2.2.1 n (K (.x 0) (shape rK ())) (λz0=>K .r (shape rL (z0,()))) x.2.2.2.1) [(2,2,rK),(2,1,rL)] trivial
noncomputable def bJ:CE:=⟨187,[.val,.val],[.v (.sl (.int .i64)) .k,.v (.int .i64) .k],λN x kf=>bp N x.1 x.2.1 (ek .bool .k kf)⟩
theorem cU:bJ.ok:=lK Tryz.f187 [[rk]] ⟨zy,trivial⟩
noncomputable def Gr:CE:=⟨249,[.val,.val,.val],[.v (.sl gm) .k,.v (.int .i64) .k,.v (.int .i64) .k],λN x kf=>z7 N x.1 x.2.1 x.2.2.1 (ek .bool .k kf)⟩
theorem QF:Gr.ok:=lK Tryz.f249 [[ep],[bJ]] ⟨gh,cU,trivial⟩
noncomputable def sq:CE:=⟨209,[.val,.val,.val],[.v (.sl gm) .k,.v (.int .i64) .k,.v (.int .i64) .k],λN x kf=>nM N x.1 x.2.1 x.2.2.1 (ek .bool .k kf)⟩
theorem Gs:sq.ok:=lK Tryz.f209 [[ep],[da],[Gr]] ⟨gh,er,QF,trivial⟩ (bw:=[(2,(OT.seq [0,1,2,3,4,5,6,7,8,9,10,11,12,13,14,15,16,17,18,19,20,21,22,23,24,25,26,27,28,29,30,31,32,33,34,35] .done))])
noncomputable def Gt:CE:=⟨166,[.val,.val],[.v (.sl gm) .k,.v (.sl ib) .k],λN x kf=>z8 N x.1 x.2.1 (ek .bool .k kf)⟩
def yo:List Kd:=(.v (.sl gm) .k::dn 4 (.v (.sl (.int .i64)) (.o 3 none .k)::dn 38 ([])))
def yp:List Kd:=(dn 4 (.v .bool .k::dn 39 ([])))
def wF:List Kd:=(dn 44 ([]))
def wG:List Kd:=(dn 4 (.v .bool .k::dn 39 ([])))
theorem QG:Gt.ok:=eK2 Tryz.f166 [[sq],[xS]] 3 (.v (.sl gm) .k::dn 4 (.v (.sl (.int .i64)) (.o 3 none .k)::dn 5 (.v (.sl ib) .k::.v (.int .i64) .k::.v (.int .i64) .k::dn 30 ([])))) (λN n x K=>jE N x.1 x.2.2.1 x.2.2.2.1 n (λz0=>K (.x 0) (shape yo (x.1,z0,()))) (λz0=>K .r (shape yp (z0,()))) x.2.1 x.2.2.2.2.1) 10 (dn 5 (.v (.sl (.int .i64)) (.o 3 none .k)::dn 26 (.v (.sl gm) .k::.v (.int .i64) .k::.v (.int .i64) .k::dn 9 ([])))) (λN n x K=>iH N x.1 x.2.1 x.2.2.1 n (K (.x 2) (shape wF ())) (λz0=>K .r (shape wG (z0,()))) x.2.2.2.1) [(3,2,yo),(3,1,yp),(10,4,wF),(10,1,wG)] ⟨Gs,CZ,trivial⟩
noncomputable def zz:CE:=⟨210,[.val],[.v tI .k,.v (.ptr (.int .i64)) .k],λN x kf=>qA N x.1 x.2.1 (ek .bool .k kf)⟩
theorem Jv:zz.ok:=lK Tryz.f210 [] trivial
noncomputable def gV:CE:=⟨160,[.val,.val],[.v (.sl tI) .k,.fn 210 [(.ptr (.int .i64))]],λN x kf=>bu N x.1 x.2.1.1 (ek (.int .i64) .k kf)⟩
def eY:List Kd:=(dn 19 ([]))
def eZ:List Kd:=(dn 4 (.v (.int .i64) .k::dn 14 ([])))
theorem nY:gV.ok:=oX Tryz.f160 [[zz]] 2 (.v (.sl tI) .k::.vY 210 [.kv (.ptr (.int .i64))]::dn 5 (.v (.int .i64) .k::.v (.int .i64) .k::dn 10 ([]))) (λN n x K=>aO N x.1 x.2.1.1 x.2.2.1 n (K (.x 0) (shape eY ())) (λz0=>K .r (shape eZ (z0,()))) x.2.2.2.1) [(2,2,eY),(2,1,eZ)] ⟨Jv,trivial⟩
noncomputable def nc:CE:=⟨189,[.val,.val,.val],[.v (.sl gm) .k,.v tI .k,.v ib .k],λN x kf=>kn N x.1 x.2.1 x.2.2.1 (ek .bool .k kf)⟩
def wH:List Kd:=(dn 42 ([]))
def wI:List Kd:=(dn 6 (.v .bool .k::dn 35 ([])))
theorem xx:nc.ok:=oX Tryz.f189 [[ep],[bJ]] 2 (.v (.sl gm) .k::dn 3 (.v (.ptr tI) (.o 65 none .k)::dn 9 (.v (.sl (.int .i64)) (.o 3 none .k)::.v (.int .i64) .k::.v (.int .i64) .k::dn 25 ([])))) (λN n x K=>iI N x.1 x.2.1 x.2.2.1 x.2.2.2.1 n (K (.x 0) (shape wH ())) (λz0=>K .r (shape wI (z0,()))) x.2.2.2.2.1) [(2,2,wH),(2,1,wI)] ⟨gh,cU,trivial⟩ (bw:=[(5,(OT.seq [0,1,2,3,4,5,6,7,8,9,10,11,12,13,14,15,16,17] .done))])
noncomputable def Cs:CE:=⟨167,[.val,.val,.val,.val],[.v (.sl gm) .k,.v (.sl tI) .k,.v (.sl ib) .k,.v (.sl (.int .i64)) .k],λN x kf=>uy N x.1 x.2.1 x.2.2.1 x.2.2.2.1 (ek .bool .k kf)⟩
def vF:List Kd:=(dn 55 ([]))
def vG:List Kd:=(dn 8 (.v .bool .k::dn 46 ([])))
theorem NM:Cs.ok:=oX Tryz.f167 [[pH],[gV],[bJ],[nc]] 4 (.v (.sl gm) .k::.v (.sl tI) .k::.v (.sl ib) .k::.v (.sl (.int .i64)) .k::dn 18 (.v (.sl (.int .i64)) .k::.v (.int .i64) .k::.v (.int .i64) .k::dn 30 ([]))) (λN n x K=>gG N x.1 x.2.1 x.2.2.1 x.2.2.2.1 x.2.2.2.2.1 x.2.2.2.2.2.1 n (K (.x 0) (shape vF ())) (λz0=>K .r (shape vG (z0,()))) x.2.2.2.2.2.2.1) [(4,2,vF),(4,1,vG)] ⟨vE,nY,cU,xx,trivial⟩ (bw:=[(7,(OT.seq [0,1,2,3,4,5,6,7,8,9,10,11,12,13,14,15,16,17,18,19,20,21] .done))])
noncomputable def qH:CE:=⟨107,[.val],[.v It .k],λN x kf=>ko N x.1 (ek .bool .k kf)⟩
theorem xy:qH.ok:=lK Tryz.f107 [[cA]] ⟨cY,trivial⟩
noncomputable def Ct:CE:=⟨168,[.val],[.v (.sl gm) .k],λN x kf=>uz N x.1 (ek (.int .i64) .k kf)⟩
def vH:List Kd:=(dn 3 (.v (.int .i64) .k::dn 18 ([])))
theorem NN:Ct.ok:=oX Tryz.f168 [[da]] 5 (dn 3 (.v (.int .i64) .k::dn 6 (.v (.sl gm) .k::.v (.int .i64) .k::.v (.int .i64) .k::dn 9 ([])))) (λN n x K=>gH x.2.1 x.2.2.1 n (λz0=>K (.x 0) (shape vH (z0,()))) x.1 x.2.2.2.1) [(5,2,vH)] ⟨er,trivial⟩
noncomputable def nf:CE:=⟨104,[.val],[.v fg .k],λN x kf=>lD N x.1 (ek .bool .k kf)⟩
def zA:List Kd:=(dK::.v (.ptr fg) (.o 31 none .k)::dn 97 ([]))
def zB:List Kd:=(dK::dK::.v .bool .k::dn 96 ([]))
theorem qg:nf.ok:=oX Tryz.f104 [[da],[pH],[nX],[jt],[Gt],[Cs],[qH],[cA],[Ct]] 6 (dK::.v (.ptr fg) (.o 31 none .k)::dn 60 (.v (.sl It) .k::.v (.int .i64) .k::.v (.int .i64) .k::dn 34 ([]))) (λN n x K=>jc N x.1 x.2.1 x.2.2.1 n (K (.x 0) (shape zA (x.1,()))) (λz0=>K .r (shape zB (z0,()))) x.2.2.2.1) [(6,2,zA),(6,1,zB)] ⟨er,vE,sV,lM,QG,NM,xy,cY,NN,trivial⟩ (bw:=[(8,(OT.seq [0,1,2,3,4,5,6,7,8,9,10,11,12,13,14,15,16,17] .done)),(11,(OT.seq [0,1,2,3,4,5,7,8,6,9,10,11] .done))])
noncomputable def jI:CE:=⟨101,[.val,.take,.val,.val],[.v fg .k,.v fg (.p (.o 60 none (.p .k (.p .k (.p .k (.p .k (.p .k (.o 3 none .k))))))) (.p (.o 65 none (.p .k (.p .k (.o 3 none .k)))) (.p (.o 69 none .k) (.p (.o 3 none .k) (.p (.o 72 none .k) (.p (.o 75 none .k) .k)))))),.v (.int .i64) .k,.v (.int .i64) .k],λN x kf=>j0 N x.1 x.2.1 x.2.2.1 x.2.2.2.1 (Pd fg (.p (.o 60 none (.p .k (.p .k (.p .k (.p .k (.p .k (.o 3 none .k))))))) (.p (.o 65 none (.p .k (.p .k (.o 3 none .k)))) (.p (.o 69 none .k) (.p (.o 3 none .k) (.p (.o 72 none .k) (.p (.o 75 none .k) .k)))))) .bool .k kf)⟩
theorem lq:jI.ok:=lK Tryz.f101 [[Cr],[nf],[dv]] ⟨NL,qg,eX,trivial⟩
noncomputable def Eh:CE:=⟨55,[.val,.val,.val],[.v fg .k,.v (.int .i64) .k,.v (.int .i64) .k],λN x kf=>gw N x.1 x.2.1 x.2.2.1 (Pd fg (.p (.o 60 none (.p .k (.p .k (.p .k (.p .k (.p .k (.o 3 none .k))))))) (.p (.o 65 none (.p .k (.p .k (.o 3 none .k)))) (.p (.o 69 none .k) (.p (.o 3 none .k) (.p (.o 72 none .k) (.p (.o 75 none .k) .k)))))) .bool .k kf)⟩
def wJ:List Kd:=(dK::.v (.int .i64) .k::.v (.int .i64) .k::.v (.ptr fg) (.o 31 none .k)::dK::dK::.v (.ptr fg) (.o 31 none (.p (.o 60 none (.p .k (.p .k (.p .k (.p .k (.p .k (.o 3 none .k))))))) (.p (.o 65 none (.p .k (.p .k (.o 3 none .k)))) (.p (.o 69 none .k) (.p (.o 3 none .k) (.p (.o 72 none .k) (.p (.o 75 none .k) .k)))))))::dK::.v (.ptr fg) (.o 31 none (.p (.o 60 none (.p .k (.p .k (.p .k (.p .k (.p .k (.o 3 none .k))))))) (.p (.o 65 none (.p .k (.p .k (.o 3 none .k)))) (.p (.o 69 none .k) (.p (.o 3 none .k) (.p (.o 72 none .k) (.p (.o 75 none .k) .k)))))))::.v (.int .i64) .k::dn 44 ([]))
theorem Ps:Eh.ok:=oX Tryz.f55 [[dv],[ep],[jt],[aeD],[jI]] 5 (dK::.v (.int .i64) .k::.v (.int .i64) .k::.v (.ptr fg) (.o 31 none .k)::dK::dK::.v (.ptr fg) (.o 31 none (.p (.o 60 none (.p .k (.p .k (.p .k (.p .k (.p .k (.o 3 none .k))))))) (.p (.o 65 none (.p .k (.p .k (.o 3 none .k)))) (.p (.o 69 none .k) (.p (.o 3 none .k) (.p (.o 72 none .k) (.p (.o 75 none .k) .k)))))))::dK::.v (.ptr fg) (.o 31 none (.p (.o 60 none (.p .k (.p .k (.p .k (.p .k (.p .k (.o 3 none .k))))))) (.p (.o 65 none (.p .k (.p .k (.o 3 none .k)))) (.p (.o 69 none .k) (.p (.o 3 none .k) (.p (.o 72 none .k) (.p (.o 75 none .k) .k)))))))::.v (.int .i64) .k::dn 44 ([])) (λN n x K=>gb x.1 x.2.1 x.2.2.1 x.2.2.2.1 x.2.2.2.2.1 n (λz0=>K (.x 0) (shape wJ (x.1,x.2.1,x.2.2.1,x.2.2.2.1,x.2.2.2.2.1,z0,()))) x.2.2.2.2.2.1) [(5,2,wJ)] ⟨eX,gh,lM,alZ,lq,trivial⟩
noncomputable def Cu:CE:=⟨161,[.val],[.v tI .k,.v (.ptr (.int .i64)) .k],λN x kf=>uD N x.1 x.2.1 (ek .bool .k kf)⟩
theorem NO:Cu.ok:=lK Tryz.f161 [] trivial
noncomputable def iz:CE:=⟨160,[.val,.val],[.v (.sl tI) .k,.fn 161 [(.ptr (.int .i64))]],λN x kf=>ee N x.1 x.2.1.1 (ek (.int .i64) .k kf)⟩
def fE:List Kd:=(dn 19 ([]))
def fF:List Kd:=(dn 4 (.v (.int .i64) .k::dn 14 ([])))
theorem pd:iz.ok:=oX Tryz.f160 [[Cu]] 2 (.v (.sl tI) .k::.vY 161 [.kv (.ptr (.int .i64))]::dn 5 (.v (.int .i64) .k::.v (.int .i64) .k::dn 10 ([]))) (λN n x K=>aT N x.1 x.2.1.1 x.2.2.1 n (K (.x 0) (shape fE ())) (λz0=>K .r (shape fF (z0,()))) x.2.2.2.1) [(2,2,fE),(2,1,fF)] ⟨NO,trivial⟩
noncomputable def sr:CE:=⟨102,[.val,.val],[.v (.sl tI) .k,.v (.int .i64) .k],λN x kf=>j8 N x.1 x.2.1 (ek (.int .i64) .k kf)⟩
theorem y5:sr.ok:=lK Tryz.f102 [[iz]] ⟨pd,trivial⟩
def ajX:Go.Shelf.Ren:=⟨λn=>bif Nat.beq n 22 then 103 else bif Nat.beq n 29 then 162 else bif Nat.beq n 30 then 163 else n,λn=>bif Nat.beq n 0 then 0 else bif Nat.beq n 3 then 3 else bif Nat.beq n 4 then 4 else bif Nat.beq n 9 then 65 else bif Nat.beq n 24 then 25 else n,λn=>n⟩
def al0:Array Value:=#[.int .i64 0,.int .i64 0,.slice none 0 0]
noncomputable def al1:TypeInfo:=(Tryz.prog.info? 65).get (by kernel_rfl)
theorem ajY:V0 Tryz.prog ajX (Ty.size tI) al0 al1:={ FB:=⟨Tryz.f103.name,by kernel_rfl,by kernel_rfl⟩,FO:=⟨Tryz.f162,by kernel_rfl,by kernel_rfl,by kernel_rfl,by kernel_rfl,by kernel_rfl⟩,mixed:=by kernel_rfl,t0:=by kernel_rfl,a0:=λw=>by kernel_rfl,z0:=λw=>by kernel_rfl,v0:=λw=>by kernel_rfl,t3:=by kernel_rfl,a3:=λw=>by kernel_rfl,z3:=λw=>by kernel_rfl,v3:=λw=>by kernel_rfl,t4:=by kernel_rfl,a4:=λw=>by kernel_rfl,z4:=λw=>by kernel_rfl,v4:=λw=>by kernel_rfl,t24:=by kernel_rfl,a24:=λw=>by kernel_rfl,z24:=λw=>by kernel_rfl,v24:=λw=>by kernel_rfl,z9:=λw=>by kernel_rfl,hz:=by kernel_rfl,hzo:=by kernel_rfl,WG:=by kernel_rfl,hz0:=by kernel_rfl,Wt:=by kernel_rfl,hby:=Nat.le_of_ble_eq_true (by kernel_rfl),Qk:=Nat.le_of_ble_eq_true (by kernel_rfl) }
def XM:List AK:=[.v (.sl tI) (.o 65 none (.p .k (.p .k (.o 3 none .k)))),.v (.int .i64) .k,.v (.sl tI) (.o 65 none (.p .k (.p .k (.o 3 none .k))))]
noncomputable def ajZ (N:Nat) (x:cG XM) (kf:aa->Option aa):Option aa:=ak2 N x.1 x.2.1 x.2.2.1 (λr0=>kf ⟨[⟨(.sl tI),(.o 65 none (.p .k (.p .k (.o 3 none .k)))),r0⟩],[]⟩)
noncomputable def aj0 (N:Nat):=aV XM (ajZ N)
theorem al2 {Γ:Gl} (xa:ot Γ) (N:Nat):Sound Γ Tryz.prog 103 (aj0 N):=Nr ajY (.p .k (.p .k (.o 3 none .k))) (by kernel_rfl)
noncomputable def aeE:CE:=⟨103,[.take,.val,.take],XM,ajZ⟩
theorem al3:aeE.ok:=λh N=>al2 h N
noncomputable def Cv:CE:=⟨56,[.val,.val,.val],[.v fg .k,.v (.int .i64) .k,.v (.int .i64) .k],λN x kf=>jd N x.1 x.2.1 x.2.2.1 (Pd fg (.p (.o 60 none (.p .k (.p .k (.p .k (.p .k (.p .k (.o 3 none .k))))))) (.p (.o 65 none (.p .k (.p .k (.o 3 none .k)))) (.p (.o 69 none .k) (.p (.o 3 none .k) (.p (.o 72 none .k) (.p (.o 75 none .k) .k)))))) .bool .k kf)⟩
def vI:List Kd:=(dK::.v (.int .i64) .k::.v (.int .i64) .k::.v (.ptr fg) (.o 31 none .k)::dK::dK::.v (.ptr fg) (.o 31 none (.p (.o 60 none (.p .k (.p .k (.p .k (.p .k (.p .k (.o 3 none .k))))))) (.p (.o 65 none (.p .k (.p .k (.o 3 none .k)))) (.p (.o 69 none .k) (.p (.o 3 none .k) (.p (.o 72 none .k) (.p (.o 75 none .k) .k)))))))::dK::.v (.ptr fg) (.o 31 none (.p (.o 60 none (.p .k (.p .k (.p .k (.p .k (.p .k (.o 3 none .k))))))) (.p (.o 65 none (.p .k (.p .k (.o 3 none .k)))) (.p (.o 69 none .k) (.p (.o 3 none .k) (.p (.o 72 none .k) (.p (.o 75 none .k) .k)))))))::.v (.int .i64) .k::dn 40 ([]))
theorem NP:Cv.ok:=oX Tryz.f56 [[dv],[sr],[aeE],[jI]] 5 (dK::.v (.int .i64) .k::.v (.int .i64) .k::.v (.ptr fg) (.o 31 none .k)::dK::dK::.v (.ptr fg) (.o 31 none (.p (.o 60 none (.p .k (.p .k (.p .k (.p .k (.p .k (.o 3 none .k))))))) (.p (.o 65 none (.p .k (.p .k (.o 3 none .k)))) (.p (.o 69 none .k) (.p (.o 3 none .k) (.p (.o 72 none .k) (.p (.o 75 none .k) .k)))))))::dK::.v (.ptr fg) (.o 31 none (.p (.o 60 none (.p .k (.p .k (.p .k (.p .k (.p .k (.o 3 none .k))))))) (.p (.o 65 none (.p .k (.p .k (.o 3 none .k)))) (.p (.o 69 none .k) (.p (.o 3 none .k) (.p (.o 72 none .k) (.p (.o 75 none .k) .k)))))))::.v (.int .i64) .k::dn 40 ([])) (λN n x K=>eU x.1 x.2.1 x.2.2.1 x.2.2.2.1 x.2.2.2.2.1 n (λz0=>K (.x 0) (shape vI (x.1,x.2.1,x.2.2.1,x.2.2.2.1,x.2.2.2.2.1,z0,()))) x.2.2.2.2.2.1) [(5,2,vI)] ⟨eX,y5,al3,lq,trivial⟩
def aj1:Hint:={ tab,hn:=[],loops:=[],outs:=[],bw:=[] }
def NQ:List AK:=[.v (.sl gm) .k]
noncomputable def TW (N:Nat) (x:cG NQ) (kf:aa->Option aa):Option aa:=ak4 N x.1 (λr0=>kf ⟨[⟨(.sl gm),(.o 60 none .k),r0⟩],[]⟩)
noncomputable def aj2 (N:Nat):=aV NQ (TW N)
def V4:Code:=cX Tryz.f115
theorem al4:a8 V4=[]:=by kernel_rfl
theorem al5 (N:Nat):FnT NQ (TW N) aj1 [] (noL N N) Tryz.f115:=λ_ _=>by kernel_rfl
theorem aj3 (N:Nat) (x:cG NQ):dk (TW N x):=by
 obtain⟨l,u⟩:=x;unfold TW ak4;cases l with
 |nil=>exact⟨some _,λK=>Af _⟩
 |cons a l=>simp only[List.isEmpty_cons,cond_false];exact dk.bif _ (dk.pure _) dk.none
theorem al6 {Γ:Gl} (xa:ot Γ) (N:Nat):Sound Γ Tryz.prog 115 (aj2 N):=lz (hh:=aj1) mixed qe (es:=[]) trivial (fn:=Tryz.f115) (body:=V4) (by kernel_rfl) (by kernel_rfl) (by kernel_rfl) (by kernel_rfl) (by kernel_rfl) (Lf:=noL N) (ac2 N) al4 trivial (N:=N) (by kernel_rfl) (al5 N) (.inr (aj3 N))
noncomputable def aeF:CE:=⟨115,[.val],NQ,TW⟩
theorem al7:aeF.ok:=λh N=>al6 h N
noncomputable def Bj:CE:=⟨222,[.val],[.v (.int .u64) .k],λN x kf=>yJ N x.1 (ek (.int .i64) .k kf)⟩
theorem Lr:Bj.ok:=lK Tryz.f222 [] trivial
noncomputable def xz:CE:=⟨176,[.val],[.v (.int .u64) .k],λN x kf=>rC N x.1 (ek (.int .i64) .k kf)⟩
theorem Ei:xz.ok:=lK Tryz.f176 [[Bj]] ⟨Lr,trivial⟩
noncomputable def Ej:CE:=⟨179,[.val],[.v (.int .i64) .k],λN x kf=>cmp_isNaN_int N x.1 (ek .bool .k kf)⟩
theorem Pt:Ej.ok:=lK Tryz.f179 [] trivial
noncomputable def sW:CE:=⟨119,[.val,.val],[.v (.int .i64) .k,.v (.int .i64) .k],λN x kf=>jF N x.1 x.2.1 (ek (.int .i64) .k kf)⟩
theorem Bk:sW.ok:=lK Tryz.f119 [[Ej]] ⟨Pt,trivial⟩
noncomputable def Kf:CE:=⟨118,[.val],[.v (.sl (.int .i64)) .k],λN x kf=>Fj N x.1 (ek (.int .i64) .k kf)⟩
def Bl:List Kd:=(dn 3 (.v (.int .i64) .k::dn 14 ([])))
def Bm:List Kd:=(dK::dK::.v (.int .i64) .k::dn 15 ([]))
theorem UJ:Kf.ok:=oX Tryz.f118 [] 3 (dn 3 (.v (.int .i64) .k::dK::dK::.v (.sl (.int .i64)) .k::.v (.int .i64) .k::.v (.int .i64) .k::dn 9 ([]))) (λN n x K=>l5 x.1 x.2.1 x.2.2.1 n (K (.x 0) (shape Bl (x.1,()))) (λz0=>K .r (shape Bm (z0,()))) x.2.2.2.1) [(3,2,Bl),(3,1,Bm)] trivial
noncomputable def Bn:CE:=⟨117,[.val,.val],[.v gm .k,.v gm .k],λN x kf=>se N x.1 x.2.1 (ek (.int .i64) .k kf)⟩
theorem Ls:Bn.ok:=lK Tryz.f117 [[sW],[Kf]] ⟨Bk,UJ,trivial⟩ (bw:=[(1,(OT.seq [0,1,2,3,5,6,7,8,10,11,12,13,4,9,14,15,16,17] .done))])
noncomputable def dB:CE:=⟨223,[.Al,.val,.val,.val],[.v (.sl gm) (.o 60 (some 0) .k),.v (.int .i64) .k,.v (.int .i64) .k,.fn 117 []],λN x kf=>bZ N x.1 x.2.1 x.2.2.1 (λz=>kf ⟨[],[⟨(.sl gm),(.o 60 (some 0) .k),z⟩]⟩)⟩
def cQ:List Kd:=(.v (.sl gm) (.o 60 (some 0) .k)::.v (.int .i64) .k::.v (.int .i64) .k::.vY 117 []::dn 4 (.v (.int .i64) .k::dn 44 ([])))
def cR:List Kd:=(.v (.sl gm) (.o 60 (some 0) .k)::dn 52 ([]))
theorem kC:dB.ok:=eK2 Tryz.f223 [[Bn]] 1 (.v (.sl gm) (.o 60 (some 0) .k)::.v (.int .i64) .k::.v (.int .i64) .k::.vY 117 []::dn 4 (.v (.int .i64) .k::dn 44 ([]))) (λN n x K=>aC N x.2.1 x.2.2.1 n (λz0=>K (.x 0) (shape cR (z0,()))) x.1 x.2.2.2.2.1) 4 (.v (.sl gm) (.o 60 (some 0) .k)::.v (.int .i64) .k::.v (.int .i64) .k::.vY 117 []::dn 4 (.v (.int .i64) .k::.v (.int .i64) .k::dn 43 ([]))) (λN n x K=>aJ N x.2.1 x.2.2.1 x.2.2.2.2.1 n (λz0=>K (.x 2) (shape cQ (z0,x.2.1,x.2.2.1,(),x.2.2.2.2.1,()))) x.1 x.2.2.2.2.2.1) [(4,4,cQ),(1,2,cR)] ⟨Ls,trivial⟩ (bw:=[(4,(OT.seq [0,1,2,3,4,5,6,7,8,9,10,11,12,13,14,15,16] .done)),(6,(OT.seq [0,1,5,6,7,8,9,10,11,12,13,14,2,3,4,15,16,17] .done))]) (iQ:=some (0,false))
noncomputable def fG:CE:=⟨178,[.Al,.val,.val,.val,.val],[.v (.sl gm) (.o 60 (some 0) .k),.v (.int .i64) .k,.v (.int .i64) .k,.v (.int .i64) .k,.fn 117 []],λN x kf=>bI N x.1 x.2.1 x.2.2.1 x.2.2.2.1 (λz=>kf ⟨[],[⟨(.sl gm),(.o 60 (some 0) .k),z⟩]⟩)⟩
def dU:List Kd:=(.v (.sl gm) (.o 60 (some 0) .k)::dn 147 ([]))
theorem mq:fG.ok:=oX Tryz.f178 [[dB]] 2 (.v (.sl gm) (.o 60 (some 0) .k)::.v (.int .i64) .k::.v (.int .i64) .k::.v (.int .i64) .k::.vY 117 []::dn 5 (.v .bool .k::.v .bool .k::dn 136 ([]))) (λN n x K=>cp N x.1 x.2.1 x.2.2.1 x.2.2.2.1 x.2.2.2.2.2.1 x.2.2.2.2.2.2.1 n (λz0=>K .r (shape dU (z0,())))) [(2,1,dU)] ⟨kC,trivial⟩ (iQ:=some (0,false))
noncomputable def iP:CE:=⟨116,[.Al,.val],[.v (.sl gm) (.o 60 (some 0) .k),.fn 117 []],λN x kf=>cz N x.1 (λz=>kf ⟨[],[⟨(.sl gm),(.o 60 (some 0) .k),z⟩]⟩)⟩
theorem pQ:iP.ok:=lK Tryz.f116 [[xz],[fG]] ⟨Ei,mq,trivial⟩ (iQ:=some (0,false))
noncomputable def qI:CE:=⟨62,[.val],[.v (.sl gm) .k],λN x kf=>iR N x.1 (ek (.sl (.int .i64)) (.o 3 none .k) kf)⟩
def wK:List Kd:=(dn 3 (.v (.sl (.int .i64)) (.o 3 none .k)::dn 25 ([])))
theorem xA:qI.ok:=oX Tryz.f62 [[da],[aeF],[iP]] 7 (dn 3 (.v (.sl (.int .i64)) (.o 3 none .k)::dn 12 (.v (.sl gm) (.o 60 none .k)::.v (.int .i64) .k::.v (.int .i64) .k::dn 10 ([])))) (λN n x K=>iJ x.2.1 x.2.2.1 n (λz0=>K (.x 0) (shape wK (z0,()))) x.1 x.2.2.2.1) [(7,2,wK)] ⟨er,al7,pQ,trivial⟩
noncomputable def y7:CE:=⟨211,[.val,.val,.val],[.v (.sl gm) .k,.v (.int .i64) .k,.v (.int .i64) .k],λN x kf=>Aa N x.1 x.2.1 x.2.2.1 (ek ib .k kf)⟩
theorem QH:y7.ok:=lK Tryz.f211 [[ep],[da],[qI],[rk]] ⟨gh,er,xA,zy,trivial⟩ (bw:=[(4,(OT.seq [0,1,2,3,4,5,6,7,8,9,10,11] .done))])
def Lt:List Kd:=.v (.sl gm) .k::.v (.sl (.int .i64)) .k::dn 4 (.v (.int .i64) .k::dn 50 ([]))
def NR:List Kd:=dn 57 ([])
def NS:List Kd:=dn 4 (.v (.sl ib) (.o 69 none .k)::.v .bool .k::dn 51 ([]))
def adb:Hint:={ tab,hn:=[],loops:=[(4,Lt)],outs:=[(4,2,NR),(4,1,NS)],bw:=[(6,(OT.seq [0,1,2,3,4,5,6,7,8,9] .done)),(7,(OT.seq [0,1,2,3,4,5,6,7,8,9,10,11,12,13,14,15] .done)),(9,(OT.seq [0,1,2,3,4,5,6,7,10,8,9,11,12,13] .done))] }
def NT:List AK:=[.v (.sl gm) .k,.v (.sl (.int .i64)) .k]
noncomputable def ade (N:Nat) (x:cG NT) (kf:aa->Option aa):Option aa:=ab9 N x.1 x.2.1 (λr0 r1=>kf ⟨[⟨(.sl ib),(.o 69 none .k),r0⟩,⟨.bool,.k,r1⟩],[]⟩)
noncomputable def TX (N:Nat):=aV NT (ade N)
def XN (N:Nat):List Entry:=[⟨209,[.val,.val,.val],(aV sq.l (sq.F N))⟩,⟨152,[.val],(aV jh.l (jh.F N))⟩,⟨211,[.val,.val,.val],(aV y7.l (y7.F N))⟩,⟨169,[.val,.val],(TX N)⟩]
def Pu:Code:=cX Tryz.f169
noncomputable def XO (N n:Nat) (key:Nat) (S:St) (K:Ks):Option aa:=bif Nat.beq key 4 then mJ Lt S (λx=>Fm N (ab9 N) x.1 x.2.1 n (K (.x 0) (shape NR ())) (λz0 z1=>K .r (shape NS (z0,z1,()))) x.2.2.1) else none
theorem al8 (N key:Nat) (S:St) (K:Ks):XO N 0 key S K=none:=(WI (qw λ_=>rfl) rfl)
def aaS:Code:=(a8 Pu).getD 0 .skip
theorem al9:a8 Pu=[aaS]:=by kernel_rfl
theorem af5 (N:Nat):RdT adb (XN N) (XO N) N 4 Lt aaS:=λ_ _ _=>by kernel_rfl
theorem al' (N:Nat) (x:cG NT) (kf:aa->Option aa):ade (N+1) x kf=ny adb (n9.of (XN N)) (XO N N) Tryz.f169 (dF NT x) kf:=by kernel_rfl
theorem aeG {Γ:Gl} (xa:ot Γ):∀ N:Nat,Sound Γ Tryz.prog 169 (TX N)
 |0=>w8 λal kf=>by unfold TX aV;split<;>rfl
 |N+1=>lz (hh:=adb) mixed qe (es:=XN N) ⟨Gs xa N,⟨ym xa N,⟨QH xa N,⟨aeG xa N,trivial⟩⟩⟩⟩ (fn:=Tryz.f169) (body:=Pu) (by kernel_rfl) (by kernel_rfl) (by kernel_rfl) (by kernel_rfl) (by kernel_rfl) (Lf:=XO N) (al8 N) al9 (rc (af5 N) trivial) (N:=N) (by kernel_rfl) (al' N) (.inl (by kernel_rfl))
noncomputable def aeH:CE:=⟨169,[.val,.val],NT,ade⟩
theorem ama:aeH.ok:=λh N=>aeG h N
noncomputable def Cw:CE:=⟨105,[.val],[.v (.sl gm) .k],λN x kf=>uE N x.1 (Pd (.sl ib) (.o 69 none .k) .bool .k kf)⟩
theorem NU:Cw.ok:=lK Tryz.f105 [[da],[qI],[aeH]] ⟨er,xA,ama,trivial⟩
def Lu:List Kd:=.v (.sl gm) .k::.v (.sl tI) .k::.v (.sl ib) .k::.v (.sl (.int .i64)) .k::dn 14 (.v (.sl tI) .k::.v (.int .i64) .k::.v (.int .i64) .k::dn 38 ([]))
def NV:List Kd:=dn 59 ([])
def NW:List Kd:=dn 8 (.v (.sl (.int .i64)) (.o 3 none .k)::.v .bool .k::dn 49 ([]))
def adf:Hint:={ tab,hn:=[],loops:=[(4,Lu)],outs:=[(4,2,NV),(4,1,NW)],bw:=[(6,(OT.seq [0,1,2,3,4,5,6,7,8,9,10,11,12] .done)),(7,(OT.seq [4,6,7,0,1,2,3] (.any [5,8] (OT.seq [9,10,11,12,13,14,15] .done))))] }
def NX:List AK:=[.v (.sl gm) .k,.v (.sl tI) .k,.v (.sl ib) .k,.v (.sl (.int .i64)) .k]
noncomputable def adg (N:Nat) (x:cG NX) (kf:aa->Option aa):Option aa:=aca N x.1 x.2.1 x.2.2.1 x.2.2.2.1 (λr0 r1=>kf ⟨[⟨(.sl (.int .i64)),(.o 3 none .k),r0⟩,⟨.bool,.k,r1⟩],[]⟩)
noncomputable def TY (N:Nat):=aV NX (adg N)
def XP (N:Nat):List Entry:=[⟨187,[.val,.val],(aV bJ.l (bJ.F N))⟩,⟨189,[.val,.val,.val],(aV nc.l (nc.F N))⟩,⟨48,[.val],(aeA N)⟩,⟨170,[.val,.val,.val,.val],(TY N)⟩]
def Pw:Code:=cX Tryz.f170
noncomputable def XQ (N n:Nat) (key:Nat) (S:St) (K:Ks):Option aa:=bif Nat.beq key 4 then mJ Lu S (λx=>B0 N (aca N) x.1 x.2.1 x.2.2.1 x.2.2.2.1 x.2.2.2.2.1 x.2.2.2.2.2.1 n (K (.x 0) (shape NV ())) (λz0 z1=>K .r (shape NW (z0,z1,()))) x.2.2.2.2.2.2.1) else none
theorem amb (N key:Nat) (S:St) (K:Ks):XQ N 0 key S K=none:=(WI (qw λ_=>rfl) rfl)
def aaT:Code:=(a8 Pw).getD 0 .skip
theorem amc:a8 Pw=[aaT]:=by kernel_rfl
theorem af6 (N:Nat):RdT adf (XP N) (XQ N) N 4 Lu aaT:=λ_ _ _=>by kernel_rfl
theorem amd (N:Nat) (x:cG NX) (kf:aa->Option aa):adg (N+1) x kf=ny adf (n9.of (XP N)) (XQ N N) Tryz.f170 (dF NX x) kf:=by kernel_rfl
theorem aeI {Γ:Gl} (xa:ot Γ):∀ N:Nat,Sound Γ Tryz.prog 170 (TY N)
 |0=>w8 λal kf=>by unfold TY aV;split<;>rfl
 |N+1=>lz (hh:=adf) mixed qe (es:=XP N) ⟨cU xa N,⟨xx xa N,⟨ajF xa N,⟨aeI xa N,trivial⟩⟩⟩⟩ (fn:=Tryz.f170) (body:=Pw) (by kernel_rfl) (by kernel_rfl) (by kernel_rfl) (by kernel_rfl) (by kernel_rfl) (Lf:=XQ N) (amb N) amc (rc (af6 N) trivial) (N:=N) (by kernel_rfl) (amd N) (.inl (by kernel_rfl))
noncomputable def aeJ:CE:=⟨170,[.val,.val,.val,.val],NX,adg⟩
theorem ame:aeJ.ok:=λh N=>aeI h N
noncomputable def Bo:CE:=⟨106,[.val,.val,.val],[.v (.sl gm) .k,.v (.sl tI) .k,.v (.sl ib) .k],λN x kf=>sh N x.1 x.2.1 x.2.2.1 (Pd (.sl (.int .i64)) (.o 3 none .k) .bool .k kf)⟩
theorem Lv:Bo.ok:=lK Tryz.f106 [[pH],[da],[aeJ]] ⟨vE,er,ame,trivial⟩
noncomputable def El:CE:=⟨57,[.val],[.v fg .k],λN x kf=>oV N x.1 (Pd fg (.p (.o 60 none (.p .k (.p .k (.p .k (.p .k (.p .k (.o 3 none .k))))))) (.p (.o 65 none (.p .k (.p .k (.o 3 none .k)))) (.p (.o 69 none .k) (.p (.o 3 none .k) (.p (.o 72 none .k) (.p (.o 75 none .k) .k)))))) .bool .k kf)⟩
theorem Px:El.ok:=lK Tryz.f57 [[dv],[nf],[jt],[Cw],[Bo],[jI]] ⟨eX,qg,lM,NU,Lv,lq,trivial⟩ (bw:=[(8,(OT.seq [0,5,1,2,3] (.par [4,6,7,8] [[50,51]] (OT.seq [9,10] .done))))])
noncomputable def Bp:CE:=⟨58,[.val,.val,.val,.val],[.v fg .k,.v (.int .i64) .k,.v (.int .i64) .k,.v (.int .i64) .k],λN x kf=>fu N x.1 x.2.1 x.2.2.1 x.2.2.2.1 (Pd fg (.p (.o 60 none (.p .k (.p .k (.p .k (.p .k (.p .k (.o 3 none .k))))))) (.p (.o 65 none (.p .k (.p .k (.o 3 none .k)))) (.p (.o 69 none .k) (.p (.o 3 none .k) (.p (.o 72 none .k) (.p (.o 75 none .k) .k)))))) .bool .k kf)⟩
theorem Lw:Bp.ok:=lK Tryz.f58 [[dv],[nf],[qH],[jI]] ⟨eX,qg,xy,lq,trivial⟩
noncomputable def oA:CE:=⟨65,[.val],[.v fg .k],λN x kf=>iS N x.1 (ek (.sl (.int .i64)) (.o 3 none .k) kf)⟩
def yq:List Kd:=(dn 3 (.v (.sl (.int .i64)) (.o 3 none .k)::dn 20 ([])))
theorem su:oA.ok:=oX Tryz.f65 [] 3 (dn 3 (.v (.sl (.int .i64)) (.o 3 none .k)::dn 4 (.v (.sl It) .k::.v (.int .i64) .k::.v (.int .i64) .k::dn 13 ([])))) (λN n x K=>ik x.2.1 x.2.2.1 n (λz0=>K (.x 0) (shape yq (z0,()))) x.1 x.2.2.2.1) [(3,2,yq)] trivial
noncomputable def nZ:CE:=⟨171,[.val],[.v (.sl It) .k],λN x kf=>k9 N x.1 (ek .bool .k kf)⟩
def tE:List Kd:=(dn 34 ([]))
def tF:List Kd:=(dK::dK::.v .bool .k::dn 31 ([]))
theorem sX:nZ.ok:=oX Tryz.f171 [[qH]] 4 (.v (.sl It) .k::dn 7 (.v (.sl It) .k::.v (.int .i64) .k::.v (.int .i64) .k::dn 23 ([]))) (λN n x K=>dN N x.1 x.2.1 x.2.2.1 n (K (.x 0) (shape tE ())) (λz0=>K .r (shape tF (z0,()))) x.2.2.2.1) [(4,2,tE),(4,1,tF)] ⟨xy,trivial⟩ (bw:=[(6,(OT.seq [0,1,2,3,4,5,6,7,8,9,10,11,12,13,14,15,16,17] .done))])
noncomputable def Bq:CE:=⟨174,[.val],[.v It .k],λN x kf=>tk N x.1 (ek (.int .i64) .k kf)⟩
theorem H3:Bq.ok:=lK Tryz.f174 [] trivial
noncomputable def Em:CE:=⟨172,[.val,.val],[.v (.sl It) .k,.v (.int .i64) .k],λN x kf=>rD N x.1 x.2.1 (ek (.int .i64) .k kf)⟩
def wL:List Kd:=(dn 5 (.v (.int .i64) .k::dn 20 ([])))
theorem Py:Em.ok:=oX Tryz.f172 [[nZ],[Bq]] 5 (dK::.v (.int .i64) .k::dn 3 (.v (.int .i64) .k::dn 6 (.v (.sl It) .k::.v (.int .i64) .k::.v (.int .i64) .k::dn 11 ([])))) (λN n x K=>gf N x.1 x.2.2.1 x.2.2.2.1 n (λz0=>K (.x 0) (shape wL (z0,()))) x.2.1 x.2.2.2.2.1) [(5,2,wL)] ⟨sX,H3,trivial⟩
noncomputable def H4:CE:=⟨173,[.val,.val],[.v (.sl It) .k,.v (.int .i64) .k],λN x kf=>p8 N x.1 x.2.1 (ek (.int .i64) .k kf)⟩
def zC:List Kd:=(dn 5 (.v (.int .i64) .k::dn 27 ([])))
theorem TZ:H4.ok:=oX Tryz.f173 [[nZ]] 5 (dK::.v (.int .i64) .k::dn 3 (.v (.int .i64) .k::dn 6 (.v (.sl It) .k::.v (.int .i64) .k::.v (.int .i64) .k::dn 18 ([])))) (λN n x K=>gJ x.1 x.2.2.1 x.2.2.2.1 n (λz0=>K (.x 0) (shape zC (z0,()))) x.2.1 x.2.2.2.2.1) [(5,2,zC)] ⟨sX,trivial⟩
noncomputable def Eo:CE:=⟨109,[.val],[.v (.sl It) .k],λN x kf=>oW N x.1 (ek (.int .i64) .k kf)⟩
theorem Pz:Eo.ok:=lK Tryz.f109 [[nZ],[Em],[H4],[Bq]] ⟨sX,Py,TZ,H3,trivial⟩
end Go.Pv.R
