/- Each function of the program that the law reaches computes its plain function, part 3. -/
import Derived.Test.YtafpcididdbipaaGreatDoorSnd2
import Derived.Test.YtafpcididdbipaaGreatDoorProg
set_option linter.unusedVariables false
noncomputable section
namespace Go.Pv.R
open List Int IntKind
open Go.Proofs
set_option maxRecDepth 100000
noncomputable def Cx:CE:=⟨108,[.val,.val,.val,.val,.val,.val],[.v (.sl gm) .k,.v (.int .i64) .k,.v (.int .i64) .k,.v (.int .i64) .k,.v (.int .i64) .k,.v (.int .i64) .k],λN x kf=>mU N x.1 x.2.1 x.2.2.1 x.2.2.2.1 x.2.2.2.2.1 x.2.2.2.2.2.1 (Pd (.sl gm) (.o 60 none (.p .k (.p .k (.p .k (.p .k (.p .k (.o 3 none .k))))))) .bool .k kf)⟩
theorem NY:Cx.ok:=lK Tryz.f108 [[sU],[ep],[da],[cA]] ⟨Be,gh,er,cY,trivial⟩ (bw:=[(5,(OT.seq [4,5,6,7,8] (.own 65 (OT.seq [9,0,1,2,3,12,13,14,15,17] (.par [10,11,16,18] [[66,67],[65,66,67,68],[74,75]] (.own 73 (OT.seq [19,20,21,22,23,24,25] .done)))))))])
def aj4:Go.Shelf.Ren:=⟨λn=>bif Nat.beq n 125 then 176 else bif Nat.beq n 128 then 221 else bif Nat.beq n 129 then 222 else bif Nat.beq n 189 then 110 else bif Nat.beq n 215 then 179 else bif Nat.beq n 216 then 218 else bif Nat.beq n 257 then 175 else bif Nat.beq n 294 then 212 else bif Nat.beq n 295 then 213 else bif Nat.beq n 296 then 214 else bif Nat.beq n 297 then 215 else bif Nat.beq n 298 then 216 else bif Nat.beq n 299 then 217 else bif Nat.beq n 300 then 219 else bif Nat.beq n 301 then 220 else bif Nat.beq n 328 then 250 else bif Nat.beq n 329 then 251 else bif Nat.beq n 330 then 252 else bif Nat.beq n 331 then 253 else bif Nat.beq n 332 then 254 else bif Nat.beq n 343 then 275 else n,λn=>bif Nat.beq n 0 then 0 else bif Nat.beq n 3 then 3 else bif Nat.beq n 4 then 4 else bif Nat.beq n 5 then 5 else bif Nat.beq n 9 then 9 else bif Nat.beq n 28 then 27 else bif Nat.beq n 46 then 149 else bif Nat.beq n 51 then 214 else bif Nat.beq n 53 then 130 else bif Nat.beq n 131 then 53 else bif Nat.beq n 182 then 206 else bif Nat.beq n 183 then 207 else bif Nat.beq n 218 then 235 else bif Nat.beq n 222 then 239 else bif Nat.beq n 228 then 254 else bif Nat.beq n 229 then 255 else n,λn=>n⟩
theorem af7:Lays.n189 Tryz.prog aj4:={ mixed:=by kernel_rfl,f125:=by kernel_rfl,f128:=by kernel_rfl,f129:=by kernel_rfl,f189:=by kernel_rfl,f215:=by kernel_rfl,f216:=by kernel_rfl,f257:=by kernel_rfl,f294:=by kernel_rfl,f295:=by kernel_rfl,f296:=by kernel_rfl,f297:=by kernel_rfl,f298:=by kernel_rfl,f299:=by kernel_rfl,f300:=by kernel_rfl,f301:=by kernel_rfl,f328:=by kernel_rfl,f329:=by kernel_rfl,f330:=by kernel_rfl,f331:=by kernel_rfl,f332:=by kernel_rfl,f343:=by kernel_rfl,t0:=by kernel_rfl,a0:=λw=>by kernel_rfl,z0:=λw=>by kernel_rfl,v0:=λw=>by kernel_rfl,t3:=by kernel_rfl,a3:=λw=>by kernel_rfl,z3:=λw=>by kernel_rfl,v3:=λw=>by kernel_rfl,t4:=by kernel_rfl,a4:=λw=>by kernel_rfl,z4:=λw=>by kernel_rfl,v4:=λw=>by kernel_rfl,t5:=by kernel_rfl,a5:=λw=>by kernel_rfl,z5:=λw=>by kernel_rfl,v5:=λw=>by kernel_rfl,t9:=by kernel_rfl,a9:=λw=>by kernel_rfl,z9:=λw=>by kernel_rfl,v9:=λw=>by kernel_rfl,t28:=by kernel_rfl,a28:=λw=>by kernel_rfl,z28:=λw=>by kernel_rfl,v28:=λw=>by kernel_rfl,t46:=by kernel_rfl,a46:=λw=>by kernel_rfl,z46:=λw=>by kernel_rfl,v46:=λw=>by kernel_rfl,t51:=by kernel_rfl,a51:=λw=>by kernel_rfl,z51:=λw=>by kernel_rfl,v51:=λw=>by kernel_rfl,t53:=by kernel_rfl,a53:=λw=>by kernel_rfl,z53:=λw=>by kernel_rfl,v53:=λw=>by kernel_rfl,t131:=by kernel_rfl,a131:=λw=>by kernel_rfl,z131:=λw=>by kernel_rfl,v131:=λw=>by kernel_rfl,t182:=by kernel_rfl,a182:=λw=>by kernel_rfl,z182:=λw=>by kernel_rfl,v182:=λw=>by kernel_rfl,t183:=by kernel_rfl,a183:=λw=>by kernel_rfl,z183:=λw=>by kernel_rfl,v183:=λw=>by kernel_rfl,t218:=by kernel_rfl,a218:=λw=>by kernel_rfl,z218:=λw=>by kernel_rfl,v218:=λw=>by kernel_rfl,t222:=by kernel_rfl,a222:=λw=>by kernel_rfl,z222:=λw=>by kernel_rfl,v222:=λw=>by kernel_rfl,t228:=by kernel_rfl,a228:=λw=>by kernel_rfl,z228:=λw=>by kernel_rfl,v228:=λw=>by kernel_rfl,t229:=by kernel_rfl,a229:=λw=>by kernel_rfl,z229:=λw=>by kernel_rfl,v229:=λw=>by kernel_rfl }
def XR:List AK:=[.v (.sl (.int .i64)) (.o 3 (some 0) .k)]
noncomputable def aj5 (N:Nat) (x:cG XR) (kf:aa->Option aa):Option aa:=acb N x.1 (λz=>kf ⟨[],[⟨(.sl (.int .i64)),(.o 3 (some 0) .k),z⟩]⟩)
noncomputable def aj6 (N:Nat):=aV XR (aj5 N)
theorem amf {Γ:Gl} (xa:ot Γ) (N:Nat):Sound Γ Tryz.prog 110 (aj6 N):=acT af7 3
noncomputable def XS:CE:=⟨110,[.Al],XR,aj5⟩
theorem aeK:XS.ok:=λh N=>amf h N
def aj7:Go.Shelf.Ren:=⟨λn=>bif Nat.beq n 20 then 111 else n,λn=>bif Nat.beq n 0 then 0 else bif Nat.beq n 3 then 3 else bif Nat.beq n 4 then 4 else bif Nat.beq n 22 then 27 else n,λn=>n⟩
theorem af8:Lays2.n20 Tryz.prog aj7:={ mixed:=by kernel_rfl,f20:=by kernel_rfl,t0:=by kernel_rfl,a0:=λw=>by kernel_rfl,z0:=λw=>by kernel_rfl,v0:=λw=>by kernel_rfl,t3:=by kernel_rfl,a3:=λw=>by kernel_rfl,z3:=λw=>by kernel_rfl,v3:=λw=>by kernel_rfl,t4:=by kernel_rfl,a4:=λw=>by kernel_rfl,z4:=λw=>by kernel_rfl,v4:=λw=>by kernel_rfl,t22:=by kernel_rfl,a22:=λw=>by kernel_rfl,z22:=λw=>by kernel_rfl,v22:=λw=>by kernel_rfl,i3:=by kernel_rfl }
def XT:List AK:=[.v (.sl (.int .i64)) (.o 3 none .k)]
noncomputable def aj8 (N:Nat) (x:cG XT) (kf:aa->Option aa):Option aa:=afC N x.1 (λr0=>kf ⟨[⟨(.sl (.int .i64)),(.o 3 none .k),r0⟩],[]⟩)
noncomputable def aj9 (N:Nat):=aV XT (aj8 N)
theorem amg {Γ:Gl} (xa:ot Γ) (N:Nat):Sound Γ Tryz.prog 111 (aj9 N):=UF af8 3
noncomputable def XU:CE:=⟨111,[.take],XT,aj8⟩
theorem aeL:XU.ok:=λh N=>amg h N
noncomputable def Cy:CE:=⟨59,[.val],[.v fg .k],λN x kf=>mV N x.1 (Pd fg (.p (.o 60 none (.p .k (.p .k (.p .k (.p .k (.p .k (.o 3 none .k))))))) (.p (.o 65 none (.p .k (.p .k (.o 3 none .k)))) (.p (.o 69 none .k) (.p (.o 3 none .k) (.p (.o 72 none .k) (.p (.o 75 none .k) .k)))))) .bool .k kf)⟩
def vJ:List Kd:=(dK::.v (.ptr fg) (.o 31 none .k)::.v (.ptr fg) (.o 31 none (.p (.o 60 none (.p .k (.p .k (.p .k (.p .k (.p .k (.o 3 none .k))))))) (.p (.o 65 none (.p .k (.p .k (.o 3 none .k)))) (.p (.o 69 none .k) (.p (.o 3 none .k) (.p (.o 72 none .k) (.p (.o 75 none .k) .k)))))))::dK::.v (.ptr fg) (.o 31 none (.p (.o 60 none (.p .k (.p .k (.p .k (.p .k (.p .k (.o 3 none .k))))))) (.p (.o 65 none (.p .k (.p .k (.o 3 none .k)))) (.p (.o 69 none .k) (.p (.o 3 none .k) (.p (.o 72 none .k) (.p (.o 75 none .k) .k)))))))::dn 104 ([]))
def vK:List Kd:=(dK::dK::.v (.ptr fg) (.o 31 none (.p (.o 60 none (.p .k (.p .k (.p .k (.p .k (.p .k (.o 3 none .k))))))) (.p (.o 65 none (.p .k (.p .k (.o 3 none .k)))) (.p (.o 69 none .k) (.p (.o 3 none .k) (.p (.o 72 none .k) (.p (.o 75 none .k) .k)))))))::.v .bool .k::dn 105 ([]))
theorem NZ:Cy.ok:=oX Tryz.f59 [[nf],[jt],[oA],[dv],[Eo],[Cx],[sr],[XS],[XU],[jI]] 5 (dK::.v (.ptr fg) (.o 31 none .k)::.v (.ptr fg) (.o 31 none (.p (.o 60 none (.p .k (.p .k (.p .k (.p .k (.p .k (.o 3 none .k))))))) (.p (.o 65 none (.p .k (.p .k (.o 3 none .k)))) (.p (.o 69 none .k) (.p (.o 3 none .k) (.p (.o 72 none .k) (.p (.o 75 none .k) .k)))))))::dK::.v (.ptr fg) (.o 31 none (.p (.o 60 none (.p .k (.p .k (.p .k (.p .k (.p .k (.o 3 none .k))))))) (.p (.o 65 none (.p .k (.p .k (.o 3 none .k)))) (.p (.o 69 none .k) (.p (.o 3 none .k) (.p (.o 72 none .k) (.p (.o 75 none .k) .k)))))))::dn 25 (.v (.sl ib) .k::.v (.int .i64) .k::.v (.int .i64) .k::dn 76 ([]))) (λN n x K=>gK N x.1 x.2.1 x.2.2.2.1 x.2.2.2.2.1 n (λz0=>K (.x 0) (shape vJ (x.1,x.2.1,z0,()))) (λz0 z1=>K .r (shape vK (z0,z1,()))) x.2.2.1 x.2.2.2.2.2.1) [(5,2,vJ),(5,1,vK)] ⟨qg,lM,su,eX,Pz,NY,y5,aeK,aeL,lq,trivial⟩ (bw:=[(8,(OT.seq [0,1,2,3,4,5,6,9,10,11,12,7,8,13,14,15,17,16,18,19] .done)),(11,(OT.seq [0,1,2,3,4,5,6,7,8] .done)),(12,(OT.seq [0,1,2,3,4,5,6,7,8,9,10,11,12] .done)),(14,(OT.seq [3,0,2] (.par [1,4] [[4,86,87]] (OT.seq [5,6,7] .done))))])
def aj':Go.Shelf.Ren:=⟨λn=>bif Nat.beq n 45 then 112 else n,λn=>bif Nat.beq n 0 then 0 else bif Nat.beq n 3 then 3 else bif Nat.beq n 4 then 4 else bif Nat.beq n 22 then 24 else bif Nat.beq n 23 then 60 else n,λn=>n⟩
def amh:Array Value:=#[.int .i64 0,.int .i64 0,.int .i64 0,.int .i64 0,.int .i64 0,.slice none 0 0]
noncomputable def ami:TypeInfo:=(Tryz.prog.info? 60).get (by kernel_rfl)
theorem aka:anl Tryz.prog aj' (gm).size amh ami:={ FB:=⟨Tryz.f112.name,by kernel_rfl,by kernel_rfl⟩,mixed:=by kernel_rfl,t0:=by kernel_rfl,a0:=λw=>by kernel_rfl,z0:=λw=>by kernel_rfl,v0:=λw=>by kernel_rfl,t3:=by kernel_rfl,a3:=λw=>by kernel_rfl,z3:=λw=>by kernel_rfl,v3:=λw=>by kernel_rfl,t4:=by kernel_rfl,a4:=λw=>by kernel_rfl,z4:=λw=>by kernel_rfl,v4:=λw=>by kernel_rfl,t22:=by kernel_rfl,a22:=λw=>by kernel_rfl,z22:=λw=>by kernel_rfl,v22:=λw=>by kernel_rfl,z23:=λw=>by kernel_rfl,v23:=λw=>by kernel_rfl,hz:=by kernel_rfl,hzo:=by kernel_rfl,WG:=by kernel_rfl,Wt:=by kernel_rfl }
def XV:List AK:=[.v (.sl gm) (.o 60 none (.p .k (.p .k (.p .k (.p .k (.p .k (.o 3 none .k))))))),.v (.int .i64) .k,.v (.int .i64) .k]
noncomputable def akb (N:Nat) (x:cG XV) (kf:aa->Option aa):Option aa:=aoH N x.1 x.2.1 x.2.2.1 (λr0=>kf ⟨[⟨(.sl gm),(.o 60 none (.p .k (.p .k (.p .k (.p .k (.p .k (.o 3 none .k))))))),r0⟩],[]⟩)
noncomputable def akc (N:Nat):=aV XV (akb N)
theorem amj {Γ:Gl} (xa:ot Γ) (N:Nat):Sound Γ Tryz.prog 112 (akc N):=Xx aka 60 (.p .k (.p .k (.p .k (.p .k (.p .k (.o 3 none .k)))))) (by kernel_rfl)
noncomputable def aeM:CE:=⟨112,[.take,.val,.val],XV,akb⟩
theorem amk:aeM.ok:=λh N=>amj h N
noncomputable def Cz:CE:=⟨60,[.val,.val],[.v fg .k,.v (.int .i64) .k],λN x kf=>kO N x.1 x.2.1 (Pd fg (.p (.o 60 none (.p .k (.p .k (.p .k (.p .k (.p .k (.o 3 none .k))))))) (.p (.o 65 none (.p .k (.p .k (.o 3 none .k)))) (.p (.o 69 none .k) (.p (.o 3 none .k) (.p (.o 72 none .k) (.p (.o 75 none .k) .k)))))) .bool .k kf)⟩
theorem N0:Cz.ok:=lK Tryz.f60 [[dv],[ep],[jt],[aeM],[jI]] ⟨eX,gh,lM,amk,lq,trivial⟩
noncomputable def Gu:CE:=⟨20,[.val,.val,.val],[.v fg .k,.v .str .k,.v (.sl (.int .i64)) .k],λN x kf=>ME N x.1 x.2.1 x.2.2.1 (rk3 fg .k .bool .k .bool .k kf)⟩
theorem QI:Gu.ok:=lK Tryz.f20 [[yZ],[Eh],[Cv],[El],[Bp],[Cy],[Cz]] ⟨Gq,Ps,NP,Px,Lw,NZ,N0,trivial⟩ (bw:=[(7,(OT.seq [0,1,2,3,4,5,6,7,8,9,10,11,12] .done)),(9,(OT.seq [0,1,2,3,4,5,6,7,8,9,10,11,12] .done)),(13,(OT.seq [0,1,2,3,4,5,6,7,8,9,10,11,12,13,14,15] .done)),(17,(OT.seq [0,1,2,3,4,5,6,7,8,9] .done))]) (zO:=[(0,[(7,[]),(8,[])]),(3,[(6,[.deref]),(7,[]),(8,[])]),(18,[(6,[.deref]),(7,[]),(8,[])])])
def aaU:Go.Shelf.Ren:=⟨λn=>bif Nat.beq n 156 then 121 else bif Nat.beq n 165 then 181 else bif Nat.beq n 166 then 182 else bif Nat.beq n 169 then 183 else bif Nat.beq n 240 then 233 else bif Nat.beq n 241 then 234 else bif Nat.beq n 276 then 259 else bif Nat.beq n 277 then 260 else n,λn=>bif Nat.beq n 0 then 0 else bif Nat.beq n 3 then 3 else bif Nat.beq n 4 then 4 else bif Nat.beq n 5 then 5 else bif Nat.beq n 9 then 9 else bif Nat.beq n 20 then 20 else bif Nat.beq n 31 then 36 else bif Nat.beq n 37 then 22 else bif Nat.beq n 70 then 182 else bif Nat.beq n 72 then 184 else bif Nat.beq n 75 then 187 else bif Nat.beq n 76 then 188 else bif Nat.beq n 80 then 190 else bif Nat.beq n 127 then 221 else bif Nat.beq n 164 then 243 else n,λn=>n⟩
theorem af9:Lays.n156 Tryz.prog aaU:={ mixed:=by kernel_rfl,f156:=by kernel_rfl,f165:=by kernel_rfl,f166:=by kernel_rfl,f169:=by kernel_rfl,f240:=by kernel_rfl,f241:=by kernel_rfl,f276:=by kernel_rfl,f277:=by kernel_rfl,t0:=by kernel_rfl,a0:=λw=>by kernel_rfl,z0:=λw=>by kernel_rfl,v0:=λw=>by kernel_rfl,t3:=by kernel_rfl,a3:=λw=>by kernel_rfl,z3:=λw=>by kernel_rfl,v3:=λw=>by kernel_rfl,t4:=by kernel_rfl,a4:=λw=>by kernel_rfl,z4:=λw=>by kernel_rfl,v4:=λw=>by kernel_rfl,t9:=by kernel_rfl,a9:=λw=>by kernel_rfl,z9:=λw=>by kernel_rfl,v9:=λw=>by kernel_rfl,t20:=by kernel_rfl,a20:=λw=>by kernel_rfl,z20:=λw=>by kernel_rfl,v20:=λw=>by kernel_rfl,t31:=by kernel_rfl,a31:=λw=>by kernel_rfl,z31:=λw=>by kernel_rfl,v31:=λw=>by kernel_rfl,t37:=by kernel_rfl,a37:=λw=>by kernel_rfl,z37:=λw=>by kernel_rfl,v37:=λw=>by kernel_rfl,t70:=by kernel_rfl,a70:=λw=>by kernel_rfl,z70:=λw=>by kernel_rfl,v70:=λw=>by kernel_rfl,t72:=by kernel_rfl,a72:=λw=>by kernel_rfl,z72:=λw=>by kernel_rfl,v72:=λw=>by kernel_rfl,t75:=by kernel_rfl,a75:=λw=>by kernel_rfl,z75:=λw=>by kernel_rfl,v75:=λw=>by kernel_rfl,t76:=by kernel_rfl,a76:=λw=>by kernel_rfl,z76:=λw=>by kernel_rfl,v76:=λw=>by kernel_rfl,t127:=by kernel_rfl,a127:=λw=>by kernel_rfl,z127:=λw=>by kernel_rfl,v127:=λw=>by kernel_rfl,t164:=by kernel_rfl,a164:=λw=>by kernel_rfl,z164:=λw=>by kernel_rfl,v164:=λw=>by kernel_rfl }
theorem af':Builder.Extra Tryz.prog aaU:={ sizeBuilder:=by kernel_rfl,liesBuilder:=by kernel_rfl,t5:=by kernel_rfl,a5:=λw=>by kernel_rfl,z5:=λw=>by kernel_rfl,v5:=λw=>by kernel_rfl,infoByte:=by kernel_rfl,cellsByte:=by kernel_rfl,sizeByte:=by kernel_rfl,neB5:=by decide }
def XW:List AK:=[.v (.sl .str) .k,.v .str .k]
noncomputable def akd (N:Nat) (x:cG XW) (kf:aa->Option aa):Option aa:=ak5 N x.1 x.2.1 (λr0=>kf ⟨[⟨.str,.k,r0⟩],[]⟩)
noncomputable def ake (N:Nat):=aV XW (akd N)
theorem aml {Γ:Gl} (xa:ot Γ) (N:Nat):Sound Γ Tryz.prog 121 (ake N):=acS af9 af'
noncomputable def XX:CE:=⟨121,[.val,.val],XW,akd⟩
theorem aeN:XX.ok:=λh N=>aml h N
noncomputable def vL:CE:=⟨113,[.val],[.v (.sl .str) .k],λN x kf=>nq N x.1 (ek .str .k kf)⟩
theorem Br:vL.ok:=lK Tryz.f113 [[XX]] ⟨aeN,trivial⟩
noncomputable def pf:CE:=⟨61,[.val],[.v (.sl (.int .i64)) .k],λN x kf=>br N x.1 (ek .str .k kf)⟩
def qh:List Kd:=(dn 3 (.v (.sl .str) (.o 9 none .k)::dn 17 ([])))
theorem wM:pf.ok:=oX Tryz.f61 [[gU],[vL]] 3 (dn 3 (.v (.sl .str) (.o 9 none .k)::dn 3 (.v (.sl (.int .i64)) .k::.v (.int .i64) .k::.v (.int .i64) .k::dn 11 ([])))) (λN n x K=>dt N x.2.1 x.2.2.1 n (λz0=>K (.x 0) (shape qh (z0,()))) x.1 x.2.2.2.1) [(3,2,qh)] ⟨jr,Br,trivial⟩
noncomputable def zD:CE:=⟨63,[.val],[.v (.sl gm) .k],λN x kf=>kr N x.1 (ek .str .k kf)⟩
def rM:List Kd:=(dn 3 (.v (.sl .str) (.o 9 none .k)::dn 34 ([])))
theorem Jw:zD.ok:=oX Tryz.f63 [[gU],[vL]] 3 (dn 3 (.v (.sl .str) (.o 9 none .k)::dn 3 (.v (.sl gm) .k::.v (.int .i64) .k::.v (.int .i64) .k::dn 28 ([])))) (λN n x K=>eM N x.2.1 x.2.2.1 n (λz0=>K (.x 0) (shape rM (z0,()))) x.1 x.2.2.2.1) [(3,2,rM)] ⟨jr,Br,trivial⟩ (bw:=[(5,(OT.seq [0,1,2,5,6,10,11,12,16,17,3,4,7,8,9,13,14,15,18,19,20,21,22] .done))])
noncomputable def zE:CE:=⟨64,[.val,.val],[.v (.sl ib) .k,.v (.sl (.int .i64)) .k],λN x kf=>ku N x.1 x.2.1 (ek .str .k kf)⟩
def rO:List Kd:=(dn 5 (.v (.sl .str) (.o 9 none .k)::dn 37 ([])))
theorem Jx:zE.ok:=oX Tryz.f64 [[gU],[vL]] 3 (dK::.v (.sl (.int .i64)) .k::dn 3 (.v (.sl .str) (.o 9 none .k)::dn 4 (.v (.sl ib) .k::.v (.int .i64) .k::.v (.int .i64) .k::dn 30 ([])))) (λN n x K=>dd N x.1 x.2.2.1 x.2.2.2.1 n (λz0=>K (.x 0) (shape rO (z0,()))) x.2.1 x.2.2.2.2.1) [(3,2,rO)] ⟨jr,Br,trivial⟩ (bw:=[(8,(OT.seq [0,1,2,5,6,10,3,4,7,8,9,11,12,13,14] .done))])
noncomputable def Bs:CE:=⟨66,[.val],[.v fg .k],λN x kf=>ld N x.1 (ek .str .k kf)⟩
theorem Lx:Bs.ok:=lK Tryz.f66 [[oA],[pf]] ⟨su,wM,trivial⟩ (bw:=[(1,(OT.seq [0,1,2,3,4,5,6,7,8,9,12,13,14,15,16,10,11,17,18,19] .done))])
noncomputable def lN:CE:=⟨9,[],[],λN x kf=>cd N (ek cy .k kf)⟩
theorem yr:lN.ok:=lK Tryz.f9 [] trivial (zO:=[(1,[(0,[.deref])])])
noncomputable def oD:CE:=⟨73,[.val,.val],[.v cy .k,.v (.int .i64) .k],λN x kf=>qC N x.1 x.2.1 (ek .bool .k kf)⟩
theorem sv:oD.ok:=lK Tryz.f73 [[cA]] ⟨cY,trivial⟩
noncomputable def pg:CE:=⟨74,[.val,.val],[.v (.sl (.int .i64)) .k,.v (.sl (.int .i64)) .k],λN x kf=>sK N x.1 x.2.1 (ek (.int .i64) .k kf)⟩
def qi:List Kd:=(.v (.sl (.int .i64)) .k::.v (.sl (.int .i64)) .k::dn 34 ([]))
def qj:List Kd:=(dn 4 (.v (.int .i64) .k::dn 31 ([])))
theorem wN:pg.ok:=oX Tryz.f74 [[sW]] 2 (.v (.sl (.int .i64)) .k::.v (.sl (.int .i64)) .k::dn 7 (.v (.sl (.int .i64)) .k::.v (.int .i64) .k::.v (.int .i64) .k::dn 24 ([]))) (λN n x K=>o8 N x.1 x.2.1 x.2.2.1 x.2.2.2.1 n (K (.x 0) (shape qi (x.1,x.2.1,()))) (λz0=>K .r (shape qj (z0,()))) x.2.2.2.2.1) [(2,2,qi),(2,1,qj)] ⟨Bk,trivial⟩
noncomputable def im:CE:=⟨30,[.val],[.v cy .k],λN x kf=>lF N x.1 (ek .bool .k kf)⟩
def yt:List Kd:=(dn 52 ([]))
def yu:List Kd:=(dK::dK::.v .bool .k::dn 49 ([]))
theorem jJ:im.ok:=oX Tryz.f30 [[cA],[oD],[pg]] 4 (dK::.v (.ptr cy) (.o 40 none .k)::dn 8 (.v (.sl (.sl (.int .i64))) .k::.v (.int .i64) .k::.v (.int .i64) .k::dn 39 ([]))) (λN n x K=>si N x.1 x.2.1 x.2.2.1 n (K (.x 0) (shape yt ())) (λz0=>K .r (shape yu (z0,()))) x.2.2.2.1) [(4,2,yt),(4,1,yu)] ⟨cY,sv,wN,trivial⟩ (bw:=[(6,(OT.seq [0,1,2,3,4,5,6,7,8,9,10,11,12,13,14,15,16,17,18,19,20,21,22,23,24,25,26,27,28,29,30,31,32,33] .done))])
noncomputable def xT:CE:=⟨231,[.val,.val],[.v cy .k,.v (.sl (.int .i64)) .k],λN x kf=>Fq N x.1 x.2.1 (ek .bool .k kf)⟩
def Bt:List Kd:=(dn 35 ([]))
def Bu:List Kd:=(dn 4 (.v .bool .k::dn 30 ([])))
theorem C0:xT.ok:=oX Tryz.f231 [[im],[oD]] 4 (dK::.v (.sl (.int .i64)) .k::.v (.ptr cy) (.o 40 none .k)::dn 7 (.v (.sl (.int .i64)) .k::.v (.int .i64) .k::.v (.int .i64) .k::dn 22 ([]))) (λN n x K=>xL N x.1 x.2.1 x.2.2.1 x.2.2.2.1 n (K (.x 0) (shape Bt ())) (λz0=>K .r (shape Bu (z0,()))) x.2.2.2.2.1) [(4,2,Bt),(4,1,Bu)] ⟨jJ,sv,trivial⟩
noncomputable def CA:CE:=⟨277,[.val,.val],[.v cy .k,.v (.int .i64) .k],λN x kf=>Ht N x.1 x.2.1 (ek (.sl (.int .i64)) (.o 3 none .k) kf)⟩
def vM:List Kd:=(dn 5 (.v (.sl (.int .i64)) (.o 3 none .k)::dn 27 ([])))
theorem N1:CA.ok:=oX Tryz.f277 [[im]] 5 (dK::.v (.int .i64) .k::dn 3 (.v (.sl (.int .i64)) (.o 3 none .k)::dn 8 (.v (.sl (.sl (.int .i64))) .k::.v (.int .i64) .k::.v (.int .i64) .k::dn 16 ([])))) (λN n x K=>pz x.1 x.2.2.1 x.2.2.2.1 n (λz0=>K (.x 0) (shape vM (z0,()))) x.2.1 x.2.2.2.2.1) [(5,2,vM)] ⟨jJ,trivial⟩
noncomputable def C1:CE:=⟨258,[.val,.val],[.v cy .k,.v (.sl (.int .i64)) .k],λN x kf=>KT N x.1 x.2.1 (ek (.sl (.int .i64)) (.o 3 none .k) kf)⟩
def Bv:List Kd:=(dn 5 (.v (.sl (.int .i64)) (.o 3 none .k)::dn 19 ([])))
theorem Kg:C1.ok:=oX Tryz.f258 [[CA],[XS],[XU]] 3 (dK::dK::.v (.ptr cy) (.o 40 none .k)::dK::dK::.v (.sl (.int .i64)) (.o 3 none .k)::dn 3 (.v (.sl (.int .i64)) .k::.v (.int .i64) .k::.v (.int .i64) .k::dn 13 ([]))) (λN n x K=>CS N x.1 x.2.2.1 x.2.2.2.1 n (λz0=>K (.x 0) (shape Bv (z0,()))) x.2.1 x.2.2.2.2.1) [(3,2,Bv)] ⟨N1,aeK,aeL,trivial⟩
noncomputable def mF:CE:=⟨188,[.val,.val],[.v cy .k,.v (.int .i64) .k],λN x kf=>qD N x.1 x.2.1 (ek (.sl (.int .i64)) (.o 3 none .k) kf)⟩
def rP:List Kd:=(dn 5 (.v (.sl (.int .i64)) (.o 3 none .k)::dn 27 ([])))
theorem zF:mF.ok:=oX Tryz.f188 [[im]] 5 (dK::.v (.int .i64) .k::dn 3 (.v (.sl (.int .i64)) (.o 3 none .k)::dn 8 (.v (.sl (.sl (.int .i64))) .k::.v (.int .i64) .k::.v (.int .i64) .k::dn 16 ([])))) (λN n x K=>mA x.1 x.2.2.1 x.2.2.2.1 n (λz0=>K (.x 0) (shape rP (z0,()))) x.2.1 x.2.2.2.2.1) [(5,2,rP)] ⟨jJ,trivial⟩
noncomputable def Gv:CE:=⟨232,[.val,.val,.val],[.v cy .k,.v (.sl (.int .i64)) .k,.v (.int .i64) .k],λN x kf=>MF N x.1 x.2.1 x.2.2.1 (ek .bool .k kf)⟩
def yv:List Kd:=(dn 36 ([]))
def yw:List Kd:=(dn 6 (.v .bool .k::dn 29 ([])))
theorem QK:Gv.ok:=oX Tryz.f232 [[xT],[oD],[C1],[mF],[bJ]] 5 (dn 7 (.v (.sl (.int .i64)) (.o 3 none .k)::dn 17 (.v (.sl (.int .i64)) (.o 3 none .k)::.v (.int .i64) .k::.v (.int .i64) .k::dn 8 ([])))) (λN n x K=>yK N x.1 x.2.1 x.2.2.1 n (K (.x 0) (shape yv ())) (λz0=>K .r (shape yw (z0,()))) x.2.2.2.1) [(5,2,yv),(5,1,yw)] ⟨C0,sv,Kg,zF,cU,trivial⟩
noncomputable def sY:CE:=⟨180,[.val,.val],[.v cy .k,.v (.sl (.int .i64)) .k],λN x kf=>yL N x.1 x.2.1 (ek (.sl (.int .i64)) (.o 3 none .k) kf)⟩
def tG:List Kd:=(dn 5 (.v (.sl (.int .i64)) (.o 3 none .k)::dn 22 ([])))
theorem Bw:sY.ok:=oX Tryz.f180 [[xT],[Gv]] 5 (dK::.v (.sl (.int .i64)) .k::.v (.ptr cy) (.o 40 none .k)::dK::dK::.v (.sl (.int .i64)) (.o 3 none .k)::dn 8 (.v (.int .i64) .k::.v (.int .i64) .k::dn 12 ([]))) (λN n x K=>nP N x.1 x.2.1 x.2.2.2.1 n (λz0=>K (.x 0) (shape tG (z0,()))) x.2.2.1 x.2.2.2.2.1) [(5,2,tG)] ⟨C0,QK,trivial⟩
noncomputable def gZ:CE:=⟨24,[.val,.val],[.v (.sl (.int .i64)) .k,.v (.sl (.int .i64)) .k],λN x kf=>gg N x.1 x.2.1 (ek .bool .k kf)⟩
def rQ:List Kd:=(dn 26 ([]))
def rR:List Kd:=(dn 4 (.v .bool .k::dn 21 ([])))
theorem jS:gZ.ok:=oX Tryz.f24 [] 4 (.v (.sl (.int .i64)) .k::.v (.sl (.int .i64)) .k::dn 10 (.v (.int .i64) .k::.v (.int .i64) .k::dn 12 ([]))) (λN n x K=>eN x.1 x.2.1 x.2.2.1 n (K (.x 0) (shape rQ ())) (λz0=>K .r (shape rR (z0,()))) x.2.2.2.1) [(4,2,rQ),(4,1,rR)] trivial (bw:=[(6,(OT.seq [0,1,2,3,4,5,6,7,8] .done))])
noncomputable def H5:CE:=⟨120,[.val],[.v cy .k],λN x kf=>P4 N x.1 (ek (.sl (.sl (.int .i64))) (.o 27 none .k) kf)⟩
def zG:List Kd:=(dK::dK::.v (.sl (.sl (.int .i64))) (.o 27 none .k)::dn 26 ([]))
theorem T4:H5.ok:=oX Tryz.f120 [[im],[sY],[gZ]] 4 (dK::.v (.ptr cy) (.o 40 none .k)::dK::.v (.sl (.sl (.int .i64))) (.o 27 none .k)::dn 25 ([])) (λN n x K=>AL N x.1 n (λz0=>K .r (shape zG (z0,()))) x.2.1) [(4,1,zG)] ⟨jJ,Bw,jS,trivial⟩ (hn:=[(6,.k)]) (zO:=[(5,[(5,[])])])
noncomputable def Ep:CE:=⟨67,[.val],[.v cy .k],λN x kf=>JZ N x.1 (ek (.sl (.int .i64)) .k kf)⟩
theorem PA:Ep.ok:=lK Tryz.f67 [[H5]] ⟨T4,trivial⟩ (zO:=[(0,[(2,[])]),(2,[(2,[])])])
noncomputable def H6:CE:=⟨235,[.val,.val],[.v cy .k,.v (.sl (.int .i64)) .k],λN x kf=>P5 N x.1 x.2.1 (ek .bool .k kf)⟩
def zH:List Kd:=(dn 23 ([]))
def zI:List Kd:=(dn 4 (.v .bool .k::dn 18 ([])))
theorem T5:H6.ok:=oX Tryz.f235 [[xT],[C1],[bJ]] 4 (dK::.v (.sl (.int .i64)) .k::dn 11 (.v (.sl (.int .i64)) (.o 3 none .k)::.v (.int .i64) .k::.v (.int .i64) .k::dn 7 ([]))) (λN n x K=>AM N x.1 x.2.1 x.2.2.1 n (K (.x 0) (shape zH ())) (λz0=>K .r (shape zI (z0,()))) x.2.2.2.1) [(4,2,zH),(4,1,zI)] ⟨C0,Kg,cU,trivial⟩
noncomputable def Bx:CE:=⟨184,[.val,.val],[.v cy .k,.v (.sl (.int .i64)) .k],λN x kf=>F4 N x.1 x.2.1 (ek .bool .k kf)⟩
theorem Ly:Bx.ok:=lK Tryz.f184 [[H6],[sY],[gZ]] ⟨T5,Bw,jS,trivial⟩
noncomputable def cZ:CE:=⟨261,[.Al,.val,.val,.val],[.v (.sl (.sl (.int .i64))) (.o 27 (some 0) .k),.v (.int .i64) .k,.v (.int .i64) .k,.fn 74 []],λN x kf=>dy N x.1 x.2.1 x.2.2.1 (λz=>kf ⟨[],[⟨(.sl (.sl (.int .i64))),(.o 27 (some 0) .k),z⟩]⟩)⟩
def cr:List Kd:=(.v (.sl (.sl (.int .i64))) (.o 27 (some 0) .k)::.v (.int .i64) .k::.v (.int .i64) .k::.vY 74 []::dn 4 (.v (.int .i64) .k::dn 44 ([])))
def cu:List Kd:=(.v (.sl (.sl (.int .i64))) (.o 27 (some 0) .k)::dn 52 ([]))
theorem jK:cZ.ok:=eK2 Tryz.f261 [[pg]] 1 (.v (.sl (.sl (.int .i64))) (.o 27 (some 0) .k)::.v (.int .i64) .k::.v (.int .i64) .k::.vY 74 []::dn 4 (.v (.int .i64) .k::dn 44 ([]))) (λN n x K=>bC N x.2.1 x.2.2.1 n (λz0=>K (.x 0) (shape cu (z0,()))) x.1 x.2.2.2.2.1) 4 (.v (.sl (.sl (.int .i64))) (.o 27 (some 0) .k)::.v (.int .i64) .k::.v (.int .i64) .k::.vY 74 []::dn 4 (.v (.int .i64) .k::.v (.int .i64) .k::dn 43 ([]))) (λN n x K=>bB N x.2.1 x.2.2.1 x.2.2.2.2.1 n (λz0=>K (.x 2) (shape cr (z0,x.2.1,x.2.2.1,(),x.2.2.2.2.1,()))) x.1 x.2.2.2.2.2.1) [(4,4,cr),(1,2,cu)] ⟨wN,trivial⟩ (bw:=[(4,(OT.seq [0,1,2,3,4,5,6,7,8,9,10,11,12,13,14,15,16] .done)),(6,(OT.seq [0,1,5,6,7,8,9,10,11,12,13,14,2,3,4,15,16,17] .done))]) (iQ:=some (0,false))
noncomputable def eD:CE:=⟨236,[.Al,.val,.val,.val,.val],[.v (.sl (.sl (.int .i64))) (.o 27 (some 0) .k),.v (.int .i64) .k,.v (.int .i64) .k,.v (.int .i64) .k,.fn 74 []],λN x kf=>fB N x.1 x.2.1 x.2.2.1 x.2.2.2.1 (λz=>kf ⟨[],[⟨(.sl (.sl (.int .i64))),(.o 27 (some 0) .k),z⟩]⟩)⟩
def dh:List Kd:=(.v (.sl (.sl (.int .i64))) (.o 27 (some 0) .k)::dn 147 ([]))
theorem kX:eD.ok:=oX Tryz.f236 [[cZ]] 2 (.v (.sl (.sl (.int .i64))) (.o 27 (some 0) .k)::.v (.int .i64) .k::.v (.int .i64) .k::.v (.int .i64) .k::.vY 74 []::dn 5 (.v .bool .k::.v .bool .k::dn 136 ([]))) (λN n x K=>eC N x.1 x.2.1 x.2.2.1 x.2.2.2.1 x.2.2.2.2.2.1 x.2.2.2.2.2.2.1 n (λz0=>K .r (shape dh (z0,())))) [(2,1,dh)] ⟨jK,trivial⟩ (iQ:=some (0,false))
noncomputable def gW:CE:=⟨185,[.Al,.val],[.v (.sl (.sl (.int .i64))) (.o 27 (some 0) .k),.fn 74 []],λN x kf=>iO N x.1 (λz=>kf ⟨[],[⟨(.sl (.sl (.int .i64))),(.o 27 (some 0) .k),z⟩]⟩)⟩
theorem n0:gW.ok:=lK Tryz.f185 [[xz],[eD]] ⟨Ei,kX,trivial⟩ (iQ:=some (0,false))
noncomputable def zJ:CE:=⟨122,[.val],[.v cy .k],λN x kf=>DG N x.1 (ek (.sl (.sl (.int .i64))) (.o 27 none .k) kf)⟩
def rS:List Kd:=(dK::.v (.ptr cy) (.o 40 none .k)::dK::.v (.sl (.sl (.int .i64))) (.o 27 none .k)::dK::.v (.sl (.int .i64)) (.o 3 none .k)::dn 8 (.v (.int .i64) .k::.v (.int .i64) .k::dn 29 ([])))
def rT:List Kd:=(dn 3 (.v (.sl (.sl (.int .i64))) (.o 27 none .k)::dn 41 ([])))
theorem Jy:zJ.ok:=eK2 Tryz.f122 [[im],[Bx],[gW]] 5 (dK::.v (.ptr cy) (.o 40 none .k)::dK::.v (.sl (.sl (.int .i64))) (.o 27 none .k)::dn 10 (.v (.int .i64) .k::.v (.int .i64) .k::dn 29 ([]))) (λN n x K=>mC N x.1 x.2.2.1 n (λz0=>K (.x 0) (shape rT (z0,()))) x.2.1 x.2.2.2.1) 9 (dK::.v (.ptr cy) (.o 40 none .k)::dK::.v (.sl (.sl (.int .i64))) (.o 27 none .k)::.v (.int .i64) .k::.v (.sl (.int .i64)) (.o 3 none .k)::dn 8 (.v (.int .i64) .k::.v (.int .i64) .k::dn 4 (.v (.int .i64) .k::.v (.int .i64) .k::dn 23 ([])))) (λN n x K=>mB x.1 x.2.1 x.2.2.1 x.2.2.2.2.1 x.2.2.2.2.2.1 x.2.2.2.2.2.2.1 n (λz0=>K (.x 2) (shape rS (x.1,x.2.1,z0,x.2.2.2.2.1,x.2.2.2.2.2.1,()))) x.2.2.2.1 x.2.2.2.2.2.2.2.1) [(9,4,rS),(5,2,rT)] ⟨jJ,Ly,n0,trivial⟩ (zO:=[(14,[(5,[])])])
noncomputable def Es:CE:=⟨125,[.val,.val],[.v (.sl (.int .i64)) .k,.v (.sl (.int .i64)) .k],λN x kf=>J0 N x.1 x.2.1 (ek .bool .k kf)⟩
def wO:List Kd:=(dn 18 ([]))
def wP:List Kd:=(dn 4 (.v .bool .k::dn 13 ([])))
theorem PB:Es.ok:=oX Tryz.f125 [[bJ]] 2 (dK::.v (.sl (.int .i64)) .k::dn 5 (.v (.sl (.int .i64)) .k::.v (.int .i64) .k::.v (.int .i64) .k::dn 8 ([]))) (λN n x K=>xi N x.1 x.2.1 x.2.2.1 n (K (.x 0) (shape wO ())) (λz0=>K .r (shape wP (z0,()))) x.2.2.2.1) [(2,2,wO),(2,1,wP)] ⟨cU,trivial⟩
noncomputable def zK:CE:=⟨124,[.val],[.v (.sl (.int .i64)) .k,.v (.ptr (.sl (.int .i64))) .k],λN x kf=>DH N x.1 x.2.1 (ek .bool .k kf)⟩
theorem Jz:zK.ok:=lK Tryz.f124 [[Es]] ⟨PB,trivial⟩
noncomputable def iq:CE:=⟨186,[.val,.val],[.v (.sl (.sl (.int .i64))) .k,.fn 124 [(.ptr (.sl (.int .i64)))]],λN x kf=>je N x.1 x.2.1.1 (ek (.int .i64) .k kf)⟩
def fm:List Kd:=(dn 19 ([]))
def fo:List Kd:=(dn 4 (.v (.int .i64) .k::dn 14 ([])))
theorem oH:iq.ok:=oX Tryz.f186 [[zK]] 2 (.v (.sl (.sl (.int .i64))) .k::.vY 124 [.kv (.ptr (.sl (.int .i64)))]::dn 5 (.v (.int .i64) .k::.v (.int .i64) .k::dn 10 ([]))) (λN n x K=>cV N x.1 x.2.1.1 x.2.2.1 n (K (.x 0) (shape fm ())) (λz0=>K .r (shape fo (z0,()))) x.2.2.2.1) [(2,2,fm),(2,1,fo)] ⟨Jz,trivial⟩
noncomputable def gk:CE:=⟨123,[.val,.val],[.v (.sl (.sl (.int .i64))) .k,.fn 124 [(.ptr (.sl (.int .i64)))]],λN x kf=>il N x.1 x.2.1.1 (ek .bool .k kf)⟩
theorem ng:gk.ok:=lK Tryz.f123 [[iq]] ⟨oH,trivial⟩
noncomputable def CB:CE:=⟨69,[.val],[.v cy .k],λN x kf=>uJ N x.1 (ek (.sl (.sl (.int .i64))) (.o 27 none .k) kf)⟩
def vN:List Kd:=(dn 4 (.v (.sl (.sl (.int .i64))) (.o 27 none .k)::dn 21 ([])))
theorem N3:CB.ok:=oX Tryz.f69 [[zJ],[gk]] 3 (dn 3 (.v (.sl (.sl (.int .i64))) (.o 27 none .k)::.v (.sl (.sl (.int .i64))) (.o 27 none .k)::dn 5 (.al (.sl (.sl (.int .i64))) 3::.v (.int .i64) .k::.v (.int .i64) .k::dn 13 ([])))) (λN n x K=>pA N x.1 x.2.2.1 n (λz0=>K (.x 0) (shape vN (z0,()))) x.2.1 x.2.2.2.1) [(3,2,vN)] ⟨Jy,ng,trivial⟩ (zO:=[(0,[(2,[])]),(8,[(2,[])])])
noncomputable def Et:CE:=⟨68,[.val],[.v (.sl (.sl (.int .i64))) .k],λN x kf=>xM N x.1 (ek .str .k kf)⟩
def wQ:List Kd:=(dn 3 (.v .str .k::dK::dK::.v (.sl .str) (.o 9 none .k)::dn 5 (.v (.sl (.sl (.int .i64))) .k::.v (.int .i64) .k::.v (.int .i64) .k::dn 24 ([]))))
def wR:List Kd:=(dn 3 (.v .str .k::dn 35 ([])))
theorem PC:Et.ok:=eK2 Tryz.f68 [[gU],[XX]] 5 (dn 3 (.v .str .k::dn 8 (.v (.sl (.sl (.int .i64))) .k::.v (.int .i64) .k::.v (.int .i64) .k::dn 24 ([])))) (λN n x K=>xk N x.2.1 x.2.2.1 n (λz0=>K (.x 0) (shape wR (z0,()))) x.1 x.2.2.2.1) 9 (dn 3 (.v .str .k::dK::dK::.v (.sl .str) (.o 9 none .k)::dn 5 (.v (.sl (.sl (.int .i64))) .k::.v (.int .i64) .k::.v (.int .i64) .k::dn 4 (.v (.sl (.int .i64)) .k::.v (.int .i64) .k::.v (.int .i64) .k::dn 17 ([]))))) (λN n x K=>xj N x.1 x.2.2.1 x.2.2.2.1 x.2.2.2.2.1 x.2.2.2.2.2.1 x.2.2.2.2.2.2.1 n (λz0=>K (.x 2) (shape wQ (x.1,z0,x.2.2.1,x.2.2.2.1,x.2.2.2.2.1,()))) x.2.1 x.2.2.2.2.2.2.2.1) [(9,4,wQ),(5,2,wR)] ⟨jr,aeN,trivial⟩
def H7:List Kd:=dK::.v (.int .i64) .k::dK::.v .mp (.o 148 (some 0) .k)::.v (.ptr cy) (.o 40 none .k)::dn 4 (.v (.ptr (.arr 2 (.int .i64))) (.o 195 none .k)::dK::dK::.v .bool .k::dK::dK::.v .bool .k::dn 15 (.v (.sl (.int .i64)) (.o 3 none .k)::.v (.int .i64) .k::.v (.int .i64) .k::dn 5 (.v (.sl (.int .i64)) (.o 3 none .k)::.v (.int .i64) .k::.v (.int .i64) .k::dn 26 ([]))))
def Kh:List Kd:=dK::.v (.int .i64) .k::dK::.v .mp (.o 148 (some 0) .k)::.v (.ptr cy) (.o 40 none .k)::dn 4 (.v (.ptr (.arr 2 (.int .i64))) (.o 195 none .k)::dK::dK::.v .bool .k::dK::dK::.v .bool .k::dn 15 (.v (.sl (.int .i64)) (.o 3 none .k)::.v (.int .i64) .k::.v (.int .i64) .k::dn 34 ([])))
def LA:List Kd:=dK::.v (.int .i64) .k::dK::.v .mp (.o 148 (some 0) .k)::.v (.ptr cy) (.o 40 none .k)::dn 4 (.v (.ptr (.arr 2 (.int .i64))) (.o 195 none .k)::dK::dK::.v .bool .k::dn 18 (.v (.sl (.int .i64)) (.o 3 none .k)::.v (.int .i64) .k::.v (.int .i64) .k::dn 34 ([])))
def N4:List Kd:=dn 3 (.v .mp (.o 148 (some 0) .k)::dn 5 (.v (.ptr (.arr 2 (.int .i64))) (.o 195 none .k)::dK::dK::.v .bool .k::dn 55 ([])))
def XY:Hint:={ tab,hn:=[],loops:=[(11,H7),(7,LA)],outs:=[(11,4,Kh),(7,2,N4)],bw:=[(13,(OT.seq [0,1,2,3,4,5,6,7,8,9,10,11,12,13,14] .done))],iQ:=some (3,false) }
def N5:List AK:=[.v cy .k,.v (.int .i64) .k,.v (.int .i64) .k,.v .mp (.o 148 (some 0) .k)]
noncomputable def adh (N:Nat) (x:cG N5) (kf:aa->Option aa):Option aa:=aiI N x.1 x.2.1 x.2.2.1 x.2.2.2.1 (λr0 z=>kf ⟨[⟨.bool,.k,r0⟩],[⟨.mp,(.o 148 (some 0) .k),z⟩]⟩)
noncomputable def T6 (N:Nat):=aV N5 (adh N)
def Q4 (N:Nat):List Entry:=[⟨188,[.val,.val],(aV mF.l (mF.F N))⟩,⟨126,[.val,.val,.val,.Al],(T6 N)⟩]
def IY:Code:=cX Tryz.f126
noncomputable def T7 (N n:Nat) (key:Nat) (S:St) (K:Ks):Option aa:=bif Nat.beq key 7 then mJ LA S (λx=>Xb N (aiI N) x.1 x.2.2.1 x.2.2.2.1 x.2.2.2.2.1 x.2.2.2.2.2.1 x.2.2.2.2.2.2.1 n (λz0 z1=>K (.x 0) (shape N4 (z0,x.2.2.2.1,z1,()))) x.2.1 x.2.2.2.2.2.2.2.1) else bif Nat.beq key 11 then mJ H7 S (λx=>MG (aiI N) x.1 x.2.2.1 x.2.2.2.1 x.2.2.2.2.1 x.2.2.2.2.2.1 x.2.2.2.2.2.2.1 x.2.2.2.2.2.2.2.1 x.2.2.2.2.2.2.2.2.1 x.2.2.2.2.2.2.2.2.2.1 x.2.2.2.2.2.2.2.2.2.2.1 n (λz0 z1=>K (.x 2) (shape Kh (x.1,z0,x.2.2.1,x.2.2.2.1,x.2.2.2.2.1,z1,x.2.2.2.2.2.2.1,x.2.2.2.2.2.2.2.1,x.2.2.2.2.2.2.2.2.1,()))) x.2.1 x.2.2.2.2.2.2.2.2.2.2.2.1) else none
theorem amm (N key:Nat) (S:St) (K:Ks):T7 N 0 key S K=none:=(WI (qw λ_=>rfl) (WI (qw λ_=>rfl) rfl))
def aaV:Code:=(a8 IY).getD 0 .skip
def aaW:Code:=(a8 IY).getD 1 .skip
theorem amn:a8 IY=[aaV,aaW]:=by kernel_rfl
theorem adi (N:Nat):RdT XY (Q4 N) (T7 N) N 11 H7 aaW:=λ_ _ _=>by kernel_rfl
theorem aga (N:Nat):RdT XY (Q4 N) (T7 N) N 7 LA aaV:=λ_ _ _=>by kernel_rfl
theorem amo (N:Nat) (x:cG N5) (kf:aa->Option aa):adh (N+1) x kf=ny XY (n9.of (Q4 N)) (T7 N N) Tryz.f126 (dF N5 x) kf:=by kernel_rfl
theorem aeO {Γ:Gl} (xa:ot Γ):∀ N:Nat,Sound Γ Tryz.prog 126 (T6 N)
 |0=>w8 λal kf=>by unfold T6 aV;split<;>rfl
 |N+1=>lz (hh:=XY) mixed qe (es:=Q4 N) ⟨zF xa N,⟨aeO xa N,trivial⟩⟩ (fn:=Tryz.f126) (body:=IY) (by kernel_rfl) (by kernel_rfl) (by kernel_rfl) (by kernel_rfl) (by kernel_rfl) (Lf:=T7 N) (amm N) amn (rc (aga N) (rc (adi N) trivial)) (N:=N) (by kernel_rfl) (amo N) (.inl (by kernel_rfl))
noncomputable def aeP:CE:=⟨126,[.val,.val,.val,.Al],N5,adh⟩
theorem amp:aeP.ok:=λh N=>aeO h N
noncomputable def H8:CE:=⟨70,[.val,.val],[.v cy .k,.v (.int .i64) .k],λN x kf=>P6 N x.1 x.2.1 (ek .bool .k kf)⟩
theorem T8:H8.ok:=lK Tryz.f70 [[im],[oD],[aeP]] ⟨jJ,sv,amp,trivial⟩ (bw:=[(1,(OT.seq [0,1,2,3,4,5,6,7,8,9,10,11,12,13,14,15] .done))])
end Go.Pv.R
