/- Each function of the program that the law reaches computes its plain function, part 0. -/
import Derived.Test.YtcpakhaogbempaaGreatPlRes
import Derived.Test.YtcpakhaogbempaaGreatGro
import Derived.Test.YtcpakhaogbempaaGreatProg
namespace Go.Pv.R
open Go.Proofs
set_option linter.unusedVariables false
set_option maxRecDepth 100000
noncomputable abbrev dK:Kd:=.dead
noncomputable def tab:da:=[⟨2,(.int .i64),0,[]⟩,⟨3,(.int .i64),0,[]⟩,⟨4,.bool,0,[]⟩,⟨5,(.int .u8),0,[]⟩,⟨9,.str,0,[]⟩,⟨12,(.int .u64),0,[]⟩,⟨21,(.int .i32),0,[]⟩,⟨22,(.sl (.int .u8)),5,[]⟩,⟨24,(.sl cX),46,[]⟩,⟨25,(.sl jT),80,[]⟩,⟨26,(.sl du),104,[]⟩,⟨27,(.sl (.int .i64)),3,[]⟩,⟨28,(.sl ux),136,[]⟩,⟨29,(.sl iZ),102,[]⟩,⟨30,dd,0,[24,25,26,27,28,29,3]⟩,⟨31,dd,0,[24,25,26,27,28,29,3]⟩,⟨32,(.sl iZ),38,[]⟩,⟨37,iZ,0,[3,3,3,3]⟩,⟨38,iZ,0,[3,3,3,3]⟩,⟨45,cX,0,[3,3,3,3,3,27]⟩,⟨46,cX,0,[3,3,3,3,3,27]⟩,⟨47,(.sl cX),171,[]⟩,⟨48,(.sl jT),173,[]⟩,⟨49,(.sl du),182,[]⟩,⟨50,(.sl ux),184,[]⟩,⟨51,(.sl iZ),186,[]⟩,⟨52,dd,0,[47,48,49,27,50,51,3]⟩,⟨53,dd,0,[47,48,49,27,50,51,3]⟩,⟨79,jT,0,[3,3,27]⟩,⟨80,jT,0,[3,3,27]⟩,⟨88,iZ,0,[3,3,3,3]⟩,⟨91,(.sl iZ),88,[]⟩,⟨101,iZ,0,[3,3,3,3]⟩,⟨102,iZ,0,[3,3,3,3]⟩,⟨103,du,0,[3,3]⟩,⟨104,du,0,[3,3]⟩,⟨135,ux,0,[3,3,3]⟩,⟨136,ux,0,[3,3,3]⟩,⟨162,db,0,[22,3,3]⟩,⟨163,db,0,[22,3,3]⟩,⟨171,cX,0,[3,3,3,3,3,27]⟩,⟨173,jT,0,[3,3,27]⟩,⟨182,du,0,[3,3]⟩,⟨184,ux,0,[3,3,3]⟩,⟨186,iZ,0,[3,3,3,3]⟩,⟨194,(.int .u64),0,[]⟩,⟨207,(.int .i64),0,[]⟩,⟨216,(.int .u32),0,[]⟩,⟨218,(.int .u64),0,[]⟩,⟨219,(.sl (.sl (.int .i64))),27,[]⟩,⟨222,(.int .u64),0,[]⟩]
theorem mixed:Tryz.prog.follows .mixedOrders=true:=by kernel_rfl
theorem ly:cM Tryz.prog tab=true:=by kernel_rfl
noncomputable def fm (N n:Nat) (key:Nat) (S:St) (K:Ks):Option aa:=none
theorem Z' (N key:Nat) (S:St) (K:Ks):fm N 0 key S K=none:=rfl
noncomputable def aJ (f:Func):Code:=match f.body with |some c=>c |none=>.skip
noncomputable def dn:Nat→List Kd→List Kd
 |0,l=>l
 |n+1,l=>dK::dn n l
def ca (sg:List AK) (F:ax sg→(aa→Option aa)→Option aa) (h:Hint) (es:List Entry) (L:Nat→St→Ks→Option aa) (f:Func):Prop:=∀ (x:ax sg) (kf:aa→Option aa),F x kf=kd h (jf.of es) L f (dz sg x) kf
def fi (h:Hint) (es:List Entry) (L:Nat→Nat→St→Ks→Option aa) (N key:Nat) (ks:List Kd) (c:Code):Prop:=∀ (n:Nat) (x:rr ks) (K:Ks),L (n+1) key (shape ks x) (h.fM key K)=kE h (jf.of es) (ub L N n key) c (shape ks x) (h.fM key K)
theorem rc {hh:Hint} {es:List Entry} {Lf:Nat→Nat→St→Ks→Option aa} {N key:Nat} {ks:List Kd} {c:Code} {l:List Code} (h:fi hh es Lf N key ks c) (hr:sn hh (jf.of es) Lf N l) (hk:keyOf c=key:=by kernel_rfl) (hh1:nZ hh.loops key=some ks:=by kernel_rfl):sn hh (jf.of es) Lf N (c::l):=RE hk hh1 h hr
theorem gW {Γ:Gl} (hh:Hint) {es:List Entry} {f:FuncId} (fn:Func) (body:Code) {N:Nat} {Lf:Nat→Nat→St→Ks→Option aa} (h0:∀ k S K,Lf 0 k S K=none) {ls:List Code} (hls:af body=ls) {l:List AK} {F:ax l→(aa→Option aa)→Option aa} (hF:ca l F hh es (Lf N) fn) (b8:sn hh (jf.of es) Lf N ls) (hO:EOK Γ Tryz.prog es)
  (hT : cM Tryz.prog hh.tab = true := by exact ly) (hf : Tryz.prog.funcs[f]? = some fn := by kernel_rfl) (hb : fn.body = some body := by kernel_rfl) (U7 : (fn.name == "runtime.NumGoroutine") = false := by kernel_rfl) (Cj : eX hh (jf.of es) body = true := by kernel_rfl) (hky : mD body = true := by kernel_rfl) (hlen : Nat.ble l.length fn.ntmps = true := by kernel_rfl) (RF : fX body = true := by kernel_rfl) : Sound Γ Tryz.prog f (ao l F) :=
 jz mixed hT hO hf hb U7 Cj hky h0 hls b8 hlen hF (.inl RF)
theorem gJ {Γ:Gl} (hh:Hint) {es:List Entry} {f:FuncId} (fn:Func) {N:Nat} {l:List AK} {F:ax l→(aa→Option aa)→Option aa} (hF:ca l F hh es (fm N N) fn) (hO:EOK Γ Tryz.prog es)
  (hls : af (aJ fn) = [] := by kernel_rfl) (hT : cM Tryz.prog hh.tab = true := by exact ly) (hf : Tryz.prog.funcs[f]? = some fn := by kernel_rfl) (hb : fn.body = some (aJ fn) := by kernel_rfl) (U7 : (fn.name == "runtime.NumGoroutine") = false := by kernel_rfl) (Cj : eX hh (jf.of es) (aJ fn) = true := by kernel_rfl) (hky : mD (aJ fn) = true := by kernel_rfl) (hlen : Nat.ble l.length fn.ntmps = true := by kernel_rfl) (RF : fX (aJ fn) = true := by kernel_rfl) : Sound Γ Tryz.prog f (ao l F) :=
 jz mixed hT hO hf hb U7 Cj hky (Z' N) hls trivial hlen hF (.inl RF)
noncomputable def hq:Hint:={ tab,hn:=[],loops:=[],outs:=[],bp:=[] }
noncomputable def J3:List AK:=[.v (.sl (.int .u8)) .k]
noncomputable def api (N:Nat) (x:ax J3) (kf:aa→Option aa):Option aa:=L11 N x.1 (fun r0=>kf ⟨[⟨.bool,.k,r0⟩],[]⟩)
noncomputable def Wc (N:Nat):=ao J3 (api N)
theorem arZ (N:Nat):ca J3 (api N) hq [] (fm N N) Tryz.f11:=fun _ _=>by kernel_rfl
theorem ar0 {Γ:Gl} (N:Nat):Sound Γ Tryz.prog 11 (Wc N):=gJ hq Tryz.f11 (arZ N) trivial
noncomputable def AP:List Kd:=.v (.sl (.int .u8)) .k::dK::dK::.v (.int .i64) .k::.v (.int .i64) .k::dn 27 ([])
noncomputable def CB:List Kd:=.v (.sl (.int .u8)) .k::dK::dK::.v (.int .i64) .k::dn 28 ([])
noncomputable def ael:Hint:={ tab,hn:=[],loops:=[(3,AP)],outs:=[(3,2,CB)],bp:=[] }
noncomputable def SU:List AK:=[.v (.sl (.int .u8)) .k]
noncomputable def apj (N:Nat) (x:ax SU) (kf:aa→Option aa):Option aa:=S67 N x.1 (fun r0=>kf ⟨[⟨(.ptr db),(.o 163 none .k),r0⟩],[]⟩)
noncomputable def J4 (N:Nat):=ao SU (apj N)
noncomputable def F7:Code:=aJ Tryz.f67
noncomputable def aem (N n:Nat) (key:Nat) (S:St) (K:Ks):Option aa:=bif Nat.beq key 3 then az AP S (fun x=>Ak x.1 n (fun z0=>K (.x 0) (shape CB (x.1,z0,()))) x.2.1 x.2.2.1) else none
theorem ar1 (N key:Nat) (S:St) (K:Ks):aem N 0 key S K=none:=(bL (aq fun _=>rfl) rfl)
noncomputable def Wd:Code:=(af F7).getD 0 .skip
theorem ar2:af F7=[Wd]:=by kernel_rfl
theorem aen (N:Nat):fi ael [] (aem N) N 3 AP Wd:=fun _ _ _=>by kernel_rfl
theorem ar3 (N:Nat):ca SU (apj N) ael [] (aem N N) Tryz.f67:=fun _ _=>by kernel_rfl
theorem aeo {Γ:Gl} (N:Nat):Sound Γ Tryz.prog 67 (J4 N):=gW ael Tryz.f67 F7 (ar1 N) ar2 (ar3 N) (rc (aen N) trivial) trivial
noncomputable def SV:List AK:=[]
noncomputable def apk (N:Nat) (x:ax SV) (kf:aa→Option aa):Option aa:=S68 N (fun r0=>kf ⟨[⟨dd,(.p (.o 46 none (.p .k (.p .k (.p .k (.p .k (.p .k (.o 3 none .k))))))) (.p (.o 80 none (.p .k (.p .k (.o 3 none .k)))) (.p (.o 104 none .k) (.p (.o 3 none .k) (.p (.o 136 none .k) (.p (.o 102 none .k) .k)))))),r0⟩],[]⟩)
noncomputable def We (N:Nat):=ao SV (apk N)
theorem ar4 (N:Nat):ca SV (apk N) hq [] (fm N N) Tryz.f68:=fun _ _=>by kernel_rfl
theorem ar5 {Γ:Gl} (N:Nat):Sound Γ Tryz.prog 68 (We N):=gJ hq Tryz.f68 (ar4 N) trivial
noncomputable def aep:Hint:={ tab,hn:=[],loops:=[],outs:=[],bp:=[(2,(OT.seq [0,1,2,3,4,5,6,7,8,9,10,11,12] .done)),(3,(OT.seq [0,1,2,3,4,5,6,7,8,9] .done)),(4,(OT.seq [0,1,2,3,4,5,6,7,8,9,10,11,12,13,14] .done))],w7:=some (0,false) }
noncomputable def J5:List AK:=[.v (.ptr db) (.o 163 (some 0) .k)]
noncomputable def aeq (N:Nat) (x:ax J5) (kf:aa→Option aa):Option aa:=RI N x.1 (fun r0 z=>kf ⟨[⟨(.int .i64),.k,r0⟩],[⟨(.ptr db),(.o 163 (some 0) .k),z⟩]⟩)
noncomputable def OL (N:Nat):=ao J5 (aeq N)
theorem aj2 (N:Nat):ca J5 (aeq N) aep [] (fm N N) Tryz.f216:=fun _ _=>by kernel_rfl
theorem aj3 {Γ:Gl} (N:Nat):Sound Γ Tryz.prog 216 (OL N):=gJ aep Tryz.f216 (aj2 N) trivial
noncomputable def aer:Hint:={ tab,hn:=[],loops:=[],outs:=[],bp:=[],w7:=some (0,false) }
noncomputable def J6:List AK:=[.v (.ptr db) (.o 163 (some 0) .k),.v (.int .i64) .k]
noncomputable def aes (N:Nat) (x:ax J6) (kf:aa→Option aa):Option aa:=mE N x.1 x.2.1 (fun r0 z=>kf ⟨[⟨(.int .i64),.k,r0⟩],[⟨(.ptr db),(.o 163 (some 0) .k),z⟩]⟩)
noncomputable def o9 (N:Nat):=ao J6 (aes N)
noncomputable def aj4 (N:Nat):List Entry:=[⟨216,[.kT],(OL N)⟩]
theorem aj5 (N:Nat):ca J6 (aes N) aer (aj4 N) (fm N N) Tryz.f137:=fun _ _=>by kernel_rfl
theorem x7 {Γ:Gl} (N:Nat):Sound Γ Tryz.prog 137 (o9 N):=gJ aer Tryz.f137 (aj5 N) ⟨aj3 N,trivial⟩
noncomputable def aet:Hint:={ tab,hn:=[],loops:=[],outs:=[],bp:=[],w7:=some (0,false) }
noncomputable def J7:List AK:=[.v (.ptr db) (.o 163 (some 0) .k),.v (.int .i64) .k]
noncomputable def aeu (N:Nat) (x:ax J7) (kf:aa→Option aa):Option aa:=YT N x.1 x.2.1 (fun r0 z=>kf ⟨[⟨.bool,.k,r0⟩],[⟨(.ptr db),(.o 163 (some 0) .k),z⟩]⟩)
noncomputable def F8 (N:Nat):=ao J7 (aeu N)
noncomputable def aj6 (N:Nat):List Entry:=[⟨137,[.kT,.val],(o9 N)⟩]
theorem aj7 (N:Nat):ca J7 (aeu N) aet (aj6 N) (fm N N) Tryz.f140:=fun _ _=>by kernel_rfl
theorem Wf {Γ:Gl} (N:Nat):Sound Γ Tryz.prog 140 (F8 N):=gJ aet Tryz.f140 (aj7 N) ⟨x7 N,trivial⟩
noncomputable def aev:Hint:={ tab,hn:=[],loops:=[],outs:=[],bp:=[],w7:=some (0,false) }
noncomputable def J8:List AK:=[.v (.ptr db) (.o 163 (some 0) .k),.v (.sl (.int .i64)) .k]
noncomputable def aew (N:Nat) (x:ax J8) (kf:aa→Option aa):Option aa:=Nv N x.1 x.2.1 (fun r0 z=>kf ⟨[⟨(.int .i64),.k,r0⟩],[⟨(.ptr db),(.o 163 (some 0) .k),z⟩]⟩)
noncomputable def F9 (N:Nat):=ao J8 (aew N)
noncomputable def aj8 (N:Nat):List Entry:=[⟨137,[.kT,.val],(o9 N)⟩]
theorem aj9 (N:Nat):ca J8 (aew N) aev (aj8 N) (fm N N) Tryz.f134:=fun _ _=>by kernel_rfl
theorem Wg {Γ:Gl} (N:Nat):Sound Γ Tryz.prog 134 (F9 N):=gJ aev Tryz.f134 (aj9 N) ⟨x7 N,trivial⟩
noncomputable def aex:Hint:={ tab,hn:=[(5,.k)],loops:=[],outs:=[],bp:=[],w7:=some (0,false) }
noncomputable def J9:List AK:=[.v (.ptr db) (.o 163 (some 0) .k)]
noncomputable def aey (N:Nat) (x:ax J9) (kf:aa→Option aa):Option aa:=aiu N x.1 (fun r0 z=>kf ⟨[⟨iZ,.k,r0⟩],[⟨(.ptr db),(.o 163 (some 0) .k),z⟩]⟩)
noncomputable def OM (N:Nat):=ao J9 (aey N)
noncomputable def aj' (N:Nat):List Entry:=[⟨134,[.kT,.val],(F9 N)⟩,⟨137,[.kT,.val],(o9 N)⟩]
theorem aka (N:Nat):ca J9 (aey N) aex (aj' N) (fm N N) Tryz.f155:=fun _ _=>by kernel_rfl
theorem akb {Γ:Gl} (N:Nat):Sound Γ Tryz.prog 155 (OM N):=gJ aex Tryz.f155 (aka N) ⟨Wg N,⟨x7 N,trivial⟩⟩
noncomputable def AQ:List Kd:=.v (.ptr db) (.o 163 (some 0) .k)::dK::dK::.v (.sl iZ) (.o 38 none .k)::.v (.int .i64) .k::dn 24 ([])
noncomputable def CC:List Kd:=.v (.ptr db) (.o 163 (some 0) .k)::dK::dK::.v (.sl iZ) (.o 38 none .k)::dn 25 ([])
noncomputable def aez:Hint:={ tab,hn:=[],loops:=[(5,AQ)],outs:=[(5,2,CC)],bp:=[],w7:=some (0,false) }
noncomputable def SW:List AK:=[.v (.ptr db) (.o 163 (some 0) .k)]
noncomputable def apl (N:Nat) (x:ax SW) (kf:aa→Option aa):Option aa:=S69 N x.1 (fun r0 z=>kf ⟨[⟨(.sl iZ),(.o 38 none .k),r0⟩],[⟨(.ptr db),(.o 163 (some 0) .k),z⟩]⟩)
noncomputable def Wh (N:Nat):=ao SW (apl N)
noncomputable def aeA (N:Nat):List Entry:=[⟨140,[.kT,.val],(F8 N)⟩,⟨137,[.kT,.val],(o9 N)⟩,⟨155,[.kT],(OM N)⟩]
noncomputable def F':Code:=aJ Tryz.f69
noncomputable def aeB (N n:Nat) (key:Nat) (S:St) (K:Ks):Option aa:=bif Nat.beq key 5 then az AQ S (fun x=>Am N n (fun z0 z1=>K (.x 0) (shape CC (z0,z1,()))) x.1 x.2.1 x.2.2.1) else none
theorem ar6 (N key:Nat) (S:St) (K:Ks):aeB N 0 key S K=none:=(bL (aq fun _=>rfl) rfl)
noncomputable def Wi:Code:=(af F').getD 0 .skip
theorem ar7:af F'=[Wi]:=by kernel_rfl
theorem aeC (N:Nat):fi aez (aeA N) (aeB N) N 5 AQ Wi:=fun _ _ _=>by kernel_rfl
theorem ar8 (N:Nat):ca SW (apl N) aez (aeA N) (aeB N N) Tryz.f69:=fun _ _=>by kernel_rfl
theorem ar9 {Γ:Gl} (N:Nat):Sound Γ Tryz.prog 69 (Wh N):=gW aez Tryz.f69 F' (ar6 N) ar7 (ar8 N) (rc (aeC N) trivial) ⟨Wf N,⟨x7 N,⟨akb N,trivial⟩⟩⟩
noncomputable def J':List AK:=[.v (.sl (.int .u8)) .k]
noncomputable def apm (N:Nat) (x:ax J') (kf:aa→Option aa):Option aa:=S12 N x.1 (fun r0 r1=>kf ⟨[⟨dd,(.p (.o 46 none (.p .k (.p .k (.p .k (.p .k (.p .k (.o 3 none .k))))))) (.p (.o 80 none (.p .k (.p .k (.o 3 none .k)))) (.p (.o 104 none .k) (.p (.o 3 none .k) (.p (.o 136 none .k) (.p (.o 102 none .k) .k)))))),r0⟩,⟨(.sl iZ),(.o 38 none .k),r1⟩],[]⟩)
noncomputable def Ka (N:Nat):=ao J' (apm N)
noncomputable def ar' (N:Nat):List Entry:=[⟨67,[.val],(J4 N)⟩,⟨68,[],(We N)⟩,⟨69,[.kT],(Wh N)⟩]
theorem asa (N:Nat):ca J' (apm N) hq (ar' N) (fm N N) Tryz.f12:=fun _ _=>by kernel_rfl
theorem aeD {Γ:Gl} (N:Nat):Sound Γ Tryz.prog 12 (Ka N):=gJ hq Tryz.f12 (asa N) ⟨aeo N,⟨ar5 N,⟨ar9 N,trivial⟩⟩⟩
noncomputable def aeE:Hint:={ tab,hn:=[],loops:=[],outs:=[],bp:=[] }
noncomputable def DC:List AK:=[.v (.sl (.int .i64)) .k]
noncomputable def Kb (N:Nat) (x:ax DC) (kf:aa→Option aa):Option aa:=Jc N x.1 (fun r0=>kf ⟨[⟨(.sl (.int .i64)),(.o 3 none .k),r0⟩],[]⟩)
noncomputable def sZ (N:Nat):=ao DC (Kb N)
noncomputable def Ix:Code:=aJ Tryz.f166
theorem akc:af Ix=[]:=by kernel_rfl
theorem akd (N:Nat):ca DC (Kb N) aeE [] (fm N N) Tryz.f166:=fun _ _=>by kernel_rfl
theorem aeF (N:Nat) (x:ax DC):cJ (Kb N x):=by
 obtain⟨l,u⟩:=x
 unfold Kb Jc
 cases l with
 |nil=>exact⟨some _,fun K=>l6 _⟩
 |cons a l=>
  simp only[List.isEmpty_cons,cond_false]
  exact cJ.bif _ (cJ.pure _) cJ.none
theorem DD {Γ:Gl} (N:Nat):Sound Γ Tryz.prog 166 (sZ N):=jz (hh:=aeE) mixed ly (es:=[]) trivial (fn:=Tryz.f166) (body:=Ix) (by kernel_rfl) (by kernel_rfl) (by kernel_rfl) (by kernel_rfl) (by kernel_rfl) (Lf:=fm N) (Z' N) akc trivial (N:=N) (by kernel_rfl) (akd N) (.inr (aeF N))
noncomputable def vR:List Kd:=dn 3 (.v (.sl cX) (.o 46 none (.p .k (.p .k (.p .k (.p .k (.p .k (.o 3 none .k)))))))::dn 3 (.v (.sl cX) .k::.v (.int .i64) .k::.v (.int .i64) .k::dn 13 ([])))
noncomputable def x8:List Kd:=dn 3 (.v (.sl cX) (.o 46 none (.p .k (.p .k (.p .k (.p .k (.p .k (.o 3 none .k)))))))::dn 19 ([]))
noncomputable def SX:Hint:={ tab,hn:=[(6,(.p .k (.p .k (.p .k (.p .k (.p .k (.o 3 none .k)))))))],loops:=[(3,vR)],outs:=[(3,2,x8)],bp:=[] }
noncomputable def Kc:List AK:=[.v (.sl cX) .k]
noncomputable def aeG (N:Nat) (x:ax Kc) (kf:aa→Option aa):Option aa:=RK N x.1 (fun r0=>kf ⟨[⟨(.sl cX),(.o 46 none (.p .k (.p .k (.p .k (.p .k (.p .k (.o 3 none .k))))))),r0⟩],[]⟩)
noncomputable def Ga (N:Nat):=ao Kc (aeG N)
noncomputable def Wj (N:Nat):List Entry:=[⟨166,[.val],(sZ N)⟩]
noncomputable def AR:Code:=aJ Tryz.f163
noncomputable def SY (N n:Nat) (key:Nat) (S:St) (K:Ks):Option aa:=bif Nat.beq key 3 then az vR S (fun x=>pO N x.2.1 x.2.2.1 n (fun z0=>K (.x 0) (shape x8 (z0,()))) x.1 x.2.2.2.1) else none
theorem ake (N key:Nat) (S:St) (K:Ks):SY N 0 key S K=none:=(bL (aq fun _=>rfl) rfl)
noncomputable def ON:Code:=(af AR).getD 0 .skip
theorem akf:af AR=[ON]:=by kernel_rfl
theorem aaa (N:Nat):fi SX (Wj N) (SY N) N 3 vR ON:=fun _ _ _=>by kernel_rfl
theorem akg (N:Nat):ca Kc (aeG N) SX (Wj N) (SY N N) Tryz.f163:=fun _ _=>by kernel_rfl
theorem Wk {Γ:Gl} (N:Nat):Sound Γ Tryz.prog 163 (Ga N):=gW SX Tryz.f163 AR (ake N) akf (akg N) (rc (aaa N) trivial) ⟨DD N,trivial⟩
noncomputable def vS:List Kd:=dn 3 (.v (.sl jT) (.o 80 none (.p .k (.p .k (.o 3 none .k))))::dn 3 (.v (.sl jT) .k::.v (.int .i64) .k::.v (.int .i64) .k::dn 13 ([])))
noncomputable def x9:List Kd:=dn 3 (.v (.sl jT) (.o 80 none (.p .k (.p .k (.o 3 none .k))))::dn 19 ([]))
noncomputable def SZ:Hint:={ tab,hn:=[(6,(.p .k (.p .k (.o 3 none .k))))],loops:=[(3,vS)],outs:=[(3,2,x9)],bp:=[] }
noncomputable def Ke:List AK:=[.v (.sl jT) .k]
noncomputable def aeH (N:Nat) (x:ax Ke) (kf:aa→Option aa):Option aa:=aiv N x.1 (fun r0=>kf ⟨[⟨(.sl jT),(.o 80 none (.p .k (.p .k (.o 3 none .k)))),r0⟩],[]⟩)
noncomputable def OO (N:Nat):=ao Ke (aeH N)
noncomputable def Wl (N:Nat):List Entry:=[⟨166,[.val],(sZ N)⟩]
noncomputable def AS:Code:=aJ Tryz.f164
noncomputable def S0 (N n:Nat) (key:Nat) (S:St) (K:Ks):Option aa:=bif Nat.beq key 3 then az vS S (fun x=>pP N x.2.1 x.2.2.1 n (fun z0=>K (.x 0) (shape x9 (z0,()))) x.1 x.2.2.2.1) else none
theorem akh (N key:Nat) (S:St) (K:Ks):S0 N 0 key S K=none:=(bL (aq fun _=>rfl) rfl)
noncomputable def OP:Code:=(af AS).getD 0 .skip
theorem aki:af AS=[OP]:=by kernel_rfl
theorem aab (N:Nat):fi SZ (Wl N) (S0 N) N 3 vS OP:=fun _ _ _=>by kernel_rfl
theorem akj (N:Nat):ca Ke (aeH N) SZ (Wl N) (S0 N N) Tryz.f164:=fun _ _=>by kernel_rfl
theorem akk {Γ:Gl} (N:Nat):Sound Γ Tryz.prog 164 (OO N):=gW SZ Tryz.f164 AS (akh N) aki (akj N) (rc (aab N) trivial) ⟨DD N,trivial⟩
noncomputable def aeI:Hint:={ tab,hn:=[],loops:=[],outs:=[],bp:=[] }
noncomputable def DE:List AK:=[.v (.sl du) .k]
noncomputable def Kf (N:Nat) (x:ax DE) (kf:aa→Option aa):Option aa:=aiw N x.1 (fun r0=>kf ⟨[⟨(.sl du),(.o 104 none .k),r0⟩],[]⟩)
noncomputable def OQ (N:Nat):=ao DE (Kf N)
noncomputable def Iy:Code:=aJ Tryz.f165
theorem akl:af Iy=[]:=by kernel_rfl
theorem akm (N:Nat):ca DE (Kf N) aeI [] (fm N N) Tryz.f165:=fun _ _=>by kernel_rfl
theorem aeJ (N:Nat) (x:ax DE):cJ (Kf N x):=by
 obtain⟨l,u⟩:=x
 unfold Kf aiw
 cases l with
 |nil=>exact⟨some _,fun K=>l6 _⟩
 |cons a l=>
  simp only[List.isEmpty_cons,cond_false]
  exact cJ.bif _ (cJ.pure _) cJ.none
theorem akn {Γ:Gl} (N:Nat):Sound Γ Tryz.prog 165 (OQ N):=jz (hh:=aeI) mixed ly (es:=[]) trivial (fn:=Tryz.f165) (body:=Iy) (by kernel_rfl) (by kernel_rfl) (by kernel_rfl) (by kernel_rfl) (by kernel_rfl) (Lf:=fm N) (Z' N) akl trivial (N:=N) (by kernel_rfl) (akm N) (.inr (aeJ N))
noncomputable def aeK:Hint:={ tab,hn:=[],loops:=[],outs:=[],bp:=[] }
noncomputable def DF:List AK:=[.v (.sl ux) .k]
noncomputable def Kg (N:Nat) (x:ax DF) (kf:aa→Option aa):Option aa:=aix N x.1 (fun r0=>kf ⟨[⟨(.sl ux),(.o 136 none .k),r0⟩],[]⟩)
noncomputable def OR (N:Nat):=ao DF (Kg N)
noncomputable def Iz:Code:=aJ Tryz.f167
theorem ako:af Iz=[]:=by kernel_rfl
theorem akp (N:Nat):ca DF (Kg N) aeK [] (fm N N) Tryz.f167:=fun _ _=>by kernel_rfl
theorem aeL (N:Nat) (x:ax DF):cJ (Kg N x):=by
 obtain⟨l,u⟩:=x
 unfold Kg aix
 cases l with
 |nil=>exact⟨some _,fun K=>l6 _⟩
 |cons a l=>
  simp only[List.isEmpty_cons,cond_false]
  exact cJ.bif _ (cJ.pure _) cJ.none
theorem akq {Γ:Gl} (N:Nat):Sound Γ Tryz.prog 167 (OR N):=jz (hh:=aeK) mixed ly (es:=[]) trivial (fn:=Tryz.f167) (body:=Iz) (by kernel_rfl) (by kernel_rfl) (by kernel_rfl) (by kernel_rfl) (by kernel_rfl) (Lf:=fm N) (Z' N) ako trivial (N:=N) (by kernel_rfl) (akp N) (.inr (aeL N))
noncomputable def aeM:Hint:={ tab,hn:=[],loops:=[],outs:=[],bp:=[] }
noncomputable def DG:List AK:=[.v (.sl iZ) .k]
noncomputable def Kh (N:Nat) (x:ax DG) (kf:aa→Option aa):Option aa:=YU N x.1 (fun r0=>kf ⟨[⟨(.sl iZ),(.o 102 none .k),r0⟩],[]⟩)
noncomputable def Gb (N:Nat):=ao DG (Kh N)
noncomputable def IA:Code:=aJ Tryz.f168
theorem akr:af IA=[]:=by kernel_rfl
theorem aks (N:Nat):ca DG (Kh N) aeM [] (fm N N) Tryz.f168:=fun _ _=>by kernel_rfl
theorem aeN (N:Nat) (x:ax DG):cJ (Kh N x):=by
 obtain⟨l,u⟩:=x
 unfold Kh YU
 cases l with
 |nil=>exact⟨some _,fun K=>l6 _⟩
 |cons a l=>
  simp only[List.isEmpty_cons,cond_false]
  exact cJ.bif _ (cJ.pure _) cJ.none
theorem Wm {Γ:Gl} (N:Nat):Sound Γ Tryz.prog 168 (Gb N):=jz (hh:=aeM) mixed ly (es:=[]) trivial (fn:=Tryz.f168) (body:=IA) (by kernel_rfl) (by kernel_rfl) (by kernel_rfl) (by kernel_rfl) (by kernel_rfl) (Lf:=fm N) (Z' N) akr trivial (N:=N) (by kernel_rfl) (aks N) (.inr (aeN N))
noncomputable def apn:Hint:={ tab,hn:=[],loops:=[],outs:=[],bp:=[(1,(OT.seq [0,1,3,4,2,6,5,7,8,9] .done)),(2,(OT.seq [0,1,3,4,6,7,9,10,2,12,5,8,11,13,14,15,16,17,18,19] .done))] }
noncomputable def S4:List AK:=[.v dd .k]
noncomputable def apo (N:Nat) (x:ax S4) (kf:aa→Option aa):Option aa:=H5 N x.1 (fun r0=>kf ⟨[⟨dd,(.p (.o 46 none (.p .k (.p .k (.p .k (.p .k (.p .k (.o 3 none .k))))))) (.p (.o 80 none (.p .k (.p .k (.o 3 none .k)))) (.p (.o 104 none .k) (.p (.o 3 none .k) (.p (.o 136 none .k) (.p (.o 102 none .k) .k)))))),r0⟩],[]⟩)
noncomputable def kL (N:Nat):=ao S4 (apo N)
noncomputable def asb (N:Nat):List Entry:=[⟨163,[.val],(Ga N)⟩,⟨164,[.val],(OO N)⟩,⟨165,[.val],(OQ N)⟩,⟨166,[.val],(sZ N)⟩,⟨167,[.val],(OR N)⟩,⟨168,[.val],(Gb N)⟩]
theorem asc (N:Nat):ca S4 (apo N) apn (asb N) (fm N N) Tryz.f70:=fun _ _=>by kernel_rfl
theorem qN {Γ:Gl} (N:Nat):Sound Γ Tryz.prog 70 (kL N):=gJ apn Tryz.f70 (asc N) ⟨Wk N,⟨akk N,⟨akn N,⟨DD N,⟨akq N,⟨Wm N,trivial⟩⟩⟩⟩⟩⟩
noncomputable def Ki:List AK:=[.v cX .k,.v (.ptr (.int .i64)) .k]
noncomputable def aeO (N:Nat) (x:ax Ki) (kf:aa→Option aa):Option aa:=aiy N x.1 x.2.1 (fun r0=>kf ⟨[⟨.bool,.k,r0⟩],[]⟩)
noncomputable def OS (N:Nat):=ao Ki (aeO N)
theorem akt (N:Nat):ca Ki (aeO N) hq [] (fm N N) Tryz.f147:=fun _ _=>by kernel_rfl
theorem aku {Γ:Gl} (N:Nat):Sound Γ Tryz.prog 147 (OS N):=gJ hq Tryz.f147 (akt N) trivial
noncomputable def vT:List Kd:=.v (.sl cX) .k::.lE 147 [.kv (.ptr (.int .i64))]::dn 5 (.v (.int .i64) .k::.v (.int .i64) .k::dn 10 ([]))
noncomputable def ya:List Kd:=dn 19 ([])
noncomputable def yb:List Kd:=dn 4 (.v (.int .i64) .k::dn 14 ([]))
noncomputable def S5:Hint:={ tab,hn:=[],loops:=[(2,vT)],outs:=[(2,2,ya),(2,1,yb)],bp:=[] }
noncomputable def Kj:List AK:=[.v (.sl cX) .k,.fn 147 [(.ptr (.int .i64))]]
noncomputable def aeP (N:Nat) (x:ax Kj) (kf:aa→Option aa):Option aa:=aqQ N x.1 x.2.1.1 (fun r0=>kf ⟨[⟨(.int .i64),.k,r0⟩],[]⟩)
noncomputable def OU (N:Nat):=ao Kj (aeP N)
noncomputable def Wn (N:Nat):List Entry:=[⟨147,[.val],(OS N)⟩]
noncomputable def AT:Code:=aJ Tryz.f146
noncomputable def S6 (N n:Nat) (key:Nat) (S:St) (K:Ks):Option aa:=bif Nat.beq key 2 then az vT S (fun x=>pQ N x.1 x.2.1.1 x.2.2.1 n (K (.x 0) (shape ya ())) (fun z0=>K .r (shape yb (z0,()))) x.2.2.2.1) else none
theorem akv (N key:Nat) (S:St) (K:Ks):S6 N 0 key S K=none:=(bL (aq fun _=>rfl) rfl)
noncomputable def OV:Code:=(af AT).getD 0 .skip
theorem akw:af AT=[OV]:=by kernel_rfl
theorem aac (N:Nat):fi S5 (Wn N) (S6 N) N 2 vT OV:=fun _ _ _=>by kernel_rfl
theorem akx (N:Nat):ca Kj (aeP N) S5 (Wn N) (S6 N N) Tryz.f146:=fun _ _=>by kernel_rfl
theorem aky {Γ:Gl} (N:Nat):Sound Γ Tryz.prog 146 (OU N):=gW S5 Tryz.f146 AT (akv N) akw (akx N) (rc (aac N) trivial) ⟨aku N,trivial⟩
noncomputable def S7:List AK:=[.v (.sl cX) .k,.v (.int .i64) .k]
noncomputable def apq (N:Nat) (x:ax S7) (kf:aa→Option aa):Option aa:=Ny N x.1 x.2.1 (fun r0=>kf ⟨[⟨(.int .i64),.k,r0⟩],[]⟩)
noncomputable def lZ (N:Nat):=ao S7 (apq N)
noncomputable def asd (N:Nat):List Entry:=[⟨146,[.val,.val],(OU N)⟩]
theorem ase (N:Nat):ca S7 (apq N) hq (asd N) (fm N N) Tryz.f40:=fun _ _=>by kernel_rfl
theorem s4 {Γ:Gl} (N:Nat):Sound Γ Tryz.prog 40 (lZ N):=gJ hq Tryz.f40 (ase N) ⟨aky N,trivial⟩
noncomputable def Kk:List AK:=[.v dd .k]
noncomputable def apr (N:Nat) (x:ax Kk) (kf:aa→Option aa):Option aa:=Vs N x.1 (fun r0=>kf ⟨[⟨.bool,.k,r0⟩],[]⟩)
noncomputable def qO (N:Nat):=ao Kk (apr N)
theorem asf (N:Nat):ca Kk (apr N) hq [] (fm N N) Tryz.f16:=fun _ _=>by kernel_rfl
theorem AU {Γ:Gl} (N:Nat):Sound Γ Tryz.prog 16 (qO N):=gJ hq Tryz.f16 (asf N) trivial
def aeQ:Go.Shelf.Ren:=⟨fun n=>bif Nat.beq n 22 then 135 else bif Nat.beq n 29 then 212 else bif Nat.beq n 30 then 213 else n,fun n=>bif Nat.beq n 0 then 0 else bif Nat.beq n 3 then 3 else bif Nat.beq n 4 then 4 else bif Nat.beq n 9 then 46 else bif Nat.beq n 24 then 24 else n,fun n=>n⟩
def akz:Array Value:=#[.int .i64 0,.int .i64 0,.int .i64 0,.int .i64 0,.int .i64 0,.slice none 0 0]
noncomputable def akA:TypeInfo:=(Tryz.prog.info? 46).get (by kernel_rfl)
theorem aeR:It Tryz.prog aeQ (Ty.size cX) akz akA:={ FB:=⟨Tryz.f135.name,by kernel_rfl,by kernel_rfl⟩,FO:=⟨Tryz.f212,by kernel_rfl,by kernel_rfl,by kernel_rfl,by kernel_rfl,by kernel_rfl⟩,mixed:=by kernel_rfl,t0:=by kernel_rfl,a0:=fun w=>by kernel_rfl,z0:=fun w=>by kernel_rfl,v0:=fun w=>by kernel_rfl,t3:=by kernel_rfl,a3:=fun w=>by kernel_rfl,z3:=fun w=>by kernel_rfl,v3:=fun w=>by kernel_rfl,t4:=by kernel_rfl,a4:=fun w=>by kernel_rfl,z4:=fun w=>by kernel_rfl,v4:=fun w=>by kernel_rfl,t24:=by kernel_rfl,a24:=fun w=>by kernel_rfl,z24:=fun w=>by kernel_rfl,v24:=fun w=>by kernel_rfl,z9:=fun w=>by kernel_rfl,hz:=by kernel_rfl,hzo:=by kernel_rfl,I8:=by kernel_rfl,hz0:=by kernel_rfl,IW:=by kernel_rfl,hby:=Nat.le_of_ble_eq_true (by kernel_rfl),Dd:=Nat.le_of_ble_eq_true (by kernel_rfl) }
noncomputable def Wo:List AK:=[.v (.sl cX) (.o 46 none (.p .k (.p .k (.p .k (.p .k (.p .k (.o 3 none .k))))))),.v (.int .i64) .k,.v (.sl cX) (.o 46 none (.p .k (.p .k (.p .k (.p .k (.p .k (.o 3 none .k)))))))]
noncomputable def asg (N:Nat) (x:ax Wo) (kf:aa→Option aa):Option aa:=aiz N x.1 x.2.1 x.2.2.1 (fun r0=>kf ⟨[⟨(.sl cX),(.o 46 none (.p .k (.p .k (.p .k (.p .k (.p .k (.o 3 none .k))))))),r0⟩],[]⟩)
noncomputable def OW (N:Nat):=ao Wo (asg N)
theorem akB {Γ:Gl} (N:Nat):Sound Γ Tryz.prog 135 (OW N):=x6 aeR (.p .k (.p .k (.p .k (.p .k (.p .k (.o 3 none .k)))))) (by kernel_rfl)
noncomputable def Kl:List AK:=[.v (.sl iZ) .k]
noncomputable def aeS (N:Nat) (x:ax Kl) (kf:aa→Option aa):Option aa:=aqR N x.1 (fun r0=>kf ⟨[⟨(.int .i64),.k,r0⟩],[]⟩)
noncomputable def OX (N:Nat):=ao Kl (aeS N)
theorem akC (N:Nat):ca Kl (aeS N) hq [] (fm N N) Tryz.f234:=fun _ _=>by kernel_rfl
theorem akD {Γ:Gl} (N:Nat):Sound Γ Tryz.prog 234 (OX N):=gJ hq Tryz.f234 (akC N) trivial
noncomputable def Km:List AK:=[.v (.int .i64) .k,.v (.int .i64) .k,.v (.int .i64) .k]
noncomputable def aeT (N:Nat) (x:ax Km) (kf:aa→Option aa):Option aa:=eP N x.1 x.2.1 x.2.2.1 (fun r0=>kf ⟨[⟨.bool,.k,r0⟩],[]⟩)
noncomputable def lf (N:Nat):=ao Km (aeT N)
theorem akE (N:Nat):ca Km (aeT N) hq [] (fm N N) Tryz.f144:=fun _ _=>by kernel_rfl
theorem qP {Γ:Gl} (N:Nat):Sound Γ Tryz.prog 144 (lf N):=gJ hq Tryz.f144 (akE N) trivial
noncomputable def Kn:List AK:=[.v (.int .i64) .k,.v (.int .i64) .k]
noncomputable def aeU (N:Nat) (x:ax Kn) (kf:aa→Option aa):Option aa:=aiA N x.1 x.2.1 (fun r0=>kf ⟨[⟨(.int .i64),.k,r0⟩],[]⟩)
noncomputable def OY (N:Nat):=ao Kn (aeU N)
noncomputable def akF (N:Nat):List Entry:=[⟨144,[.val,.val,.val],(lf N)⟩]
theorem akG (N:Nat):ca Kn (aeU N) hq (akF N) (fm N N) Tryz.f262:=fun _ _=>by kernel_rfl
theorem akH {Γ:Gl} (N:Nat):Sound Γ Tryz.prog 262 (OY N):=gJ hq Tryz.f262 (akG N) ⟨qP N,trivial⟩
noncomputable def Ko:List AK:=[.v (.int .i64) .k,.v (.int .i64) .k]
noncomputable def aeV (N:Nat) (x:ax Ko) (kf:aa→Option aa):Option aa:=aiB N x.1 x.2.1 (fun r0=>kf ⟨[⟨(.int .i64),.k,r0⟩],[]⟩)
noncomputable def OZ (N:Nat):=ao Ko (aeV N)
noncomputable def akI (N:Nat):List Entry:=[⟨262,[.val,.val],(OY N)⟩]
theorem akJ (N:Nat):ca Ko (aeV N) hq (akI N) (fm N N) Tryz.f249:=fun _ _=>by kernel_rfl
theorem akK {Γ:Gl} (N:Nat):Sound Γ Tryz.prog 249 (OZ N):=gJ hq Tryz.f249 (akJ N) ⟨akH N,trivial⟩
noncomputable def vU:List Kd:=dn 3 (.v (.int .i64) .k::dK::dK::.v (.sl (.int .i64)) .k::.v (.int .i64) .k::.v (.int .i64) .k::dn 8 ([]))
noncomputable def yc:List Kd:=dn 3 (.v (.int .i64) .k::dn 13 ([]))
noncomputable def S8:Hint:={ tab,hn:=[],loops:=[(3,vU)],outs:=[(3,2,yc)],bp:=[] }
noncomputable def Kp:List AK:=[.v (.sl (.int .i64)) .k]
noncomputable def aeW (N:Nat) (x:ax Kp) (kf:aa→Option aa):Option aa:=aiC N x.1 (fun r0=>kf ⟨[⟨(.int .i64),.k,r0⟩],[]⟩)
noncomputable def O0 (N:Nat):=ao Kp (aeW N)
noncomputable def Wp (N:Nat):List Entry:=[⟨249,[.val,.val],(OZ N)⟩]
noncomputable def AW:Code:=aJ Tryz.f219
noncomputable def S9 (N n:Nat) (key:Nat) (S:St) (K:Ks):Option aa:=bif Nat.beq key 3 then az vU S (fun x=>pR N x.2.1 x.2.2.1 n (fun z0=>K (.x 0) (shape yc (z0,()))) x.1 x.2.2.2.1) else none
theorem akL (N key:Nat) (S:St) (K:Ks):S9 N 0 key S K=none:=(bL (aq fun _=>rfl) rfl)
noncomputable def O1:Code:=(af AW).getD 0 .skip
theorem akM:af AW=[O1]:=by kernel_rfl
theorem aad (N:Nat):fi S8 (Wp N) (S9 N) N 3 vU O1:=fun _ _ _=>by kernel_rfl
theorem akN (N:Nat):ca Kp (aeW N) S8 (Wp N) (S9 N N) Tryz.f219:=fun _ _=>by kernel_rfl
theorem akO {Γ:Gl} (N:Nat):Sound Γ Tryz.prog 219 (O0 N):=gW S8 Tryz.f219 AW (akL N) akM (akN N) (rc (aad N) trivial) ⟨akK N,trivial⟩
noncomputable def Kq:List AK:=[.v (.int .i64) .k,.v iZ .k]
noncomputable def aeX (N:Nat) (x:ax Kq) (kf:aa→Option aa):Option aa:=RL N x.1 x.2.1 (fun r0=>kf ⟨[⟨(.int .i64),.k,r0⟩],[]⟩)
noncomputable def Gc (N:Nat):=ao Kq (aeX N)
noncomputable def akP (N:Nat):List Entry:=[⟨219,[.val],(O0 N)⟩]
theorem akQ (N:Nat):ca Kq (aeX N) hq (akP N) (fm N N) Tryz.f169:=fun _ _=>by kernel_rfl
theorem Wq {Γ:Gl} (N:Nat):Sound Γ Tryz.prog 169 (Gc N):=gJ hq Tryz.f169 (akQ N) ⟨akO N,trivial⟩
noncomputable def AX:List Kd:=dn 3 (.v (.int .i64) .k::dn 5 (.v (.sl iZ) .k::.v (.int .i64) .k::.v (.int .i64) .k::dn 32 ([])))
noncomputable def CD:List Kd:=dn 44 ([])
noncomputable def CE:List Kd:=dK::dK::.v .bool .k::dn 41 ([])
noncomputable def aeY:Hint:={ tab,hn:=[],loops:=[(5,AX)],outs:=[(5,2,CD),(5,1,CE)],bp:=[(7,(OT.seq [0,1,2,3,4,5,6,7,8,9,10,11,12,13,14,15,16,17,18,19,20,21,22,23,24] .done))] }
noncomputable def Ta:List AK:=[.v (.sl iZ) .k]
noncomputable def aps (N:Nat) (x:ax Ta) (kf:aa→Option aa):Option aa:=I75 N x.1 (fun r0=>kf ⟨[⟨.bool,.k,r0⟩],[]⟩)
noncomputable def nJ (N:Nat):=ao Ta (aps N)
noncomputable def aeZ (N:Nat):List Entry:=[⟨144,[.val,.val,.val],(lf N)⟩,⟨169,[.val,.val],(Gc N)⟩]
noncomputable def Gd:Code:=aJ Tryz.f75
noncomputable def ae0 (N n:Nat) (key:Nat) (S:St) (K:Ks):Option aa:=bif Nat.beq key 5 then az AX S (fun x=>vm N x.2.1 x.2.2.1 n (K (.x 0) (shape CD ())) (fun z0=>K .r (shape CE (z0,()))) x.1 x.2.2.2.1) else none
theorem ash (N key:Nat) (S:St) (K:Ks):ae0 N 0 key S K=none:=(bL (aq fun _=>rfl) rfl)
noncomputable def Ws:Code:=(af Gd).getD 0 .skip
theorem asi:af Gd=[Ws]:=by kernel_rfl
theorem ae1 (N:Nat):fi aeY (aeZ N) (ae0 N) N 5 AX Ws:=fun _ _ _=>by kernel_rfl
theorem asj (N:Nat):ca Ta (aps N) aeY (aeZ N) (ae0 N N) Tryz.f75:=fun _ _=>by kernel_rfl
theorem vV {Γ:Gl} (N:Nat):Sound Γ Tryz.prog 75 (nJ N):=gW aeY Tryz.f75 Gd (ash N) asi (asj N) (rc (ae1 N) trivial) ⟨qP N,⟨Wq N,trivial⟩⟩
noncomputable def ae2:Hint:={ tab,hn:=[],loops:=[],outs:=[],bp:=[(2,(OT.seq [0,2,1,3,4,5] .done)),(3,(OT.seq [0,2] (.any [1,3] (OT.seq [4,5] .done))))] }
noncomputable def Kr:List AK:=[.v (.sl iZ) .k,.v (.int .i64) .k,.v (.int .i64) .k]
noncomputable def ae3 (N:Nat) (x:ax Kr) (kf:aa→Option aa):Option aa:=aiD N x.1 x.2.1 x.2.2.1 (fun r0 r1=>kf ⟨[⟨(.sl iZ),(.o 102 none .k),r0⟩,⟨.bool,.k,r1⟩],[]⟩)
noncomputable def O2 (N:Nat):=ao Kr (ae3 N)
noncomputable def akR (N:Nat):List Entry:=[⟨234,[.val],(OX N)⟩,⟨169,[.val,.val],(Gc N)⟩,⟨168,[.val],(Gb N)⟩,⟨75,[.val],(nJ N)⟩]
theorem akS (N:Nat):ca Kr (ae3 N) ae2 (akR N) (fm N N) Tryz.f189:=fun _ _=>by kernel_rfl
theorem akT {Γ:Gl} (N:Nat):Sound Γ Tryz.prog 189 (O2 N):=gJ ae2 Tryz.f189 (akS N) ⟨akD N,⟨Wq N,⟨Wm N,⟨vV N,trivial⟩⟩⟩⟩
noncomputable def AY:List Kd:=dK::.v (.int .i64) .k::dn 3 (.v (.int .i64) .k::dK::dK::.v (.sl (.int .i64)) .k::.v (.int .i64) .k::.v (.int .i64) .k::dn 10 ([]))
noncomputable def CF:List Kd:=dn 5 (.v (.int .i64) .k::dn 15 ([]))
noncomputable def ae4:Hint:={ tab,hn:=[],loops:=[(3,AY)],outs:=[(3,2,CF)],bp:=[] }
noncomputable def Tb:List AK:=[.v (.sl (.int .i64)) .k,.v (.int .i64) .k]
noncomputable def apt (N:Nat) (x:ax Tb) (kf:aa→Option aa):Option aa:=I78 N x.1 x.2.1 (fun r0=>kf ⟨[⟨(.int .i64),.k,r0⟩],[]⟩)
noncomputable def Kt (N:Nat):=ao Tb (apt N)
noncomputable def Ge:Code:=aJ Tryz.f78
noncomputable def ae5 (N n:Nat) (key:Nat) (S:St) (K:Ks):Option aa:=bif Nat.beq key 3 then az AY S (fun x=>su x.1 x.2.2.1 x.2.2.2.1 n (fun z0=>K (.x 0) (shape CF (z0,()))) x.2.1 x.2.2.2.2.1) else none
theorem asl (N key:Nat) (S:St) (K:Ks):ae5 N 0 key S K=none:=(bL (aq fun _=>rfl) rfl)
noncomputable def Wt:Code:=(af Ge).getD 0 .skip
theorem asm:af Ge=[Wt]:=by kernel_rfl
theorem ae6 (N:Nat):fi ae4 [] (ae5 N) N 3 AY Wt:=fun _ _ _=>by kernel_rfl
theorem asn (N:Nat):ca Tb (apt N) ae4 [] (ae5 N N) Tryz.f78:=fun _ _=>by kernel_rfl
theorem ae7 {Γ:Gl} (N:Nat):Sound Γ Tryz.prog 78 (Kt N):=gW ae4 Tryz.f78 Ge (asl N) asm (asn N) (rc (ae6 N) trivial) trivial
noncomputable def s5:List Kd:=.v (.sl cX) .k::dn 3 (.v (.ptr cX) (.o 46 none .k)::dn 7 (.v (.sl cX) .k::.v (.int .i64) .k::.v (.int .i64) .k::dn 57 (.v (.sl (.int .i64)) .k::.v (.int .i64) .k::.v (.int .i64) .k::dn 31 ([]))))
noncomputable def uM:List Kd:=.v (.sl cX) .k::dn 11 (.v (.sl cX) .k::.v (.int .i64) .k::.v (.int .i64) .k::dn 91 ([]))
noncomputable def uN:List Kd:=dK::dK::.v .bool .k::dn 103 ([])
noncomputable def vW:List Kd:=.v (.sl cX) .k::dn 11 (.v (.sl cX) .k::.v (.int .i64) .k::.v (.int .i64) .k::dn 91 ([]))
noncomputable def yd:List Kd:=dn 106 ([])
noncomputable def ye:List Kd:=dK::dK::.v .bool .k::dn 103 ([])
noncomputable def Ku:Hint:={ tab,hn:=[],loops:=[(10,s5),(4,vW)],outs:=[(10,4,uM),(10,1,uN),(4,2,yd),(4,1,ye)],bp:=[(7,(OT.seq [0,1,2,3,4,5,6,7,8,9,10,11,12,13,14,15,16,17,18,19,20,21,22,23,24,25,26,27,28,29,30,31,32,33,34,35,36,37,38,39,40,41,42,43,44,45,46,47,48] .done)),(13,(OT.seq [0,1,2,3,4,5,6,7,8,9,10,11,13,14,15,16,17,18,19,12,20,21,22] .done))] }
noncomputable def Kv:List AK:=[.v (.sl cX) .k]
noncomputable def ae8 (N:Nat) (x:ax Kv) (kf:aa→Option aa):Option aa:=Ap N x.1 (fun r0=>kf ⟨[⟨.bool,.k,r0⟩],[]⟩)
noncomputable def jQ (N:Nat):=ao Kv (ae8 N)
noncomputable def Kw (N:Nat):List Entry:=[⟨144,[.val,.val,.val],(lf N)⟩,⟨40,[.val,.val],(lZ N)⟩,⟨78,[.val,.val],(Kt N)⟩]
noncomputable def tS:Code:=aJ Tryz.f143
noncomputable def Kx (N n:Nat) (key:Nat) (S:St) (K:Ks):Option aa:=bif Nat.beq key 4 then az vW S (fun x=>ng N x.1 x.2.1 x.2.2.1 n (K (.x 0) (shape yd ())) (fun z0=>K .r (shape ye (z0,()))) x.2.2.2.1) else bif Nat.beq key 10 then az s5 S (fun x=>hZ N x.1 x.2.1 x.2.2.1 x.2.2.2.1 x.2.2.2.2.1 x.2.2.2.2.2.1 x.2.2.2.2.2.2.1 n (K (.x 2) (shape uM (x.1,x.2.2.1,x.2.2.2.1,x.2.2.2.2.1,()))) (fun z0=>K .r (shape uN (z0,()))) x.2.2.2.2.2.2.2.1) else none
theorem akU (N key:Nat) (S:St) (K:Ks):Kx N 0 key S K=none:=(bL (aq fun _=>rfl) (bL (aq fun _=>rfl) rfl))
noncomputable def O3:Code:=(af tS).getD 0 .skip
noncomputable def O4:Code:=(af tS).getD 1 .skip
theorem akV:af tS=[O3,O4]:=by kernel_rfl
theorem Tc (N:Nat):fi Ku (Kw N) (Kx N) N 10 s5 O4:=fun _ _ _=>by kernel_rfl
theorem aae (N:Nat):fi Ku (Kw N) (Kx N) N 4 vW O3:=fun _ _ _=>by kernel_rfl
theorem akW (N:Nat):ca Kv (ae8 N) Ku (Kw N) (Kx N N) Tryz.f143:=fun _ _=>by kernel_rfl
theorem nK {Γ:Gl} (N:Nat):Sound Γ Tryz.prog 143 (jQ N):=gW Ku Tryz.f143 tS (akU N) akV (akW N) (rc (aae N) (rc (Tc N) trivial)) ⟨qP N,⟨s4 N,⟨ae7 N,trivial⟩⟩⟩
noncomputable def AZ:List Kd:=.v (.sl jT) .k::dn 3 (.v (.ptr jT) (.o 80 none .k)::dn 5 (.v (.sl jT) .k::.v (.int .i64) .k::.v (.int .i64) .k::dn 30 (.v (.sl (.int .i64)) .k::.v (.int .i64) .k::.v (.int .i64) .k::dn 23 ([]))))
noncomputable def CG:List Kd:=.v (.sl jT) .k::dn 9 (.v (.sl jT) .k::.v (.int .i64) .k::.v (.int .i64) .k::dn 56 ([]))
noncomputable def CH:List Kd:=dK::dK::.v .bool .k::dn 66 ([])
noncomputable def A3:List Kd:=.v (.sl jT) .k::dn 9 (.v (.sl jT) .k::.v (.int .i64) .k::.v (.int .i64) .k::dn 56 ([]))
noncomputable def CI:List Kd:=dn 69 ([])
noncomputable def CJ:List Kd:=dK::dK::.v .bool .k::dn 66 ([])
noncomputable def Wu:Hint:={ tab,hn:=[],loops:=[(9,AZ),(4,A3)],outs:=[(9,4,CG),(9,1,CH),(4,2,CI),(4,1,CJ)],bp:=[(6,(OT.seq [0,1,2,3,4,5,6,7,8,9,10,11,12,13,14,15,16,17,18,19,20,21,22,23,24] .done))] }
noncomputable def Td:List AK:=[.v (.sl jT) .k]
noncomputable def apu (N:Nat) (x:ax Td) (kf:aa→Option aa):Option aa:=I79 N x.1 (fun r0=>kf ⟨[⟨.bool,.k,r0⟩],[]⟩)
noncomputable def DH (N:Nat):=ao Td (apu N)
noncomputable def Te (N:Nat):List Entry:=[⟨144,[.val,.val,.val],(lf N)⟩]
noncomputable def yf:Code:=aJ Tryz.f79
noncomputable def Wv (N n:Nat) (key:Nat) (S:St) (K:Ks):Option aa:=bif Nat.beq key 4 then az A3 S (fun x=>sv N x.1 x.2.1 x.2.2.1 n (K (.x 0) (shape CI ())) (fun z0=>K .r (shape CJ (z0,()))) x.2.2.2.1) else bif Nat.beq key 9 then az AZ S (fun x=>mF N x.1 x.2.1 x.2.2.1 x.2.2.2.1 x.2.2.2.2.1 x.2.2.2.2.2.1 x.2.2.2.2.2.2.1 n (K (.x 2) (shape CG (x.1,x.2.2.1,x.2.2.2.1,x.2.2.2.2.1,()))) (fun z0=>K .r (shape CH (z0,()))) x.2.2.2.2.2.2.2.1) else none
theorem aso (N key:Nat) (S:St) (K:Ks):Wv N 0 key S K=none:=(bL (aq fun _=>rfl) (bL (aq fun _=>rfl) rfl))
noncomputable def Ww:Code:=(af yf).getD 0 .skip
noncomputable def Wx:Code:=(af yf).getD 1 .skip
theorem asp:af yf=[Ww,Wx]:=by kernel_rfl
theorem ae9 (N:Nat):fi Wu (Te N) (Wv N) N 9 AZ Wx:=fun _ _ _=>by kernel_rfl
theorem ae' (N:Nat):fi Wu (Te N) (Wv N) N 4 A3 Ww:=fun _ _ _=>by kernel_rfl
theorem asq (N:Nat):ca Td (apu N) Wu (Te N) (Wv N N) Tryz.f79:=fun _ _=>by kernel_rfl
theorem Tf {Γ:Gl} (N:Nat):Sound Γ Tryz.prog 79 (DH N):=gW Wu Tryz.f79 yf (aso N) asp (asq N) (rc (ae' N) (rc (ae9 N) trivial)) ⟨qP N,trivial⟩
noncomputable def vX:List Kd:=.v (.sl (.int .i64)) .k::.v (.int .i64) .k::dn 5 (.v (.int .i64) .k::.v (.int .i64) .k::dn 10 ([]))
noncomputable def yg:List Kd:=dn 19 ([])
noncomputable def yh:List Kd:=dn 4 (.v (.int .i64) .k::dn 14 ([]))
noncomputable def Tg:Hint:={ tab,hn:=[],loops:=[(2,vX)],outs:=[(2,2,yg),(2,1,yh)],bp:=[] }
noncomputable def Ky:List AK:=[.v (.sl (.int .i64)) .k,.v (.int .i64) .k]
noncomputable def afa (N:Nat) (x:ax Ky) (kf:aa→Option aa):Option aa:=RT N x.1 x.2.1 (fun r0=>kf ⟨[⟨(.int .i64),.k,r0⟩],[]⟩)
noncomputable def Gf (N:Nat):=ao Ky (afa N)
noncomputable def A4:Code:=aJ Tryz.f170
noncomputable def Th (N n:Nat) (key:Nat) (S:St) (K:Ks):Option aa:=bif Nat.beq key 2 then az vX S (fun x=>pY x.1 x.2.1 x.2.2.1 n (K (.x 0) (shape yg ())) (fun z0=>K .r (shape yh (z0,()))) x.2.2.2.1) else none
theorem akX (N key:Nat) (S:St) (K:Ks):Th N 0 key S K=none:=(bL (aq fun _=>rfl) rfl)
noncomputable def O5:Code:=(af A4).getD 0 .skip
theorem akY:af A4=[O5]:=by kernel_rfl
theorem aaf (N:Nat):fi Tg [] (Th N) N 2 vX O5:=fun _ _ _=>by kernel_rfl
theorem akZ (N:Nat):ca Ky (afa N) Tg [] (Th N N) Tryz.f170:=fun _ _=>by kernel_rfl
theorem Wy {Γ:Gl} (N:Nat):Sound Γ Tryz.prog 170 (Gf N):=gW Tg Tryz.f170 A4 (akX N) akY (akZ N) (rc (aaf N) trivial) trivial
noncomputable def Ti:List AK:=[.v (.sl (.int .i64)) .k,.v (.int .i64) .k]
noncomputable def apv (N:Nat) (x:ax Ti) (kf:aa→Option aa):Option aa:=S82 N x.1 x.2.1 (fun r0=>kf ⟨[⟨.bool,.k,r0⟩],[]⟩)
noncomputable def tT (N:Nat):=ao Ti (apv N)
noncomputable def asr (N:Nat):List Entry:=[⟨170,[.val,.val],(Gf N)⟩]
theorem ass (N:Nat):ca Ti (apv N) hq (asr N) (fm N N) Tryz.f82:=fun _ _=>by kernel_rfl
theorem Gg {Γ:Gl} (N:Nat):Sound Γ Tryz.prog 82 (tT N):=gJ hq Tryz.f82 (ass N) ⟨Wy N,trivial⟩
noncomputable def Tj:List AK:=[.v (.sl cX) .k,.v (.int .i64) .k,.v (.int .i64) .k]
noncomputable def apw (N:Nat) (x:ax Tj) (kf:aa→Option aa):Option aa:=I19 N x.1 x.2.1 x.2.2.1 (fun r0=>kf ⟨[⟨.bool,.k,r0⟩],[]⟩)
noncomputable def Wz (N:Nat):=ao Tj (apw N)
noncomputable def ast (N:Nat):List Entry:=[⟨40,[.val,.val],(lZ N)⟩,⟨82,[.val,.val],(tT N)⟩]
theorem asu (N:Nat):ca Tj (apw N) hq (ast N) (fm N N) Tryz.f19:=fun _ _=>by kernel_rfl
theorem asv {Γ:Gl} (N:Nat):Sound Γ Tryz.prog 19 (Wz N):=gJ hq Tryz.f19 (asu N) ⟨s4 N,⟨Gg N,trivial⟩⟩
noncomputable def apx:Hint:={ tab,hn:=[],loops:=[],outs:=[],bp:=[(2,(OT.seq [0,1,2,3,4,5,6,7,8,9,10,11,12,13,14,15,16,17,18,19,20,21,22,23,24,25,26,27,28,29,30,31,32,33,34,35] .done))] }
noncomputable def Tk:List AK:=[.v (.sl cX) .k,.v (.int .i64) .k,.v (.int .i64) .k]
noncomputable def apy (N:Nat) (x:ax Tk) (kf:aa→Option aa):Option aa:=I77 N x.1 x.2.1 x.2.2.1 (fun r0=>kf ⟨[⟨.bool,.k,r0⟩],[]⟩)
noncomputable def Kz (N:Nat):=ao Tk (apy N)
noncomputable def asw (N:Nat):List Entry:=[⟨40,[.val,.val],(lZ N)⟩,⟨143,[.val],(jQ N)⟩,⟨19,[.val,.val,.val],(Wz N)⟩]
theorem asx (N:Nat):ca Tk (apy N) apx (asw N) (fm N N) Tryz.f77:=fun _ _=>by kernel_rfl
theorem afb {Γ:Gl} (N:Nat):Sound Γ Tryz.prog 77 (Kz N):=gJ apx Tryz.f77 (asx N) ⟨s4 N,⟨nK N,⟨asv N,trivial⟩⟩⟩
noncomputable def A5:List Kd:=.v (.sl cX) .k::dn 4 (.v (.sl (.int .i64)) (.o 3 none .k)::dn 5 (.v (.sl du) .k::.v (.int .i64) .k::.v (.int .i64) .k::dn 30 ([])))
noncomputable def CL:List Kd:=.v (.sl cX) .k::dn 4 (.v (.sl (.int .i64)) (.o 3 none .k)::dn 38 ([]))
noncomputable def CM:List Kd:=dn 4 (.v .bool .k::dn 39 ([]))
noncomputable def vY:List Kd:=dn 5 (.v (.sl (.int .i64)) (.o 3 none .k)::dn 26 (.v (.sl cX) .k::.v (.int .i64) .k::.v (.int .i64) .k::dn 9 ([])))
noncomputable def yi:List Kd:=dn 44 ([])
noncomputable def yj:List Kd:=dn 4 (.v .bool .k::dn 39 ([]))
noncomputable def WA:Hint:={ tab,hn:=[],loops:=[(3,A5),(10,vY)],outs:=[(3,2,CL),(3,1,CM),(10,4,yi),(10,1,yj)],bp:=[] }
noncomputable def Tl:List AK:=[.v (.sl cX) .k,.v (.sl du) .k]
noncomputable def apz (N:Nat) (x:ax Tl) (kf:aa→Option aa):Option aa:=I17 N x.1 x.2.1 (fun r0=>kf ⟨[⟨.bool,.k,r0⟩],[]⟩)
noncomputable def WB (N:Nat):=ao Tl (apz N)
noncomputable def Tm (N:Nat):List Entry:=[⟨77,[.val,.val,.val],(Kz N)⟩,⟨78,[.val,.val],(Kt N)⟩]
noncomputable def yk:Code:=aJ Tryz.f17
noncomputable def WC (N n:Nat) (key:Nat) (S:St) (K:Ks):Option aa:=bif Nat.beq key 3 then az A5 S (fun x=>vo N x.1 x.2.2.1 x.2.2.2.1 n (fun z0=>K (.x 0) (shape CL (x.1,z0,()))) (fun z0=>K .r (shape CM (z0,()))) x.2.1 x.2.2.2.2.1) else bif Nat.beq key 10 then az vY S (fun x=>pZ N x.1 x.2.1 x.2.2.1 n (K (.x 2) (shape yi ())) (fun z0=>K .r (shape yj (z0,()))) x.2.2.2.1) else none
theorem asy (N key:Nat) (S:St) (K:Ks):WC N 0 key S K=none:=(bL (aq fun _=>rfl) (bL (aq fun _=>rfl) rfl))
noncomputable def WD:Code:=(af yk).getD 0 .skip
noncomputable def WE:Code:=(af yk).getD 1 .skip
theorem asz:af yk=[WD,WE]:=by kernel_rfl
theorem aag (N:Nat):fi WA (Tm N) (WC N) N 10 vY WE:=fun _ _ _=>by kernel_rfl
theorem afc (N:Nat):fi WA (Tm N) (WC N) N 3 A5 WD:=fun _ _ _=>by kernel_rfl
theorem asA (N:Nat):ca Tl (apz N) WA (Tm N) (WC N N) Tryz.f17:=fun _ _=>by kernel_rfl
theorem asB {Γ:Gl} (N:Nat):Sound Γ Tryz.prog 17 (WB N):=gW WA Tryz.f17 yk (asy N) asz (asA N) (rc (afc N) (rc (aag N) trivial)) ⟨afb N,⟨ae7 N,trivial⟩⟩
noncomputable def Tn:List AK:=[.v jT .k,.v (.ptr (.int .i64)) .k]
noncomputable def apA (N:Nat) (x:ax Tn) (kf:aa→Option aa):Option aa:=I81 N x.1 x.2.1 (fun r0=>kf ⟨[⟨.bool,.k,r0⟩],[]⟩)
noncomputable def WG (N:Nat):=ao Tn (apA N)
theorem asC (N:Nat):ca Tn (apA N) hq [] (fm N N) Tryz.f81:=fun _ _=>by kernel_rfl
theorem asD {Γ:Gl} (N:Nat):Sound Γ Tryz.prog 81 (WG N):=gJ hq Tryz.f81 (asC N) trivial
noncomputable def A6:List Kd:=.v (.sl jT) .k::.lE 81 [.kv (.ptr (.int .i64))]::dn 5 (.v (.int .i64) .k::.v (.int .i64) .k::dn 10 ([]))
noncomputable def CN:List Kd:=dn 19 ([])
noncomputable def CO:List Kd:=dn 4 (.v (.int .i64) .k::dn 14 ([]))
noncomputable def afd:Hint:={ tab,hn:=[],loops:=[(2,A6)],outs:=[(2,2,CN),(2,1,CO)],bp:=[] }
noncomputable def To:List AK:=[.v (.sl jT) .k,.fn 81 [(.ptr (.int .i64))]]
noncomputable def apB (N:Nat) (x:ax To) (kf:aa→Option aa):Option aa:=S80 N x.1 x.2.1.1 (fun r0=>kf ⟨[⟨(.int .i64),.k,r0⟩],[]⟩)
noncomputable def WH (N:Nat):=ao To (apB N)
noncomputable def afe (N:Nat):List Entry:=[⟨81,[.val],(WG N)⟩]
noncomputable def Gh:Code:=aJ Tryz.f80
noncomputable def aff (N n:Nat) (key:Nat) (S:St) (K:Ks):Option aa:=bif Nat.beq key 2 then az A6 S (fun x=>vp N x.1 x.2.1.1 x.2.2.1 n (K (.x 0) (shape CN ())) (fun z0=>K .r (shape CO (z0,()))) x.2.2.2.1) else none
theorem asE (N key:Nat) (S:St) (K:Ks):aff N 0 key S K=none:=(bL (aq fun _=>rfl) rfl)
noncomputable def WI:Code:=(af Gh).getD 0 .skip
theorem asF:af Gh=[WI]:=by kernel_rfl
theorem afg (N:Nat):fi afd (afe N) (aff N) N 2 A6 WI:=fun _ _ _=>by kernel_rfl
theorem asG (N:Nat):ca To (apB N) afd (afe N) (aff N N) Tryz.f80:=fun _ _=>by kernel_rfl
theorem asH {Γ:Gl} (N:Nat):Sound Γ Tryz.prog 80 (WH N):=gW afd Tryz.f80 Gh (asE N) asF (asG N) (rc (afg N) trivial) ⟨asD N,trivial⟩
noncomputable def A7:List Kd:=.v (.sl cX) .k::dn 3 (.v (.ptr jT) (.o 80 none .k)::dn 9 (.v (.sl (.int .i64)) (.o 3 none .k)::.v (.int .i64) .k::.v (.int .i64) .k::dn 25 ([])))
noncomputable def CP:List Kd:=dn 42 ([])
noncomputable def CQ:List Kd:=dn 6 (.v .bool .k::dn 35 ([]))
noncomputable def afh:Hint:={ tab,hn:=[],loops:=[(2,A7)],outs:=[(2,2,CP),(2,1,CQ)],bp:=[(5,(OT.seq [0,1,2,3,4,5,6,7,8,9,10,11,12,13,14,15,16,17] .done))] }
noncomputable def Tp:List AK:=[.v (.sl cX) .k,.v jT .k,.v du .k]
noncomputable def apC (N:Nat) (x:ax Tp) (kf:aa→Option aa):Option aa:=I83 N x.1 x.2.1 x.2.2.1 (fun r0=>kf ⟨[⟨.bool,.k,r0⟩],[]⟩)
noncomputable def KA (N:Nat):=ao Tp (apC N)
noncomputable def afi (N:Nat):List Entry:=[⟨40,[.val,.val],(lZ N)⟩,⟨82,[.val,.val],(tT N)⟩]
noncomputable def Gi:Code:=aJ Tryz.f83
noncomputable def afj (N n:Nat) (key:Nat) (S:St) (K:Ks):Option aa:=bif Nat.beq key 2 then az A7 S (fun x=>vq N x.1 x.2.1 x.2.2.1 x.2.2.2.1 n (K (.x 0) (shape CP ())) (fun z0=>K .r (shape CQ (z0,()))) x.2.2.2.2.1) else none
theorem asI (N key:Nat) (S:St) (K:Ks):afj N 0 key S K=none:=(bL (aq fun _=>rfl) rfl)
noncomputable def WJ:Code:=(af Gi).getD 0 .skip
theorem asJ:af Gi=[WJ]:=by kernel_rfl
theorem afk (N:Nat):fi afh (afi N) (afj N) N 2 A7 WJ:=fun _ _ _=>by kernel_rfl
theorem asK (N:Nat):ca Tp (apC N) afh (afi N) (afj N N) Tryz.f83:=fun _ _=>by kernel_rfl
theorem afl {Γ:Gl} (N:Nat):Sound Γ Tryz.prog 83 (KA N):=gW afh Tryz.f83 Gi (asI N) asJ (asK N) (rc (afk N) trivial) ⟨s4 N,⟨Gg N,trivial⟩⟩
noncomputable def A8:List Kd:=.v (.sl cX) .k::.v (.sl jT) .k::.v (.sl du) .k::.v (.sl (.int .i64)) .k::dn 18 (.v (.sl (.int .i64)) .k::.v (.int .i64) .k::.v (.int .i64) .k::dn 30 ([]))
noncomputable def CR:List Kd:=dn 55 ([])
noncomputable def CS:List Kd:=dn 8 (.v .bool .k::dn 46 ([]))
noncomputable def afm:Hint:={ tab,hn:=[],loops:=[(4,A8)],outs:=[(4,2,CR),(4,1,CS)],bp:=[(7,(OT.seq [0,1,2,3,4,5,6,7,8,9,10,11,12,13,14,15,16,17,18,19,20,21] .done))] }
noncomputable def Tq:List AK:=[.v (.sl cX) .k,.v (.sl jT) .k,.v (.sl du) .k,.v (.sl (.int .i64)) .k]
noncomputable def apD (N:Nat) (x:ax Tq) (kf:aa→Option aa):Option aa:=I18 N x.1 x.2.1 x.2.2.1 x.2.2.2.1 (fun r0=>kf ⟨[⟨.bool,.k,r0⟩],[]⟩)
noncomputable def WK (N:Nat):=ao Tq (apD N)
noncomputable def afn (N:Nat):List Entry:=[⟨79,[.val],(DH N)⟩,⟨80,[.val,.val],(WH N)⟩,⟨82,[.val,.val],(tT N)⟩,⟨83,[.val,.val,.val],(KA N)⟩]
noncomputable def Gj:Code:=aJ Tryz.f18
noncomputable def afo (N n:Nat) (key:Nat) (S:St) (K:Ks):Option aa:=bif Nat.beq key 4 then az A8 S (fun x=>vt N x.1 x.2.1 x.2.2.1 x.2.2.2.1 x.2.2.2.2.1 x.2.2.2.2.2.1 n (K (.x 0) (shape CR ())) (fun z0=>K .r (shape CS (z0,()))) x.2.2.2.2.2.2.1) else none
theorem asL (N key:Nat) (S:St) (K:Ks):afo N 0 key S K=none:=(bL (aq fun _=>rfl) rfl)
noncomputable def WL:Code:=(af Gj).getD 0 .skip
theorem asM:af Gj=[WL]:=by kernel_rfl
theorem afp (N:Nat):fi afm (afn N) (afo N) N 4 A8 WL:=fun _ _ _=>by kernel_rfl
theorem asN (N:Nat):ca Tq (apD N) afm (afn N) (afo N N) Tryz.f18:=fun _ _=>by kernel_rfl
theorem asO {Γ:Gl} (N:Nat):Sound Γ Tryz.prog 18 (WK N):=gW afm Tryz.f18 Gj (asL N) asM (asN N) (rc (afp N) trivial) ⟨Tf N,⟨asH N,⟨Gg N,⟨afl N,trivial⟩⟩⟩⟩
noncomputable def KB:List AK:=[.v ux .k]
noncomputable def afq (N:Nat) (x:ax KB) (kf:aa→Option aa):Option aa:=NC N x.1 (fun r0=>kf ⟨[⟨.bool,.k,r0⟩],[]⟩)
noncomputable def yl (N:Nat):=ao KB (afq N)
noncomputable def ak0 (N:Nat):List Entry:=[⟨144,[.val,.val,.val],(lf N)⟩]
theorem ak1 (N:Nat):ca KB (afq N) hq (ak0 N) (fm N N) Tryz.f138:=fun _ _=>by kernel_rfl
theorem KC {Γ:Gl} (N:Nat):Sound Γ Tryz.prog 138 (yl N):=gJ hq Tryz.f138 (ak1 N) ⟨qP N,trivial⟩
noncomputable def vZ:List Kd:=dn 3 (.v (.int .i64) .k::dn 6 (.v (.sl cX) .k::.v (.int .i64) .k::.v (.int .i64) .k::dn 9 ([])))
noncomputable def ym:List Kd:=dn 3 (.v (.int .i64) .k::dn 18 ([]))
noncomputable def Tr:Hint:={ tab,hn:=[],loops:=[(5,vZ)],outs:=[(5,2,ym)],bp:=[] }
noncomputable def KD:List AK:=[.v (.sl cX) .k]
noncomputable def afr (N:Nat) (x:ax KD) (kf:aa→Option aa):Option aa:=aiE N x.1 (fun r0=>kf ⟨[⟨(.int .i64),.k,r0⟩],[]⟩)
noncomputable def O6 (N:Nat):=ao KD (afr N)
noncomputable def WM (N:Nat):List Entry:=[⟨143,[.val],(jQ N)⟩]
noncomputable def A9:Code:=aJ Tryz.f145
noncomputable def Tt (N n:Nat) (key:Nat) (S:St) (K:Ks):Option aa:=bif Nat.beq key 5 then az vZ S (fun x=>p4 x.2.1 x.2.2.1 n (fun z0=>K (.x 0) (shape ym (z0,()))) x.1 x.2.2.2.1) else none
theorem ak2 (N key:Nat) (S:St) (K:Ks):Tt N 0 key S K=none:=(bL (aq fun _=>rfl) rfl)
noncomputable def O7:Code:=(af A9).getD 0 .skip
theorem ak3:af A9=[O7]:=by kernel_rfl
theorem aah (N:Nat):fi Tr (WM N) (Tt N) N 5 vZ O7:=fun _ _ _=>by kernel_rfl
theorem ak4 (N:Nat):ca KD (afr N) Tr (WM N) (Tt N N) Tryz.f145:=fun _ _=>by kernel_rfl
theorem ak5 {Γ:Gl} (N:Nat):Sound Γ Tryz.prog 145 (O6 N):=gW Tr Tryz.f145 A9 (ak2 N) ak3 (ak4 N) (rc (aah N) trivial) ⟨nK N,trivial⟩
noncomputable def Ba:List Kd:=dK::.v (.ptr dd) (.o 31 none .k)::dn 60 (.v (.sl ux) .k::.v (.int .i64) .k::.v (.int .i64) .k::dn 34 ([]))
noncomputable def CT:List Kd:=dK::.v (.ptr dd) (.o 31 none .k)::dn 97 ([])
noncomputable def CU:List Kd:=dK::dK::.v .bool .k::dn 96 ([])
noncomputable def afs:Hint:={ tab,hn:=[],loops:=[(6,Ba)],outs:=[(6,2,CT),(6,1,CU)],bp:=[(8,(OT.seq [0,1,2,3,4,5,6,7,8,9,10,11,12,13,14,15,16,17] .done)),(11,(OT.seq [0,1,2,3,4,5,7,8,6,9,10,11] .done))] }
noncomputable def Tu:List AK:=[.v dd .k]
noncomputable def apE (N:Nat) (x:ax Tu) (kf:aa→Option aa):Option aa:=I39 N x.1 (fun r0=>kf ⟨[⟨.bool,.k,r0⟩],[]⟩)
noncomputable def yn (N:Nat):=ao Tu (apE N)
noncomputable def aft (N:Nat):List Entry:=[⟨143,[.val],(jQ N)⟩,⟨79,[.val],(DH N)⟩,⟨75,[.val],(nJ N)⟩,⟨16,[.val],(qO N)⟩,⟨17,[.val,.val],(WB N)⟩,⟨18,[.val,.val,.val,.val],(WK N)⟩,⟨138,[.val],(yl N)⟩,⟨144,[.val,.val,.val],(lf N)⟩,⟨145,[.val],(O6 N)⟩]
noncomputable def Gk:Code:=aJ Tryz.f39
noncomputable def afu (N n:Nat) (key:Nat) (S:St) (K:Ks):Option aa:=bif Nat.beq key 6 then az Ba S (fun x=>sy N x.1 x.2.1 x.2.2.1 n (K (.x 0) (shape CT (x.1,()))) (fun z0=>K .r (shape CU (z0,()))) x.2.2.2.1) else none
theorem asP (N key:Nat) (S:St) (K:Ks):afu N 0 key S K=none:=(bL (aq fun _=>rfl) rfl)
noncomputable def WN:Code:=(af Gk).getD 0 .skip
theorem asQ:af Gk=[WN]:=by kernel_rfl
theorem afv (N:Nat):fi afs (aft N) (afu N) N 6 Ba WN:=fun _ _ _=>by kernel_rfl
theorem asR (N:Nat):ca Tu (apE N) afs (aft N) (afu N N) Tryz.f39:=fun _ _=>by kernel_rfl
theorem KE {Γ:Gl} (N:Nat):Sound Γ Tryz.prog 39 (yn N):=gW afs Tryz.f39 Gk (asP N) asQ (asR N) (rc (afv N) trivial) ⟨nK N,⟨Tf N,⟨vV N,⟨AU N,⟨asB N,⟨asO N,⟨KC N,⟨qP N,⟨ak5 N,trivial⟩⟩⟩⟩⟩⟩⟩⟩⟩
end Go.Pv.R
