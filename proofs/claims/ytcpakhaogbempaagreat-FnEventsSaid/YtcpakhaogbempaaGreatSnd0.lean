/- Each function of the program that the law reaches computes its plain function, part 0. -/
import Derived.Test.YtcpakhaogbempaaGreatPlRes
import Derived.Test.YtcpakhaogbempaaGreatGro
import Derived.Test.YtcpakhaogbempaaGreatProg
namespace Go.Pv.R
open Go.Proofs
set_option linter.unusedVariables false
set_option maxRecDepth 100000
noncomputable abbrev dK:Kd:=.dead
noncomputable def tab:dq:=[⟨2,(.int .i64),0,[]⟩,⟨3,(.int .i64),0,[]⟩,⟨4,.bool,0,[]⟩,⟨5,(.int .u8),0,[]⟩,⟨9,.str,0,[]⟩,⟨12,(.int .u64),0,[]⟩,⟨21,(.int .i32),0,[]⟩,⟨22,(.sl (.int .u8)),5,[]⟩,⟨24,(.sl cS),46,[]⟩,⟨25,(.sl iN),80,[]⟩,⟨26,(.sl c9),104,[]⟩,⟨27,(.sl (.int .i64)),3,[]⟩,⟨28,(.sl rI),136,[]⟩,⟨29,(.sl mO),102,[]⟩,⟨30,c6,0,[24,25,26,27,28,29,3]⟩,⟨31,c6,0,[24,25,26,27,28,29,3]⟩,⟨32,(.sl mO),38,[]⟩,⟨37,mO,0,[3,3,3,3]⟩,⟨38,mO,0,[3,3,3,3]⟩,⟨45,cS,0,[3,3,3,3,3,27]⟩,⟨46,cS,0,[3,3,3,3,3,27]⟩,⟨47,(.sl cS),171,[]⟩,⟨48,(.sl iN),173,[]⟩,⟨49,(.sl c9),182,[]⟩,⟨50,(.sl rI),184,[]⟩,⟨51,(.sl mO),186,[]⟩,⟨52,c6,0,[47,48,49,27,50,51,3]⟩,⟨53,c6,0,[47,48,49,27,50,51,3]⟩,⟨79,iN,0,[3,3,27]⟩,⟨80,iN,0,[3,3,27]⟩,⟨88,mO,0,[3,3,3,3]⟩,⟨91,(.sl mO),88,[]⟩,⟨101,mO,0,[3,3,3,3]⟩,⟨102,mO,0,[3,3,3,3]⟩,⟨103,c9,0,[3,3]⟩,⟨104,c9,0,[3,3]⟩,⟨135,rI,0,[3,3,3]⟩,⟨136,rI,0,[3,3,3]⟩,⟨162,cA,0,[22,3,3]⟩,⟨163,cA,0,[22,3,3]⟩,⟨171,cS,0,[3,3,3,3,3,27]⟩,⟨173,iN,0,[3,3,27]⟩,⟨182,c9,0,[3,3]⟩,⟨184,rI,0,[3,3,3]⟩,⟨186,mO,0,[3,3,3,3]⟩,⟨194,(.int .u64),0,[]⟩,⟨207,(.int .i64),0,[]⟩,⟨216,(.int .u32),0,[]⟩,⟨218,(.int .u64),0,[]⟩,⟨219,(.sl (.sl (.int .i64))),27,[]⟩,⟨222,(.int .u64),0,[]⟩]
theorem mixed:Tryz.prog.follows .mixedOrders=true:=by kernel_rfl
theorem lL:cP Tryz.prog tab=true:=by kernel_rfl
noncomputable def fC (N n:Nat) (key:Nat) (S:St) (K:Ks):Option aa:=none
theorem aaz (N key:Nat) (S:St) (K:Ks):fC N 0 key S K=none:=rfl
noncomputable def aL (f:Func):Code:=match f.body with |some c=>c |none=>.skip
noncomputable def dn:Nat→List Kd→List Kd
 |0,l=>l
 |n+1,l=>dK::dn n l
def cn (sg:List AK) (F:ax sg→(aa→Option aa)→Option aa) (h:Hint) (es:List Entry) (L:Nat→St→Ks→Option aa) (f:Func):Prop:=∀ (x:ax sg) (kf:aa→Option aa),F x kf=km h (jt.of es) L f (dG sg x) kf
def fD (h:Hint) (es:List Entry) (L:Nat→Nat→St→Ks→Option aa) (N key:Nat) (ks:List Kd) (c:Code):Prop:=∀ (n:Nat) (x:rD ks) (K:Ks),L (n+1) key (shape ks x) (h.fS key K)=kL h (jt.of es) (ue L N n key) c (shape ks x) (h.fS key K)
theorem rc {hh:Hint} {es:List Entry} {Lf:Nat→Nat→St→Ks→Option aa} {N key:Nat} {ks:List Kd} {c:Code} {l:List Code} (h:fD hh es Lf N key ks c) (hr:sr hh (jt.of es) Lf N l) (hk:keyOf c=key:=by kernel_rfl) (hh1:oo hh.loops key=some ks:=by kernel_rfl):sr hh (jt.of es) Lf N (c::l):=RX hk hh1 h hr
theorem iH {Γ:Gl} (hh:Hint) {es:List Entry} {f:FuncId} (fn:Func) (body:Code) {N:Nat} {Lf:Nat→Nat→St→Ks→Option aa} (h0:∀ k S K,Lf 0 k S K=none) {ls:List Code} (hls:af body=ls) {l:List AK} {F:ax l→(aa→Option aa)→Option aa} (hF:cn l F hh es (Lf N) fn) (cj:sr hh (jt.of es) Lf N ls) (hO:EOK Γ Tryz.prog es)
  (hT : cP Tryz.prog hh.tab = true := by exact lL) (hf : Tryz.prog.funcs[f]? = some fn := by kernel_rfl) (hb : fn.body = some body := by kernel_rfl) (Vy : (fn.name == "runtime.NumGoroutine") = false := by kernel_rfl) (Cp : fe hh (jt.of es) body = true := by kernel_rfl) (hky : mM body = true := by kernel_rfl) (hlen : Nat.ble l.length fn.ntmps = true := by kernel_rfl) (RY : gd body = true := by kernel_rfl) : Sound Γ Tryz.prog f (ar l F) :=
 jH mixed hT hO hf hb Vy Cp hky h0 hls cj hlen hF (.inl RY)
theorem gX {Γ:Gl} (hh:Hint) {es:List Entry} {f:FuncId} (fn:Func) {N:Nat} {l:List AK} {F:ax l→(aa→Option aa)→Option aa} (hF:cn l F hh es (fC N N) fn) (hO:EOK Γ Tryz.prog es)
  (hls : af (aL fn) = [] := by kernel_rfl) (hT : cP Tryz.prog hh.tab = true := by exact lL) (hf : Tryz.prog.funcs[f]? = some fn := by kernel_rfl) (hb : fn.body = some (aL fn) := by kernel_rfl) (Vy : (fn.name == "runtime.NumGoroutine") = false := by kernel_rfl) (Cp : fe hh (jt.of es) (aL fn) = true := by kernel_rfl) (hky : mM (aL fn) = true := by kernel_rfl) (hlen : Nat.ble l.length fn.ntmps = true := by kernel_rfl) (RY : gd (aL fn) = true := by kernel_rfl) : Sound Γ Tryz.prog f (ar l F) :=
 jH mixed hT hO hf hb Vy Cp hky (aaz N) hls trivial hlen hF (.inl RY)
noncomputable def hq:Hint:={ tab,hn:=[],loops:=[],outs:=[],bj:=[] }
noncomputable def J7:List AK:=[.v (.sl (.int .u8)) .k]
noncomputable def apJ (N:Nat) (x:ax J7) (kf:aa→Option aa):Option aa:=L11 N x.1 (fun r0=>kf ⟨[⟨.bool,.k,r0⟩],[]⟩)
noncomputable def WR (N:Nat):=ar J7 (apJ N)
theorem asu (N:Nat):cn J7 (apJ N) hq [] (fC N N) Tryz.f11:=fun _ _=>by kernel_rfl
theorem asv {Γ:Gl} (N:Nat):Sound Γ Tryz.prog 11 (WR N):=gX hq Tryz.f11 (asu N) trivial
noncomputable def A3:List Kd:=.v (.sl (.int .u8)) .k::dK::dK::.v (.int .i64) .k::.v (.int .i64) .k::dn 27 ([])
noncomputable def CD:List Kd:=.v (.sl (.int .u8)) .k::dK::dK::.v (.int .i64) .k::dn 28 ([])
noncomputable def aeG:Hint:={ tab,hn:=[],loops:=[(3,A3)],outs:=[(3,2,CD)],bj:=[] }
noncomputable def Tm:List AK:=[.v (.sl (.int .u8)) .k]
noncomputable def apK (N:Nat) (x:ax Tm) (kf:aa→Option aa):Option aa:=S67 N x.1 (fun r0=>kf ⟨[⟨(.ptr cA),(.o 163 none .k),r0⟩],[]⟩)
noncomputable def J8 (N:Nat):=ar Tm (apK N)
noncomputable def Gd:Code:=aL Tryz.f67
noncomputable def aeH (N n:Nat) (key:Nat) (S:St) (K:Ks):Option aa:=bif Nat.beq key 3 then az A3 S (fun x=>Aw x.1 n (fun z0=>K (.x 0) (shape CD (x.1,z0,()))) x.2.1 x.2.2.1) else none
theorem asw (N key:Nat) (S:St) (K:Ks):aeH N 0 key S K=none:=(bO (au fun _=>rfl) rfl)
noncomputable def WS:Code:=(af Gd).getD 0 .skip
theorem asx:af Gd=[WS]:=by kernel_rfl
theorem aeI (N:Nat):fD aeG [] (aeH N) N 3 A3 WS:=fun _ _ _=>by kernel_rfl
theorem asy (N:Nat):cn Tm (apK N) aeG [] (aeH N N) Tryz.f67:=fun _ _=>by kernel_rfl
theorem aeJ {Γ:Gl} (N:Nat):Sound Γ Tryz.prog 67 (J8 N):=iH aeG Tryz.f67 Gd (asw N) asx (asy N) (rc (aeI N) trivial) trivial
noncomputable def Tn:List AK:=[]
noncomputable def apL (N:Nat) (x:ax Tn) (kf:aa→Option aa):Option aa:=S68 N (fun r0=>kf ⟨[⟨c6,(.p (.o 46 none (.p .k (.p .k (.p .k (.p .k (.p .k (.o 3 none .k))))))) (.p (.o 80 none (.p .k (.p .k (.o 3 none .k)))) (.p (.o 104 none .k) (.p (.o 3 none .k) (.p (.o 136 none .k) (.p (.o 102 none .k) .k)))))),r0⟩],[]⟩)
noncomputable def J9 (N:Nat):=ar Tn (apL N)
theorem asz (N:Nat):cn Tn (apL N) hq [] (fC N N) Tryz.f68:=fun _ _=>by kernel_rfl
theorem aeK {Γ:Gl} (N:Nat):Sound Γ Tryz.prog 68 (J9 N):=gX hq Tryz.f68 (asz N) trivial
noncomputable def aeL:Hint:={ tab,hn:=[],loops:=[],outs:=[],bj:=[(2,(OT.seq [0,1,2,3,4,5,6,7,8,9,10,11,12] .done)),(3,(OT.seq [0,1,2,3,4,5,6,7,8,9] .done)),(4,(OT.seq [0,1,2,3,4,5,6,7,8,9,10,11,12,13,14] .done))],xa:=some (0,false) }
noncomputable def J':List AK:=[.v (.ptr cA) (.o 163 (some 0) .k)]
noncomputable def aeM (N:Nat) (x:ax J') (kf:aa→Option aa):Option aa:=R0 N x.1 (fun r0 z=>kf ⟨[⟨(.int .i64),.k,r0⟩],[⟨(.ptr cA),(.o 163 (some 0) .k),z⟩]⟩)
noncomputable def OR (N:Nat):=ar J' (aeM N)
theorem aj' (N:Nat):cn J' (aeM N) aeL [] (fC N N) Tryz.f216:=fun _ _=>by kernel_rfl
theorem aka {Γ:Gl} (N:Nat):Sound Γ Tryz.prog 216 (OR N):=gX aeL Tryz.f216 (aj' N) trivial
noncomputable def aeN:Hint:={ tab,hn:=[],loops:=[],outs:=[],bj:=[],xa:=some (0,false) }
noncomputable def Ka:List AK:=[.v (.ptr cA) (.o 163 (some 0) .k),.v (.int .i64) .k]
noncomputable def aeO (N:Nat) (x:ax Ka) (kf:aa→Option aa):Option aa:=lF N x.1 x.2.1 (fun r0 z=>kf ⟨[⟨(.int .i64),.k,r0⟩],[⟨(.ptr cA),(.o 163 (some 0) .k),z⟩]⟩)
noncomputable def ng (N:Nat):=ar Ka (aeO N)
noncomputable def akb (N:Nat):List Entry:=[⟨216,[.kZ],(OR N)⟩]
theorem akc (N:Nat):cn Ka (aeO N) aeN (akb N) (fC N N) Tryz.f137:=fun _ _=>by kernel_rfl
theorem tS {Γ:Gl} (N:Nat):Sound Γ Tryz.prog 137 (ng N):=gX aeN Tryz.f137 (akc N) ⟨aka N,trivial⟩
noncomputable def aeP:Hint:={ tab,hn:=[],loops:=[],outs:=[],bj:=[],xa:=some (0,false) }
noncomputable def Kb:List AK:=[.v (.ptr cA) (.o 163 (some 0) .k),.v (.int .i64) .k]
noncomputable def aeQ (N:Nat) (x:ax Kb) (kf:aa→Option aa):Option aa:=Zg N x.1 x.2.1 (fun r0 z=>kf ⟨[⟨.bool,.k,r0⟩],[⟨(.ptr cA),(.o 163 (some 0) .k),z⟩]⟩)
noncomputable def Ge (N:Nat):=ar Kb (aeQ N)
noncomputable def akd (N:Nat):List Entry:=[⟨137,[.kZ,.val],(ng N)⟩]
theorem ake (N:Nat):cn Kb (aeQ N) aeP (akd N) (fC N N) Tryz.f140:=fun _ _=>by kernel_rfl
theorem WT {Γ:Gl} (N:Nat):Sound Γ Tryz.prog 140 (Ge N):=gX aeP Tryz.f140 (ake N) ⟨tS N,trivial⟩
noncomputable def aeR:Hint:={ tab,hn:=[],loops:=[],outs:=[],bj:=[],xa:=some (0,false) }
noncomputable def Kc:List AK:=[.v (.ptr cA) (.o 163 (some 0) .k),.v (.sl (.int .i64)) .k]
noncomputable def aeS (N:Nat) (x:ax Kc) (kf:aa→Option aa):Option aa:=ND N x.1 x.2.1 (fun r0 z=>kf ⟨[⟨(.int .i64),.k,r0⟩],[⟨(.ptr cA),(.o 163 (some 0) .k),z⟩]⟩)
noncomputable def Gf (N:Nat):=ar Kc (aeS N)
noncomputable def akf (N:Nat):List Entry:=[⟨137,[.kZ,.val],(ng N)⟩]
theorem akg (N:Nat):cn Kc (aeS N) aeR (akf N) (fC N N) Tryz.f134:=fun _ _=>by kernel_rfl
theorem WU {Γ:Gl} (N:Nat):Sound Γ Tryz.prog 134 (Gf N):=gX aeR Tryz.f134 (akg N) ⟨tS N,trivial⟩
noncomputable def aeT:Hint:={ tab,hn:=[(5,.k)],loops:=[],outs:=[],bj:=[],xa:=some (0,false) }
noncomputable def Ke:List AK:=[.v (.ptr cA) (.o 163 (some 0) .k)]
noncomputable def aeU (N:Nat) (x:ax Ke) (kf:aa→Option aa):Option aa:=acW N x.1 (fun r0 z=>kf ⟨[⟨mO,.k,r0⟩],[⟨(.ptr cA),(.o 163 (some 0) .k),z⟩]⟩)
noncomputable def Gg (N:Nat):=ar Ke (aeU N)
noncomputable def akh (N:Nat):List Entry:=[⟨134,[.kZ,.val],(Gf N)⟩,⟨137,[.kZ,.val],(ng N)⟩]
theorem aki (N:Nat):cn Ke (aeU N) aeT (akh N) (fC N N) Tryz.f155:=fun _ _=>by kernel_rfl
theorem WV {Γ:Gl} (N:Nat):Sound Γ Tryz.prog 155 (Gg N):=gX aeT Tryz.f155 (aki N) ⟨WU N,⟨tS N,trivial⟩⟩
noncomputable def A4:List Kd:=.v (.ptr cA) (.o 163 (some 0) .k)::dK::dK::.v (.sl mO) (.o 38 none .k)::.v (.int .i64) .k::dn 24 ([])
noncomputable def CE:List Kd:=.v (.ptr cA) (.o 163 (some 0) .k)::dK::dK::.v (.sl mO) (.o 38 none .k)::dn 25 ([])
noncomputable def aeV:Hint:={ tab,hn:=[],loops:=[(5,A4)],outs:=[(5,2,CE)],bj:=[],xa:=some (0,false) }
noncomputable def To:List AK:=[.v (.ptr cA) (.o 163 (some 0) .k)]
noncomputable def apM (N:Nat) (x:ax To) (kf:aa→Option aa):Option aa:=S69 N x.1 (fun r0 z=>kf ⟨[⟨(.sl mO),(.o 38 none .k),r0⟩],[⟨(.ptr cA),(.o 163 (some 0) .k),z⟩]⟩)
noncomputable def WW (N:Nat):=ar To (apM N)
noncomputable def aeW (N:Nat):List Entry:=[⟨140,[.kZ,.val],(Ge N)⟩,⟨137,[.kZ,.val],(ng N)⟩,⟨155,[.kZ],(Gg N)⟩]
noncomputable def Gh:Code:=aL Tryz.f69
noncomputable def aeX (N n:Nat) (key:Nat) (S:St) (K:Ks):Option aa:=bif Nat.beq key 5 then az A4 S (fun x=>Az N n (fun z0 z1=>K (.x 0) (shape CE (z0,z1,()))) x.1 x.2.1 x.2.2.1) else none
theorem asA (N key:Nat) (S:St) (K:Ks):aeX N 0 key S K=none:=(bO (au fun _=>rfl) rfl)
noncomputable def WX:Code:=(af Gh).getD 0 .skip
theorem asB:af Gh=[WX]:=by kernel_rfl
theorem aeY (N:Nat):fD aeV (aeW N) (aeX N) N 5 A4 WX:=fun _ _ _=>by kernel_rfl
theorem asC (N:Nat):cn To (apM N) aeV (aeW N) (aeX N N) Tryz.f69:=fun _ _=>by kernel_rfl
theorem asD {Γ:Gl} (N:Nat):Sound Γ Tryz.prog 69 (WW N):=iH aeV Tryz.f69 Gh (asA N) asB (asC N) (rc (aeY N) trivial) ⟨WT N,⟨tS N,⟨WV N,trivial⟩⟩⟩
noncomputable def Kf:List AK:=[.v (.sl (.int .u8)) .k]
noncomputable def apN (N:Nat) (x:ax Kf) (kf:aa→Option aa):Option aa:=S12 N x.1 (fun r0 r1=>kf ⟨[⟨c6,(.p (.o 46 none (.p .k (.p .k (.p .k (.p .k (.p .k (.o 3 none .k))))))) (.p (.o 80 none (.p .k (.p .k (.o 3 none .k)))) (.p (.o 104 none .k) (.p (.o 3 none .k) (.p (.o 136 none .k) (.p (.o 102 none .k) .k)))))),r0⟩,⟨(.sl mO),(.o 38 none .k),r1⟩],[]⟩)
noncomputable def WY (N:Nat):=ar Kf (apN N)
noncomputable def asE (N:Nat):List Entry:=[⟨67,[.val],(J8 N)⟩,⟨68,[],(J9 N)⟩,⟨69,[.kZ],(WW N)⟩]
theorem asF (N:Nat):cn Kf (apN N) hq (asE N) (fC N N) Tryz.f12:=fun _ _=>by kernel_rfl
theorem asG {Γ:Gl} (N:Nat):Sound Γ Tryz.prog 12 (WY N):=gX hq Tryz.f12 (asF N) ⟨aeJ N,⟨aeK N,⟨asD N,trivial⟩⟩⟩
noncomputable def aeZ:Hint:={ tab,hn:=[],loops:=[],outs:=[],bj:=[] }
noncomputable def DF:List AK:=[.v (.sl (.int .i64)) .k]
noncomputable def Kg (N:Nat) (x:ax DF) (kf:aa→Option aa):Option aa:=Je N x.1 (fun r0=>kf ⟨[⟨(.sl (.int .i64)),(.o 3 none .k),r0⟩],[]⟩)
noncomputable def s8 (N:Nat):=ar DF (Kg N)
noncomputable def IA:Code:=aL Tryz.f166
theorem akj:af IA=[]:=by kernel_rfl
theorem akk (N:Nat):cn DF (Kg N) aeZ [] (fC N N) Tryz.f166:=fun _ _=>by kernel_rfl
theorem ae0 (N:Nat) (x:ax DF):cK (Kg N x):=by
 obtain⟨l,u⟩:=x
 unfold Kg Je
 cases l with
 |nil=>exact⟨some _,fun K=>mh _⟩
 |cons a l=>
  simp only[List.isEmpty_cons,cond_false]
  exact cK.bif _ (cK.pure _) cK.none
theorem DG {Γ:Gl} (N:Nat):Sound Γ Tryz.prog 166 (s8 N):=jH (hh:=aeZ) mixed lL (es:=[]) trivial (fn:=Tryz.f166) (body:=IA) (by kernel_rfl) (by kernel_rfl) (by kernel_rfl) (by kernel_rfl) (by kernel_rfl) (Lf:=fC N) (aaz N) akj trivial (N:=N) (by kernel_rfl) (akk N) (.inr (ae0 N))
noncomputable def vU:List Kd:=dn 3 (.v (.sl cS) (.o 46 none (.p .k (.p .k (.p .k (.p .k (.p .k (.o 3 none .k)))))))::dn 3 (.v (.sl cS) .k::.v (.int .i64) .k::.v (.int .i64) .k::dn 13 ([])))
noncomputable def x7:List Kd:=dn 3 (.v (.sl cS) (.o 46 none (.p .k (.p .k (.p .k (.p .k (.p .k (.o 3 none .k)))))))::dn 19 ([]))
noncomputable def Tp:Hint:={ tab,hn:=[(6,(.p .k (.p .k (.p .k (.p .k (.p .k (.o 3 none .k)))))))],loops:=[(3,vU)],outs:=[(3,2,x7)],bj:=[] }
noncomputable def Kh:List AK:=[.v (.sl cS) .k]
noncomputable def ae1 (N:Nat) (x:ax Kh) (kf:aa→Option aa):Option aa:=R3 N x.1 (fun r0=>kf ⟨[⟨(.sl cS),(.o 46 none (.p .k (.p .k (.p .k (.p .k (.p .k (.o 3 none .k))))))),r0⟩],[]⟩)
noncomputable def Gi (N:Nat):=ar Kh (ae1 N)
noncomputable def WZ (N:Nat):List Entry:=[⟨166,[.val],(s8 N)⟩]
noncomputable def A5:Code:=aL Tryz.f163
noncomputable def Tq (N n:Nat) (key:Nat) (S:St) (K:Ks):Option aa:=bif Nat.beq key 3 then az vU S (fun x=>pY N x.2.1 x.2.2.1 n (fun z0=>K (.x 0) (shape x7 (z0,()))) x.1 x.2.2.2.1) else none
theorem akl (N key:Nat) (S:St) (K:Ks):Tq N 0 key S K=none:=(bO (au fun _=>rfl) rfl)
noncomputable def OS:Code:=(af A5).getD 0 .skip
theorem akm:af A5=[OS]:=by kernel_rfl
theorem aaA (N:Nat):fD Tp (WZ N) (Tq N) N 3 vU OS:=fun _ _ _=>by kernel_rfl
theorem akn (N:Nat):cn Kh (ae1 N) Tp (WZ N) (Tq N N) Tryz.f163:=fun _ _=>by kernel_rfl
theorem W2 {Γ:Gl} (N:Nat):Sound Γ Tryz.prog 163 (Gi N):=iH Tp Tryz.f163 A5 (akl N) akm (akn N) (rc (aaA N) trivial) ⟨DG N,trivial⟩
noncomputable def vV:List Kd:=dn 3 (.v (.sl iN) (.o 80 none (.p .k (.p .k (.o 3 none .k))))::dn 3 (.v (.sl iN) .k::.v (.int .i64) .k::.v (.int .i64) .k::dn 13 ([])))
noncomputable def x8:List Kd:=dn 3 (.v (.sl iN) (.o 80 none (.p .k (.p .k (.o 3 none .k))))::dn 19 ([]))
noncomputable def Tr:Hint:={ tab,hn:=[(6,(.p .k (.p .k (.o 3 none .k))))],loops:=[(3,vV)],outs:=[(3,2,x8)],bj:=[] }
noncomputable def Ki:List AK:=[.v (.sl iN) .k]
noncomputable def ae2 (N:Nat) (x:ax Ki) (kf:aa→Option aa):Option aa:=aiv N x.1 (fun r0=>kf ⟨[⟨(.sl iN),(.o 80 none (.p .k (.p .k (.o 3 none .k)))),r0⟩],[]⟩)
noncomputable def OU (N:Nat):=ar Ki (ae2 N)
noncomputable def W3 (N:Nat):List Entry:=[⟨166,[.val],(s8 N)⟩]
noncomputable def A6:Code:=aL Tryz.f164
noncomputable def Tt (N n:Nat) (key:Nat) (S:St) (K:Ks):Option aa:=bif Nat.beq key 3 then az vV S (fun x=>pZ N x.2.1 x.2.2.1 n (fun z0=>K (.x 0) (shape x8 (z0,()))) x.1 x.2.2.2.1) else none
theorem ako (N key:Nat) (S:St) (K:Ks):Tt N 0 key S K=none:=(bO (au fun _=>rfl) rfl)
noncomputable def OV:Code:=(af A6).getD 0 .skip
theorem akp:af A6=[OV]:=by kernel_rfl
theorem aaB (N:Nat):fD Tr (W3 N) (Tt N) N 3 vV OV:=fun _ _ _=>by kernel_rfl
theorem akq (N:Nat):cn Ki (ae2 N) Tr (W3 N) (Tt N N) Tryz.f164:=fun _ _=>by kernel_rfl
theorem akr {Γ:Gl} (N:Nat):Sound Γ Tryz.prog 164 (OU N):=iH Tr Tryz.f164 A6 (ako N) akp (akq N) (rc (aaB N) trivial) ⟨DG N,trivial⟩
noncomputable def ae3:Hint:={ tab,hn:=[],loops:=[],outs:=[],bj:=[] }
noncomputable def DH:List AK:=[.v (.sl c9) .k]
noncomputable def Kj (N:Nat) (x:ax DH) (kf:aa→Option aa):Option aa:=aiw N x.1 (fun r0=>kf ⟨[⟨(.sl c9),(.o 104 none .k),r0⟩],[]⟩)
noncomputable def OW (N:Nat):=ar DH (Kj N)
noncomputable def IB:Code:=aL Tryz.f165
theorem aks:af IB=[]:=by kernel_rfl
theorem akt (N:Nat):cn DH (Kj N) ae3 [] (fC N N) Tryz.f165:=fun _ _=>by kernel_rfl
theorem ae4 (N:Nat) (x:ax DH):cK (Kj N x):=by
 obtain⟨l,u⟩:=x
 unfold Kj aiw
 cases l with
 |nil=>exact⟨some _,fun K=>mh _⟩
 |cons a l=>
  simp only[List.isEmpty_cons,cond_false]
  exact cK.bif _ (cK.pure _) cK.none
theorem aku {Γ:Gl} (N:Nat):Sound Γ Tryz.prog 165 (OW N):=jH (hh:=ae3) mixed lL (es:=[]) trivial (fn:=Tryz.f165) (body:=IB) (by kernel_rfl) (by kernel_rfl) (by kernel_rfl) (by kernel_rfl) (by kernel_rfl) (Lf:=fC N) (aaz N) aks trivial (N:=N) (by kernel_rfl) (akt N) (.inr (ae4 N))
noncomputable def ae5:Hint:={ tab,hn:=[],loops:=[],outs:=[],bj:=[] }
noncomputable def DI:List AK:=[.v (.sl rI) .k]
noncomputable def Kk (N:Nat) (x:ax DI) (kf:aa→Option aa):Option aa:=aix N x.1 (fun r0=>kf ⟨[⟨(.sl rI),(.o 136 none .k),r0⟩],[]⟩)
noncomputable def OX (N:Nat):=ar DI (Kk N)
noncomputable def IC:Code:=aL Tryz.f167
theorem akv:af IC=[]:=by kernel_rfl
theorem akw (N:Nat):cn DI (Kk N) ae5 [] (fC N N) Tryz.f167:=fun _ _=>by kernel_rfl
theorem ae6 (N:Nat) (x:ax DI):cK (Kk N x):=by
 obtain⟨l,u⟩:=x
 unfold Kk aix
 cases l with
 |nil=>exact⟨some _,fun K=>mh _⟩
 |cons a l=>
  simp only[List.isEmpty_cons,cond_false]
  exact cK.bif _ (cK.pure _) cK.none
theorem akx {Γ:Gl} (N:Nat):Sound Γ Tryz.prog 167 (OX N):=jH (hh:=ae5) mixed lL (es:=[]) trivial (fn:=Tryz.f167) (body:=IC) (by kernel_rfl) (by kernel_rfl) (by kernel_rfl) (by kernel_rfl) (by kernel_rfl) (Lf:=fC N) (aaz N) akv trivial (N:=N) (by kernel_rfl) (akw N) (.inr (ae6 N))
noncomputable def ae7:Hint:={ tab,hn:=[],loops:=[],outs:=[],bj:=[] }
noncomputable def DJ:List AK:=[.v (.sl mO) .k]
noncomputable def Kl (N:Nat) (x:ax DJ) (kf:aa→Option aa):Option aa:=Zh N x.1 (fun r0=>kf ⟨[⟨(.sl mO),(.o 102 none .k),r0⟩],[]⟩)
noncomputable def Gj (N:Nat):=ar DJ (Kl N)
noncomputable def ID:Code:=aL Tryz.f168
theorem aky:af ID=[]:=by kernel_rfl
theorem akz (N:Nat):cn DJ (Kl N) ae7 [] (fC N N) Tryz.f168:=fun _ _=>by kernel_rfl
theorem ae8 (N:Nat) (x:ax DJ):cK (Kl N x):=by
 obtain⟨l,u⟩:=x
 unfold Kl Zh
 cases l with
 |nil=>exact⟨some _,fun K=>mh _⟩
 |cons a l=>
  simp only[List.isEmpty_cons,cond_false]
  exact cK.bif _ (cK.pure _) cK.none
theorem W4 {Γ:Gl} (N:Nat):Sound Γ Tryz.prog 168 (Gj N):=jH (hh:=ae7) mixed lL (es:=[]) trivial (fn:=Tryz.f168) (body:=ID) (by kernel_rfl) (by kernel_rfl) (by kernel_rfl) (by kernel_rfl) (by kernel_rfl) (Lf:=fC N) (aaz N) aky trivial (N:=N) (by kernel_rfl) (akz N) (.inr (ae8 N))
noncomputable def apO:Hint:={ tab,hn:=[],loops:=[],outs:=[],bj:=[(1,(OT.seq [0,1,3,4,2,6,5,7,8,9] .done)),(2,(OT.seq [0,1,3,4,6,7,9,10,2,12,5,8,11,13,14,15,16,17,18,19] .done))] }
noncomputable def Tu:List AK:=[.v c6 .k]
noncomputable def apP (N:Nat) (x:ax Tu) (kf:aa→Option aa):Option aa:=H4 N x.1 (fun r0=>kf ⟨[⟨c6,(.p (.o 46 none (.p .k (.p .k (.p .k (.p .k (.p .k (.o 3 none .k))))))) (.p (.o 80 none (.p .k (.p .k (.o 3 none .k)))) (.p (.o 104 none .k) (.p (.o 3 none .k) (.p (.o 136 none .k) (.p (.o 102 none .k) .k)))))),r0⟩],[]⟩)
noncomputable def kU (N:Nat):=ar Tu (apP N)
noncomputable def asH (N:Nat):List Entry:=[⟨163,[.val],(Gi N)⟩,⟨164,[.val],(OU N)⟩,⟨165,[.val],(OW N)⟩,⟨166,[.val],(s8 N)⟩,⟨167,[.val],(OX N)⟩,⟨168,[.val],(Gj N)⟩]
theorem asI (N:Nat):cn Tu (apP N) apO (asH N) (fC N N) Tryz.f70:=fun _ _=>by kernel_rfl
theorem qW {Γ:Gl} (N:Nat):Sound Γ Tryz.prog 70 (kU N):=gX apO Tryz.f70 (asI N) ⟨W2 N,⟨akr N,⟨aku N,⟨DG N,⟨akx N,⟨W4 N,trivial⟩⟩⟩⟩⟩⟩
noncomputable def Km:List AK:=[.v cS .k,.v (.ptr (.int .i64)) .k]
noncomputable def ae9 (N:Nat) (x:ax Km) (kf:aa→Option aa):Option aa:=aiy N x.1 x.2.1 (fun r0=>kf ⟨[⟨.bool,.k,r0⟩],[]⟩)
noncomputable def OY (N:Nat):=ar Km (ae9 N)
theorem akA (N:Nat):cn Km (ae9 N) hq [] (fC N N) Tryz.f147:=fun _ _=>by kernel_rfl
theorem akB {Γ:Gl} (N:Nat):Sound Γ Tryz.prog 147 (OY N):=gX hq Tryz.f147 (akA N) trivial
noncomputable def vW:List Kd:=.v (.sl cS) .k::.lu 147 [.kv (.ptr (.int .i64))]::dn 5 (.v (.int .i64) .k::.v (.int .i64) .k::dn 10 ([]))
noncomputable def x9:List Kd:=dn 19 ([])
noncomputable def yc:List Kd:=dn 4 (.v (.int .i64) .k::dn 14 ([]))
noncomputable def Tv:Hint:={ tab,hn:=[],loops:=[(2,vW)],outs:=[(2,2,x9),(2,1,yc)],bj:=[] }
noncomputable def Kn:List AK:=[.v (.sl cS) .k,.fn 147 [(.ptr (.int .i64))]]
noncomputable def ae' (N:Nat) (x:ax Kn) (kf:aa→Option aa):Option aa:=arb N x.1 x.2.1.1 (fun r0=>kf ⟨[⟨(.int .i64),.k,r0⟩],[]⟩)
noncomputable def OZ (N:Nat):=ar Kn (ae' N)
noncomputable def W5 (N:Nat):List Entry:=[⟨147,[.val],(OY N)⟩]
noncomputable def A7:Code:=aL Tryz.f146
noncomputable def Tw (N n:Nat) (key:Nat) (S:St) (K:Ks):Option aa:=bif Nat.beq key 2 then az vW S (fun x=>p5 N x.1 x.2.1.1 x.2.2.1 n (K (.x 0) (shape x9 ())) (fun z0=>K .r (shape yc (z0,()))) x.2.2.2.1) else none
theorem akC (N key:Nat) (S:St) (K:Ks):Tw N 0 key S K=none:=(bO (au fun _=>rfl) rfl)
noncomputable def O0:Code:=(af A7).getD 0 .skip
theorem akD:af A7=[O0]:=by kernel_rfl
theorem aaC (N:Nat):fD Tv (W5 N) (Tw N) N 2 vW O0:=fun _ _ _=>by kernel_rfl
theorem akE (N:Nat):cn Kn (ae' N) Tv (W5 N) (Tw N N) Tryz.f146:=fun _ _=>by kernel_rfl
theorem akF {Γ:Gl} (N:Nat):Sound Γ Tryz.prog 146 (OZ N):=iH Tv Tryz.f146 A7 (akC N) akD (akE N) (rc (aaC N) trivial) ⟨akB N,trivial⟩
noncomputable def Tx:List AK:=[.v (.sl cS) .k,.v (.int .i64) .k]
noncomputable def apQ (N:Nat) (x:ax Tx) (kf:aa→Option aa):Option aa:=NH N x.1 x.2.1 (fun r0=>kf ⟨[⟨(.int .i64),.k,r0⟩],[]⟩)
noncomputable def mc (N:Nat):=ar Tx (apQ N)
noncomputable def asJ (N:Nat):List Entry:=[⟨146,[.val,.val],(OZ N)⟩]
theorem asK (N:Nat):cn Tx (apQ N) hq (asJ N) (fC N N) Tryz.f40:=fun _ _=>by kernel_rfl
theorem s9 {Γ:Gl} (N:Nat):Sound Γ Tryz.prog 40 (mc N):=gX hq Tryz.f40 (asK N) ⟨akF N,trivial⟩
noncomputable def Ko:List AK:=[.v c6 .k]
noncomputable def apR (N:Nat) (x:ax Ko) (kf:aa→Option aa):Option aa:=R4 N x.1 (fun r0=>kf ⟨[⟨.bool,.k,r0⟩],[]⟩)
noncomputable def qX (N:Nat):=ar Ko (apR N)
theorem asL (N:Nat):cn Ko (apR N) hq [] (fC N N) Tryz.f16:=fun _ _=>by kernel_rfl
theorem A8 {Γ:Gl} (N:Nat):Sound Γ Tryz.prog 16 (qX N):=gX hq Tryz.f16 (asL N) trivial
def afa:Go.Shelf.Ren:=⟨fun n=>bif Nat.beq n 22 then 135 else bif Nat.beq n 29 then 212 else bif Nat.beq n 30 then 213 else n,fun n=>bif Nat.beq n 0 then 0 else bif Nat.beq n 3 then 3 else bif Nat.beq n 4 then 4 else bif Nat.beq n 9 then 46 else bif Nat.beq n 24 then 24 else n,fun n=>n⟩
def akG:Array Value:=#[.int .i64 0,.int .i64 0,.int .i64 0,.int .i64 0,.int .i64 0,.slice none 0 0]
noncomputable def akH:TypeInfo:=(Tryz.prog.info? 46).get (by kernel_rfl)
theorem afb:Iw Tryz.prog afa (Ty.size cS) akG akH:={ FB:=⟨Tryz.f135.name,by kernel_rfl,by kernel_rfl⟩,FO:=⟨Tryz.f212,by kernel_rfl,by kernel_rfl,by kernel_rfl,by kernel_rfl,by kernel_rfl⟩,mixed:=by kernel_rfl,t0:=by kernel_rfl,a0:=fun w=>by kernel_rfl,z0:=fun w=>by kernel_rfl,v0:=fun w=>by kernel_rfl,t3:=by kernel_rfl,a3:=fun w=>by kernel_rfl,z3:=fun w=>by kernel_rfl,v3:=fun w=>by kernel_rfl,t4:=by kernel_rfl,a4:=fun w=>by kernel_rfl,z4:=fun w=>by kernel_rfl,v4:=fun w=>by kernel_rfl,t24:=by kernel_rfl,a24:=fun w=>by kernel_rfl,z24:=fun w=>by kernel_rfl,v24:=fun w=>by kernel_rfl,z9:=fun w=>by kernel_rfl,hz:=by kernel_rfl,hzo:=by kernel_rfl,I':=by kernel_rfl,hz0:=by kernel_rfl,IZ:=by kernel_rfl,hby:=Nat.le_of_ble_eq_true (by kernel_rfl),C9:=Nat.le_of_ble_eq_true (by kernel_rfl) }
noncomputable def W6:List AK:=[.v (.sl cS) (.o 46 none (.p .k (.p .k (.p .k (.p .k (.p .k (.o 3 none .k))))))),.v (.int .i64) .k,.v (.sl cS) (.o 46 none (.p .k (.p .k (.p .k (.p .k (.p .k (.o 3 none .k)))))))]
noncomputable def asM (N:Nat) (x:ax W6) (kf:aa→Option aa):Option aa:=aiz N x.1 x.2.1 x.2.2.1 (fun r0=>kf ⟨[⟨(.sl cS),(.o 46 none (.p .k (.p .k (.p .k (.p .k (.p .k (.o 3 none .k))))))),r0⟩],[]⟩)
noncomputable def O1 (N:Nat):=ar W6 (asM N)
theorem akI {Γ:Gl} (N:Nat):Sound Γ Tryz.prog 135 (O1 N):=x6 afb (.p .k (.p .k (.p .k (.p .k (.p .k (.o 3 none .k)))))) (by kernel_rfl)
noncomputable def Kp:List AK:=[.v (.sl mO) .k]
noncomputable def afc (N:Nat) (x:ax Kp) (kf:aa→Option aa):Option aa:=arc N x.1 (fun r0=>kf ⟨[⟨(.int .i64),.k,r0⟩],[]⟩)
noncomputable def O2 (N:Nat):=ar Kp (afc N)
theorem akJ (N:Nat):cn Kp (afc N) hq [] (fC N N) Tryz.f234:=fun _ _=>by kernel_rfl
theorem akK {Γ:Gl} (N:Nat):Sound Γ Tryz.prog 234 (O2 N):=gX hq Tryz.f234 (akJ N) trivial
noncomputable def Kq:List AK:=[.v (.int .i64) .k,.v (.int .i64) .k,.v (.int .i64) .k]
noncomputable def afd (N:Nat) (x:ax Kq) (kf:aa→Option aa):Option aa:=eX N x.1 x.2.1 x.2.2.1 (fun r0=>kf ⟨[⟨.bool,.k,r0⟩],[]⟩)
noncomputable def lr (N:Nat):=ar Kq (afd N)
theorem akL (N:Nat):cn Kq (afd N) hq [] (fC N N) Tryz.f144:=fun _ _=>by kernel_rfl
theorem qY {Γ:Gl} (N:Nat):Sound Γ Tryz.prog 144 (lr N):=gX hq Tryz.f144 (akL N) trivial
noncomputable def Kr:List AK:=[.v (.int .i64) .k,.v (.int .i64) .k]
noncomputable def afe (N:Nat) (x:ax Kr) (kf:aa→Option aa):Option aa:=aiA N x.1 x.2.1 (fun r0=>kf ⟨[⟨(.int .i64),.k,r0⟩],[]⟩)
noncomputable def O3 (N:Nat):=ar Kr (afe N)
noncomputable def akM (N:Nat):List Entry:=[⟨144,[.val,.val,.val],(lr N)⟩]
theorem akN (N:Nat):cn Kr (afe N) hq (akM N) (fC N N) Tryz.f262:=fun _ _=>by kernel_rfl
theorem akO {Γ:Gl} (N:Nat):Sound Γ Tryz.prog 262 (O3 N):=gX hq Tryz.f262 (akN N) ⟨qY N,trivial⟩
noncomputable def Kt:List AK:=[.v (.int .i64) .k,.v (.int .i64) .k]
noncomputable def aff (N:Nat) (x:ax Kt) (kf:aa→Option aa):Option aa:=aiB N x.1 x.2.1 (fun r0=>kf ⟨[⟨(.int .i64),.k,r0⟩],[]⟩)
noncomputable def O4 (N:Nat):=ar Kt (aff N)
noncomputable def akP (N:Nat):List Entry:=[⟨262,[.val,.val],(O3 N)⟩]
theorem akQ (N:Nat):cn Kt (aff N) hq (akP N) (fC N N) Tryz.f249:=fun _ _=>by kernel_rfl
theorem akR {Γ:Gl} (N:Nat):Sound Γ Tryz.prog 249 (O4 N):=gX hq Tryz.f249 (akQ N) ⟨akO N,trivial⟩
noncomputable def vX:List Kd:=dn 3 (.v (.int .i64) .k::dK::dK::.v (.sl (.int .i64)) .k::.v (.int .i64) .k::.v (.int .i64) .k::dn 8 ([]))
noncomputable def yd:List Kd:=dn 3 (.v (.int .i64) .k::dn 13 ([]))
noncomputable def Tz:Hint:={ tab,hn:=[],loops:=[(3,vX)],outs:=[(3,2,yd)],bj:=[] }
noncomputable def Ku:List AK:=[.v (.sl (.int .i64)) .k]
noncomputable def afg (N:Nat) (x:ax Ku) (kf:aa→Option aa):Option aa:=aiC N x.1 (fun r0=>kf ⟨[⟨(.int .i64),.k,r0⟩],[]⟩)
noncomputable def O5 (N:Nat):=ar Ku (afg N)
noncomputable def W7 (N:Nat):List Entry:=[⟨249,[.val,.val],(O4 N)⟩]
noncomputable def A9:Code:=aL Tryz.f219
noncomputable def TA (N n:Nat) (key:Nat) (S:St) (K:Ks):Option aa:=bif Nat.beq key 3 then az vX S (fun x=>p6 N x.2.1 x.2.2.1 n (fun z0=>K (.x 0) (shape yd (z0,()))) x.1 x.2.2.2.1) else none
theorem akS (N key:Nat) (S:St) (K:Ks):TA N 0 key S K=none:=(bO (au fun _=>rfl) rfl)
noncomputable def O6:Code:=(af A9).getD 0 .skip
theorem akT:af A9=[O6]:=by kernel_rfl
theorem aaD (N:Nat):fD Tz (W7 N) (TA N) N 3 vX O6:=fun _ _ _=>by kernel_rfl
theorem akU (N:Nat):cn Ku (afg N) Tz (W7 N) (TA N N) Tryz.f219:=fun _ _=>by kernel_rfl
theorem akV {Γ:Gl} (N:Nat):Sound Γ Tryz.prog 219 (O5 N):=iH Tz Tryz.f219 A9 (akS N) akT (akU N) (rc (aaD N) trivial) ⟨akR N,trivial⟩
noncomputable def Kv:List AK:=[.v (.int .i64) .k,.v mO .k]
noncomputable def afh (N:Nat) (x:ax Kv) (kf:aa→Option aa):Option aa:=R5 N x.1 x.2.1 (fun r0=>kf ⟨[⟨(.int .i64),.k,r0⟩],[]⟩)
noncomputable def Gk (N:Nat):=ar Kv (afh N)
noncomputable def akW (N:Nat):List Entry:=[⟨219,[.val],(O5 N)⟩]
theorem akX (N:Nat):cn Kv (afh N) hq (akW N) (fC N N) Tryz.f169:=fun _ _=>by kernel_rfl
theorem W8 {Γ:Gl} (N:Nat):Sound Γ Tryz.prog 169 (Gk N):=gX hq Tryz.f169 (akX N) ⟨akV N,trivial⟩
noncomputable def Ba:List Kd:=dn 3 (.v (.int .i64) .k::dn 5 (.v (.sl mO) .k::.v (.int .i64) .k::.v (.int .i64) .k::dn 32 ([])))
noncomputable def CF:List Kd:=dn 44 ([])
noncomputable def CG:List Kd:=dK::dK::.v .bool .k::dn 41 ([])
noncomputable def afi:Hint:={ tab,hn:=[],loops:=[(5,Ba)],outs:=[(5,2,CF),(5,1,CG)],bj:=[(7,(OT.seq [0,1,2,3,4,5,6,7,8,9,10,11,12,13,14,15,16,17,18,19,20,21,22,23,24] .done))] }
noncomputable def TB:List AK:=[.v (.sl mO) .k]
noncomputable def apS (N:Nat) (x:ax TB) (kf:aa→Option aa):Option aa:=I75 N x.1 (fun r0=>kf ⟨[⟨.bool,.k,r0⟩],[]⟩)
noncomputable def Kw (N:Nat):=ar TB (apS N)
noncomputable def afj (N:Nat):List Entry:=[⟨144,[.val,.val,.val],(lr N)⟩,⟨169,[.val,.val],(Gk N)⟩]
noncomputable def Gm:Code:=aL Tryz.f75
noncomputable def afk (N n:Nat) (key:Nat) (S:St) (K:Ks):Option aa:=bif Nat.beq key 5 then az Ba S (fun x=>vq N x.2.1 x.2.2.1 n (K (.x 0) (shape CF ())) (fun z0=>K .r (shape CG (z0,()))) x.1 x.2.2.2.1) else none
theorem asN (N key:Nat) (S:St) (K:Ks):afk N 0 key S K=none:=(bO (au fun _=>rfl) rfl)
noncomputable def W9:Code:=(af Gm).getD 0 .skip
theorem asO:af Gm=[W9]:=by kernel_rfl
theorem afl (N:Nat):fD afi (afj N) (afk N) N 5 Ba W9:=fun _ _ _=>by kernel_rfl
theorem asP (N:Nat):cn TB (apS N) afi (afj N) (afk N N) Tryz.f75:=fun _ _=>by kernel_rfl
theorem afm {Γ:Gl} (N:Nat):Sound Γ Tryz.prog 75 (Kw N):=iH afi Tryz.f75 Gm (asN N) asO (asP N) (rc (afl N) trivial) ⟨qY N,⟨W8 N,trivial⟩⟩
noncomputable def afn:Hint:={ tab,hn:=[],loops:=[],outs:=[],bj:=[(2,(OT.seq [0,2,1,3,4,5] .done)),(3,(OT.seq [0,2] (.any [1,3] (OT.seq [4,5] .done))))] }
noncomputable def Kx:List AK:=[.v (.sl mO) .k,.v (.int .i64) .k,.v (.int .i64) .k]
noncomputable def afo (N:Nat) (x:ax Kx) (kf:aa→Option aa):Option aa:=aiD N x.1 x.2.1 x.2.2.1 (fun r0 r1=>kf ⟨[⟨(.sl mO),(.o 102 none .k),r0⟩,⟨.bool,.k,r1⟩],[]⟩)
noncomputable def O7 (N:Nat):=ar Kx (afo N)
noncomputable def akY (N:Nat):List Entry:=[⟨234,[.val],(O2 N)⟩,⟨169,[.val,.val],(Gk N)⟩,⟨168,[.val],(Gj N)⟩,⟨75,[.val],(Kw N)⟩]
theorem akZ (N:Nat):cn Kx (afo N) afn (akY N) (fC N N) Tryz.f189:=fun _ _=>by kernel_rfl
theorem ak0 {Γ:Gl} (N:Nat):Sound Γ Tryz.prog 189 (O7 N):=gX afn Tryz.f189 (akZ N) ⟨akK N,⟨W8 N,⟨W4 N,⟨afm N,trivial⟩⟩⟩⟩
noncomputable def Bb:List Kd:=dK::.v (.int .i64) .k::dn 3 (.v (.int .i64) .k::dK::dK::.v (.sl (.int .i64)) .k::.v (.int .i64) .k::.v (.int .i64) .k::dn 10 ([]))
noncomputable def CH:List Kd:=dn 5 (.v (.int .i64) .k::dn 15 ([]))
noncomputable def afp:Hint:={ tab,hn:=[],loops:=[(3,Bb)],outs:=[(3,2,CH)],bj:=[] }
noncomputable def TC:List AK:=[.v (.sl (.int .i64)) .k,.v (.int .i64) .k]
noncomputable def apT (N:Nat) (x:ax TC) (kf:aa→Option aa):Option aa:=I78 N x.1 x.2.1 (fun r0=>kf ⟨[⟨(.int .i64),.k,r0⟩],[]⟩)
noncomputable def Ky (N:Nat):=ar TC (apT N)
noncomputable def Gn:Code:=aL Tryz.f78
noncomputable def afq (N n:Nat) (key:Nat) (S:St) (K:Ks):Option aa:=bif Nat.beq key 3 then az Bb S (fun x=>sx x.1 x.2.2.1 x.2.2.2.1 n (fun z0=>K (.x 0) (shape CH (z0,()))) x.2.1 x.2.2.2.2.1) else none
theorem asQ (N key:Nat) (S:St) (K:Ks):afq N 0 key S K=none:=(bO (au fun _=>rfl) rfl)
noncomputable def Xa:Code:=(af Gn).getD 0 .skip
theorem asR:af Gn=[Xa]:=by kernel_rfl
theorem afr (N:Nat):fD afp [] (afq N) N 3 Bb Xa:=fun _ _ _=>by kernel_rfl
theorem asS (N:Nat):cn TC (apT N) afp [] (afq N N) Tryz.f78:=fun _ _=>by kernel_rfl
theorem afs {Γ:Gl} (N:Nat):Sound Γ Tryz.prog 78 (Ky N):=iH afp Tryz.f78 Gn (asQ N) asR (asS N) (rc (afr N) trivial) trivial
noncomputable def ta:List Kd:=.v (.sl cS) .k::dn 3 (.v (.ptr cS) (.o 46 none .k)::dn 7 (.v (.sl cS) .k::.v (.int .i64) .k::.v (.int .i64) .k::dn 57 (.v (.sl (.int .i64)) .k::.v (.int .i64) .k::.v (.int .i64) .k::dn 31 ([]))))
noncomputable def uO:List Kd:=.v (.sl cS) .k::dn 11 (.v (.sl cS) .k::.v (.int .i64) .k::.v (.int .i64) .k::dn 91 ([]))
noncomputable def uP:List Kd:=dK::dK::.v .bool .k::dn 103 ([])
noncomputable def vY:List Kd:=.v (.sl cS) .k::dn 11 (.v (.sl cS) .k::.v (.int .i64) .k::.v (.int .i64) .k::dn 91 ([]))
noncomputable def ye:List Kd:=dn 106 ([])
noncomputable def yf:List Kd:=dK::dK::.v .bool .k::dn 103 ([])
noncomputable def Kz:Hint:={ tab,hn:=[],loops:=[(10,ta),(4,vY)],outs:=[(10,4,uO),(10,1,uP),(4,2,ye),(4,1,yf)],bj:=[(7,(OT.seq [0,1,2,3,4,5,6,7,8,9,10,11,12,13,14,15,16,17,18,19,20,21,22,23,24,25,26,27,28,29,30,31,32,33,34,35,36,37,38,39,40,41,42,43,44,45,46,47,48] .done)),(13,(OT.seq [0,1,2,3,4,5,6,7,8,9,10,11,13,14,15,16,17,18,19,12,20,21,22] .done))] }
noncomputable def KA:List AK:=[.v (.sl cS) .k]
noncomputable def aft (N:Nat) (x:ax KA) (kf:aa→Option aa):Option aa:=AB N x.1 (fun r0=>kf ⟨[⟨.bool,.k,r0⟩],[]⟩)
noncomputable def jS (N:Nat):=ar KA (aft N)
noncomputable def KB (N:Nat):List Entry:=[⟨144,[.val,.val,.val],(lr N)⟩,⟨40,[.val,.val],(mc N)⟩,⟨78,[.val,.val],(Ky N)⟩]
noncomputable def tT:Code:=aL Tryz.f143
noncomputable def KC (N n:Nat) (key:Nat) (S:St) (K:Ks):Option aa:=bif Nat.beq key 4 then az vY S (fun x=>nC N x.1 x.2.1 x.2.2.1 n (K (.x 0) (shape ye ())) (fun z0=>K .r (shape yf (z0,()))) x.2.2.2.1) else bif Nat.beq key 10 then az ta S (fun x=>il N x.1 x.2.1 x.2.2.1 x.2.2.2.1 x.2.2.2.2.1 x.2.2.2.2.2.1 x.2.2.2.2.2.2.1 n (K (.x 2) (shape uO (x.1,x.2.2.1,x.2.2.2.1,x.2.2.2.2.1,()))) (fun z0=>K .r (shape uP (z0,()))) x.2.2.2.2.2.2.2.1) else none
theorem ak1 (N key:Nat) (S:St) (K:Ks):KC N 0 key S K=none:=(bO (au fun _=>rfl) (bO (au fun _=>rfl) rfl))
noncomputable def O8:Code:=(af tT).getD 0 .skip
noncomputable def O9:Code:=(af tT).getD 1 .skip
theorem ak2:af tT=[O8,O9]:=by kernel_rfl
theorem TD (N:Nat):fD Kz (KB N) (KC N) N 10 ta O9:=fun _ _ _=>by kernel_rfl
theorem aaE (N:Nat):fD Kz (KB N) (KC N) N 4 vY O8:=fun _ _ _=>by kernel_rfl
theorem ak3 (N:Nat):cn KA (aft N) Kz (KB N) (KC N N) Tryz.f143:=fun _ _=>by kernel_rfl
theorem nX {Γ:Gl} (N:Nat):Sound Γ Tryz.prog 143 (jS N):=iH Kz Tryz.f143 tT (ak1 N) ak2 (ak3 N) (rc (aaE N) (rc (TD N) trivial)) ⟨qY N,⟨s9 N,⟨afs N,trivial⟩⟩⟩
noncomputable def Bc:List Kd:=.v (.sl iN) .k::dn 3 (.v (.ptr iN) (.o 80 none .k)::dn 5 (.v (.sl iN) .k::.v (.int .i64) .k::.v (.int .i64) .k::dn 30 (.v (.sl (.int .i64)) .k::.v (.int .i64) .k::.v (.int .i64) .k::dn 23 ([]))))
noncomputable def CI:List Kd:=.v (.sl iN) .k::dn 9 (.v (.sl iN) .k::.v (.int .i64) .k::.v (.int .i64) .k::dn 56 ([]))
noncomputable def CJ:List Kd:=dK::dK::.v .bool .k::dn 66 ([])
noncomputable def Bd:List Kd:=.v (.sl iN) .k::dn 9 (.v (.sl iN) .k::.v (.int .i64) .k::.v (.int .i64) .k::dn 56 ([]))
noncomputable def CL:List Kd:=dn 69 ([])
noncomputable def CM:List Kd:=dK::dK::.v .bool .k::dn 66 ([])
noncomputable def Xb:Hint:={ tab,hn:=[],loops:=[(9,Bc),(4,Bd)],outs:=[(9,4,CI),(9,1,CJ),(4,2,CL),(4,1,CM)],bj:=[(6,(OT.seq [0,1,2,3,4,5,6,7,8,9,10,11,12,13,14,15,16,17,18,19,20,21,22,23,24] .done))] }
noncomputable def TE:List AK:=[.v (.sl iN) .k]
noncomputable def apU (N:Nat) (x:ax TE) (kf:aa→Option aa):Option aa:=I79 N x.1 (fun r0=>kf ⟨[⟨.bool,.k,r0⟩],[]⟩)
noncomputable def DK (N:Nat):=ar TE (apU N)
noncomputable def TF (N:Nat):List Entry:=[⟨144,[.val,.val,.val],(lr N)⟩]
noncomputable def yg:Code:=aL Tryz.f79
noncomputable def Xc (N n:Nat) (key:Nat) (S:St) (K:Ks):Option aa:=bif Nat.beq key 4 then az Bd S (fun x=>sy N x.1 x.2.1 x.2.2.1 n (K (.x 0) (shape CL ())) (fun z0=>K .r (shape CM (z0,()))) x.2.2.2.1) else bif Nat.beq key 9 then az Bc S (fun x=>mQ N x.1 x.2.1 x.2.2.1 x.2.2.2.1 x.2.2.2.2.1 x.2.2.2.2.2.1 x.2.2.2.2.2.2.1 n (K (.x 2) (shape CI (x.1,x.2.2.1,x.2.2.2.1,x.2.2.2.2.1,()))) (fun z0=>K .r (shape CJ (z0,()))) x.2.2.2.2.2.2.2.1) else none
theorem asT (N key:Nat) (S:St) (K:Ks):Xc N 0 key S K=none:=(bO (au fun _=>rfl) (bO (au fun _=>rfl) rfl))
noncomputable def Xd:Code:=(af yg).getD 0 .skip
noncomputable def Xe:Code:=(af yg).getD 1 .skip
theorem asU:af yg=[Xd,Xe]:=by kernel_rfl
theorem afu (N:Nat):fD Xb (TF N) (Xc N) N 9 Bc Xe:=fun _ _ _=>by kernel_rfl
theorem afv (N:Nat):fD Xb (TF N) (Xc N) N 4 Bd Xd:=fun _ _ _=>by kernel_rfl
theorem asV (N:Nat):cn TE (apU N) Xb (TF N) (Xc N N) Tryz.f79:=fun _ _=>by kernel_rfl
theorem TG {Γ:Gl} (N:Nat):Sound Γ Tryz.prog 79 (DK N):=iH Xb Tryz.f79 yg (asT N) asU (asV N) (rc (afv N) (rc (afu N) trivial)) ⟨qY N,trivial⟩
noncomputable def vZ:List Kd:=.v (.sl (.int .i64)) .k::.v (.int .i64) .k::dn 5 (.v (.int .i64) .k::.v (.int .i64) .k::dn 10 ([]))
noncomputable def yh:List Kd:=dn 19 ([])
noncomputable def yi:List Kd:=dn 4 (.v (.int .i64) .k::dn 14 ([]))
noncomputable def TH:Hint:={ tab,hn:=[],loops:=[(2,vZ)],outs:=[(2,2,yh),(2,1,yi)],bj:=[] }
noncomputable def KD:List AK:=[.v (.sl (.int .i64)) .k,.v (.int .i64) .k]
noncomputable def afw (N:Nat) (x:ax KD) (kf:aa→Option aa):Option aa:=Sd N x.1 x.2.1 (fun r0=>kf ⟨[⟨(.int .i64),.k,r0⟩],[]⟩)
noncomputable def Gp (N:Nat):=ar KD (afw N)
noncomputable def Be:Code:=aL Tryz.f170
noncomputable def TJ (N n:Nat) (key:Nat) (S:St) (K:Ks):Option aa:=bif Nat.beq key 2 then az vZ S (fun x=>qd x.1 x.2.1 x.2.2.1 n (K (.x 0) (shape yh ())) (fun z0=>K .r (shape yi (z0,()))) x.2.2.2.1) else none
theorem ak4 (N key:Nat) (S:St) (K:Ks):TJ N 0 key S K=none:=(bO (au fun _=>rfl) rfl)
noncomputable def O':Code:=(af Be).getD 0 .skip
theorem ak5:af Be=[O']:=by kernel_rfl
theorem aaF (N:Nat):fD TH [] (TJ N) N 2 vZ O':=fun _ _ _=>by kernel_rfl
theorem ak6 (N:Nat):cn KD (afw N) TH [] (TJ N N) Tryz.f170:=fun _ _=>by kernel_rfl
theorem Xf {Γ:Gl} (N:Nat):Sound Γ Tryz.prog 170 (Gp N):=iH TH Tryz.f170 Be (ak4 N) ak5 (ak6 N) (rc (aaF N) trivial) trivial
noncomputable def TK:List AK:=[.v (.sl (.int .i64)) .k,.v (.int .i64) .k]
noncomputable def apV (N:Nat) (x:ax TK) (kf:aa→Option aa):Option aa:=S82 N x.1 x.2.1 (fun r0=>kf ⟨[⟨.bool,.k,r0⟩],[]⟩)
noncomputable def yj (N:Nat):=ar TK (apV N)
noncomputable def asW (N:Nat):List Entry:=[⟨170,[.val,.val],(Gp N)⟩]
theorem asX (N:Nat):cn TK (apV N) hq (asW N) (fC N N) Tryz.f82:=fun _ _=>by kernel_rfl
theorem KE {Γ:Gl} (N:Nat):Sound Γ Tryz.prog 82 (yj N):=gX hq Tryz.f82 (asX N) ⟨Xf N,trivial⟩
noncomputable def TL:List AK:=[.v (.sl cS) .k,.v (.int .i64) .k,.v (.int .i64) .k]
noncomputable def apW (N:Nat) (x:ax TL) (kf:aa→Option aa):Option aa:=I19 N x.1 x.2.1 x.2.2.1 (fun r0=>kf ⟨[⟨.bool,.k,r0⟩],[]⟩)
noncomputable def Xg (N:Nat):=ar TL (apW N)
noncomputable def asY (N:Nat):List Entry:=[⟨40,[.val,.val],(mc N)⟩,⟨82,[.val,.val],(yj N)⟩]
theorem asZ (N:Nat):cn TL (apW N) hq (asY N) (fC N N) Tryz.f19:=fun _ _=>by kernel_rfl
theorem as0 {Γ:Gl} (N:Nat):Sound Γ Tryz.prog 19 (Xg N):=gX hq Tryz.f19 (asZ N) ⟨s9 N,⟨KE N,trivial⟩⟩
noncomputable def apX:Hint:={ tab,hn:=[],loops:=[],outs:=[],bj:=[(2,(OT.seq [0,1,2,3,4,5,6,7,8,9,10,11,12,13,14,15,16,17,18,19,20,21,22,23,24,25,26,27,28,29,30,31,32,33,34,35] .done))] }
noncomputable def TM:List AK:=[.v (.sl cS) .k,.v (.int .i64) .k,.v (.int .i64) .k]
noncomputable def apY (N:Nat) (x:ax TM) (kf:aa→Option aa):Option aa:=I77 N x.1 x.2.1 x.2.2.1 (fun r0=>kf ⟨[⟨.bool,.k,r0⟩],[]⟩)
noncomputable def KF (N:Nat):=ar TM (apY N)
noncomputable def as1 (N:Nat):List Entry:=[⟨40,[.val,.val],(mc N)⟩,⟨143,[.val],(jS N)⟩,⟨19,[.val,.val,.val],(Xg N)⟩]
theorem as2 (N:Nat):cn TM (apY N) apX (as1 N) (fC N N) Tryz.f77:=fun _ _=>by kernel_rfl
theorem afx {Γ:Gl} (N:Nat):Sound Γ Tryz.prog 77 (KF N):=gX apX Tryz.f77 (as2 N) ⟨s9 N,⟨nX N,⟨as0 N,trivial⟩⟩⟩
noncomputable def Bf:List Kd:=.v (.sl cS) .k::dn 4 (.v (.sl (.int .i64)) (.o 3 none .k)::dn 5 (.v (.sl c9) .k::.v (.int .i64) .k::.v (.int .i64) .k::dn 30 ([])))
noncomputable def CN:List Kd:=.v (.sl cS) .k::dn 4 (.v (.sl (.int .i64)) (.o 3 none .k)::dn 38 ([]))
noncomputable def CO:List Kd:=dn 4 (.v .bool .k::dn 39 ([]))
noncomputable def v7:List Kd:=dn 5 (.v (.sl (.int .i64)) (.o 3 none .k)::dn 26 (.v (.sl cS) .k::.v (.int .i64) .k::.v (.int .i64) .k::dn 9 ([])))
noncomputable def yk:List Kd:=dn 44 ([])
noncomputable def yl:List Kd:=dn 4 (.v .bool .k::dn 39 ([]))
noncomputable def Xh:Hint:={ tab,hn:=[],loops:=[(3,Bf),(10,v7)],outs:=[(3,2,CN),(3,1,CO),(10,4,yk),(10,1,yl)],bj:=[] }
noncomputable def TN:List AK:=[.v (.sl cS) .k,.v (.sl c9) .k]
noncomputable def apZ (N:Nat) (x:ax TN) (kf:aa→Option aa):Option aa:=I17 N x.1 x.2.1 (fun r0=>kf ⟨[⟨.bool,.k,r0⟩],[]⟩)
noncomputable def Xi (N:Nat):=ar TN (apZ N)
noncomputable def TO (N:Nat):List Entry:=[⟨77,[.val,.val,.val],(KF N)⟩,⟨78,[.val,.val],(Ky N)⟩]
noncomputable def ym:Code:=aL Tryz.f17
noncomputable def Xj (N n:Nat) (key:Nat) (S:St) (K:Ks):Option aa:=bif Nat.beq key 3 then az Bf S (fun x=>vu N x.1 x.2.2.1 x.2.2.2.1 n (fun z0=>K (.x 0) (shape CN (x.1,z0,()))) (fun z0=>K .r (shape CO (z0,()))) x.2.1 x.2.2.2.2.1) else bif Nat.beq key 10 then az v7 S (fun x=>qe N x.1 x.2.1 x.2.2.1 n (K (.x 2) (shape yk ())) (fun z0=>K .r (shape yl (z0,()))) x.2.2.2.1) else none
theorem as3 (N key:Nat) (S:St) (K:Ks):Xj N 0 key S K=none:=(bO (au fun _=>rfl) (bO (au fun _=>rfl) rfl))
noncomputable def Xk:Code:=(af ym).getD 0 .skip
noncomputable def Xl:Code:=(af ym).getD 1 .skip
theorem as4:af ym=[Xk,Xl]:=by kernel_rfl
theorem aaG (N:Nat):fD Xh (TO N) (Xj N) N 10 v7 Xl:=fun _ _ _=>by kernel_rfl
theorem afy (N:Nat):fD Xh (TO N) (Xj N) N 3 Bf Xk:=fun _ _ _=>by kernel_rfl
theorem as5 (N:Nat):cn TN (apZ N) Xh (TO N) (Xj N N) Tryz.f17:=fun _ _=>by kernel_rfl
theorem as6 {Γ:Gl} (N:Nat):Sound Γ Tryz.prog 17 (Xi N):=iH Xh Tryz.f17 ym (as3 N) as4 (as5 N) (rc (afy N) (rc (aaG N) trivial)) ⟨afx N,⟨afs N,trivial⟩⟩
noncomputable def TP:List AK:=[.v iN .k,.v (.ptr (.int .i64)) .k]
noncomputable def ap0 (N:Nat) (x:ax TP) (kf:aa→Option aa):Option aa:=I81 N x.1 x.2.1 (fun r0=>kf ⟨[⟨.bool,.k,r0⟩],[]⟩)
noncomputable def Xm (N:Nat):=ar TP (ap0 N)
theorem as7 (N:Nat):cn TP (ap0 N) hq [] (fC N N) Tryz.f81:=fun _ _=>by kernel_rfl
theorem as8 {Γ:Gl} (N:Nat):Sound Γ Tryz.prog 81 (Xm N):=gX hq Tryz.f81 (as7 N) trivial
noncomputable def Bg:List Kd:=.v (.sl iN) .k::.lu 81 [.kv (.ptr (.int .i64))]::dn 5 (.v (.int .i64) .k::.v (.int .i64) .k::dn 10 ([]))
noncomputable def CP:List Kd:=dn 19 ([])
noncomputable def CQ:List Kd:=dn 4 (.v (.int .i64) .k::dn 14 ([]))
noncomputable def afz:Hint:={ tab,hn:=[],loops:=[(2,Bg)],outs:=[(2,2,CP),(2,1,CQ)],bj:=[] }
noncomputable def TQ:List AK:=[.v (.sl iN) .k,.fn 81 [(.ptr (.int .i64))]]
noncomputable def ap1 (N:Nat) (x:ax TQ) (kf:aa→Option aa):Option aa:=S80 N x.1 x.2.1.1 (fun r0=>kf ⟨[⟨(.int .i64),.k,r0⟩],[]⟩)
noncomputable def Xn (N:Nat):=ar TQ (ap1 N)
noncomputable def afA (N:Nat):List Entry:=[⟨81,[.val],(Xm N)⟩]
noncomputable def Gq:Code:=aL Tryz.f80
noncomputable def afB (N n:Nat) (key:Nat) (S:St) (K:Ks):Option aa:=bif Nat.beq key 2 then az Bg S (fun x=>vw N x.1 x.2.1.1 x.2.2.1 n (K (.x 0) (shape CP ())) (fun z0=>K .r (shape CQ (z0,()))) x.2.2.2.1) else none
theorem as9 (N key:Nat) (S:St) (K:Ks):afB N 0 key S K=none:=(bO (au fun _=>rfl) rfl)
noncomputable def Xo:Code:=(af Gq).getD 0 .skip
theorem as':af Gq=[Xo]:=by kernel_rfl
theorem afC (N:Nat):fD afz (afA N) (afB N) N 2 Bg Xo:=fun _ _ _=>by kernel_rfl
theorem ata (N:Nat):cn TQ (ap1 N) afz (afA N) (afB N N) Tryz.f80:=fun _ _=>by kernel_rfl
theorem atb {Γ:Gl} (N:Nat):Sound Γ Tryz.prog 80 (Xn N):=iH afz Tryz.f80 Gq (as9 N) as' (ata N) (rc (afC N) trivial) ⟨as8 N,trivial⟩
noncomputable def Bh:List Kd:=.v (.sl cS) .k::dn 3 (.v (.ptr iN) (.o 80 none .k)::dn 9 (.v (.sl (.int .i64)) (.o 3 none .k)::.v (.int .i64) .k::.v (.int .i64) .k::dn 25 ([])))
noncomputable def CR:List Kd:=dn 42 ([])
noncomputable def CS:List Kd:=dn 6 (.v .bool .k::dn 35 ([]))
noncomputable def afD:Hint:={ tab,hn:=[],loops:=[(2,Bh)],outs:=[(2,2,CR),(2,1,CS)],bj:=[(5,(OT.seq [0,1,2,3,4,5,6,7,8,9,10,11,12,13,14,15,16,17] .done))] }
noncomputable def TR:List AK:=[.v (.sl cS) .k,.v iN .k,.v c9 .k]
noncomputable def ap2 (N:Nat) (x:ax TR) (kf:aa→Option aa):Option aa:=I83 N x.1 x.2.1 x.2.2.1 (fun r0=>kf ⟨[⟨.bool,.k,r0⟩],[]⟩)
noncomputable def KG (N:Nat):=ar TR (ap2 N)
noncomputable def afE (N:Nat):List Entry:=[⟨40,[.val,.val],(mc N)⟩,⟨82,[.val,.val],(yj N)⟩]
noncomputable def Gr:Code:=aL Tryz.f83
noncomputable def afF (N n:Nat) (key:Nat) (S:St) (K:Ks):Option aa:=bif Nat.beq key 2 then az Bh S (fun x=>vz N x.1 x.2.1 x.2.2.1 x.2.2.2.1 n (K (.x 0) (shape CR ())) (fun z0=>K .r (shape CS (z0,()))) x.2.2.2.2.1) else none
theorem atc (N key:Nat) (S:St) (K:Ks):afF N 0 key S K=none:=(bO (au fun _=>rfl) rfl)
noncomputable def Xp:Code:=(af Gr).getD 0 .skip
theorem atd:af Gr=[Xp]:=by kernel_rfl
theorem afG (N:Nat):fD afD (afE N) (afF N) N 2 Bh Xp:=fun _ _ _=>by kernel_rfl
theorem ate (N:Nat):cn TR (ap2 N) afD (afE N) (afF N N) Tryz.f83:=fun _ _=>by kernel_rfl
theorem afH {Γ:Gl} (N:Nat):Sound Γ Tryz.prog 83 (KG N):=iH afD Tryz.f83 Gr (atc N) atd (ate N) (rc (afG N) trivial) ⟨s9 N,⟨KE N,trivial⟩⟩
noncomputable def Bi:List Kd:=.v (.sl cS) .k::.v (.sl iN) .k::.v (.sl c9) .k::.v (.sl (.int .i64)) .k::dn 18 (.v (.sl (.int .i64)) .k::.v (.int .i64) .k::.v (.int .i64) .k::dn 30 ([]))
noncomputable def CT:List Kd:=dn 55 ([])
noncomputable def CU:List Kd:=dn 8 (.v .bool .k::dn 46 ([]))
noncomputable def afI:Hint:={ tab,hn:=[],loops:=[(4,Bi)],outs:=[(4,2,CT),(4,1,CU)],bj:=[(7,(OT.seq [0,1,2,3,4,5,6,7,8,9,10,11,12,13,14,15,16,17,18,19,20,21] .done))] }
noncomputable def TS:List AK:=[.v (.sl cS) .k,.v (.sl iN) .k,.v (.sl c9) .k,.v (.sl (.int .i64)) .k]
noncomputable def ap3 (N:Nat) (x:ax TS) (kf:aa→Option aa):Option aa:=I18 N x.1 x.2.1 x.2.2.1 x.2.2.2.1 (fun r0=>kf ⟨[⟨.bool,.k,r0⟩],[]⟩)
noncomputable def Xq (N:Nat):=ar TS (ap3 N)
noncomputable def afJ (N:Nat):List Entry:=[⟨79,[.val],(DK N)⟩,⟨80,[.val,.val],(Xn N)⟩,⟨82,[.val,.val],(yj N)⟩,⟨83,[.val,.val,.val],(KG N)⟩]
noncomputable def Gs:Code:=aL Tryz.f18
noncomputable def afK (N n:Nat) (key:Nat) (S:St) (K:Ks):Option aa:=bif Nat.beq key 4 then az Bi S (fun x=>vA N x.1 x.2.1 x.2.2.1 x.2.2.2.1 x.2.2.2.2.1 x.2.2.2.2.2.1 n (K (.x 0) (shape CT ())) (fun z0=>K .r (shape CU (z0,()))) x.2.2.2.2.2.2.1) else none
theorem atf (N key:Nat) (S:St) (K:Ks):afK N 0 key S K=none:=(bO (au fun _=>rfl) rfl)
noncomputable def Xr:Code:=(af Gs).getD 0 .skip
theorem atg:af Gs=[Xr]:=by kernel_rfl
theorem afL (N:Nat):fD afI (afJ N) (afK N) N 4 Bi Xr:=fun _ _ _=>by kernel_rfl
theorem ath (N:Nat):cn TS (ap3 N) afI (afJ N) (afK N N) Tryz.f18:=fun _ _=>by kernel_rfl
theorem ati {Γ:Gl} (N:Nat):Sound Γ Tryz.prog 18 (Xq N):=iH afI Tryz.f18 Gs (atf N) atg (ath N) (rc (afL N) trivial) ⟨TG N,⟨atb N,⟨KE N,⟨afH N,trivial⟩⟩⟩⟩
noncomputable def KH:List AK:=[.v rI .k]
noncomputable def afM (N:Nat) (x:ax KH) (kf:aa→Option aa):Option aa:=NN N x.1 (fun r0=>kf ⟨[⟨.bool,.k,r0⟩],[]⟩)
noncomputable def yn (N:Nat):=ar KH (afM N)
noncomputable def ak7 (N:Nat):List Entry:=[⟨144,[.val,.val,.val],(lr N)⟩]
theorem ak8 (N:Nat):cn KH (afM N) hq (ak7 N) (fC N N) Tryz.f138:=fun _ _=>by kernel_rfl
theorem KI {Γ:Gl} (N:Nat):Sound Γ Tryz.prog 138 (yn N):=gX hq Tryz.f138 (ak8 N) ⟨qY N,trivial⟩
noncomputable def v8:List Kd:=dn 3 (.v (.int .i64) .k::dn 6 (.v (.sl cS) .k::.v (.int .i64) .k::.v (.int .i64) .k::dn 9 ([])))
noncomputable def yo:List Kd:=dn 3 (.v (.int .i64) .k::dn 18 ([]))
noncomputable def TT:Hint:={ tab,hn:=[],loops:=[(5,v8)],outs:=[(5,2,yo)],bj:=[] }
noncomputable def KJ:List AK:=[.v (.sl cS) .k]
noncomputable def afN (N:Nat) (x:ax KJ) (kf:aa→Option aa):Option aa:=aiE N x.1 (fun r0=>kf ⟨[⟨(.int .i64),.k,r0⟩],[]⟩)
noncomputable def Pb (N:Nat):=ar KJ (afN N)
noncomputable def Xs (N:Nat):List Entry:=[⟨143,[.val],(jS N)⟩]
noncomputable def Bj:Code:=aL Tryz.f145
noncomputable def TU (N n:Nat) (key:Nat) (S:St) (K:Ks):Option aa:=bif Nat.beq key 5 then az v8 S (fun x=>qf x.2.1 x.2.2.1 n (fun z0=>K (.x 0) (shape yo (z0,()))) x.1 x.2.2.2.1) else none
theorem ak9 (N key:Nat) (S:St) (K:Ks):TU N 0 key S K=none:=(bO (au fun _=>rfl) rfl)
noncomputable def Pc:Code:=(af Bj).getD 0 .skip
theorem ak':af Bj=[Pc]:=by kernel_rfl
theorem aaH (N:Nat):fD TT (Xs N) (TU N) N 5 v8 Pc:=fun _ _ _=>by kernel_rfl
theorem ala (N:Nat):cn KJ (afN N) TT (Xs N) (TU N N) Tryz.f145:=fun _ _=>by kernel_rfl
theorem alb {Γ:Gl} (N:Nat):Sound Γ Tryz.prog 145 (Pb N):=iH TT Tryz.f145 Bj (ak9 N) ak' (ala N) (rc (aaH N) trivial) ⟨nX N,trivial⟩
noncomputable def Bk:List Kd:=dK::.v (.ptr c6) (.o 31 none .k)::dn 60 (.v (.sl rI) .k::.v (.int .i64) .k::.v (.int .i64) .k::dn 34 ([]))
noncomputable def CV:List Kd:=dK::.v (.ptr c6) (.o 31 none .k)::dn 97 ([])
noncomputable def CW:List Kd:=dK::dK::.v .bool .k::dn 96 ([])
noncomputable def afO:Hint:={ tab,hn:=[],loops:=[(6,Bk)],outs:=[(6,2,CV),(6,1,CW)],bj:=[(8,(OT.seq [0,1,2,3,4,5,6,7,8,9,10,11,12,13,14,15,16,17] .done)),(11,(OT.seq [0,1,2,3,4,5,7,8,6,9,10,11] .done))] }
noncomputable def KK:List AK:=[.v c6 .k]
noncomputable def ap4 (N:Nat) (x:ax KK) (kf:aa→Option aa):Option aa:=I39 N x.1 (fun r0=>kf ⟨[⟨.bool,.k,r0⟩],[]⟩)
noncomputable def tU (N:Nat):=ar KK (ap4 N)
noncomputable def afP (N:Nat):List Entry:=[⟨143,[.val],(jS N)⟩,⟨79,[.val],(DK N)⟩,⟨75,[.val],(Kw N)⟩,⟨16,[.val],(qX N)⟩,⟨17,[.val,.val],(Xi N)⟩,⟨18,[.val,.val,.val,.val],(Xq N)⟩,⟨138,[.val],(yn N)⟩,⟨144,[.val,.val,.val],(lr N)⟩,⟨145,[.val],(Pb N)⟩]
noncomputable def Gt:Code:=aL Tryz.f39
noncomputable def afQ (N n:Nat) (key:Nat) (S:St) (K:Ks):Option aa:=bif Nat.beq key 6 then az Bk S (fun x=>sB N x.1 x.2.1 x.2.2.1 n (K (.x 0) (shape CV (x.1,()))) (fun z0=>K .r (shape CW (z0,()))) x.2.2.2.1) else none
theorem atj (N key:Nat) (S:St) (K:Ks):afQ N 0 key S K=none:=(bO (au fun _=>rfl) rfl)
noncomputable def Xt:Code:=(af Gt).getD 0 .skip
theorem atk:af Gt=[Xt]:=by kernel_rfl
theorem afR (N:Nat):fD afO (afP N) (afQ N) N 6 Bk Xt:=fun _ _ _=>by kernel_rfl
theorem atl (N:Nat):cn KK (ap4 N) afO (afP N) (afQ N N) Tryz.f39:=fun _ _=>by kernel_rfl
theorem Gu {Γ:Gl} (N:Nat):Sound Γ Tryz.prog 39 (tU N):=iH afO Tryz.f39 Gt (atj N) atk (atl N) (rc (afR N) trivial) ⟨nX N,⟨TG N,⟨afm N,⟨A8 N,⟨as6 N,⟨ati N,⟨KI N,⟨qY N,⟨alb N,trivial⟩⟩⟩⟩⟩⟩⟩⟩⟩
end Go.Pv.R
