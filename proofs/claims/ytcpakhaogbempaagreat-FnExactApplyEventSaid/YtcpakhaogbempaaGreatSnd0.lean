/- Each function of the program that the law reaches computes its plain function, part 0. -/
import Derived.Test.YtcpakhaogbempaaGreatPlRes
import Derived.Test.YtcpakhaogbempaaGreatGro
import Derived.Test.YtcpakhaogbempaaGreatProg
namespace Go.Pv.R
open Go.Proofs
set_option linter.unusedVariables false
set_option maxRecDepth 100000
noncomputable abbrev dK:Kd:=.dead
noncomputable def tab:db:=[⟨2,(.int .i64),0,[]⟩,⟨3,(.int .i64),0,[]⟩,⟨4,.bool,0,[]⟩,⟨5,(.int .u8),0,[]⟩,⟨9,.str,0,[]⟩,⟨12,(.int .u64),0,[]⟩,⟨21,(.int .i32),0,[]⟩,⟨22,(.sl (.int .u8)),5,[]⟩,⟨24,(.sl bj),46,[]⟩,⟨25,(.sl bS),80,[]⟩,⟨26,(.sl aM),104,[]⟩,⟨27,(.sl (.int .i64)),3,[]⟩,⟨28,(.sl de),136,[]⟩,⟨29,(.sl df),102,[]⟩,⟨30,bY,0,[24,25,26,27,28,29,3]⟩,⟨31,bY,0,[24,25,26,27,28,29,3]⟩,⟨32,(.sl df),38,[]⟩,⟨37,df,0,[3,3,3,3]⟩,⟨38,df,0,[3,3,3,3]⟩,⟨45,bj,0,[3,3,3,3,3,27]⟩,⟨46,bj,0,[3,3,3,3,3,27]⟩,⟨47,(.sl bj),171,[]⟩,⟨48,(.sl bS),173,[]⟩,⟨49,(.sl aM),182,[]⟩,⟨50,(.sl de),184,[]⟩,⟨51,(.sl df),186,[]⟩,⟨52,bY,0,[47,48,49,27,50,51,3]⟩,⟨53,bY,0,[47,48,49,27,50,51,3]⟩,⟨79,bS,0,[3,3,27]⟩,⟨80,bS,0,[3,3,27]⟩,⟨88,df,0,[3,3,3,3]⟩,⟨91,(.sl df),88,[]⟩,⟨101,df,0,[3,3,3,3]⟩,⟨102,df,0,[3,3,3,3]⟩,⟨103,aM,0,[3,3]⟩,⟨104,aM,0,[3,3]⟩,⟨135,de,0,[3,3,3]⟩,⟨136,de,0,[3,3,3]⟩,⟨162,Wo,0,[22,3,3]⟩,⟨163,Wo,0,[22,3,3]⟩,⟨171,bj,0,[3,3,3,3,3,27]⟩,⟨173,bS,0,[3,3,27]⟩,⟨182,aM,0,[3,3]⟩,⟨184,de,0,[3,3,3]⟩,⟨186,df,0,[3,3,3,3]⟩,⟨194,(.int .u64),0,[]⟩,⟨207,(.int .i64),0,[]⟩,⟨216,(.int .u32),0,[]⟩,⟨218,(.int .u64),0,[]⟩,⟨219,(.sl (.sl (.int .i64))),27,[]⟩,⟨222,(.int .u64),0,[]⟩]
theorem mixed:Tryz.prog.follows .mixedOrders=true:=by kernel_rfl
theorem kT:cN Tryz.prog tab=true:=by kernel_rfl
noncomputable def dP (N n:Nat) (key:Nat) (S:St) (K:Ks):Option aa:=none
theorem S4 (N key:Nat) (S:St) (K:Ks):dP N 0 key S K=none:=rfl
noncomputable def aI (f:Func):Code:=match f.body with |some c=>c |none=>.skip
noncomputable def dn:Nat→List Kd→List Kd
 |0,l=>l
 |n+1,l=>dK::dn n l
def bQ (sg:List AK) (F:ay sg→(aa→Option aa)→Option aa) (h:Hint) (es:List Entry) (L:Nat→St→Ks→Option aa) (f:Func):Prop:=∀ (x:ay sg) (kf:aa→Option aa),F x kf=lQ h (jr.of es) L f (dR sg x) kf
def dU (h:Hint) (es:List Entry) (L:Nat→Nat→St→Ks→Option aa) (N key:Nat) (ks:List Kd) (c:Code):Prop:=∀ (n:Nat) (x:qD ks) (K:Ks),L (n+1) key (shape ks x) (h.fw key K)=jW h (jr.of es) (tp L N n key) c (shape ks x) (h.fw key K)
theorem rc {hh:Hint} {es:List Entry} {Lf:Nat→Nat→St→Ks→Option aa} {N key:Nat} {ks:List Kd} {c:Code} {l:List Code} (h:dU hh es Lf N key ks c) (hr:rk hh (jr.of es) Lf N l) (hk:keyOf c=key:=by kernel_rfl) (hh1:nI hh.loops key=some ks:=by kernel_rfl):rk hh (jr.of es) Lf N (c::l):=RV hk hh1 h hr
theorem fq {Γ:Gl} (hh:Hint) {es:List Entry} {f:FuncId} (fn:Func) (body:Code) {N:Nat} {Lf:Nat→Nat→St→Ks→Option aa} (h0:∀ k S K,Lf 0 k S K=none) {ls:List Code} (hls:af body=ls) {l:List AK} {F:ay l→(aa→Option aa)→Option aa} (hF:bQ l F hh es (Lf N) fn) (cg:rk hh (jr.of es) Lf N ls) (hO:EOK Γ Tryz.prog es)
  (hT : cN Tryz.prog hh.tab = true := by exact kT) (hf : Tryz.prog.funcs[f]? = some fn := by kernel_rfl) (hb : fn.body = some body := by kernel_rfl) (V2 : (fn.name == "runtime.NumGoroutine") = false := by kernel_rfl) (Co : eM hh (jr.of es) body = true := by kernel_rfl) (hky : l6 body = true := by kernel_rfl) (hlen : Nat.ble l.length fn.ntmps = true := by kernel_rfl) (RW : fJ body = true := by kernel_rfl) : Sound Γ Tryz.prog f (ar l F) :=
 iU mixed hT hO hf hb V2 Co hky h0 hls cg hlen hF (.inl RW)
theorem fo {Γ:Gl} (hh:Hint) {es:List Entry} {f:FuncId} (fn:Func) {N:Nat} {l:List AK} {F:ay l→(aa→Option aa)→Option aa} (hF:bQ l F hh es (dP N N) fn) (hO:EOK Γ Tryz.prog es)
  (hls : af (aI fn) = [] := by kernel_rfl) (hT : cN Tryz.prog hh.tab = true := by exact kT) (hf : Tryz.prog.funcs[f]? = some fn := by kernel_rfl) (hb : fn.body = some (aI fn) := by kernel_rfl) (V2 : (fn.name == "runtime.NumGoroutine") = false := by kernel_rfl) (Co : eM hh (jr.of es) (aI fn) = true := by kernel_rfl) (hky : l6 (aI fn) = true := by kernel_rfl) (hlen : Nat.ble l.length fn.ntmps = true := by kernel_rfl) (RW : fJ (aI fn) = true := by kernel_rfl) : Sound Γ Tryz.prog f (ar l F) :=
 iU mixed hT hO hf hb V2 Co hky (S4 N) hls trivial hlen hF (.inl RW)
noncomputable def hq:Hint:={ tab,hn:=[],loops:=[],outs:=[],bp:=[] }
noncomputable def afy:Hint:={ tab,hn:=[],loops:=[],outs:=[],bp:=[] }
noncomputable def Du:List AK:=[.v (.sl (.int .i64)) .k]
noncomputable def Jy (N:Nat) (x:ay Du) (kf:aa→Option aa):Option aa:=ID N x.1 (fun r0=>kf ⟨[⟨(.sl (.int .i64)),(.o 3 none .k),r0⟩],[]⟩)
noncomputable def rZ (N:Nat):=ar Du (Jy N)
noncomputable def HX:Code:=aI Tryz.f166
theorem alC:af HX=[]:=by kernel_rfl
theorem alD (N:Nat):bQ Du (Jy N) afy [] (dP N N) Tryz.f166:=fun _ _=>by kernel_rfl
theorem afz (N:Nat) (x:ay Du):cL (Jy N x):=by
 obtain⟨l,u⟩:=x
 unfold Jy ID
 cases l with
 |nil=>exact⟨some _,fun K=>lH _⟩
 |cons a l=>
  simp only[List.isEmpty_cons,cond_false]
  exact cL.bif _ (cL.pure _) cL.none
theorem Dv {Γ:Gl} (N:Nat):Sound Γ Tryz.prog 166 (rZ N):=iU (hh:=afy) mixed kT (es:=[]) trivial (fn:=Tryz.f166) (body:=HX) (by kernel_rfl) (by kernel_rfl) (by kernel_rfl) (by kernel_rfl) (by kernel_rfl) (Lf:=dP N) (S4 N) alC trivial (N:=N) (by kernel_rfl) (alD N) (.inr (afz N))
noncomputable def vj:List Kd:=dn 3 (.v (.sl bj) (.o 46 none (.p .k (.p .k (.p .k (.p .k (.p .k (.o 3 none .k)))))))::dn 3 (.v (.sl bj) .k::.v (.int .i64) .k::.v (.int .i64) .k::dn 13 ([])))
noncomputable def xH:List Kd:=dn 3 (.v (.sl bj) (.o 46 none (.p .k (.p .k (.p .k (.p .k (.p .k (.o 3 none .k)))))))::dn 19 ([]))
noncomputable def S5:Hint:={ tab,hn:=[(6,(.p .k (.p .k (.p .k (.p .k (.p .k (.o 3 none .k)))))))],loops:=[(3,vj)],outs:=[(3,2,xH)],bp:=[] }
noncomputable def Jz:List AK:=[.v (.sl bj) .k]
noncomputable def afA (N:Nat) (x:ay Jz) (kf:aa→Option aa):Option aa:=RZ N x.1 (fun r0=>kf ⟨[⟨(.sl bj),(.o 46 none (.p .k (.p .k (.p .k (.p .k (.p .k (.o 3 none .k))))))),r0⟩],[]⟩)
noncomputable def FM (N:Nat):=ar Jz (afA N)
noncomputable def Xf (N:Nat):List Entry:=[⟨166,[.val],(rZ N)⟩]
noncomputable def AJ:Code:=aI Tryz.f163
noncomputable def S6 (N n:Nat) (key:Nat) (S:St) (K:Ks):Option aa:=bif Nat.beq key 3 then az vj S (fun x=>o8 N x.2.1 x.2.2.1 n (fun z0=>K (.x 0) (shape xH (z0,()))) x.1 x.2.2.2.1) else none
theorem alE (N key:Nat) (S:St) (K:Ks):S6 N 0 key S K=none:=(bE (aq fun _=>rfl) rfl)
noncomputable def Oh:Code:=(af AJ).getD 0 .skip
theorem alF:af AJ=[Oh]:=by kernel_rfl
theorem aa7 (N:Nat):dU S5 (Xf N) (S6 N) N 3 vj Oh:=fun _ _ _=>by kernel_rfl
theorem alG (N:Nat):bQ Jz (afA N) S5 (Xf N) (S6 N N) Tryz.f163:=fun _ _=>by kernel_rfl
theorem Xg {Γ:Gl} (N:Nat):Sound Γ Tryz.prog 163 (FM N):=fq S5 Tryz.f163 AJ (alE N) alF (alG N) (rc (aa7 N) trivial) ⟨Dv N,trivial⟩
noncomputable def vk:List Kd:=dn 3 (.v (.sl bS) (.o 80 none (.p .k (.p .k (.o 3 none .k))))::dn 3 (.v (.sl bS) .k::.v (.int .i64) .k::.v (.int .i64) .k::dn 13 ([])))
noncomputable def xI:List Kd:=dn 3 (.v (.sl bS) (.o 80 none (.p .k (.p .k (.o 3 none .k))))::dn 19 ([]))
noncomputable def S7:Hint:={ tab,hn:=[(6,(.p .k (.p .k (.o 3 none .k))))],loops:=[(3,vk)],outs:=[(3,2,xI)],bp:=[] }
noncomputable def JA:List AK:=[.v (.sl bS) .k]
noncomputable def afB (N:Nat) (x:ay JA) (kf:aa→Option aa):Option aa:=ajC N x.1 (fun r0=>kf ⟨[⟨(.sl bS),(.o 80 none (.p .k (.p .k (.o 3 none .k)))),r0⟩],[]⟩)
noncomputable def Oi (N:Nat):=ar JA (afB N)
noncomputable def Xh (N:Nat):List Entry:=[⟨166,[.val],(rZ N)⟩]
noncomputable def AL:Code:=aI Tryz.f164
noncomputable def S8 (N n:Nat) (key:Nat) (S:St) (K:Ks):Option aa:=bif Nat.beq key 3 then az vk S (fun x=>o9 N x.2.1 x.2.2.1 n (fun z0=>K (.x 0) (shape xI (z0,()))) x.1 x.2.2.2.1) else none
theorem alH (N key:Nat) (S:St) (K:Ks):S8 N 0 key S K=none:=(bE (aq fun _=>rfl) rfl)
noncomputable def Oj:Code:=(af AL).getD 0 .skip
theorem alI:af AL=[Oj]:=by kernel_rfl
theorem aa8 (N:Nat):dU S7 (Xh N) (S8 N) N 3 vk Oj:=fun _ _ _=>by kernel_rfl
theorem alJ (N:Nat):bQ JA (afB N) S7 (Xh N) (S8 N N) Tryz.f164:=fun _ _=>by kernel_rfl
theorem alK {Γ:Gl} (N:Nat):Sound Γ Tryz.prog 164 (Oi N):=fq S7 Tryz.f164 AL (alH N) alI (alJ N) (rc (aa8 N) trivial) ⟨Dv N,trivial⟩
noncomputable def afC:Hint:={ tab,hn:=[],loops:=[],outs:=[],bp:=[] }
noncomputable def Dw:List AK:=[.v (.sl aM) .k]
noncomputable def JB (N:Nat) (x:ay Dw) (kf:aa→Option aa):Option aa:=ajD N x.1 (fun r0=>kf ⟨[⟨(.sl aM),(.o 104 none .k),r0⟩],[]⟩)
noncomputable def Ol (N:Nat):=ar Dw (JB N)
noncomputable def HY:Code:=aI Tryz.f165
theorem alL:af HY=[]:=by kernel_rfl
theorem alM (N:Nat):bQ Dw (JB N) afC [] (dP N N) Tryz.f165:=fun _ _=>by kernel_rfl
theorem afD (N:Nat) (x:ay Dw):cL (JB N x):=by
 obtain⟨l,u⟩:=x
 unfold JB ajD
 cases l with
 |nil=>exact⟨some _,fun K=>lH _⟩
 |cons a l=>
  simp only[List.isEmpty_cons,cond_false]
  exact cL.bif _ (cL.pure _) cL.none
theorem alN {Γ:Gl} (N:Nat):Sound Γ Tryz.prog 165 (Ol N):=iU (hh:=afC) mixed kT (es:=[]) trivial (fn:=Tryz.f165) (body:=HY) (by kernel_rfl) (by kernel_rfl) (by kernel_rfl) (by kernel_rfl) (by kernel_rfl) (Lf:=dP N) (S4 N) alL trivial (N:=N) (by kernel_rfl) (alM N) (.inr (afD N))
noncomputable def afE:Hint:={ tab,hn:=[],loops:=[],outs:=[],bp:=[] }
noncomputable def Dx:List AK:=[.v (.sl de) .k]
noncomputable def JC (N:Nat) (x:ay Dx) (kf:aa→Option aa):Option aa:=ajE N x.1 (fun r0=>kf ⟨[⟨(.sl de),(.o 136 none .k),r0⟩],[]⟩)
noncomputable def Om (N:Nat):=ar Dx (JC N)
noncomputable def HZ:Code:=aI Tryz.f167
theorem alO:af HZ=[]:=by kernel_rfl
theorem alP (N:Nat):bQ Dx (JC N) afE [] (dP N N) Tryz.f167:=fun _ _=>by kernel_rfl
theorem afF (N:Nat) (x:ay Dx):cL (JC N x):=by
 obtain⟨l,u⟩:=x
 unfold JC ajE
 cases l with
 |nil=>exact⟨some _,fun K=>lH _⟩
 |cons a l=>
  simp only[List.isEmpty_cons,cond_false]
  exact cL.bif _ (cL.pure _) cL.none
theorem alQ {Γ:Gl} (N:Nat):Sound Γ Tryz.prog 167 (Om N):=iU (hh:=afE) mixed kT (es:=[]) trivial (fn:=Tryz.f167) (body:=HZ) (by kernel_rfl) (by kernel_rfl) (by kernel_rfl) (by kernel_rfl) (by kernel_rfl) (Lf:=dP N) (S4 N) alO trivial (N:=N) (by kernel_rfl) (alP N) (.inr (afF N))
noncomputable def afG:Hint:={ tab,hn:=[],loops:=[],outs:=[],bp:=[] }
noncomputable def Dy:List AK:=[.v (.sl df) .k]
noncomputable def JD (N:Nat) (x:ay Dy) (kf:aa→Option aa):Option aa:=ZP N x.1 (fun r0=>kf ⟨[⟨(.sl df),(.o 102 none .k),r0⟩],[]⟩)
noncomputable def FN (N:Nat):=ar Dy (JD N)
noncomputable def H0:Code:=aI Tryz.f168
theorem alR:af H0=[]:=by kernel_rfl
theorem alS (N:Nat):bQ Dy (JD N) afG [] (dP N N) Tryz.f168:=fun _ _=>by kernel_rfl
theorem afH (N:Nat) (x:ay Dy):cL (JD N x):=by
 obtain⟨l,u⟩:=x
 unfold JD ZP
 cases l with
 |nil=>exact⟨some _,fun K=>lH _⟩
 |cons a l=>
  simp only[List.isEmpty_cons,cond_false]
  exact cL.bif _ (cL.pure _) cL.none
theorem Xi {Γ:Gl} (N:Nat):Sound Γ Tryz.prog 168 (FN N):=iU (hh:=afG) mixed kT (es:=[]) trivial (fn:=Tryz.f168) (body:=H0) (by kernel_rfl) (by kernel_rfl) (by kernel_rfl) (by kernel_rfl) (by kernel_rfl) (Lf:=dP N) (S4 N) alR trivial (N:=N) (by kernel_rfl) (alS N) (.inr (afH N))
noncomputable def asb:Hint:={ tab,hn:=[],loops:=[],outs:=[],bp:=[(1,(OT.seq [0,1,3,4,2,6,5,7,8,9] .done)),(2,(OT.seq [0,1,3,4,6,7,9,10,2,12,5,8,11,13,14,15,16,17,18,19] .done))] }
noncomputable def S9:List AK:=[.v bY .k]
noncomputable def asc (N:Nat) (x:ay S9) (kf:aa→Option aa):Option aa:=IE N x.1 (fun r0=>kf ⟨[⟨bY,(.p (.o 46 none (.p .k (.p .k (.p .k (.p .k (.p .k (.o 3 none .k))))))) (.p (.o 80 none (.p .k (.p .k (.o 3 none .k)))) (.p (.o 104 none .k) (.p (.o 3 none .k) (.p (.o 136 none .k) (.p (.o 102 none .k) .k)))))),r0⟩],[]⟩)
noncomputable def lC (N:Nat):=ar S9 (asc N)
noncomputable def ava (N:Nat):List Entry:=[⟨163,[.val],(FM N)⟩,⟨164,[.val],(Oi N)⟩,⟨165,[.val],(Ol N)⟩,⟨166,[.val],(rZ N)⟩,⟨167,[.val],(Om N)⟩,⟨168,[.val],(FN N)⟩]
theorem avb (N:Nat):bQ S9 (asc N) asb (ava N) (dP N N) Tryz.f70:=fun _ _=>by kernel_rfl
theorem r9 {Γ:Gl} (N:Nat):Sound Γ Tryz.prog 70 (lC N):=fo asb Tryz.f70 (avb N) ⟨Xg N,⟨alK N,⟨alN N,⟨Dv N,⟨alQ N,⟨Xi N,trivial⟩⟩⟩⟩⟩⟩
noncomputable def JE:List AK:=[.v bj .k,.v (.ptr (.int .i64)) .k]
noncomputable def afI (N:Nat) (x:ay JE) (kf:aa→Option aa):Option aa:=ajF N x.1 x.2.1 (fun r0=>kf ⟨[⟨.bool,.k,r0⟩],[]⟩)
noncomputable def On (N:Nat):=ar JE (afI N)
theorem alT (N:Nat):bQ JE (afI N) hq [] (dP N N) Tryz.f147:=fun _ _=>by kernel_rfl
theorem alU {Γ:Gl} (N:Nat):Sound Γ Tryz.prog 147 (On N):=fo hq Tryz.f147 (alT N) trivial
noncomputable def vl:List Kd:=.v (.sl bj) .k::.k8 147 [.kv (.ptr (.int .i64))]::dn 5 (.v (.int .i64) .k::.v (.int .i64) .k::dn 10 ([]))
noncomputable def xJ:List Kd:=dn 19 ([])
noncomputable def xK:List Kd:=dn 4 (.v (.int .i64) .k::dn 14 ([]))
noncomputable def Ta:Hint:={ tab,hn:=[],loops:=[(2,vl)],outs:=[(2,2,xJ),(2,1,xK)],bp:=[] }
noncomputable def JF:List AK:=[.v (.sl bj) .k,.fn 147 [(.ptr (.int .i64))]]
noncomputable def afJ (N:Nat) (x:ay JF) (kf:aa→Option aa):Option aa:=atJ N x.1 x.2.1.1 (fun r0=>kf ⟨[⟨(.int .i64),.k,r0⟩],[]⟩)
noncomputable def Oo (N:Nat):=ar JF (afJ N)
noncomputable def Xj (N:Nat):List Entry:=[⟨147,[.val],(On N)⟩]
noncomputable def AM:Code:=aI Tryz.f146
noncomputable def Tb (N n:Nat) (key:Nat) (S:St) (K:Ks):Option aa:=bif Nat.beq key 2 then az vl S (fun x=>pc N x.1 x.2.1.1 x.2.2.1 n (K (.x 0) (shape xJ ())) (fun z0=>K .r (shape xK (z0,()))) x.2.2.2.1) else none
theorem alV (N key:Nat) (S:St) (K:Ks):Tb N 0 key S K=none:=(bE (aq fun _=>rfl) rfl)
noncomputable def Oq:Code:=(af AM).getD 0 .skip
theorem alW:af AM=[Oq]:=by kernel_rfl
theorem aa9 (N:Nat):dU Ta (Xj N) (Tb N) N 2 vl Oq:=fun _ _ _=>by kernel_rfl
theorem alX (N:Nat):bQ JF (afJ N) Ta (Xj N) (Tb N N) Tryz.f146:=fun _ _=>by kernel_rfl
theorem alY {Γ:Gl} (N:Nat):Sound Γ Tryz.prog 146 (Oo N):=fq Ta Tryz.f146 AM (alV N) alW (alX N) (rc (aa9 N) trivial) ⟨alU N,trivial⟩
noncomputable def Tc:List AK:=[.v (.sl bj) .k,.v (.int .i64) .k]
noncomputable def asd (N:Nat) (x:ay Tc) (kf:aa→Option aa):Option aa:=Nb N x.1 x.2.1 (fun r0=>kf ⟨[⟨(.int .i64),.k,r0⟩],[]⟩)
noncomputable def lD (N:Nat):=ar Tc (asd N)
noncomputable def avc (N:Nat):List Entry:=[⟨146,[.val,.val],(Oo N)⟩]
theorem avd (N:Nat):bQ Tc (asd N) hq (avc N) (dP N N) Tryz.f40:=fun _ _=>by kernel_rfl
theorem se {Γ:Gl} (N:Nat):Sound Γ Tryz.prog 40 (lD N):=fo hq Tryz.f40 (avd N) ⟨alY N,trivial⟩
noncomputable def Td:List AK:=[.v bY .k]
noncomputable def ase (N:Nat) (x:ay Td) (kf:aa→Option aa):Option aa:=I16 N x.1 (fun r0=>kf ⟨[⟨.bool,.k,r0⟩],[]⟩)
noncomputable def s6 (N:Nat):=ar Td (ase N)
theorem ave (N:Nat):bQ Td (ase N) hq [] (dP N N) Tryz.f16:=fun _ _=>by kernel_rfl
theorem FP {Γ:Gl} (N:Nat):Sound Γ Tryz.prog 16 (s6 N):=fo hq Tryz.f16 (ave N) trivial
def afK:Go.Shelf.Ren:=⟨fun n=>bif Nat.beq n 22 then 135 else bif Nat.beq n 29 then 212 else bif Nat.beq n 30 then 213 else n,fun n=>bif Nat.beq n 0 then 0 else bif Nat.beq n 3 then 3 else bif Nat.beq n 4 then 4 else bif Nat.beq n 9 then 46 else bif Nat.beq n 24 then 24 else n,fun n=>n⟩
def alZ:Array Value:=#[.int .i64 0,.int .i64 0,.int .i64 0,.int .i64 0,.int .i64 0,.slice none 0 0]
noncomputable def al0:TypeInfo:=(Tryz.prog.info? 46).get (by kernel_rfl)
theorem afL:HT Tryz.prog afK (Ty.size bj) alZ al0:={ FB:=⟨Tryz.f135.name,by kernel_rfl,by kernel_rfl⟩,FO:=⟨Tryz.f212,by kernel_rfl,by kernel_rfl,by kernel_rfl,by kernel_rfl,by kernel_rfl⟩,mixed:=by kernel_rfl,t0:=by kernel_rfl,a0:=fun w=>by kernel_rfl,z0:=fun w=>by kernel_rfl,v0:=fun w=>by kernel_rfl,t3:=by kernel_rfl,a3:=fun w=>by kernel_rfl,z3:=fun w=>by kernel_rfl,v3:=fun w=>by kernel_rfl,t4:=by kernel_rfl,a4:=fun w=>by kernel_rfl,z4:=fun w=>by kernel_rfl,v4:=fun w=>by kernel_rfl,t24:=by kernel_rfl,a24:=fun w=>by kernel_rfl,z24:=fun w=>by kernel_rfl,v24:=fun w=>by kernel_rfl,z9:=fun w=>by kernel_rfl,hz:=by kernel_rfl,hzo:=by kernel_rfl,Iy:=by kernel_rfl,hz0:=by kernel_rfl,ML:=by kernel_rfl,hby:=Nat.le_of_ble_eq_true (by kernel_rfl),C7:=Nat.le_of_ble_eq_true (by kernel_rfl) }
noncomputable def Xk:List AK:=[.v (.sl bj) (.o 46 none (.p .k (.p .k (.p .k (.p .k (.p .k (.o 3 none .k))))))),.v (.int .i64) .k,.v (.sl bj) (.o 46 none (.p .k (.p .k (.p .k (.p .k (.p .k (.o 3 none .k)))))))]
noncomputable def avf (N:Nat) (x:ay Xk) (kf:aa→Option aa):Option aa:=ajG N x.1 x.2.1 x.2.2.1 (fun r0=>kf ⟨[⟨(.sl bj),(.o 46 none (.p .k (.p .k (.p .k (.p .k (.p .k (.o 3 none .k))))))),r0⟩],[]⟩)
noncomputable def Ot (N:Nat):=ar Xk (avf N)
theorem al1 {Γ:Gl} (N:Nat):Sound Γ Tryz.prog 135 (Ot N):=xG afL (.p .k (.p .k (.p .k (.p .k (.p .k (.o 3 none .k)))))) (by kernel_rfl)
noncomputable def JG:List AK:=[.v (.sl df) .k]
noncomputable def afM (N:Nat) (x:ay JG) (kf:aa→Option aa):Option aa:=atK N x.1 (fun r0=>kf ⟨[⟨(.int .i64),.k,r0⟩],[]⟩)
noncomputable def Ou (N:Nat):=ar JG (afM N)
theorem al2 (N:Nat):bQ JG (afM N) hq [] (dP N N) Tryz.f234:=fun _ _=>by kernel_rfl
theorem al3 {Γ:Gl} (N:Nat):Sound Γ Tryz.prog 234 (Ou N):=fo hq Tryz.f234 (al2 N) trivial
noncomputable def JH:List AK:=[.v (.int .i64) .k,.v (.int .i64) .k,.v (.int .i64) .k]
noncomputable def afN (N:Nat) (x:ay JH) (kf:aa→Option aa):Option aa:=eD N x.1 x.2.1 x.2.2.1 (fun r0=>kf ⟨[⟨.bool,.k,r0⟩],[]⟩)
noncomputable def kD (N:Nat):=ar JH (afN N)
theorem al4 (N:Nat):bQ JH (afN N) hq [] (dP N N) Tryz.f144:=fun _ _=>by kernel_rfl
theorem qh {Γ:Gl} (N:Nat):Sound Γ Tryz.prog 144 (kD N):=fo hq Tryz.f144 (al4 N) trivial
noncomputable def JI:List AK:=[.v (.int .i64) .k,.v (.int .i64) .k]
noncomputable def afO (N:Nat) (x:ay JI) (kf:aa→Option aa):Option aa:=ajH N x.1 x.2.1 (fun r0=>kf ⟨[⟨(.int .i64),.k,r0⟩],[]⟩)
noncomputable def Ov (N:Nat):=ar JI (afO N)
noncomputable def al5 (N:Nat):List Entry:=[⟨144,[.val,.val,.val],(kD N)⟩]
theorem al6 (N:Nat):bQ JI (afO N) hq (al5 N) (dP N N) Tryz.f262:=fun _ _=>by kernel_rfl
theorem al7 {Γ:Gl} (N:Nat):Sound Γ Tryz.prog 262 (Ov N):=fo hq Tryz.f262 (al6 N) ⟨qh N,trivial⟩
noncomputable def JJ:List AK:=[.v (.int .i64) .k,.v (.int .i64) .k]
noncomputable def afP (N:Nat) (x:ay JJ) (kf:aa→Option aa):Option aa:=ajI N x.1 x.2.1 (fun r0=>kf ⟨[⟨(.int .i64),.k,r0⟩],[]⟩)
noncomputable def Ow (N:Nat):=ar JJ (afP N)
noncomputable def al8 (N:Nat):List Entry:=[⟨262,[.val,.val],(Ov N)⟩]
theorem al9 (N:Nat):bQ JJ (afP N) hq (al8 N) (dP N N) Tryz.f249:=fun _ _=>by kernel_rfl
theorem al' {Γ:Gl} (N:Nat):Sound Γ Tryz.prog 249 (Ow N):=fo hq Tryz.f249 (al9 N) ⟨al7 N,trivial⟩
noncomputable def vm:List Kd:=dn 3 (.v (.int .i64) .k::dK::dK::.v (.sl (.int .i64)) .k::.v (.int .i64) .k::.v (.int .i64) .k::dn 8 ([]))
noncomputable def xL:List Kd:=dn 3 (.v (.int .i64) .k::dn 13 ([]))
noncomputable def Te:Hint:={ tab,hn:=[],loops:=[(3,vm)],outs:=[(3,2,xL)],bp:=[] }
noncomputable def JK:List AK:=[.v (.sl (.int .i64)) .k]
noncomputable def afQ (N:Nat) (x:ay JK) (kf:aa→Option aa):Option aa:=ajJ N x.1 (fun r0=>kf ⟨[⟨(.int .i64),.k,r0⟩],[]⟩)
noncomputable def Ox (N:Nat):=ar JK (afQ N)
noncomputable def Xl (N:Nat):List Entry:=[⟨249,[.val,.val],(Ow N)⟩]
noncomputable def AN:Code:=aI Tryz.f219
noncomputable def Tf (N n:Nat) (key:Nat) (S:St) (K:Ks):Option aa:=bif Nat.beq key 3 then az vm S (fun x=>pd N x.2.1 x.2.2.1 n (fun z0=>K (.x 0) (shape xL (z0,()))) x.1 x.2.2.2.1) else none
theorem ama (N key:Nat) (S:St) (K:Ks):Tf N 0 key S K=none:=(bE (aq fun _=>rfl) rfl)
noncomputable def Oy:Code:=(af AN).getD 0 .skip
theorem amb:af AN=[Oy]:=by kernel_rfl
theorem aa' (N:Nat):dU Te (Xl N) (Tf N) N 3 vm Oy:=fun _ _ _=>by kernel_rfl
theorem amc (N:Nat):bQ JK (afQ N) Te (Xl N) (Tf N N) Tryz.f219:=fun _ _=>by kernel_rfl
theorem amd {Γ:Gl} (N:Nat):Sound Γ Tryz.prog 219 (Ox N):=fq Te Tryz.f219 AN (ama N) amb (amc N) (rc (aa' N) trivial) ⟨al' N,trivial⟩
noncomputable def JL:List AK:=[.v (.int .i64) .k,.v df .k]
noncomputable def afR (N:Nat) (x:ay JL) (kf:aa→Option aa):Option aa:=R0 N x.1 x.2.1 (fun r0=>kf ⟨[⟨(.int .i64),.k,r0⟩],[]⟩)
noncomputable def FQ (N:Nat):=ar JL (afR N)
noncomputable def ame (N:Nat):List Entry:=[⟨219,[.val],(Ox N)⟩]
theorem amf (N:Nat):bQ JL (afR N) hq (ame N) (dP N N) Tryz.f169:=fun _ _=>by kernel_rfl
theorem Xm {Γ:Gl} (N:Nat):Sound Γ Tryz.prog 169 (FQ N):=fo hq Tryz.f169 (amf N) ⟨amd N,trivial⟩
noncomputable def AO:List Kd:=dn 3 (.v (.int .i64) .k::dn 5 (.v (.sl df) .k::.v (.int .i64) .k::.v (.int .i64) .k::dn 32 ([])))
noncomputable def Cz:List Kd:=dn 44 ([])
noncomputable def CA:List Kd:=dK::dK::.v .bool .k::dn 41 ([])
noncomputable def afS:Hint:={ tab,hn:=[],loops:=[(5,AO)],outs:=[(5,2,Cz),(5,1,CA)],bp:=[(7,(OT.seq [0,1,2,3,4,5,6,7,8,9,10,11,12,13,14,15,16,17,18,19,20,21,22,23,24] .done))] }
noncomputable def Tg:List AK:=[.v (.sl df) .k]
noncomputable def asf (N:Nat) (x:ay Tg) (kf:aa→Option aa):Option aa:=I75 N x.1 (fun r0=>kf ⟨[⟨.bool,.k,r0⟩],[]⟩)
noncomputable def JM (N:Nat):=ar Tg (asf N)
noncomputable def afT (N:Nat):List Entry:=[⟨144,[.val,.val,.val],(kD N)⟩,⟨169,[.val,.val],(FQ N)⟩]
noncomputable def FR:Code:=aI Tryz.f75
noncomputable def afU (N n:Nat) (key:Nat) (S:St) (K:Ks):Option aa:=bif Nat.beq key 5 then az AO S (fun x=>uI N x.2.1 x.2.2.1 n (K (.x 0) (shape Cz ())) (fun z0=>K .r (shape CA (z0,()))) x.1 x.2.2.2.1) else none
theorem avg (N key:Nat) (S:St) (K:Ks):afU N 0 key S K=none:=(bE (aq fun _=>rfl) rfl)
noncomputable def Xn:Code:=(af FR).getD 0 .skip
theorem avh:af FR=[Xn]:=by kernel_rfl
theorem afV (N:Nat):dU afS (afT N) (afU N) N 5 AO Xn:=fun _ _ _=>by kernel_rfl
theorem avi (N:Nat):bQ Tg (asf N) afS (afT N) (afU N N) Tryz.f75:=fun _ _=>by kernel_rfl
theorem afW {Γ:Gl} (N:Nat):Sound Γ Tryz.prog 75 (JM N):=fq afS Tryz.f75 FR (avg N) avh (avi N) (rc (afV N) trivial) ⟨qh N,⟨Xm N,trivial⟩⟩
noncomputable def afX:Hint:={ tab,hn:=[],loops:=[],outs:=[],bp:=[(2,(OT.seq [0,2,1,3,4,5] .done)),(3,(OT.seq [0,2] (.any [1,3] (OT.seq [4,5] .done))))] }
noncomputable def JN:List AK:=[.v (.sl df) .k,.v (.int .i64) .k,.v (.int .i64) .k]
noncomputable def afY (N:Nat) (x:ay JN) (kf:aa→Option aa):Option aa:=ajK N x.1 x.2.1 x.2.2.1 (fun r0 r1=>kf ⟨[⟨(.sl df),(.o 102 none .k),r0⟩,⟨.bool,.k,r1⟩],[]⟩)
noncomputable def Oz (N:Nat):=ar JN (afY N)
noncomputable def amg (N:Nat):List Entry:=[⟨234,[.val],(Ou N)⟩,⟨169,[.val,.val],(FQ N)⟩,⟨168,[.val],(FN N)⟩,⟨75,[.val],(JM N)⟩]
theorem amh (N:Nat):bQ JN (afY N) afX (amg N) (dP N N) Tryz.f189:=fun _ _=>by kernel_rfl
theorem ami {Γ:Gl} (N:Nat):Sound Γ Tryz.prog 189 (Oz N):=fo afX Tryz.f189 (amh N) ⟨al3 N,⟨Xm N,⟨Xi N,⟨afW N,trivial⟩⟩⟩⟩
noncomputable def AP:List Kd:=dK::.v (.int .i64) .k::dn 3 (.v (.int .i64) .k::dK::dK::.v (.sl (.int .i64)) .k::.v (.int .i64) .k::.v (.int .i64) .k::dn 10 ([]))
noncomputable def CB:List Kd:=dn 5 (.v (.int .i64) .k::dn 15 ([]))
noncomputable def afZ:Hint:={ tab,hn:=[],loops:=[(3,AP)],outs:=[(3,2,CB)],bp:=[] }
noncomputable def Th:List AK:=[.v (.sl (.int .i64)) .k,.v (.int .i64) .k]
noncomputable def asg (N:Nat) (x:ay Th) (kf:aa→Option aa):Option aa:=I78 N x.1 x.2.1 (fun r0=>kf ⟨[⟨(.int .i64),.k,r0⟩],[]⟩)
noncomputable def JO (N:Nat):=ar Th (asg N)
noncomputable def FT:Code:=aI Tryz.f78
noncomputable def af0 (N n:Nat) (key:Nat) (S:St) (K:Ks):Option aa:=bif Nat.beq key 3 then az AP S (fun x=>rv x.1 x.2.2.1 x.2.2.2.1 n (fun z0=>K (.x 0) (shape CB (z0,()))) x.2.1 x.2.2.2.2.1) else none
theorem avj (N key:Nat) (S:St) (K:Ks):af0 N 0 key S K=none:=(bE (aq fun _=>rfl) rfl)
noncomputable def Xo:Code:=(af FT).getD 0 .skip
theorem avk:af FT=[Xo]:=by kernel_rfl
theorem af1 (N:Nat):dU afZ [] (af0 N) N 3 AP Xo:=fun _ _ _=>by kernel_rfl
theorem avl (N:Nat):bQ Th (asg N) afZ [] (af0 N N) Tryz.f78:=fun _ _=>by kernel_rfl
theorem af2 {Γ:Gl} (N:Nat):Sound Γ Tryz.prog 78 (JO N):=fq afZ Tryz.f78 FT (avj N) avk (avl N) (rc (af1 N) trivial) trivial
noncomputable def sh:List Kd:=.v (.sl bj) .k::dn 3 (.v (.ptr bj) (.o 46 none .k)::dn 7 (.v (.sl bj) .k::.v (.int .i64) .k::.v (.int .i64) .k::dn 57 (.v (.sl (.int .i64)) .k::.v (.int .i64) .k::.v (.int .i64) .k::dn 31 ([]))))
noncomputable def tV:List Kd:=.v (.sl bj) .k::dn 11 (.v (.sl bj) .k::.v (.int .i64) .k::.v (.int .i64) .k::dn 91 ([]))
noncomputable def tW:List Kd:=dK::dK::.v .bool .k::dn 103 ([])
noncomputable def vn:List Kd:=.v (.sl bj) .k::dn 11 (.v (.sl bj) .k::.v (.int .i64) .k::.v (.int .i64) .k::dn 91 ([]))
noncomputable def xM:List Kd:=dn 106 ([])
noncomputable def xN:List Kd:=dK::dK::.v .bool .k::dn 103 ([])
noncomputable def JP:Hint:={ tab,hn:=[],loops:=[(10,sh),(4,vn)],outs:=[(10,4,tV),(10,1,tW),(4,2,xM),(4,1,xN)],bp:=[(7,(OT.seq [0,1,2,3,4,5,6,7,8,9,10,11,12,13,14,15,16,17,18,19,20,21,22,23,24,25,26,27,28,29,30,31,32,33,34,35,36,37,38,39,40,41,42,43,44,45,46,47,48] .done)),(13,(OT.seq [0,1,2,3,4,5,6,7,8,9,10,11,13,14,15,16,17,18,19,12,20,21,22] .done))] }
noncomputable def JQ:List AK:=[.v (.sl bj) .k]
noncomputable def af3 (N:Nat) (x:ay JQ) (kf:aa→Option aa):Option aa:=As N x.1 (fun r0=>kf ⟨[⟨.bool,.k,r0⟩],[]⟩)
noncomputable def jn (N:Nat):=ar JQ (af3 N)
noncomputable def JR (N:Nat):List Entry:=[⟨144,[.val,.val,.val],(kD N)⟩,⟨40,[.val,.val],(lD N)⟩,⟨78,[.val,.val],(JO N)⟩]
noncomputable def s7:Code:=aI Tryz.f143
noncomputable def JS (N n:Nat) (key:Nat) (S:St) (K:Ks):Option aa:=bif Nat.beq key 4 then az vn S (fun x=>mQ N x.1 x.2.1 x.2.2.1 n (K (.x 0) (shape xM ())) (fun z0=>K .r (shape xN (z0,()))) x.2.2.2.1) else bif Nat.beq key 10 then az sh S (fun x=>gL N x.1 x.2.1 x.2.2.1 x.2.2.2.1 x.2.2.2.2.1 x.2.2.2.2.2.1 x.2.2.2.2.2.2.1 n (K (.x 2) (shape tV (x.1,x.2.2.1,x.2.2.2.1,x.2.2.2.2.1,()))) (fun z0=>K .r (shape tW (z0,()))) x.2.2.2.2.2.2.2.1) else none
theorem amj (N key:Nat) (S:St) (K:Ks):JS N 0 key S K=none:=(bE (aq fun _=>rfl) (bE (aq fun _=>rfl) rfl))
noncomputable def OA:Code:=(af s7).getD 0 .skip
noncomputable def OB:Code:=(af s7).getD 1 .skip
theorem amk:af s7=[OA,OB]:=by kernel_rfl
theorem Ti (N:Nat):dU JP (JR N) (JS N) N 10 sh OB:=fun _ _ _=>by kernel_rfl
theorem aba (N:Nat):dU JP (JR N) (JS N) N 4 vn OA:=fun _ _ _=>by kernel_rfl
theorem aml (N:Nat):bQ JQ (af3 N) JP (JR N) (JS N N) Tryz.f143:=fun _ _=>by kernel_rfl
theorem nk {Γ:Gl} (N:Nat):Sound Γ Tryz.prog 143 (jn N):=fq JP Tryz.f143 s7 (amj N) amk (aml N) (rc (aba N) (rc (Ti N) trivial)) ⟨qh N,⟨se N,⟨af2 N,trivial⟩⟩⟩
noncomputable def AQ:List Kd:=.v (.sl bS) .k::dn 3 (.v (.ptr bS) (.o 80 none .k)::dn 5 (.v (.sl bS) .k::.v (.int .i64) .k::.v (.int .i64) .k::dn 30 (.v (.sl (.int .i64)) .k::.v (.int .i64) .k::.v (.int .i64) .k::dn 23 ([]))))
noncomputable def CC:List Kd:=.v (.sl bS) .k::dn 9 (.v (.sl bS) .k::.v (.int .i64) .k::.v (.int .i64) .k::dn 56 ([]))
noncomputable def CD:List Kd:=dK::dK::.v .bool .k::dn 66 ([])
noncomputable def AR:List Kd:=.v (.sl bS) .k::dn 9 (.v (.sl bS) .k::.v (.int .i64) .k::.v (.int .i64) .k::dn 56 ([]))
noncomputable def CE:List Kd:=dn 69 ([])
noncomputable def CF:List Kd:=dK::dK::.v .bool .k::dn 66 ([])
noncomputable def Xp:Hint:={ tab,hn:=[],loops:=[(9,AQ),(4,AR)],outs:=[(9,4,CC),(9,1,CD),(4,2,CE),(4,1,CF)],bp:=[(6,(OT.seq [0,1,2,3,4,5,6,7,8,9,10,11,12,13,14,15,16,17,18,19,20,21,22,23,24] .done))] }
noncomputable def Tj:List AK:=[.v (.sl bS) .k]
noncomputable def ash (N:Nat) (x:ay Tj) (kf:aa→Option aa):Option aa:=I79 N x.1 (fun r0=>kf ⟨[⟨.bool,.k,r0⟩],[]⟩)
noncomputable def Dz (N:Nat):=ar Tj (ash N)
noncomputable def Tk (N:Nat):List Entry:=[⟨144,[.val,.val,.val],(kD N)⟩]
noncomputable def xO:Code:=aI Tryz.f79
noncomputable def Xq (N n:Nat) (key:Nat) (S:St) (K:Ks):Option aa:=bif Nat.beq key 4 then az AR S (fun x=>ry N x.1 x.2.1 x.2.2.1 n (K (.x 0) (shape CE ())) (fun z0=>K .r (shape CF (z0,()))) x.2.2.2.1) else bif Nat.beq key 9 then az AQ S (fun x=>l9 N x.1 x.2.1 x.2.2.1 x.2.2.2.1 x.2.2.2.2.1 x.2.2.2.2.2.1 x.2.2.2.2.2.2.1 n (K (.x 2) (shape CC (x.1,x.2.2.1,x.2.2.2.1,x.2.2.2.2.1,()))) (fun z0=>K .r (shape CD (z0,()))) x.2.2.2.2.2.2.2.1) else none
theorem avm (N key:Nat) (S:St) (K:Ks):Xq N 0 key S K=none:=(bE (aq fun _=>rfl) (bE (aq fun _=>rfl) rfl))
noncomputable def Xr:Code:=(af xO).getD 0 .skip
noncomputable def Xs:Code:=(af xO).getD 1 .skip
theorem avn:af xO=[Xr,Xs]:=by kernel_rfl
theorem af4 (N:Nat):dU Xp (Tk N) (Xq N) N 9 AQ Xs:=fun _ _ _=>by kernel_rfl
theorem af5 (N:Nat):dU Xp (Tk N) (Xq N) N 4 AR Xr:=fun _ _ _=>by kernel_rfl
theorem avo (N:Nat):bQ Tj (ash N) Xp (Tk N) (Xq N N) Tryz.f79:=fun _ _=>by kernel_rfl
theorem Tl {Γ:Gl} (N:Nat):Sound Γ Tryz.prog 79 (Dz N):=fq Xp Tryz.f79 xO (avm N) avn (avo N) (rc (af5 N) (rc (af4 N) trivial)) ⟨qh N,trivial⟩
noncomputable def vo:List Kd:=.v (.sl (.int .i64)) .k::.v (.int .i64) .k::dn 5 (.v (.int .i64) .k::.v (.int .i64) .k::dn 10 ([]))
noncomputable def xP:List Kd:=dn 19 ([])
noncomputable def xQ:List Kd:=dn 4 (.v (.int .i64) .k::dn 14 ([]))
noncomputable def Tm:Hint:={ tab,hn:=[],loops:=[(2,vo)],outs:=[(2,2,xP),(2,1,xQ)],bp:=[] }
noncomputable def JT:List AK:=[.v (.sl (.int .i64)) .k,.v (.int .i64) .k]
noncomputable def af6 (N:Nat) (x:ay JT) (kf:aa→Option aa):Option aa:=R8 N x.1 x.2.1 (fun r0=>kf ⟨[⟨(.int .i64),.k,r0⟩],[]⟩)
noncomputable def FU (N:Nat):=ar JT (af6 N)
noncomputable def AS:Code:=aI Tryz.f170
noncomputable def Tn (N n:Nat) (key:Nat) (S:St) (K:Ks):Option aa:=bif Nat.beq key 2 then az vo S (fun x=>po x.1 x.2.1 x.2.2.1 n (K (.x 0) (shape xP ())) (fun z0=>K .r (shape xQ (z0,()))) x.2.2.2.1) else none
theorem amm (N key:Nat) (S:St) (K:Ks):Tn N 0 key S K=none:=(bE (aq fun _=>rfl) rfl)
noncomputable def OC:Code:=(af AS).getD 0 .skip
theorem amn:af AS=[OC]:=by kernel_rfl
theorem abb (N:Nat):dU Tm [] (Tn N) N 2 vo OC:=fun _ _ _=>by kernel_rfl
theorem amo (N:Nat):bQ JT (af6 N) Tm [] (Tn N N) Tryz.f170:=fun _ _=>by kernel_rfl
theorem Xt {Γ:Gl} (N:Nat):Sound Γ Tryz.prog 170 (FU N):=fq Tm Tryz.f170 AS (amm N) amn (amo N) (rc (abb N) trivial) trivial
noncomputable def To:List AK:=[.v (.sl (.int .i64)) .k,.v (.int .i64) .k]
noncomputable def asi (N:Nat) (x:ay To) (kf:aa→Option aa):Option aa:=S82 N x.1 x.2.1 (fun r0=>kf ⟨[⟨.bool,.k,r0⟩],[]⟩)
noncomputable def xR (N:Nat):=ar To (asi N)
noncomputable def avp (N:Nat):List Entry:=[⟨170,[.val,.val],(FU N)⟩]
theorem avq (N:Nat):bQ To (asi N) hq (avp N) (dP N N) Tryz.f82:=fun _ _=>by kernel_rfl
theorem JU {Γ:Gl} (N:Nat):Sound Γ Tryz.prog 82 (xR N):=fo hq Tryz.f82 (avq N) ⟨Xt N,trivial⟩
noncomputable def Tp:List AK:=[.v (.sl bj) .k,.v (.int .i64) .k,.v (.int .i64) .k]
noncomputable def asj (N:Nat) (x:ay Tp) (kf:aa→Option aa):Option aa:=I19 N x.1 x.2.1 x.2.2.1 (fun r0=>kf ⟨[⟨.bool,.k,r0⟩],[]⟩)
noncomputable def Xu (N:Nat):=ar Tp (asj N)
noncomputable def avr (N:Nat):List Entry:=[⟨40,[.val,.val],(lD N)⟩,⟨82,[.val,.val],(xR N)⟩]
theorem avs (N:Nat):bQ Tp (asj N) hq (avr N) (dP N N) Tryz.f19:=fun _ _=>by kernel_rfl
theorem avt {Γ:Gl} (N:Nat):Sound Γ Tryz.prog 19 (Xu N):=fo hq Tryz.f19 (avs N) ⟨se N,⟨JU N,trivial⟩⟩
noncomputable def asl:Hint:={ tab,hn:=[],loops:=[],outs:=[],bp:=[(2,(OT.seq [0,1,2,3,4,5,6,7,8,9,10,11,12,13,14,15,16,17,18,19,20,21,22,23,24,25,26,27,28,29,30,31,32,33,34,35] .done))] }
noncomputable def Tq:List AK:=[.v (.sl bj) .k,.v (.int .i64) .k,.v (.int .i64) .k]
noncomputable def asm (N:Nat) (x:ay Tq) (kf:aa→Option aa):Option aa:=I77 N x.1 x.2.1 x.2.2.1 (fun r0=>kf ⟨[⟨.bool,.k,r0⟩],[]⟩)
noncomputable def JV (N:Nat):=ar Tq (asm N)
noncomputable def avu (N:Nat):List Entry:=[⟨40,[.val,.val],(lD N)⟩,⟨143,[.val],(jn N)⟩,⟨19,[.val,.val,.val],(Xu N)⟩]
theorem avv (N:Nat):bQ Tq (asm N) asl (avu N) (dP N N) Tryz.f77:=fun _ _=>by kernel_rfl
theorem af7 {Γ:Gl} (N:Nat):Sound Γ Tryz.prog 77 (JV N):=fo asl Tryz.f77 (avv N) ⟨se N,⟨nk N,⟨avt N,trivial⟩⟩⟩
noncomputable def AT:List Kd:=.v (.sl bj) .k::dn 4 (.v (.sl (.int .i64)) (.o 3 none .k)::dn 5 (.v (.sl aM) .k::.v (.int .i64) .k::.v (.int .i64) .k::dn 30 ([])))
noncomputable def CG:List Kd:=.v (.sl bj) .k::dn 4 (.v (.sl (.int .i64)) (.o 3 none .k)::dn 38 ([]))
noncomputable def CH:List Kd:=dn 4 (.v .bool .k::dn 39 ([]))
noncomputable def vp:List Kd:=dn 5 (.v (.sl (.int .i64)) (.o 3 none .k)::dn 26 (.v (.sl bj) .k::.v (.int .i64) .k::.v (.int .i64) .k::dn 9 ([])))
noncomputable def xS:List Kd:=dn 44 ([])
noncomputable def xT:List Kd:=dn 4 (.v .bool .k::dn 39 ([]))
noncomputable def Xv:Hint:={ tab,hn:=[],loops:=[(3,AT),(10,vp)],outs:=[(3,2,CG),(3,1,CH),(10,4,xS),(10,1,xT)],bp:=[] }
noncomputable def Tr:List AK:=[.v (.sl bj) .k,.v (.sl aM) .k]
noncomputable def asn (N:Nat) (x:ay Tr) (kf:aa→Option aa):Option aa:=I17 N x.1 x.2.1 (fun r0=>kf ⟨[⟨.bool,.k,r0⟩],[]⟩)
noncomputable def Xw (N:Nat):=ar Tr (asn N)
noncomputable def Tt (N:Nat):List Entry:=[⟨77,[.val,.val,.val],(JV N)⟩,⟨78,[.val,.val],(JO N)⟩]
noncomputable def xU:Code:=aI Tryz.f17
noncomputable def Xx (N n:Nat) (key:Nat) (S:St) (K:Ks):Option aa:=bif Nat.beq key 3 then az AT S (fun x=>uK N x.1 x.2.2.1 x.2.2.2.1 n (fun z0=>K (.x 0) (shape CG (x.1,z0,()))) (fun z0=>K .r (shape CH (z0,()))) x.2.1 x.2.2.2.2.1) else bif Nat.beq key 10 then az vp S (fun x=>pq N x.1 x.2.1 x.2.2.1 n (K (.x 2) (shape xS ())) (fun z0=>K .r (shape xT (z0,()))) x.2.2.2.1) else none
theorem avw (N key:Nat) (S:St) (K:Ks):Xx N 0 key S K=none:=(bE (aq fun _=>rfl) (bE (aq fun _=>rfl) rfl))
noncomputable def Xy:Code:=(af xU).getD 0 .skip
noncomputable def Xz:Code:=(af xU).getD 1 .skip
theorem avx:af xU=[Xy,Xz]:=by kernel_rfl
theorem abc (N:Nat):dU Xv (Tt N) (Xx N) N 10 vp Xz:=fun _ _ _=>by kernel_rfl
theorem af8 (N:Nat):dU Xv (Tt N) (Xx N) N 3 AT Xy:=fun _ _ _=>by kernel_rfl
theorem avy (N:Nat):bQ Tr (asn N) Xv (Tt N) (Xx N N) Tryz.f17:=fun _ _=>by kernel_rfl
theorem avz {Γ:Gl} (N:Nat):Sound Γ Tryz.prog 17 (Xw N):=fq Xv Tryz.f17 xU (avw N) avx (avy N) (rc (af8 N) (rc (abc N) trivial)) ⟨af7 N,⟨af2 N,trivial⟩⟩
noncomputable def Tu:List AK:=[.v bS .k,.v (.ptr (.int .i64)) .k]
noncomputable def aso (N:Nat) (x:ay Tu) (kf:aa→Option aa):Option aa:=I81 N x.1 x.2.1 (fun r0=>kf ⟨[⟨.bool,.k,r0⟩],[]⟩)
noncomputable def XA (N:Nat):=ar Tu (aso N)
theorem avA (N:Nat):bQ Tu (aso N) hq [] (dP N N) Tryz.f81:=fun _ _=>by kernel_rfl
theorem avB {Γ:Gl} (N:Nat):Sound Γ Tryz.prog 81 (XA N):=fo hq Tryz.f81 (avA N) trivial
noncomputable def AU:List Kd:=.v (.sl bS) .k::.k8 81 [.kv (.ptr (.int .i64))]::dn 5 (.v (.int .i64) .k::.v (.int .i64) .k::dn 10 ([]))
noncomputable def CI:List Kd:=dn 19 ([])
noncomputable def CJ:List Kd:=dn 4 (.v (.int .i64) .k::dn 14 ([]))
noncomputable def af9:Hint:={ tab,hn:=[],loops:=[(2,AU)],outs:=[(2,2,CI),(2,1,CJ)],bp:=[] }
noncomputable def Tv:List AK:=[.v (.sl bS) .k,.fn 81 [(.ptr (.int .i64))]]
noncomputable def asp (N:Nat) (x:ay Tv) (kf:aa→Option aa):Option aa:=S80 N x.1 x.2.1.1 (fun r0=>kf ⟨[⟨(.int .i64),.k,r0⟩],[]⟩)
noncomputable def XB (N:Nat):=ar Tv (asp N)
noncomputable def af' (N:Nat):List Entry:=[⟨81,[.val],(XA N)⟩]
noncomputable def FV:Code:=aI Tryz.f80
noncomputable def aga (N n:Nat) (key:Nat) (S:St) (K:Ks):Option aa:=bif Nat.beq key 2 then az AU S (fun x=>uL N x.1 x.2.1.1 x.2.2.1 n (K (.x 0) (shape CI ())) (fun z0=>K .r (shape CJ (z0,()))) x.2.2.2.1) else none
theorem avC (N key:Nat) (S:St) (K:Ks):aga N 0 key S K=none:=(bE (aq fun _=>rfl) rfl)
noncomputable def XC:Code:=(af FV).getD 0 .skip
theorem avD:af FV=[XC]:=by kernel_rfl
theorem agb (N:Nat):dU af9 (af' N) (aga N) N 2 AU XC:=fun _ _ _=>by kernel_rfl
theorem avE (N:Nat):bQ Tv (asp N) af9 (af' N) (aga N N) Tryz.f80:=fun _ _=>by kernel_rfl
theorem avF {Γ:Gl} (N:Nat):Sound Γ Tryz.prog 80 (XB N):=fq af9 Tryz.f80 FV (avC N) avD (avE N) (rc (agb N) trivial) ⟨avB N,trivial⟩
noncomputable def AW:List Kd:=.v (.sl bj) .k::dn 3 (.v (.ptr bS) (.o 80 none .k)::dn 9 (.v (.sl (.int .i64)) (.o 3 none .k)::.v (.int .i64) .k::.v (.int .i64) .k::dn 25 ([])))
noncomputable def CL:List Kd:=dn 42 ([])
noncomputable def CM:List Kd:=dn 6 (.v .bool .k::dn 35 ([]))
noncomputable def agc:Hint:={ tab,hn:=[],loops:=[(2,AW)],outs:=[(2,2,CL),(2,1,CM)],bp:=[(5,(OT.seq [0,1,2,3,4,5,6,7,8,9,10,11,12,13,14,15,16,17] .done))] }
noncomputable def Tw:List AK:=[.v (.sl bj) .k,.v bS .k,.v aM .k]
noncomputable def asq (N:Nat) (x:ay Tw) (kf:aa→Option aa):Option aa:=I83 N x.1 x.2.1 x.2.2.1 (fun r0=>kf ⟨[⟨.bool,.k,r0⟩],[]⟩)
noncomputable def JW (N:Nat):=ar Tw (asq N)
noncomputable def agd (N:Nat):List Entry:=[⟨40,[.val,.val],(lD N)⟩,⟨82,[.val,.val],(xR N)⟩]
noncomputable def FW:Code:=aI Tryz.f83
noncomputable def age (N n:Nat) (key:Nat) (S:St) (K:Ks):Option aa:=bif Nat.beq key 2 then az AW S (fun x=>uM N x.1 x.2.1 x.2.2.1 x.2.2.2.1 n (K (.x 0) (shape CL ())) (fun z0=>K .r (shape CM (z0,()))) x.2.2.2.2.1) else none
theorem avG (N key:Nat) (S:St) (K:Ks):age N 0 key S K=none:=(bE (aq fun _=>rfl) rfl)
noncomputable def XD:Code:=(af FW).getD 0 .skip
theorem avH:af FW=[XD]:=by kernel_rfl
theorem agf (N:Nat):dU agc (agd N) (age N) N 2 AW XD:=fun _ _ _=>by kernel_rfl
theorem avI (N:Nat):bQ Tw (asq N) agc (agd N) (age N N) Tryz.f83:=fun _ _=>by kernel_rfl
theorem agh {Γ:Gl} (N:Nat):Sound Γ Tryz.prog 83 (JW N):=fq agc Tryz.f83 FW (avG N) avH (avI N) (rc (agf N) trivial) ⟨se N,⟨JU N,trivial⟩⟩
noncomputable def AX:List Kd:=.v (.sl bj) .k::.v (.sl bS) .k::.v (.sl aM) .k::.v (.sl (.int .i64)) .k::dn 18 (.v (.sl (.int .i64)) .k::.v (.int .i64) .k::.v (.int .i64) .k::dn 30 ([]))
noncomputable def CN:List Kd:=dn 55 ([])
noncomputable def CO:List Kd:=dn 8 (.v .bool .k::dn 46 ([]))
noncomputable def agi:Hint:={ tab,hn:=[],loops:=[(4,AX)],outs:=[(4,2,CN),(4,1,CO)],bp:=[(7,(OT.seq [0,1,2,3,4,5,6,7,8,9,10,11,12,13,14,15,16,17,18,19,20,21] .done))] }
noncomputable def Tx:List AK:=[.v (.sl bj) .k,.v (.sl bS) .k,.v (.sl aM) .k,.v (.sl (.int .i64)) .k]
noncomputable def asr (N:Nat) (x:ay Tx) (kf:aa→Option aa):Option aa:=I18 N x.1 x.2.1 x.2.2.1 x.2.2.2.1 (fun r0=>kf ⟨[⟨.bool,.k,r0⟩],[]⟩)
noncomputable def XE (N:Nat):=ar Tx (asr N)
noncomputable def agj (N:Nat):List Entry:=[⟨79,[.val],(Dz N)⟩,⟨80,[.val,.val],(XB N)⟩,⟨82,[.val,.val],(xR N)⟩,⟨83,[.val,.val,.val],(JW N)⟩]
noncomputable def FX:Code:=aI Tryz.f18
noncomputable def agk (N n:Nat) (key:Nat) (S:St) (K:Ks):Option aa:=bif Nat.beq key 4 then az AX S (fun x=>uN N x.1 x.2.1 x.2.2.1 x.2.2.2.1 x.2.2.2.2.1 x.2.2.2.2.2.1 n (K (.x 0) (shape CN ())) (fun z0=>K .r (shape CO (z0,()))) x.2.2.2.2.2.2.1) else none
theorem avJ (N key:Nat) (S:St) (K:Ks):agk N 0 key S K=none:=(bE (aq fun _=>rfl) rfl)
noncomputable def XF:Code:=(af FX).getD 0 .skip
theorem avK:af FX=[XF]:=by kernel_rfl
theorem agl (N:Nat):dU agi (agj N) (agk N) N 4 AX XF:=fun _ _ _=>by kernel_rfl
theorem avL (N:Nat):bQ Tx (asr N) agi (agj N) (agk N N) Tryz.f18:=fun _ _=>by kernel_rfl
theorem avM {Γ:Gl} (N:Nat):Sound Γ Tryz.prog 18 (XE N):=fq agi Tryz.f18 FX (avJ N) avK (avL N) (rc (agl N) trivial) ⟨Tl N,⟨avF N,⟨JU N,⟨agh N,trivial⟩⟩⟩⟩
noncomputable def JX:List AK:=[.v de .k]
noncomputable def agm (N:Nat) (x:ay JX) (kf:aa→Option aa):Option aa:=Nh N x.1 (fun r0=>kf ⟨[⟨.bool,.k,r0⟩],[]⟩)
noncomputable def xV (N:Nat):=ar JX (agm N)
noncomputable def amp (N:Nat):List Entry:=[⟨144,[.val,.val,.val],(kD N)⟩]
theorem amq (N:Nat):bQ JX (agm N) hq (amp N) (dP N N) Tryz.f138:=fun _ _=>by kernel_rfl
theorem JY {Γ:Gl} (N:Nat):Sound Γ Tryz.prog 138 (xV N):=fo hq Tryz.f138 (amq N) ⟨qh N,trivial⟩
noncomputable def vq:List Kd:=dn 3 (.v (.int .i64) .k::dn 6 (.v (.sl bj) .k::.v (.int .i64) .k::.v (.int .i64) .k::dn 9 ([])))
noncomputable def xW:List Kd:=dn 3 (.v (.int .i64) .k::dn 18 ([]))
noncomputable def Tz:Hint:={ tab,hn:=[],loops:=[(5,vq)],outs:=[(5,2,xW)],bp:=[] }
noncomputable def JZ:List AK:=[.v (.sl bj) .k]
noncomputable def agn (N:Nat) (x:ay JZ) (kf:aa→Option aa):Option aa:=ajL N x.1 (fun r0=>kf ⟨[⟨(.int .i64),.k,r0⟩],[]⟩)
noncomputable def OD (N:Nat):=ar JZ (agn N)
noncomputable def XG (N:Nat):List Entry:=[⟨143,[.val],(jn N)⟩]
noncomputable def AY:Code:=aI Tryz.f145
noncomputable def TA (N n:Nat) (key:Nat) (S:St) (K:Ks):Option aa:=bif Nat.beq key 5 then az vq S (fun x=>pr x.2.1 x.2.2.1 n (fun z0=>K (.x 0) (shape xW (z0,()))) x.1 x.2.2.2.1) else none
theorem amr (N key:Nat) (S:St) (K:Ks):TA N 0 key S K=none:=(bE (aq fun _=>rfl) rfl)
noncomputable def OE:Code:=(af AY).getD 0 .skip
theorem ams:af AY=[OE]:=by kernel_rfl
theorem abd (N:Nat):dU Tz (XG N) (TA N) N 5 vq OE:=fun _ _ _=>by kernel_rfl
theorem amt (N:Nat):bQ JZ (agn N) Tz (XG N) (TA N N) Tryz.f145:=fun _ _=>by kernel_rfl
theorem amu {Γ:Gl} (N:Nat):Sound Γ Tryz.prog 145 (OD N):=fq Tz Tryz.f145 AY (amr N) ams (amt N) (rc (abd N) trivial) ⟨nk N,trivial⟩
noncomputable def AZ:List Kd:=dK::.v (.ptr bY) (.o 31 none .k)::dn 60 (.v (.sl de) .k::.v (.int .i64) .k::.v (.int .i64) .k::dn 34 ([]))
noncomputable def CP:List Kd:=dK::.v (.ptr bY) (.o 31 none .k)::dn 97 ([])
noncomputable def CQ:List Kd:=dK::dK::.v .bool .k::dn 96 ([])
noncomputable def ago:Hint:={ tab,hn:=[],loops:=[(6,AZ)],outs:=[(6,2,CP),(6,1,CQ)],bp:=[(8,(OT.seq [0,1,2,3,4,5,6,7,8,9,10,11,12,13,14,15,16,17] .done)),(11,(OT.seq [0,1,2,3,4,5,7,8,6,9,10,11] .done))] }
noncomputable def TB:List AK:=[.v bY .k]
noncomputable def ass (N:Nat) (x:ay TB) (kf:aa→Option aa):Option aa:=I39 N x.1 (fun r0=>kf ⟨[⟨.bool,.k,r0⟩],[]⟩)
noncomputable def xX (N:Nat):=ar TB (ass N)
noncomputable def agp (N:Nat):List Entry:=[⟨143,[.val],(jn N)⟩,⟨79,[.val],(Dz N)⟩,⟨75,[.val],(JM N)⟩,⟨16,[.val],(s6 N)⟩,⟨17,[.val,.val],(Xw N)⟩,⟨18,[.val,.val,.val,.val],(XE N)⟩,⟨138,[.val],(xV N)⟩,⟨144,[.val,.val,.val],(kD N)⟩,⟨145,[.val],(OD N)⟩]
noncomputable def FY:Code:=aI Tryz.f39
noncomputable def agq (N n:Nat) (key:Nat) (S:St) (K:Ks):Option aa:=bif Nat.beq key 6 then az AZ S (fun x=>rA N x.1 x.2.1 x.2.2.1 n (K (.x 0) (shape CP (x.1,()))) (fun z0=>K .r (shape CQ (z0,()))) x.2.2.2.1) else none
theorem avN (N key:Nat) (S:St) (K:Ks):agq N 0 key S K=none:=(bE (aq fun _=>rfl) rfl)
noncomputable def XH:Code:=(af FY).getD 0 .skip
theorem avO:af FY=[XH]:=by kernel_rfl
theorem agr (N:Nat):dU ago (agp N) (agq N) N 6 AZ XH:=fun _ _ _=>by kernel_rfl
theorem avP (N:Nat):bQ TB (ass N) ago (agp N) (agq N N) Tryz.f39:=fun _ _=>by kernel_rfl
theorem J0 {Γ:Gl} (N:Nat):Sound Γ Tryz.prog 39 (xX N):=fq ago Tryz.f39 FY (avN N) avO (avP N) (rc (agr N) trivial) ⟨nk N,⟨Tl N,⟨afW N,⟨FP N,⟨avz N,⟨avM N,⟨JY N,⟨qh N,⟨amu N,trivial⟩⟩⟩⟩⟩⟩⟩⟩⟩
noncomputable def J1:List AK:=[.v bY .k,.v bY (.p (.o 46 none (.p .k (.p .k (.p .k (.p .k (.p .k (.o 3 none .k))))))) (.p (.o 80 none (.p .k (.p .k (.o 3 none .k)))) (.p (.o 104 none .k) (.p (.o 3 none .k) (.p (.o 136 none .k) (.p (.o 102 none .k) .k)))))),.v (.int .i64) .k,.v (.int .i64) .k]
noncomputable def ags (N:Nat) (x:ay J1) (kf:aa→Option aa):Option aa:=IM N x.1 x.2.1 x.2.2.1 x.2.2.2.1 (fun r0 r1=>kf ⟨[⟨bY,(.p (.o 46 none (.p .k (.p .k (.p .k (.p .k (.p .k (.o 3 none .k))))))) (.p (.o 80 none (.p .k (.p .k (.o 3 none .k)))) (.p (.o 104 none .k) (.p (.o 3 none .k) (.p (.o 136 none .k) (.p (.o 102 none .k) .k)))))),r0⟩,⟨.bool,.k,r1⟩],[]⟩)
noncomputable def mC (N:Nat):=ar J1 (ags N)
noncomputable def amv (N:Nat):List Entry:=[⟨189,[.val,.val,.val],(Oz N)⟩,⟨39,[.val],(xX N)⟩,⟨70,[.val],(lC N)⟩]
theorem amw (N:Nat):bQ J1 (ags N) hq (amv N) (dP N N) Tryz.f103:=fun _ _=>by kernel_rfl
theorem s8 {Γ:Gl} (N:Nat):Sound Γ Tryz.prog 103 (mC N):=fo hq Tryz.f103 (amw N) ⟨ami N,⟨J0 N,⟨r9 N,trivial⟩⟩⟩
noncomputable def A3:List Kd:=dK::.v (.int .i64) .k::.v (.int .i64) .k::.v (.ptr bY) (.o 31 none .k)::dK::dK::.v (.ptr bY) (.o 31 none (.p (.o 46 none (.p .k (.p .k (.p .k (.p .k (.p .k (.o 3 none .k))))))) (.p (.o 80 none (.p .k (.p .k (.o 3 none .k)))) (.p (.o 104 none .k) (.p (.o 3 none .k) (.p (.o 136 none .k) (.p (.o 102 none .k) .k)))))))::dK::.v (.ptr bY) (.o 31 none (.p (.o 46 none (.p .k (.p .k (.p .k (.p .k (.p .k (.o 3 none .k))))))) (.p (.o 80 none (.p .k (.p .k (.o 3 none .k)))) (.p (.o 104 none .k) (.p (.o 3 none .k) (.p (.o 136 none .k) (.p (.o 102 none .k) .k)))))))::.v (.int .i64) .k::dn 44 ([])
noncomputable def CR:List Kd:=dK::.v (.int .i64) .k::.v (.int .i64) .k::.v (.ptr bY) (.o 31 none .k)::dK::dK::.v (.ptr bY) (.o 31 none (.p (.o 46 none (.p .k (.p .k (.p .k (.p .k (.p .k (.o 3 none .k))))))) (.p (.o 80 none (.p .k (.p .k (.o 3 none .k)))) (.p (.o 104 none .k) (.p (.o 3 none .k) (.p (.o 136 none .k) (.p (.o 102 none .k) .k)))))))::dK::.v (.ptr bY) (.o 31 none (.p (.o 46 none (.p .k (.p .k (.p .k (.p .k (.p .k (.o 3 none .k))))))) (.p (.o 80 none (.p .k (.p .k (.o 3 none .k)))) (.p (.o 104 none .k) (.p (.o 3 none .k) (.p (.o 136 none .k) (.p (.o 102 none .k) .k)))))))::.v (.int .i64) .k::dn 44 ([])
noncomputable def agt:Hint:={ tab,hn:=[],loops:=[(5,A3)],outs:=[(5,2,CR)],bp:=[] }
noncomputable def TC:List AK:=[.v bY .k,.v (.int .i64) .k,.v (.int .i64) .k]
noncomputable def ast (N:Nat) (x:ay TC) (kf:aa→Option aa):Option aa:=I30 N x.1 x.2.1 x.2.2.1 (fun r0 r1=>kf ⟨[⟨bY,(.p (.o 46 none (.p .k (.p .k (.p .k (.p .k (.p .k (.o 3 none .k))))))) (.p (.o 80 none (.p .k (.p .k (.o 3 none .k)))) (.p (.o 104 none .k) (.p (.o 3 none .k) (.p (.o 136 none .k) (.p (.o 102 none .k) .k)))))),r0⟩,⟨.bool,.k,r1⟩],[]⟩)
noncomputable def XI (N:Nat):=ar TC (ast N)
noncomputable def agu (N:Nat):List Entry:=[⟨70,[.val],(lC N)⟩,⟨40,[.val,.val],(lD N)⟩,⟨16,[.val],(s6 N)⟩,⟨135,[.take,.val,.take],(Ot N)⟩,⟨103,[.val,.take,.val,.val],(mC N)⟩]
noncomputable def FZ:Code:=aI Tryz.f30
noncomputable def agv (N n:Nat) (key:Nat) (S:St) (K:Ks):Option aa:=bif Nat.beq key 5 then az A3 S (fun x=>rB x.1 x.2.1 x.2.2.1 x.2.2.2.1 x.2.2.2.2.1 n (fun z0=>K (.x 0) (shape CR (x.1,x.2.1,x.2.2.1,x.2.2.2.1,x.2.2.2.2.1,z0,()))) x.2.2.2.2.2.1) else none
theorem avQ (N key:Nat) (S:St) (K:Ks):agv N 0 key S K=none:=(bE (aq fun _=>rfl) rfl)
noncomputable def XJ:Code:=(af FZ).getD 0 .skip
theorem avR:af FZ=[XJ]:=by kernel_rfl
theorem agw (N:Nat):dU agt (agu N) (agv N) N 5 A3 XJ:=fun _ _ _=>by kernel_rfl
theorem avS (N:Nat):bQ TC (ast N) agt (agu N) (agv N N) Tryz.f30:=fun _ _=>by kernel_rfl
theorem avT {Γ:Gl} (N:Nat):Sound Γ Tryz.prog 30 (XI N):=fq agt Tryz.f30 FZ (avQ N) avR (avS N) (rc (agw N) trivial) ⟨r9 N,⟨se N,⟨FP N,⟨al1 N,⟨s8 N,trivial⟩⟩⟩⟩⟩
noncomputable def J2:List AK:=[.v bS .k,.v (.ptr (.int .i64)) .k]
noncomputable def agx (N:Nat) (x:ay J2) (kf:aa→Option aa):Option aa:=ajP N x.1 x.2.1 (fun r0=>kf ⟨[⟨.bool,.k,r0⟩],[]⟩)
noncomputable def OF (N:Nat):=ar J2 (agx N)
theorem amx (N:Nat):bQ J2 (agx N) hq [] (dP N N) Tryz.f209:=fun _ _=>by kernel_rfl
theorem amy {Γ:Gl} (N:Nat):Sound Γ Tryz.prog 209 (OF N):=fo hq Tryz.f209 (amx N) trivial
noncomputable def vt:List Kd:=.v (.sl bS) .k::.k8 209 [.kv (.ptr (.int .i64))]::dn 5 (.v (.int .i64) .k::.v (.int .i64) .k::dn 10 ([]))
noncomputable def xY:List Kd:=dn 19 ([])
noncomputable def xZ:List Kd:=dn 4 (.v (.int .i64) .k::dn 14 ([]))
noncomputable def TD:Hint:={ tab,hn:=[],loops:=[(2,vt)],outs:=[(2,2,xY),(2,1,xZ)],bp:=[] }
noncomputable def J3:List AK:=[.v (.sl bS) .k,.fn 209 [(.ptr (.int .i64))]]
noncomputable def agy (N:Nat) (x:ay J3) (kf:aa→Option aa):Option aa:=atQ N x.1 x.2.1.1 (fun r0=>kf ⟨[⟨(.int .i64),.k,r0⟩],[]⟩)
noncomputable def OG (N:Nat):=ar J3 (agy N)
noncomputable def XK (N:Nat):List Entry:=[⟨209,[.val],(OF N)⟩]
noncomputable def A4:Code:=aI Tryz.f80
noncomputable def TE (N n:Nat) (key:Nat) (S:St) (K:Ks):Option aa:=bif Nat.beq key 2 then az vt S (fun x=>pw N x.1 x.2.1.1 x.2.2.1 n (K (.x 0) (shape xY ())) (fun z0=>K .r (shape xZ (z0,()))) x.2.2.2.1) else none
theorem amz (N key:Nat) (S:St) (K:Ks):TE N 0 key S K=none:=(bE (aq fun _=>rfl) rfl)
noncomputable def OH:Code:=(af A4).getD 0 .skip
theorem amA:af A4=[OH]:=by kernel_rfl
theorem abe (N:Nat):dU TD (XK N) (TE N) N 2 vt OH:=fun _ _ _=>by kernel_rfl
theorem amB (N:Nat):bQ J3 (agy N) TD (XK N) (TE N N) Tryz.f80:=fun _ _=>by kernel_rfl
theorem amC {Γ:Gl} (N:Nat):Sound Γ Tryz.prog 80 (OG N):=fq TD Tryz.f80 A4 (amz N) amA (amB N) (rc (abe N) trivial) ⟨amy N,trivial⟩
noncomputable def J4:List AK:=[.v (.sl bS) .k,.v (.int .i64) .k]
noncomputable def agz (N:Nat) (x:ay J4) (kf:aa→Option aa):Option aa:=Se N x.1 x.2.1 (fun r0=>kf ⟨[⟨(.int .i64),.k,r0⟩],[]⟩)
noncomputable def F0 (N:Nat):=ar J4 (agz N)
noncomputable def amD (N:Nat):List Entry:=[⟨80,[.val,.val],(OG N)⟩]
theorem amE (N:Nat):bQ J4 (agz N) hq (amD N) (dP N N) Tryz.f130:=fun _ _=>by kernel_rfl
theorem XL {Γ:Gl} (N:Nat):Sound Γ Tryz.prog 130 (F0 N):=fo hq Tryz.f130 (amE N) ⟨amC N,trivial⟩
def agA:Go.Shelf.Ren:=⟨fun n=>bif Nat.beq n 22 then 136 else bif Nat.beq n 29 then 214 else bif Nat.beq n 30 then 215 else n,fun n=>bif Nat.beq n 0 then 0 else bif Nat.beq n 3 then 3 else bif Nat.beq n 4 then 4 else bif Nat.beq n 9 then 80 else bif Nat.beq n 24 then 25 else n,fun n=>n⟩
def amF:Array Value:=#[.int .i64 0,.int .i64 0,.slice none 0 0]
noncomputable def amG:TypeInfo:=(Tryz.prog.info? 80).get (by kernel_rfl)
theorem agB:HT Tryz.prog agA (Ty.size bS) amF amG:={ FB:=⟨Tryz.f136.name,by kernel_rfl,by kernel_rfl⟩,FO:=⟨Tryz.f214,by kernel_rfl,by kernel_rfl,by kernel_rfl,by kernel_rfl,by kernel_rfl⟩,mixed:=by kernel_rfl,t0:=by kernel_rfl,a0:=fun w=>by kernel_rfl,z0:=fun w=>by kernel_rfl,v0:=fun w=>by kernel_rfl,t3:=by kernel_rfl,a3:=fun w=>by kernel_rfl,z3:=fun w=>by kernel_rfl,v3:=fun w=>by kernel_rfl,t4:=by kernel_rfl,a4:=fun w=>by kernel_rfl,z4:=fun w=>by kernel_rfl,v4:=fun w=>by kernel_rfl,t24:=by kernel_rfl,a24:=fun w=>by kernel_rfl,z24:=fun w=>by kernel_rfl,v24:=fun w=>by kernel_rfl,z9:=fun w=>by kernel_rfl,hz:=by kernel_rfl,hzo:=by kernel_rfl,Iy:=by kernel_rfl,hz0:=by kernel_rfl,ML:=by kernel_rfl,hby:=Nat.le_of_ble_eq_true (by kernel_rfl),C7:=Nat.le_of_ble_eq_true (by kernel_rfl) }
noncomputable def XM:List AK:=[.v (.sl bS) (.o 80 none (.p .k (.p .k (.o 3 none .k)))),.v (.int .i64) .k,.v (.sl bS) (.o 80 none (.p .k (.p .k (.o 3 none .k))))]
noncomputable def avU (N:Nat) (x:ay XM) (kf:aa→Option aa):Option aa:=ajQ N x.1 x.2.1 x.2.2.1 (fun r0=>kf ⟨[⟨(.sl bS),(.o 80 none (.p .k (.p .k (.o 3 none .k)))),r0⟩],[]⟩)
noncomputable def OI (N:Nat):=ar XM (avU N)
theorem amH {Γ:Gl} (N:Nat):Sound Γ Tryz.prog 136 (OI N):=xG agB (.p .k (.p .k (.o 3 none .k))) (by kernel_rfl)
end Go.Pv.R
