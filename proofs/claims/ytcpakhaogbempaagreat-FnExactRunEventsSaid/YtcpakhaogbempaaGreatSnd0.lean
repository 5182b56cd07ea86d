/- Each function of the program that the law reaches computes its plain function, part 0. -/
import Derived.Test.YtcpakhaogbempaaGreatPlRes
import Derived.Test.YtcpakhaogbempaaGreatGro
import Derived.Test.YtcpakhaogbempaaGreatProg
namespace Go.Pv.R
open Go.Proofs
set_option linter.unusedVariables false
set_option maxRecDepth 100000
noncomputable abbrev dK:Kd:=.dead
noncomputable def tab:de:=[⟨2,(.int .i64),0,[]⟩,⟨3,(.int .i64),0,[]⟩,⟨4,.bool,0,[]⟩,⟨5,(.int .u8),0,[]⟩,⟨9,.str,0,[]⟩,⟨12,(.int .u64),0,[]⟩,⟨21,(.int .i32),0,[]⟩,⟨22,(.sl (.int .u8)),5,[]⟩,⟨24,(.sl bo),46,[]⟩,⟨25,(.sl bY),80,[]⟩,⟨26,(.sl aP),104,[]⟩,⟨27,(.sl (.int .i64)),3,[]⟩,⟨28,(.sl dh),136,[]⟩,⟨29,(.sl bW),102,[]⟩,⟨30,bM,0,[24,25,26,27,28,29,3]⟩,⟨31,bM,0,[24,25,26,27,28,29,3]⟩,⟨32,(.sl bW),38,[]⟩,⟨37,bW,0,[3,3,3,3]⟩,⟨38,bW,0,[3,3,3,3]⟩,⟨45,bo,0,[3,3,3,3,3,27]⟩,⟨46,bo,0,[3,3,3,3,3,27]⟩,⟨47,(.sl bo),171,[]⟩,⟨48,(.sl bY),173,[]⟩,⟨49,(.sl aP),182,[]⟩,⟨50,(.sl dh),184,[]⟩,⟨51,(.sl bW),186,[]⟩,⟨52,bM,0,[47,48,49,27,50,51,3]⟩,⟨53,bM,0,[47,48,49,27,50,51,3]⟩,⟨79,bY,0,[3,3,27]⟩,⟨80,bY,0,[3,3,27]⟩,⟨88,bW,0,[3,3,3,3]⟩,⟨91,(.sl bW),88,[]⟩,⟨101,bW,0,[3,3,3,3]⟩,⟨102,bW,0,[3,3,3,3]⟩,⟨103,aP,0,[3,3]⟩,⟨104,aP,0,[3,3]⟩,⟨135,dh,0,[3,3,3]⟩,⟨136,dh,0,[3,3,3]⟩,⟨162,Xb,0,[22,3,3]⟩,⟨163,Xb,0,[22,3,3]⟩,⟨171,bo,0,[3,3,3,3,3,27]⟩,⟨173,bY,0,[3,3,27]⟩,⟨182,aP,0,[3,3]⟩,⟨184,dh,0,[3,3,3]⟩,⟨186,bW,0,[3,3,3,3]⟩,⟨194,(.int .u64),0,[]⟩,⟨207,(.int .i64),0,[]⟩,⟨216,(.int .u32),0,[]⟩,⟨218,(.int .u64),0,[]⟩,⟨219,(.sl (.sl (.int .i64))),27,[]⟩,⟨222,(.int .u64),0,[]⟩]
theorem mixed:Tryz.prog.follows .mixedOrders=true:=by kernel_rfl
theorem kX:cP Tryz.prog tab=true:=by kernel_rfl
noncomputable def dO (N n:Nat) (key:Nat) (S:St) (K:Ks):Option aa:=none
theorem TG (N key:Nat) (S:St) (K:Ks):dO N 0 key S K=none:=rfl
noncomputable def aI (f:Func):Code:=match f.body with |some c=>c |none=>.skip
noncomputable def dn:Nat→List Kd→List Kd
 |0,l=>l
 |n+1,l=>dK::dn n l
def bL (sg:List AK) (F:aw sg→(aa→Option aa)→Option aa) (h:Hint) (es:List Entry) (L:Nat→St→Ks→Option aa) (f:Func):Prop:=∀ (x:aw sg) (kf:aa→Option aa),F x kf=lR h (jr.of es) L f (dU sg x) kf
def dB (h:Hint) (es:List Entry) (L:Nat→Nat→St→Ks→Option aa) (N key:Nat) (ks:List Kd) (c:Code):Prop:=∀ (n:Nat) (x:qL ks) (K:Ks),L (n+1) key (shape ks x) (h.fy key K)=jZ h (jr.of es) (tC L N n key) c (shape ks x) (h.fy key K)
theorem rc {hh:Hint} {es:List Entry} {Lf:Nat→Nat→St→Ks→Option aa} {N key:Nat} {ks:List Kd} {c:Code} {l:List Code} (h:dB hh es Lf N key ks c) (hr:rA hh (jr.of es) Lf N l) (hk:keyOf c=key:=by kernel_rfl) (hh1:nJ hh.loops key=some ks:=by kernel_rfl):rA hh (jr.of es) Lf N (c::l):=Su hk hh1 h hr
theorem eZ {Γ:Gl} (hh:Hint) {es:List Entry} {f:FuncId} (fn:Func) (body:Code) {N:Nat} {Lf:Nat→Nat→St→Ks→Option aa} (h0:∀ k S K,Lf 0 k S K=none) {ls:List Code} (hls:af body=ls) {l:List AK} {F:aw l→(aa→Option aa)→Option aa} (hF:bL l F hh es (Lf N) fn) (cq:rA hh (jr.of es) Lf N ls) (hO:EOK Γ Tryz.prog es)
  (hT : cP Tryz.prog hh.tab = true := by exact kX) (hf : Tryz.prog.funcs[f]? = some fn := by kernel_rfl) (hb : fn.body = some body := by kernel_rfl) (WK : (fn.name == "runtime.NumGoroutine") = false := by kernel_rfl) (CF : eO hh (jr.of es) body = true := by kernel_rfl) (hky : l7 body = true := by kernel_rfl) (hlen : Nat.ble l.length fn.ntmps = true := by kernel_rfl) (Sv : fK body = true := by kernel_rfl) : Sound Γ Tryz.prog f (au l F) :=
 iX mixed hT hO hf hb WK CF hky h0 hls cq hlen hF (.inl Sv)
theorem e9 {Γ:Gl} (hh:Hint) {es:List Entry} {f:FuncId} (fn:Func) {N:Nat} {l:List AK} {F:aw l→(aa→Option aa)→Option aa} (hF:bL l F hh es (dO N N) fn) (hO:EOK Γ Tryz.prog es)
  (hls : af (aI fn) = [] := by kernel_rfl) (hT : cP Tryz.prog hh.tab = true := by exact kX) (hf : Tryz.prog.funcs[f]? = some fn := by kernel_rfl) (hb : fn.body = some (aI fn) := by kernel_rfl) (WK : (fn.name == "runtime.NumGoroutine") = false := by kernel_rfl) (CF : eO hh (jr.of es) (aI fn) = true := by kernel_rfl) (hky : l7 (aI fn) = true := by kernel_rfl) (hlen : Nat.ble l.length fn.ntmps = true := by kernel_rfl) (Sv : fK (aI fn) = true := by kernel_rfl) : Sound Γ Tryz.prog f (au l F) :=
 iX mixed hT hO hf hb WK CF hky (TG N) hls trivial hlen hF (.inl Sv)
noncomputable def hq:Hint:={ tab,hn:=[],loops:=[],outs:=[],bj:=[] }
noncomputable def agk:Hint:={ tab,hn:=[],loops:=[],outs:=[],bj:=[] }
noncomputable def DS:List AK:=[.v (.sl (.int .i64)) .k]
noncomputable def J3 (N:Nat) (x:aw DS) (kf:aa→Option aa):Option aa:=Jc N x.1 (fun r0=>kf ⟨[⟨(.sl (.int .i64)),(.o 3 none .k),r0⟩],[]⟩)
noncomputable def sq (N:Nat):=au DS (J3 N)
noncomputable def IA:Code:=aI Tryz.f166
theorem amH:af IA=[]:=by kernel_rfl
theorem amI (N:Nat):bL DS (J3 N) agk [] (dO N N) Tryz.f166:=fun _ _=>by kernel_rfl
theorem agl (N:Nat) (x:aw DS):cN (J3 N x):=by
 obtain⟨l,u⟩:=x
 unfold J3 Jc
 cases l with
 |nil=>exact⟨some _,fun K=>lI _⟩
 |cons a l=>
  simp only[List.isEmpty_cons,cond_false]
  exact cN.bif _ (cN.pure _) cN.none
theorem DT {Γ:Gl} (N:Nat):Sound Γ Tryz.prog 166 (sq N):=iX (hh:=agk) mixed kX (es:=[]) trivial (fn:=Tryz.f166) (body:=IA) (by kernel_rfl) (by kernel_rfl) (by kernel_rfl) (by kernel_rfl) (by kernel_rfl) (Lf:=dO N) (TG N) amH trivial (N:=N) (by kernel_rfl) (amI N) (.inr (agl N))
noncomputable def vA:List Kd:=dn 3 (.v (.sl bo) (.o 46 none (.p .k (.p .k (.p .k (.p .k (.p .k (.o 3 none .k)))))))::dn 3 (.v (.sl bo) .k::.v (.int .i64) .k::.v (.int .i64) .k::dn 13 ([])))
noncomputable def xT:List Kd:=dn 3 (.v (.sl bo) (.o 46 none (.p .k (.p .k (.p .k (.p .k (.p .k (.o 3 none .k)))))))::dn 19 ([]))
noncomputable def TH:Hint:={ tab,hn:=[(6,(.p .k (.p .k (.p .k (.p .k (.p .k (.o 3 none .k)))))))],loops:=[(3,vA)],outs:=[(3,2,xT)],bj:=[] }
noncomputable def J4:List AK:=[.v (.sl bo) .k]
noncomputable def agm (N:Nat) (x:aw J4) (kf:aa→Option aa):Option aa:=Sy N x.1 (fun r0=>kf ⟨[⟨(.sl bo),(.o 46 none (.p .k (.p .k (.p .k (.p .k (.p .k (.o 3 none .k))))))),r0⟩],[]⟩)
noncomputable def Gh (N:Nat):=au J4 (agm N)
noncomputable def XX (N:Nat):List Entry:=[⟨166,[.val],(sq N)⟩]
noncomputable def AX:Code:=aI Tryz.f163
noncomputable def TJ (N n:Nat) (key:Nat) (S:St) (K:Ks):Option aa:=bif Nat.beq key 3 then ay vA S (fun x=>pd N x.2.1 x.2.2.1 n (fun z0=>K (.x 0) (shape xT (z0,()))) x.1 x.2.2.2.1) else none
theorem amJ (N key:Nat) (S:St) (K:Ks):TJ N 0 key S K=none:=(bC (aq fun _=>rfl) rfl)
noncomputable def OQ:Code:=(af AX).getD 0 .skip
theorem amK:af AX=[OQ]:=by kernel_rfl
theorem abV (N:Nat):dB TH (XX N) (TJ N) N 3 vA OQ:=fun _ _ _=>by kernel_rfl
theorem amL (N:Nat):bL J4 (agm N) TH (XX N) (TJ N N) Tryz.f163:=fun _ _=>by kernel_rfl
theorem XY {Γ:Gl} (N:Nat):Sound Γ Tryz.prog 163 (Gh N):=eZ TH Tryz.f163 AX (amJ N) amK (amL N) (rc (abV N) trivial) ⟨DT N,trivial⟩
noncomputable def vB:List Kd:=dn 3 (.v (.sl bY) (.o 80 none (.p .k (.p .k (.o 3 none .k))))::dn 3 (.v (.sl bY) .k::.v (.int .i64) .k::.v (.int .i64) .k::dn 13 ([])))
noncomputable def xU:List Kd:=dn 3 (.v (.sl bY) (.o 80 none (.p .k (.p .k (.o 3 none .k))))::dn 19 ([]))
noncomputable def TK:Hint:={ tab,hn:=[(6,(.p .k (.p .k (.o 3 none .k))))],loops:=[(3,vB)],outs:=[(3,2,xU)],bj:=[] }
noncomputable def J5:List AK:=[.v (.sl bY) .k]
noncomputable def agn (N:Nat) (x:aw J5) (kf:aa→Option aa):Option aa:=akF N x.1 (fun r0=>kf ⟨[⟨(.sl bY),(.o 80 none (.p .k (.p .k (.o 3 none .k)))),r0⟩],[]⟩)
noncomputable def OR (N:Nat):=au J5 (agn N)
noncomputable def XZ (N:Nat):List Entry:=[⟨166,[.val],(sq N)⟩]
noncomputable def AY:Code:=aI Tryz.f164
noncomputable def TL (N n:Nat) (key:Nat) (S:St) (K:Ks):Option aa:=bif Nat.beq key 3 then ay vB S (fun x=>pf N x.2.1 x.2.2.1 n (fun z0=>K (.x 0) (shape xU (z0,()))) x.1 x.2.2.2.1) else none
theorem amM (N key:Nat) (S:St) (K:Ks):TL N 0 key S K=none:=(bC (aq fun _=>rfl) rfl)
noncomputable def OS:Code:=(af AY).getD 0 .skip
theorem amN:af AY=[OS]:=by kernel_rfl
theorem abW (N:Nat):dB TK (XZ N) (TL N) N 3 vB OS:=fun _ _ _=>by kernel_rfl
theorem amO (N:Nat):bL J5 (agn N) TK (XZ N) (TL N N) Tryz.f164:=fun _ _=>by kernel_rfl
theorem amP {Γ:Gl} (N:Nat):Sound Γ Tryz.prog 164 (OR N):=eZ TK Tryz.f164 AY (amM N) amN (amO N) (rc (abW N) trivial) ⟨DT N,trivial⟩
noncomputable def ago:Hint:={ tab,hn:=[],loops:=[],outs:=[],bj:=[] }
noncomputable def DU:List AK:=[.v (.sl aP) .k]
noncomputable def J6 (N:Nat) (x:aw DU) (kf:aa→Option aa):Option aa:=akG N x.1 (fun r0=>kf ⟨[⟨(.sl aP),(.o 104 none .k),r0⟩],[]⟩)
noncomputable def OU (N:Nat):=au DU (J6 N)
noncomputable def IB:Code:=aI Tryz.f165
theorem amQ:af IB=[]:=by kernel_rfl
theorem amR (N:Nat):bL DU (J6 N) ago [] (dO N N) Tryz.f165:=fun _ _=>by kernel_rfl
theorem agp (N:Nat) (x:aw DU):cN (J6 N x):=by
 obtain⟨l,u⟩:=x
 unfold J6 akG
 cases l with
 |nil=>exact⟨some _,fun K=>lI _⟩
 |cons a l=>
  simp only[List.isEmpty_cons,cond_false]
  exact cN.bif _ (cN.pure _) cN.none
theorem amS {Γ:Gl} (N:Nat):Sound Γ Tryz.prog 165 (OU N):=iX (hh:=ago) mixed kX (es:=[]) trivial (fn:=Tryz.f165) (body:=IB) (by kernel_rfl) (by kernel_rfl) (by kernel_rfl) (by kernel_rfl) (by kernel_rfl) (Lf:=dO N) (TG N) amQ trivial (N:=N) (by kernel_rfl) (amR N) (.inr (agp N))
noncomputable def agq:Hint:={ tab,hn:=[],loops:=[],outs:=[],bj:=[] }
noncomputable def DV:List AK:=[.v (.sl dh) .k]
noncomputable def J7 (N:Nat) (x:aw DV) (kf:aa→Option aa):Option aa:=akH N x.1 (fun r0=>kf ⟨[⟨(.sl dh),(.o 136 none .k),r0⟩],[]⟩)
noncomputable def OV (N:Nat):=au DV (J7 N)
noncomputable def IC:Code:=aI Tryz.f167
theorem amT:af IC=[]:=by kernel_rfl
theorem amU (N:Nat):bL DV (J7 N) agq [] (dO N N) Tryz.f167:=fun _ _=>by kernel_rfl
theorem agr (N:Nat) (x:aw DV):cN (J7 N x):=by
 obtain⟨l,u⟩:=x
 unfold J7 akH
 cases l with
 |nil=>exact⟨some _,fun K=>lI _⟩
 |cons a l=>
  simp only[List.isEmpty_cons,cond_false]
  exact cN.bif _ (cN.pure _) cN.none
theorem amV {Γ:Gl} (N:Nat):Sound Γ Tryz.prog 167 (OV N):=iX (hh:=agq) mixed kX (es:=[]) trivial (fn:=Tryz.f167) (body:=IC) (by kernel_rfl) (by kernel_rfl) (by kernel_rfl) (by kernel_rfl) (by kernel_rfl) (Lf:=dO N) (TG N) amT trivial (N:=N) (by kernel_rfl) (amU N) (.inr (agr N))
noncomputable def ags:Hint:={ tab,hn:=[],loops:=[],outs:=[],bj:=[] }
noncomputable def DW:List AK:=[.v (.sl bW) .k]
noncomputable def J8 (N:Nat) (x:aw DW) (kf:aa→Option aa):Option aa:=aaB N x.1 (fun r0=>kf ⟨[⟨(.sl bW),(.o 102 none .k),r0⟩],[]⟩)
noncomputable def Gi (N:Nat):=au DW (J8 N)
noncomputable def ID:Code:=aI Tryz.f168
theorem amW:af ID=[]:=by kernel_rfl
theorem amX (N:Nat):bL DW (J8 N) ags [] (dO N N) Tryz.f168:=fun _ _=>by kernel_rfl
theorem agt (N:Nat) (x:aw DW):cN (J8 N x):=by
 obtain⟨l,u⟩:=x
 unfold J8 aaB
 cases l with
 |nil=>exact⟨some _,fun K=>lI _⟩
 |cons a l=>
  simp only[List.isEmpty_cons,cond_false]
  exact cN.bif _ (cN.pure _) cN.none
theorem X0 {Γ:Gl} (N:Nat):Sound Γ Tryz.prog 168 (Gi N):=iX (hh:=ags) mixed kX (es:=[]) trivial (fn:=Tryz.f168) (body:=ID) (by kernel_rfl) (by kernel_rfl) (by kernel_rfl) (by kernel_rfl) (by kernel_rfl) (Lf:=dO N) (TG N) amW trivial (N:=N) (by kernel_rfl) (amX N) (.inr (agt N))
noncomputable def ath:Hint:={ tab,hn:=[],loops:=[],outs:=[],bj:=[(1,(OT.seq [0,1,3,4,2,6,5,7,8,9] .done)),(2,(OT.seq [0,1,3,4,6,7,9,10,2,12,5,8,11,13,14,15,16,17,18,19] .done))] }
noncomputable def TM:List AK:=[.v bM .k]
noncomputable def ati (N:Nat) (x:aw TM) (kf:aa→Option aa):Option aa:=H8 N x.1 (fun r0=>kf ⟨[⟨bM,(.p (.o 46 none (.p .k (.p .k (.p .k (.p .k (.p .k (.o 3 none .k))))))) (.p (.o 80 none (.p .k (.p .k (.o 3 none .k)))) (.p (.o 104 none .k) (.p (.o 3 none .k) (.p (.o 136 none .k) (.p (.o 102 none .k) .k)))))),r0⟩],[]⟩)
noncomputable def km (N:Nat):=au TM (ati N)
noncomputable def awt (N:Nat):List Entry:=[⟨163,[.val],(Gh N)⟩,⟨164,[.val],(OR N)⟩,⟨165,[.val],(OU N)⟩,⟨166,[.val],(sq N)⟩,⟨167,[.val],(OV N)⟩,⟨168,[.val],(Gi N)⟩]
theorem awu (N:Nat):bL TM (ati N) ath (awt N) (dO N N) Tryz.f70:=fun _ _=>by kernel_rfl
theorem qo {Γ:Gl} (N:Nat):Sound Γ Tryz.prog 70 (km N):=e9 ath Tryz.f70 (awu N) ⟨XY N,⟨amP N,⟨amS N,⟨DT N,⟨amV N,⟨X0 N,trivial⟩⟩⟩⟩⟩⟩
noncomputable def J9:List AK:=[.v bo .k,.v (.ptr (.int .i64)) .k]
noncomputable def agu (N:Nat) (x:aw J9) (kf:aa→Option aa):Option aa:=akI N x.1 x.2.1 (fun r0=>kf ⟨[⟨.bool,.k,r0⟩],[]⟩)
noncomputable def OW (N:Nat):=au J9 (agu N)
theorem amY (N:Nat):bL J9 (agu N) hq [] (dO N N) Tryz.f147:=fun _ _=>by kernel_rfl
theorem amZ {Γ:Gl} (N:Nat):Sound Γ Tryz.prog 147 (OW N):=e9 hq Tryz.f147 (amY N) trivial
noncomputable def vC:List Kd:=.v (.sl bo) .k::.ld 147 [.kv (.ptr (.int .i64))]::dn 5 (.v (.int .i64) .k::.v (.int .i64) .k::dn 10 ([]))
noncomputable def xV:List Kd:=dn 19 ([])
noncomputable def xW:List Kd:=dn 4 (.v (.int .i64) .k::dn 14 ([]))
noncomputable def TN:Hint:={ tab,hn:=[],loops:=[(2,vC)],outs:=[(2,2,xV),(2,1,xW)],bj:=[] }
noncomputable def J':List AK:=[.v (.sl bo) .k,.fn 147 [(.ptr (.int .i64))]]
noncomputable def agv (N:Nat) (x:aw J') (kf:aa→Option aa):Option aa:=auY N x.1 x.2.1.1 (fun r0=>kf ⟨[⟨(.int .i64),.k,r0⟩],[]⟩)
noncomputable def OX (N:Nat):=au J' (agv N)
noncomputable def X1 (N:Nat):List Entry:=[⟨147,[.val],(OW N)⟩]
noncomputable def AZ:Code:=aI Tryz.f146
noncomputable def TO (N n:Nat) (key:Nat) (S:St) (K:Ks):Option aa:=bif Nat.beq key 2 then ay vC S (fun x=>pg N x.1 x.2.1.1 x.2.2.1 n (K (.x 0) (shape xV ())) (fun z0=>K .r (shape xW (z0,()))) x.2.2.2.1) else none
theorem am0 (N key:Nat) (S:St) (K:Ks):TO N 0 key S K=none:=(bC (aq fun _=>rfl) rfl)
noncomputable def OY:Code:=(af AZ).getD 0 .skip
theorem am1:af AZ=[OY]:=by kernel_rfl
theorem abX (N:Nat):dB TN (X1 N) (TO N) N 2 vC OY:=fun _ _ _=>by kernel_rfl
theorem am2 (N:Nat):bL J' (agv N) TN (X1 N) (TO N N) Tryz.f146:=fun _ _=>by kernel_rfl
theorem am3 {Γ:Gl} (N:Nat):Sound Γ Tryz.prog 146 (OX N):=eZ TN Tryz.f146 AZ (am0 N) am1 (am2 N) (rc (abX N) trivial) ⟨amZ N,trivial⟩
noncomputable def TP:List AK:=[.v (.sl bo) .k,.v (.int .i64) .k]
noncomputable def atj (N:Nat) (x:aw TP) (kf:aa→Option aa):Option aa:=NG N x.1 x.2.1 (fun r0=>kf ⟨[⟨(.int .i64),.k,r0⟩],[]⟩)
noncomputable def lF (N:Nat):=au TP (atj N)
noncomputable def awv (N:Nat):List Entry:=[⟨146,[.val,.val],(OX N)⟩]
theorem aww (N:Nat):bL TP (atj N) hq (awv N) (dO N N) Tryz.f40:=fun _ _=>by kernel_rfl
theorem sr {Γ:Gl} (N:Nat):Sound Γ Tryz.prog 40 (lF N):=e9 hq Tryz.f40 (aww N) ⟨am3 N,trivial⟩
noncomputable def TQ:List AK:=[.v bM .k]
noncomputable def atk (N:Nat) (x:aw TQ) (kf:aa→Option aa):Option aa:=I16 N x.1 (fun r0=>kf ⟨[⟨.bool,.k,r0⟩],[]⟩)
noncomputable def tk (N:Nat):=au TQ (atk N)
theorem awx (N:Nat):bL TQ (atk N) hq [] (dO N N) Tryz.f16:=fun _ _=>by kernel_rfl
theorem Gj {Γ:Gl} (N:Nat):Sound Γ Tryz.prog 16 (tk N):=e9 hq Tryz.f16 (awx N) trivial
def agw:Go.Shelf.Ren:=⟨fun n=>bif Nat.beq n 22 then 135 else bif Nat.beq n 29 then 212 else bif Nat.beq n 30 then 213 else n,fun n=>bif Nat.beq n 0 then 0 else bif Nat.beq n 3 then 3 else bif Nat.beq n 4 then 4 else bif Nat.beq n 9 then 46 else bif Nat.beq n 24 then 24 else n,fun n=>n⟩
def am4:Array Value:=#[.int .i64 0,.int .i64 0,.int .i64 0,.int .i64 0,.int .i64 0,.slice none 0 0]
noncomputable def am5:TypeInfo:=(Tryz.prog.info? 46).get (by kernel_rfl)
theorem agx:Iw Tryz.prog agw (Ty.size bo) am4 am5:={ FB:=⟨Tryz.f135.name,by kernel_rfl,by kernel_rfl⟩,FO:=⟨Tryz.f212,by kernel_rfl,by kernel_rfl,by kernel_rfl,by kernel_rfl,by kernel_rfl⟩,mixed:=by kernel_rfl,t0:=by kernel_rfl,a0:=fun w=>by kernel_rfl,z0:=fun w=>by kernel_rfl,v0:=fun w=>by kernel_rfl,t3:=by kernel_rfl,a3:=fun w=>by kernel_rfl,z3:=fun w=>by kernel_rfl,v3:=fun w=>by kernel_rfl,t4:=by kernel_rfl,a4:=fun w=>by kernel_rfl,z4:=fun w=>by kernel_rfl,v4:=fun w=>by kernel_rfl,t24:=by kernel_rfl,a24:=fun w=>by kernel_rfl,z24:=fun w=>by kernel_rfl,v24:=fun w=>by kernel_rfl,z9:=fun w=>by kernel_rfl,hz:=by kernel_rfl,hzo:=by kernel_rfl,I8:=by kernel_rfl,hz0:=by kernel_rfl,Nf:=by kernel_rfl,hby:=Nat.le_of_ble_eq_true (by kernel_rfl),Dv:=Nat.le_of_ble_eq_true (by kernel_rfl) }
noncomputable def X4:List AK:=[.v (.sl bo) (.o 46 none (.p .k (.p .k (.p .k (.p .k (.p .k (.o 3 none .k))))))),.v (.int .i64) .k,.v (.sl bo) (.o 46 none (.p .k (.p .k (.p .k (.p .k (.p .k (.o 3 none .k)))))))]
noncomputable def awy (N:Nat) (x:aw X4) (kf:aa→Option aa):Option aa:=akJ N x.1 x.2.1 x.2.2.1 (fun r0=>kf ⟨[⟨(.sl bo),(.o 46 none (.p .k (.p .k (.p .k (.p .k (.p .k (.o 3 none .k))))))),r0⟩],[]⟩)
noncomputable def OZ (N:Nat):=au X4 (awy N)
theorem am6 {Γ:Gl} (N:Nat):Sound Γ Tryz.prog 135 (OZ N):=xS agx (.p .k (.p .k (.p .k (.p .k (.p .k (.o 3 none .k)))))) (by kernel_rfl)
noncomputable def Ka:List AK:=[.v (.sl bW) .k]
noncomputable def agy (N:Nat) (x:aw Ka) (kf:aa→Option aa):Option aa:=auZ N x.1 (fun r0=>kf ⟨[⟨(.int .i64),.k,r0⟩],[]⟩)
noncomputable def O0 (N:Nat):=au Ka (agy N)
theorem am7 (N:Nat):bL Ka (agy N) hq [] (dO N N) Tryz.f234:=fun _ _=>by kernel_rfl
theorem am8 {Γ:Gl} (N:Nat):Sound Γ Tryz.prog 234 (O0 N):=e9 hq Tryz.f234 (am7 N) trivial
noncomputable def Kb:List AK:=[.v (.int .i64) .k,.v (.int .i64) .k,.v (.int .i64) .k]
noncomputable def agz (N:Nat) (x:aw Kb) (kf:aa→Option aa):Option aa:=eF N x.1 x.2.1 x.2.2.1 (fun r0=>kf ⟨[⟨.bool,.k,r0⟩],[]⟩)
noncomputable def kI (N:Nat):=au Kb (agz N)
theorem am9 (N:Nat):bL Kb (agz N) hq [] (dO N N) Tryz.f144:=fun _ _=>by kernel_rfl
theorem qp {Γ:Gl} (N:Nat):Sound Γ Tryz.prog 144 (kI N):=e9 hq Tryz.f144 (am9 N) trivial
noncomputable def Kc:List AK:=[.v (.int .i64) .k,.v (.int .i64) .k]
noncomputable def agA (N:Nat) (x:aw Kc) (kf:aa→Option aa):Option aa:=akK N x.1 x.2.1 (fun r0=>kf ⟨[⟨(.int .i64),.k,r0⟩],[]⟩)
noncomputable def O1 (N:Nat):=au Kc (agA N)
noncomputable def am' (N:Nat):List Entry:=[⟨144,[.val,.val,.val],(kI N)⟩]
theorem ana (N:Nat):bL Kc (agA N) hq (am' N) (dO N N) Tryz.f262:=fun _ _=>by kernel_rfl
theorem anb {Γ:Gl} (N:Nat):Sound Γ Tryz.prog 262 (O1 N):=e9 hq Tryz.f262 (ana N) ⟨qp N,trivial⟩
noncomputable def Ke:List AK:=[.v (.int .i64) .k,.v (.int .i64) .k]
noncomputable def agB (N:Nat) (x:aw Ke) (kf:aa→Option aa):Option aa:=akL N x.1 x.2.1 (fun r0=>kf ⟨[⟨(.int .i64),.k,r0⟩],[]⟩)
noncomputable def O2 (N:Nat):=au Ke (agB N)
noncomputable def anc (N:Nat):List Entry:=[⟨262,[.val,.val],(O1 N)⟩]
theorem ane (N:Nat):bL Ke (agB N) hq (anc N) (dO N N) Tryz.f249:=fun _ _=>by kernel_rfl
theorem anf {Γ:Gl} (N:Nat):Sound Γ Tryz.prog 249 (O2 N):=e9 hq Tryz.f249 (ane N) ⟨anb N,trivial⟩
noncomputable def vD:List Kd:=dn 3 (.v (.int .i64) .k::dK::dK::.v (.sl (.int .i64)) .k::.v (.int .i64) .k::.v (.int .i64) .k::dn 8 ([]))
noncomputable def xX:List Kd:=dn 3 (.v (.int .i64) .k::dn 13 ([]))
noncomputable def TR:Hint:={ tab,hn:=[],loops:=[(3,vD)],outs:=[(3,2,xX)],bj:=[] }
noncomputable def Kf:List AK:=[.v (.sl (.int .i64)) .k]
noncomputable def agC (N:Nat) (x:aw Kf) (kf:aa→Option aa):Option aa:=akM N x.1 (fun r0=>kf ⟨[⟨(.int .i64),.k,r0⟩],[]⟩)
noncomputable def O3 (N:Nat):=au Kf (agC N)
noncomputable def X5 (N:Nat):List Entry:=[⟨249,[.val,.val],(O2 N)⟩]
noncomputable def A3:Code:=aI Tryz.f219
noncomputable def TS (N n:Nat) (key:Nat) (S:St) (K:Ks):Option aa:=bif Nat.beq key 3 then ay vD S (fun x=>pj N x.2.1 x.2.2.1 n (fun z0=>K (.x 0) (shape xX (z0,()))) x.1 x.2.2.2.1) else none
theorem ang (N key:Nat) (S:St) (K:Ks):TS N 0 key S K=none:=(bC (aq fun _=>rfl) rfl)
noncomputable def O4:Code:=(af A3).getD 0 .skip
theorem anh:af A3=[O4]:=by kernel_rfl
theorem abY (N:Nat):dB TR (X5 N) (TS N) N 3 vD O4:=fun _ _ _=>by kernel_rfl
theorem ani (N:Nat):bL Kf (agC N) TR (X5 N) (TS N N) Tryz.f219:=fun _ _=>by kernel_rfl
theorem anj {Γ:Gl} (N:Nat):Sound Γ Tryz.prog 219 (O3 N):=eZ TR Tryz.f219 A3 (ang N) anh (ani N) (rc (abY N) trivial) ⟨anf N,trivial⟩
noncomputable def Kg:List AK:=[.v (.int .i64) .k,.v bW .k]
noncomputable def agD (N:Nat) (x:aw Kg) (kf:aa→Option aa):Option aa:=Sz N x.1 x.2.1 (fun r0=>kf ⟨[⟨(.int .i64),.k,r0⟩],[]⟩)
noncomputable def Gk (N:Nat):=au Kg (agD N)
noncomputable def ank (N:Nat):List Entry:=[⟨219,[.val],(O3 N)⟩]
theorem anl (N:Nat):bL Kg (agD N) hq (ank N) (dO N N) Tryz.f169:=fun _ _=>by kernel_rfl
theorem X6 {Γ:Gl} (N:Nat):Sound Γ Tryz.prog 169 (Gk N):=e9 hq Tryz.f169 (anl N) ⟨anj N,trivial⟩
noncomputable def A4:List Kd:=dn 3 (.v (.int .i64) .k::dn 5 (.v (.sl bW) .k::.v (.int .i64) .k::.v (.int .i64) .k::dn 32 ([])))
noncomputable def CS:List Kd:=dn 44 ([])
noncomputable def CT:List Kd:=dK::dK::.v .bool .k::dn 41 ([])
noncomputable def agE:Hint:={ tab,hn:=[],loops:=[(5,A4)],outs:=[(5,2,CS),(5,1,CT)],bj:=[(7,(OT.seq [0,1,2,3,4,5,6,7,8,9,10,11,12,13,14,15,16,17,18,19,20,21,22,23,24] .done))] }
noncomputable def TT:List AK:=[.v (.sl bW) .k]
noncomputable def atl (N:Nat) (x:aw TT) (kf:aa→Option aa):Option aa:=I75 N x.1 (fun r0=>kf ⟨[⟨.bool,.k,r0⟩],[]⟩)
noncomputable def Kh (N:Nat):=au TT (atl N)
noncomputable def agF (N:Nat):List Entry:=[⟨144,[.val,.val,.val],(kI N)⟩,⟨169,[.val,.val],(Gk N)⟩]
noncomputable def Gm:Code:=aI Tryz.f75
noncomputable def agG (N n:Nat) (key:Nat) (S:St) (K:Ks):Option aa:=bif Nat.beq key 5 then ay A4 S (fun x=>uQ N x.2.1 x.2.2.1 n (K (.x 0) (shape CS ())) (fun z0=>K .r (shape CT (z0,()))) x.1 x.2.2.2.1) else none
theorem awz (N key:Nat) (S:St) (K:Ks):agG N 0 key S K=none:=(bC (aq fun _=>rfl) rfl)
noncomputable def X7:Code:=(af Gm).getD 0 .skip
theorem awA:af Gm=[X7]:=by kernel_rfl
theorem agH (N:Nat):dB agE (agF N) (agG N) N 5 A4 X7:=fun _ _ _=>by kernel_rfl
theorem awB (N:Nat):bL TT (atl N) agE (agF N) (agG N N) Tryz.f75:=fun _ _=>by kernel_rfl
theorem agI {Γ:Gl} (N:Nat):Sound Γ Tryz.prog 75 (Kh N):=eZ agE Tryz.f75 Gm (awz N) awA (awB N) (rc (agH N) trivial) ⟨qp N,⟨X6 N,trivial⟩⟩
noncomputable def agJ:Hint:={ tab,hn:=[],loops:=[],outs:=[],bj:=[(2,(OT.seq [0,2,1,3,4,5] .done)),(3,(OT.seq [0,2] (.any [1,3] (OT.seq [4,5] .done))))] }
noncomputable def Ki:List AK:=[.v (.sl bW) .k,.v (.int .i64) .k,.v (.int .i64) .k]
noncomputable def agK (N:Nat) (x:aw Ki) (kf:aa→Option aa):Option aa:=akN N x.1 x.2.1 x.2.2.1 (fun r0 r1=>kf ⟨[⟨(.sl bW),(.o 102 none .k),r0⟩,⟨.bool,.k,r1⟩],[]⟩)
noncomputable def O5 (N:Nat):=au Ki (agK N)
noncomputable def anm (N:Nat):List Entry:=[⟨234,[.val],(O0 N)⟩,⟨169,[.val,.val],(Gk N)⟩,⟨168,[.val],(Gi N)⟩,⟨75,[.val],(Kh N)⟩]
theorem ann (N:Nat):bL Ki (agK N) agJ (anm N) (dO N N) Tryz.f189:=fun _ _=>by kernel_rfl
theorem ano {Γ:Gl} (N:Nat):Sound Γ Tryz.prog 189 (O5 N):=e9 agJ Tryz.f189 (ann N) ⟨am8 N,⟨X6 N,⟨X0 N,⟨agI N,trivial⟩⟩⟩⟩
noncomputable def A5:List Kd:=dK::.v (.int .i64) .k::dn 3 (.v (.int .i64) .k::dK::dK::.v (.sl (.int .i64)) .k::.v (.int .i64) .k::.v (.int .i64) .k::dn 10 ([]))
noncomputable def CU:List Kd:=dn 5 (.v (.int .i64) .k::dn 15 ([]))
noncomputable def agL:Hint:={ tab,hn:=[],loops:=[(3,A5)],outs:=[(3,2,CU)],bj:=[] }
noncomputable def TU:List AK:=[.v (.sl (.int .i64)) .k,.v (.int .i64) .k]
noncomputable def atm (N:Nat) (x:aw TU) (kf:aa→Option aa):Option aa:=I78 N x.1 x.2.1 (fun r0=>kf ⟨[⟨(.int .i64),.k,r0⟩],[]⟩)
noncomputable def Kj (N:Nat):=au TU (atm N)
noncomputable def Gn:Code:=aI Tryz.f78
noncomputable def agM (N n:Nat) (key:Nat) (S:St) (K:Ks):Option aa:=bif Nat.beq key 3 then ay A5 S (fun x=>rH x.1 x.2.2.1 x.2.2.2.1 n (fun z0=>K (.x 0) (shape CU (z0,()))) x.2.1 x.2.2.2.2.1) else none
theorem awC (N key:Nat) (S:St) (K:Ks):agM N 0 key S K=none:=(bC (aq fun _=>rfl) rfl)
noncomputable def X8:Code:=(af Gn).getD 0 .skip
theorem awD:af Gn=[X8]:=by kernel_rfl
theorem agN (N:Nat):dB agL [] (agM N) N 3 A5 X8:=fun _ _ _=>by kernel_rfl
theorem awE (N:Nat):bL TU (atm N) agL [] (agM N N) Tryz.f78:=fun _ _=>by kernel_rfl
theorem agO {Γ:Gl} (N:Nat):Sound Γ Tryz.prog 78 (Kj N):=eZ agL Tryz.f78 Gn (awC N) awD (awE N) (rc (agN N) trivial) trivial
noncomputable def su:List Kd:=.v (.sl bo) .k::dn 3 (.v (.ptr bo) (.o 46 none .k)::dn 7 (.v (.sl bo) .k::.v (.int .i64) .k::.v (.int .i64) .k::dn 57 (.v (.sl (.int .i64)) .k::.v (.int .i64) .k::.v (.int .i64) .k::dn 31 ([]))))
noncomputable def uc:List Kd:=.v (.sl bo) .k::dn 11 (.v (.sl bo) .k::.v (.int .i64) .k::.v (.int .i64) .k::dn 91 ([]))
noncomputable def ud:List Kd:=dK::dK::.v .bool .k::dn 103 ([])
noncomputable def vE:List Kd:=.v (.sl bo) .k::dn 11 (.v (.sl bo) .k::.v (.int .i64) .k::.v (.int .i64) .k::dn 91 ([]))
noncomputable def xY:List Kd:=dn 106 ([])
noncomputable def xZ:List Kd:=dK::dK::.v .bool .k::dn 103 ([])
noncomputable def Kk:Hint:={ tab,hn:=[],loops:=[(10,su),(4,vE)],outs:=[(10,4,uc),(10,1,ud),(4,2,xY),(4,1,xZ)],bj:=[(7,(OT.seq [0,1,2,3,4,5,6,7,8,9,10,11,12,13,14,15,16,17,18,19,20,21,22,23,24,25,26,27,28,29,30,31,32,33,34,35,36,37,38,39,40,41,42,43,44,45,46,47,48] .done)),(13,(OT.seq [0,1,2,3,4,5,6,7,8,9,10,11,13,14,15,16,17,18,19,12,20,21,22] .done))] }
noncomputable def Kl:List AK:=[.v (.sl bo) .k]
noncomputable def agP (N:Nat) (x:aw Kl) (kf:aa→Option aa):Option aa:=AF N x.1 (fun r0=>kf ⟨[⟨.bool,.k,r0⟩],[]⟩)
noncomputable def jn (N:Nat):=au Kl (agP N)
noncomputable def Km (N:Nat):List Entry:=[⟨144,[.val,.val,.val],(kI N)⟩,⟨40,[.val,.val],(lF N)⟩,⟨78,[.val,.val],(Kj N)⟩]
noncomputable def tp:Code:=aI Tryz.f143
noncomputable def Kn (N n:Nat) (key:Nat) (S:St) (K:Ks):Option aa:=bif Nat.beq key 4 then ay vE S (fun x=>mT N x.1 x.2.1 x.2.2.1 n (K (.x 0) (shape xY ())) (fun z0=>K .r (shape xZ (z0,()))) x.2.2.2.1) else bif Nat.beq key 10 then ay su S (fun x=>gP N x.1 x.2.1 x.2.2.1 x.2.2.2.1 x.2.2.2.2.1 x.2.2.2.2.2.1 x.2.2.2.2.2.2.1 n (K (.x 2) (shape uc (x.1,x.2.2.1,x.2.2.2.1,x.2.2.2.2.1,()))) (fun z0=>K .r (shape ud (z0,()))) x.2.2.2.2.2.2.2.1) else none
theorem anp (N key:Nat) (S:St) (K:Ks):Kn N 0 key S K=none:=(bC (aq fun _=>rfl) (bC (aq fun _=>rfl) rfl))
noncomputable def O6:Code:=(af tp).getD 0 .skip
noncomputable def O7:Code:=(af tp).getD 1 .skip
theorem anq:af tp=[O6,O7]:=by kernel_rfl
theorem TW (N:Nat):dB Kk (Km N) (Kn N) N 10 su O7:=fun _ _ _=>by kernel_rfl
theorem abZ (N:Nat):dB Kk (Km N) (Kn N) N 4 vE O6:=fun _ _ _=>by kernel_rfl
theorem anr (N:Nat):bL Kl (agP N) Kk (Km N) (Kn N N) Tryz.f143:=fun _ _=>by kernel_rfl
theorem nq {Γ:Gl} (N:Nat):Sound Γ Tryz.prog 143 (jn N):=eZ Kk Tryz.f143 tp (anp N) anq (anr N) (rc (abZ N) (rc (TW N) trivial)) ⟨qp N,⟨sr N,⟨agO N,trivial⟩⟩⟩
noncomputable def A6:List Kd:=.v (.sl bY) .k::dn 3 (.v (.ptr bY) (.o 80 none .k)::dn 5 (.v (.sl bY) .k::.v (.int .i64) .k::.v (.int .i64) .k::dn 30 (.v (.sl (.int .i64)) .k::.v (.int .i64) .k::.v (.int .i64) .k::dn 23 ([]))))
noncomputable def CV:List Kd:=.v (.sl bY) .k::dn 9 (.v (.sl bY) .k::.v (.int .i64) .k::.v (.int .i64) .k::dn 56 ([]))
noncomputable def CW:List Kd:=dK::dK::.v .bool .k::dn 66 ([])
noncomputable def A7:List Kd:=.v (.sl bY) .k::dn 9 (.v (.sl bY) .k::.v (.int .i64) .k::.v (.int .i64) .k::dn 56 ([]))
noncomputable def CX:List Kd:=dn 69 ([])
noncomputable def CY:List Kd:=dK::dK::.v .bool .k::dn 66 ([])
noncomputable def X9:Hint:={ tab,hn:=[],loops:=[(9,A6),(4,A7)],outs:=[(9,4,CV),(9,1,CW),(4,2,CX),(4,1,CY)],bj:=[(6,(OT.seq [0,1,2,3,4,5,6,7,8,9,10,11,12,13,14,15,16,17,18,19,20,21,22,23,24] .done))] }
noncomputable def TX:List AK:=[.v (.sl bY) .k]
noncomputable def atn (N:Nat) (x:aw TX) (kf:aa→Option aa):Option aa:=I79 N x.1 (fun r0=>kf ⟨[⟨.bool,.k,r0⟩],[]⟩)
noncomputable def DX (N:Nat):=au TX (atn N)
noncomputable def TY (N:Nat):List Entry:=[⟨144,[.val,.val,.val],(kI N)⟩]
noncomputable def x4:Code:=aI Tryz.f79
noncomputable def Ya (N n:Nat) (key:Nat) (S:St) (K:Ks):Option aa:=bif Nat.beq key 4 then ay A7 S (fun x=>rI N x.1 x.2.1 x.2.2.1 n (K (.x 0) (shape CX ())) (fun z0=>K .r (shape CY (z0,()))) x.2.2.2.1) else bif Nat.beq key 9 then ay A6 S (fun x=>mh N x.1 x.2.1 x.2.2.1 x.2.2.2.1 x.2.2.2.2.1 x.2.2.2.2.2.1 x.2.2.2.2.2.2.1 n (K (.x 2) (shape CV (x.1,x.2.2.1,x.2.2.2.1,x.2.2.2.2.1,()))) (fun z0=>K .r (shape CW (z0,()))) x.2.2.2.2.2.2.2.1) else none
theorem awF (N key:Nat) (S:St) (K:Ks):Ya N 0 key S K=none:=(bC (aq fun _=>rfl) (bC (aq fun _=>rfl) rfl))
noncomputable def Yb:Code:=(af x4).getD 0 .skip
noncomputable def Yc:Code:=(af x4).getD 1 .skip
theorem awG:af x4=[Yb,Yc]:=by kernel_rfl
theorem agQ (N:Nat):dB X9 (TY N) (Ya N) N 9 A6 Yc:=fun _ _ _=>by kernel_rfl
theorem agR (N:Nat):dB X9 (TY N) (Ya N) N 4 A7 Yb:=fun _ _ _=>by kernel_rfl
theorem awH (N:Nat):bL TX (atn N) X9 (TY N) (Ya N N) Tryz.f79:=fun _ _=>by kernel_rfl
theorem TZ {Γ:Gl} (N:Nat):Sound Γ Tryz.prog 79 (DX N):=eZ X9 Tryz.f79 x4 (awF N) awG (awH N) (rc (agR N) (rc (agQ N) trivial)) ⟨qp N,trivial⟩
noncomputable def vF:List Kd:=.v (.sl (.int .i64)) .k::.v (.int .i64) .k::dn 5 (.v (.int .i64) .k::.v (.int .i64) .k::dn 10 ([]))
noncomputable def x5:List Kd:=dn 19 ([])
noncomputable def x6:List Kd:=dn 4 (.v (.int .i64) .k::dn 14 ([]))
noncomputable def T4:Hint:={ tab,hn:=[],loops:=[(2,vF)],outs:=[(2,2,x5),(2,1,x6)],bj:=[] }
noncomputable def Ko:List AK:=[.v (.sl (.int .i64)) .k,.v (.int .i64) .k]
noncomputable def agS (N:Nat) (x:aw Ko) (kf:aa→Option aa):Option aa:=SH N x.1 x.2.1 (fun r0=>kf ⟨[⟨(.int .i64),.k,r0⟩],[]⟩)
noncomputable def Gp (N:Nat):=au Ko (agS N)
noncomputable def A8:Code:=aI Tryz.f170
noncomputable def T5 (N n:Nat) (key:Nat) (S:St) (K:Ks):Option aa:=bif Nat.beq key 2 then ay vF S (fun x=>pw x.1 x.2.1 x.2.2.1 n (K (.x 0) (shape x5 ())) (fun z0=>K .r (shape x6 (z0,()))) x.2.2.2.1) else none
theorem ant (N key:Nat) (S:St) (K:Ks):T5 N 0 key S K=none:=(bC (aq fun _=>rfl) rfl)
noncomputable def O8:Code:=(af A8).getD 0 .skip
theorem anu:af A8=[O8]:=by kernel_rfl
theorem ab0 (N:Nat):dB T4 [] (T5 N) N 2 vF O8:=fun _ _ _=>by kernel_rfl
theorem anv (N:Nat):bL Ko (agS N) T4 [] (T5 N N) Tryz.f170:=fun _ _=>by kernel_rfl
theorem Yd {Γ:Gl} (N:Nat):Sound Γ Tryz.prog 170 (Gp N):=eZ T4 Tryz.f170 A8 (ant N) anu (anv N) (rc (ab0 N) trivial) trivial
noncomputable def T6:List AK:=[.v (.sl (.int .i64)) .k,.v (.int .i64) .k]
noncomputable def ato (N:Nat) (x:aw T6) (kf:aa→Option aa):Option aa:=S82 N x.1 x.2.1 (fun r0=>kf ⟨[⟨.bool,.k,r0⟩],[]⟩)
noncomputable def x7 (N:Nat):=au T6 (ato N)
noncomputable def awI (N:Nat):List Entry:=[⟨170,[.val,.val],(Gp N)⟩]
theorem awJ (N:Nat):bL T6 (ato N) hq (awI N) (dO N N) Tryz.f82:=fun _ _=>by kernel_rfl
theorem Kp {Γ:Gl} (N:Nat):Sound Γ Tryz.prog 82 (x7 N):=e9 hq Tryz.f82 (awJ N) ⟨Yd N,trivial⟩
noncomputable def T7:List AK:=[.v (.sl bo) .k,.v (.int .i64) .k,.v (.int .i64) .k]
noncomputable def atp (N:Nat) (x:aw T7) (kf:aa→Option aa):Option aa:=I19 N x.1 x.2.1 x.2.2.1 (fun r0=>kf ⟨[⟨.bool,.k,r0⟩],[]⟩)
noncomputable def Ye (N:Nat):=au T7 (atp N)
noncomputable def awK (N:Nat):List Entry:=[⟨40,[.val,.val],(lF N)⟩,⟨82,[.val,.val],(x7 N)⟩]
theorem awL (N:Nat):bL T7 (atp N) hq (awK N) (dO N N) Tryz.f19:=fun _ _=>by kernel_rfl
theorem awM {Γ:Gl} (N:Nat):Sound Γ Tryz.prog 19 (Ye N):=e9 hq Tryz.f19 (awL N) ⟨sr N,⟨Kp N,trivial⟩⟩
noncomputable def atq:Hint:={ tab,hn:=[],loops:=[],outs:=[],bj:=[(2,(OT.seq [0,1,2,3,4,5,6,7,8,9,10,11,12,13,14,15,16,17,18,19,20,21,22,23,24,25,26,27,28,29,30,31,32,33,34,35] .done))] }
noncomputable def T8:List AK:=[.v (.sl bo) .k,.v (.int .i64) .k,.v (.int .i64) .k]
noncomputable def atr (N:Nat) (x:aw T8) (kf:aa→Option aa):Option aa:=I77 N x.1 x.2.1 x.2.2.1 (fun r0=>kf ⟨[⟨.bool,.k,r0⟩],[]⟩)
noncomputable def Kq (N:Nat):=au T8 (atr N)
noncomputable def awN (N:Nat):List Entry:=[⟨40,[.val,.val],(lF N)⟩,⟨143,[.val],(jn N)⟩,⟨19,[.val,.val,.val],(Ye N)⟩]
theorem awO (N:Nat):bL T8 (atr N) atq (awN N) (dO N N) Tryz.f77:=fun _ _=>by kernel_rfl
theorem agT {Γ:Gl} (N:Nat):Sound Γ Tryz.prog 77 (Kq N):=e9 atq Tryz.f77 (awO N) ⟨sr N,⟨nq N,⟨awM N,trivial⟩⟩⟩
noncomputable def A9:List Kd:=.v (.sl bo) .k::dn 4 (.v (.sl (.int .i64)) (.o 3 none .k)::dn 5 (.v (.sl aP) .k::.v (.int .i64) .k::.v (.int .i64) .k::dn 30 ([])))
noncomputable def CZ:List Kd:=.v (.sl bo) .k::dn 4 (.v (.sl (.int .i64)) (.o 3 none .k)::dn 38 ([]))
noncomputable def C0:List Kd:=dn 4 (.v .bool .k::dn 39 ([]))
noncomputable def vG:List Kd:=dn 5 (.v (.sl (.int .i64)) (.o 3 none .k)::dn 26 (.v (.sl bo) .k::.v (.int .i64) .k::.v (.int .i64) .k::dn 9 ([])))
noncomputable def x8:List Kd:=dn 44 ([])
noncomputable def x9:List Kd:=dn 4 (.v .bool .k::dn 39 ([]))
noncomputable def Yf:Hint:={ tab,hn:=[],loops:=[(3,A9),(10,vG)],outs:=[(3,2,CZ),(3,1,C0),(10,4,x8),(10,1,x9)],bj:=[] }
noncomputable def T9:List AK:=[.v (.sl bo) .k,.v (.sl aP) .k]
noncomputable def att (N:Nat) (x:aw T9) (kf:aa→Option aa):Option aa:=I17 N x.1 x.2.1 (fun r0=>kf ⟨[⟨.bool,.k,r0⟩],[]⟩)
noncomputable def Yg (N:Nat):=au T9 (att N)
noncomputable def Ua (N:Nat):List Entry:=[⟨77,[.val,.val,.val],(Kq N)⟩,⟨78,[.val,.val],(Kj N)⟩]
noncomputable def ya:Code:=aI Tryz.f17
noncomputable def Yh (N n:Nat) (key:Nat) (S:St) (K:Ks):Option aa:=bif Nat.beq key 3 then ay A9 S (fun x=>uS N x.1 x.2.2.1 x.2.2.2.1 n (fun z0=>K (.x 0) (shape CZ (x.1,z0,()))) (fun z0=>K .r (shape C0 (z0,()))) x.2.1 x.2.2.2.2.1) else bif Nat.beq key 10 then ay vG S (fun x=>py N x.1 x.2.1 x.2.2.1 n (K (.x 2) (shape x8 ())) (fun z0=>K .r (shape x9 (z0,()))) x.2.2.2.1) else none
theorem awP (N key:Nat) (S:St) (K:Ks):Yh N 0 key S K=none:=(bC (aq fun _=>rfl) (bC (aq fun _=>rfl) rfl))
noncomputable def Yi:Code:=(af ya).getD 0 .skip
noncomputable def Yj:Code:=(af ya).getD 1 .skip
theorem awQ:af ya=[Yi,Yj]:=by kernel_rfl
theorem ab1 (N:Nat):dB Yf (Ua N) (Yh N) N 10 vG Yj:=fun _ _ _=>by kernel_rfl
theorem agU (N:Nat):dB Yf (Ua N) (Yh N) N 3 A9 Yi:=fun _ _ _=>by kernel_rfl
theorem awR (N:Nat):bL T9 (att N) Yf (Ua N) (Yh N N) Tryz.f17:=fun _ _=>by kernel_rfl
theorem awS {Γ:Gl} (N:Nat):Sound Γ Tryz.prog 17 (Yg N):=eZ Yf Tryz.f17 ya (awP N) awQ (awR N) (rc (agU N) (rc (ab1 N) trivial)) ⟨agT N,⟨agO N,trivial⟩⟩
noncomputable def Ub:List AK:=[.v bY .k,.v (.ptr (.int .i64)) .k]
noncomputable def atu (N:Nat) (x:aw Ub) (kf:aa→Option aa):Option aa:=I81 N x.1 x.2.1 (fun r0=>kf ⟨[⟨.bool,.k,r0⟩],[]⟩)
noncomputable def Yk (N:Nat):=au Ub (atu N)
theorem awT (N:Nat):bL Ub (atu N) hq [] (dO N N) Tryz.f81:=fun _ _=>by kernel_rfl
theorem awU {Γ:Gl} (N:Nat):Sound Γ Tryz.prog 81 (Yk N):=e9 hq Tryz.f81 (awT N) trivial
noncomputable def Ba:List Kd:=.v (.sl bY) .k::.ld 81 [.kv (.ptr (.int .i64))]::dn 5 (.v (.int .i64) .k::.v (.int .i64) .k::dn 10 ([]))
noncomputable def C1:List Kd:=dn 19 ([])
noncomputable def C2:List Kd:=dn 4 (.v (.int .i64) .k::dn 14 ([]))
noncomputable def agV:Hint:={ tab,hn:=[],loops:=[(2,Ba)],outs:=[(2,2,C1),(2,1,C2)],bj:=[] }
noncomputable def Uc:List AK:=[.v (.sl bY) .k,.fn 81 [(.ptr (.int .i64))]]
noncomputable def atv (N:Nat) (x:aw Uc) (kf:aa→Option aa):Option aa:=S80 N x.1 x.2.1.1 (fun r0=>kf ⟨[⟨(.int .i64),.k,r0⟩],[]⟩)
noncomputable def Yl (N:Nat):=au Uc (atv N)
noncomputable def agW (N:Nat):List Entry:=[⟨81,[.val],(Yk N)⟩]
noncomputable def Gq:Code:=aI Tryz.f80
noncomputable def agX (N n:Nat) (key:Nat) (S:St) (K:Ks):Option aa:=bif Nat.beq key 2 then ay Ba S (fun x=>uT N x.1 x.2.1.1 x.2.2.1 n (K (.x 0) (shape C1 ())) (fun z0=>K .r (shape C2 (z0,()))) x.2.2.2.1) else none
theorem awV (N key:Nat) (S:St) (K:Ks):agX N 0 key S K=none:=(bC (aq fun _=>rfl) rfl)
noncomputable def Ym:Code:=(af Gq).getD 0 .skip
theorem awW:af Gq=[Ym]:=by kernel_rfl
theorem agY (N:Nat):dB agV (agW N) (agX N) N 2 Ba Ym:=fun _ _ _=>by kernel_rfl
theorem awX (N:Nat):bL Uc (atv N) agV (agW N) (agX N N) Tryz.f80:=fun _ _=>by kernel_rfl
theorem awY {Γ:Gl} (N:Nat):Sound Γ Tryz.prog 80 (Yl N):=eZ agV Tryz.f80 Gq (awV N) awW (awX N) (rc (agY N) trivial) ⟨awU N,trivial⟩
noncomputable def Bb:List Kd:=.v (.sl bo) .k::dn 3 (.v (.ptr bY) (.o 80 none .k)::dn 9 (.v (.sl (.int .i64)) (.o 3 none .k)::.v (.int .i64) .k::.v (.int .i64) .k::dn 25 ([])))
noncomputable def C3:List Kd:=dn 42 ([])
noncomputable def C4:List Kd:=dn 6 (.v .bool .k::dn 35 ([]))
noncomputable def agZ:Hint:={ tab,hn:=[],loops:=[(2,Bb)],outs:=[(2,2,C3),(2,1,C4)],bj:=[(5,(OT.seq [0,1,2,3,4,5,6,7,8,9,10,11,12,13,14,15,16,17] .done))] }
noncomputable def Ud:List AK:=[.v (.sl bo) .k,.v bY .k,.v aP .k]
noncomputable def atw (N:Nat) (x:aw Ud) (kf:aa→Option aa):Option aa:=I83 N x.1 x.2.1 x.2.2.1 (fun r0=>kf ⟨[⟨.bool,.k,r0⟩],[]⟩)
noncomputable def Kr (N:Nat):=au Ud (atw N)
noncomputable def ag0 (N:Nat):List Entry:=[⟨40,[.val,.val],(lF N)⟩,⟨82,[.val,.val],(x7 N)⟩]
noncomputable def Gr:Code:=aI Tryz.f83
noncomputable def ag3 (N n:Nat) (key:Nat) (S:St) (K:Ks):Option aa:=bif Nat.beq key 2 then ay Bb S (fun x=>uU N x.1 x.2.1 x.2.2.1 x.2.2.2.1 n (K (.x 0) (shape C3 ())) (fun z0=>K .r (shape C4 (z0,()))) x.2.2.2.2.1) else none
theorem awZ (N key:Nat) (S:St) (K:Ks):ag3 N 0 key S K=none:=(bC (aq fun _=>rfl) rfl)
noncomputable def Yn:Code:=(af Gr).getD 0 .skip
theorem aw0:af Gr=[Yn]:=by kernel_rfl
theorem ag4 (N:Nat):dB agZ (ag0 N) (ag3 N) N 2 Bb Yn:=fun _ _ _=>by kernel_rfl
theorem aw1 (N:Nat):bL Ud (atw N) agZ (ag0 N) (ag3 N N) Tryz.f83:=fun _ _=>by kernel_rfl
theorem ag5 {Γ:Gl} (N:Nat):Sound Γ Tryz.prog 83 (Kr N):=eZ agZ Tryz.f83 Gr (awZ N) aw0 (aw1 N) (rc (ag4 N) trivial) ⟨sr N,⟨Kp N,trivial⟩⟩
noncomputable def Bc:List Kd:=.v (.sl bo) .k::.v (.sl bY) .k::.v (.sl aP) .k::.v (.sl (.int .i64)) .k::dn 18 (.v (.sl (.int .i64)) .k::.v (.int .i64) .k::.v (.int .i64) .k::dn 30 ([]))
noncomputable def C5:List Kd:=dn 55 ([])
noncomputable def C6:List Kd:=dn 8 (.v .bool .k::dn 46 ([]))
noncomputable def ag6:Hint:={ tab,hn:=[],loops:=[(4,Bc)],outs:=[(4,2,C5),(4,1,C6)],bj:=[(7,(OT.seq [0,1,2,3,4,5,6,7,8,9,10,11,12,13,14,15,16,17,18,19,20,21] .done))] }
noncomputable def Ue:List AK:=[.v (.sl bo) .k,.v (.sl bY) .k,.v (.sl aP) .k,.v (.sl (.int .i64)) .k]
noncomputable def atx (N:Nat) (x:aw Ue) (kf:aa→Option aa):Option aa:=I18 N x.1 x.2.1 x.2.2.1 x.2.2.2.1 (fun r0=>kf ⟨[⟨.bool,.k,r0⟩],[]⟩)
noncomputable def Yo (N:Nat):=au Ue (atx N)
noncomputable def ag7 (N:Nat):List Entry:=[⟨79,[.val],(DX N)⟩,⟨80,[.val,.val],(Yl N)⟩,⟨82,[.val,.val],(x7 N)⟩,⟨83,[.val,.val,.val],(Kr N)⟩]
noncomputable def Gs:Code:=aI Tryz.f18
noncomputable def ag8 (N n:Nat) (key:Nat) (S:St) (K:Ks):Option aa:=bif Nat.beq key 4 then ay Bc S (fun x=>uV N x.1 x.2.1 x.2.2.1 x.2.2.2.1 x.2.2.2.2.1 x.2.2.2.2.2.1 n (K (.x 0) (shape C5 ())) (fun z0=>K .r (shape C6 (z0,()))) x.2.2.2.2.2.2.1) else none
theorem aw2 (N key:Nat) (S:St) (K:Ks):ag8 N 0 key S K=none:=(bC (aq fun _=>rfl) rfl)
noncomputable def Yp:Code:=(af Gs).getD 0 .skip
theorem aw3:af Gs=[Yp]:=by kernel_rfl
theorem ag9 (N:Nat):dB ag6 (ag7 N) (ag8 N) N 4 Bc Yp:=fun _ _ _=>by kernel_rfl
theorem aw4 (N:Nat):bL Ue (atx N) ag6 (ag7 N) (ag8 N N) Tryz.f18:=fun _ _=>by kernel_rfl
theorem aw5 {Γ:Gl} (N:Nat):Sound Γ Tryz.prog 18 (Yo N):=eZ ag6 Tryz.f18 Gs (aw2 N) aw3 (aw4 N) (rc (ag9 N) trivial) ⟨TZ N,⟨awY N,⟨Kp N,⟨ag5 N,trivial⟩⟩⟩⟩
noncomputable def Kt:List AK:=[.v dh .k]
noncomputable def ag' (N:Nat) (x:aw Kt) (kf:aa→Option aa):Option aa:=NL N x.1 (fun r0=>kf ⟨[⟨.bool,.k,r0⟩],[]⟩)
noncomputable def yb (N:Nat):=au Kt (ag' N)
noncomputable def anw (N:Nat):List Entry:=[⟨144,[.val,.val,.val],(kI N)⟩]
theorem anx (N:Nat):bL Kt (ag' N) hq (anw N) (dO N N) Tryz.f138:=fun _ _=>by kernel_rfl
theorem Ku {Γ:Gl} (N:Nat):Sound Γ Tryz.prog 138 (yb N):=e9 hq Tryz.f138 (anx N) ⟨qp N,trivial⟩
noncomputable def vH:List Kd:=dn 3 (.v (.int .i64) .k::dn 6 (.v (.sl bo) .k::.v (.int .i64) .k::.v (.int .i64) .k::dn 9 ([])))
noncomputable def yc:List Kd:=dn 3 (.v (.int .i64) .k::dn 18 ([]))
noncomputable def Uf:Hint:={ tab,hn:=[],loops:=[(5,vH)],outs:=[(5,2,yc)],bj:=[] }
noncomputable def Kv:List AK:=[.v (.sl bo) .k]
noncomputable def aha (N:Nat) (x:aw Kv) (kf:aa→Option aa):Option aa:=akO N x.1 (fun r0=>kf ⟨[⟨(.int .i64),.k,r0⟩],[]⟩)
noncomputable def O9 (N:Nat):=au Kv (aha N)
noncomputable def Yq (N:Nat):List Entry:=[⟨143,[.val],(jn N)⟩]
noncomputable def Bd:Code:=aI Tryz.f145
noncomputable def Ug (N n:Nat) (key:Nat) (S:St) (K:Ks):Option aa:=bif Nat.beq key 5 then ay vH S (fun x=>pz x.2.1 x.2.2.1 n (fun z0=>K (.x 0) (shape yc (z0,()))) x.1 x.2.2.2.1) else none
theorem anz (N key:Nat) (S:St) (K:Ks):Ug N 0 key S K=none:=(bC (aq fun _=>rfl) rfl)
noncomputable def O':Code:=(af Bd).getD 0 .skip
theorem anA:af Bd=[O']:=by kernel_rfl
theorem ab2 (N:Nat):dB Uf (Yq N) (Ug N) N 5 vH O':=fun _ _ _=>by kernel_rfl
theorem anB (N:Nat):bL Kv (aha N) Uf (Yq N) (Ug N N) Tryz.f145:=fun _ _=>by kernel_rfl
theorem anC {Γ:Gl} (N:Nat):Sound Γ Tryz.prog 145 (O9 N):=eZ Uf Tryz.f145 Bd (anz N) anA (anB N) (rc (ab2 N) trivial) ⟨nq N,trivial⟩
noncomputable def Be:List Kd:=dK::.v (.ptr bM) (.o 31 none .k)::dn 60 (.v (.sl dh) .k::.v (.int .i64) .k::.v (.int .i64) .k::dn 34 ([]))
noncomputable def C7:List Kd:=dK::.v (.ptr bM) (.o 31 none .k)::dn 97 ([])
noncomputable def C8:List Kd:=dK::dK::.v .bool .k::dn 96 ([])
noncomputable def ahb:Hint:={ tab,hn:=[],loops:=[(6,Be)],outs:=[(6,2,C7),(6,1,C8)],bj:=[(8,(OT.seq [0,1,2,3,4,5,6,7,8,9,10,11,12,13,14,15,16,17] .done)),(11,(OT.seq [0,1,2,3,4,5,7,8,6,9,10,11] .done))] }
noncomputable def Uh:List AK:=[.v bM .k]
noncomputable def aty (N:Nat) (x:aw Uh) (kf:aa→Option aa):Option aa:=I39 N x.1 (fun r0=>kf ⟨[⟨.bool,.k,r0⟩],[]⟩)
noncomputable def yd (N:Nat):=au Uh (aty N)
noncomputable def ahc (N:Nat):List Entry:=[⟨143,[.val],(jn N)⟩,⟨79,[.val],(DX N)⟩,⟨75,[.val],(Kh N)⟩,⟨16,[.val],(tk N)⟩,⟨17,[.val,.val],(Yg N)⟩,⟨18,[.val,.val,.val,.val],(Yo N)⟩,⟨138,[.val],(yb N)⟩,⟨144,[.val,.val,.val],(kI N)⟩,⟨145,[.val],(O9 N)⟩]
noncomputable def Gt:Code:=aI Tryz.f39
noncomputable def ahd (N n:Nat) (key:Nat) (S:St) (K:Ks):Option aa:=bif Nat.beq key 6 then ay Be S (fun x=>rK N x.1 x.2.1 x.2.2.1 n (K (.x 0) (shape C7 (x.1,()))) (fun z0=>K .r (shape C8 (z0,()))) x.2.2.2.1) else none
theorem aw6 (N key:Nat) (S:St) (K:Ks):ahd N 0 key S K=none:=(bC (aq fun _=>rfl) rfl)
noncomputable def Yr:Code:=(af Gt).getD 0 .skip
theorem aw7:af Gt=[Yr]:=by kernel_rfl
theorem ahe (N:Nat):dB ahb (ahc N) (ahd N) N 6 Be Yr:=fun _ _ _=>by kernel_rfl
theorem aw8 (N:Nat):bL Uh (aty N) ahb (ahc N) (ahd N N) Tryz.f39:=fun _ _=>by kernel_rfl
theorem Kw {Γ:Gl} (N:Nat):Sound Γ Tryz.prog 39 (yd N):=eZ ahb Tryz.f39 Gt (aw6 N) aw7 (aw8 N) (rc (ahe N) trivial) ⟨nq N,⟨TZ N,⟨agI N,⟨Gj N,⟨awS N,⟨aw5 N,⟨Ku N,⟨qp N,⟨anC N,trivial⟩⟩⟩⟩⟩⟩⟩⟩⟩
noncomputable def Kx:List AK:=[.v bM .k,.v bM (.p (.o 46 none (.p .k (.p .k (.p .k (.p .k (.p .k (.o 3 none .k))))))) (.p (.o 80 none (.p .k (.p .k (.o 3 none .k)))) (.p (.o 104 none .k) (.p (.o 3 none .k) (.p (.o 136 none .k) (.p (.o 102 none .k) .k)))))),.v (.int .i64) .k,.v (.int .i64) .k]
noncomputable def ahf (N:Nat) (x:aw Kx) (kf:aa→Option aa):Option aa:=Jk N x.1 x.2.1 x.2.2.1 x.2.2.2.1 (fun r0 r1=>kf ⟨[⟨bM,(.p (.o 46 none (.p .k (.p .k (.p .k (.p .k (.p .k (.o 3 none .k))))))) (.p (.o 80 none (.p .k (.p .k (.o 3 none .k)))) (.p (.o 104 none .k) (.p (.o 3 none .k) (.p (.o 136 none .k) (.p (.o 102 none .k) .k)))))),r0⟩,⟨.bool,.k,r1⟩],[]⟩)
noncomputable def mF (N:Nat):=au Kx (ahf N)
noncomputable def anD (N:Nat):List Entry:=[⟨189,[.val,.val,.val],(O5 N)⟩,⟨39,[.val],(yd N)⟩,⟨70,[.val],(km N)⟩]
theorem anE (N:Nat):bL Kx (ahf N) hq (anD N) (dO N N) Tryz.f103:=fun _ _=>by kernel_rfl
theorem tq {Γ:Gl} (N:Nat):Sound Γ Tryz.prog 103 (mF N):=e9 hq Tryz.f103 (anE N) ⟨ano N,⟨Kw N,⟨qo N,trivial⟩⟩⟩
noncomputable def Bf:List Kd:=dK::.v (.int .i64) .k::.v (.int .i64) .k::.v (.ptr bM) (.o 31 none .k)::dK::dK::.v (.ptr bM) (.o 31 none (.p (.o 46 none (.p .k (.p .k (.p .k (.p .k (.p .k (.o 3 none .k))))))) (.p (.o 80 none (.p .k (.p .k (.o 3 none .k)))) (.p (.o 104 none .k) (.p (.o 3 none .k) (.p (.o 136 none .k) (.p (.o 102 none .k) .k)))))))::dK::.v (.ptr bM) (.o 31 none (.p (.o 46 none (.p .k (.p .k (.p .k (.p .k (.p .k (.o 3 none .k))))))) (.p (.o 80 none (.p .k (.p .k (.o 3 none .k)))) (.p (.o 104 none .k) (.p (.o 3 none .k) (.p (.o 136 none .k) (.p (.o 102 none .k) .k)))))))::.v (.int .i64) .k::dn 44 ([])
noncomputable def C9:List Kd:=dK::.v (.int .i64) .k::.v (.int .i64) .k::.v (.ptr bM) (.o 31 none .k)::dK::dK::.v (.ptr bM) (.o 31 none (.p (.o 46 none (.p .k (.p .k (.p .k (.p .k (.p .k (.o 3 none .k))))))) (.p (.o 80 none (.p .k (.p .k (.o 3 none .k)))) (.p (.o 104 none .k) (.p (.o 3 none .k) (.p (.o 136 none .k) (.p (.o 102 none .k) .k)))))))::dK::.v (.ptr bM) (.o 31 none (.p (.o 46 none (.p .k (.p .k (.p .k (.p .k (.p .k (.o 3 none .k))))))) (.p (.o 80 none (.p .k (.p .k (.o 3 none .k)))) (.p (.o 104 none .k) (.p (.o 3 none .k) (.p (.o 136 none .k) (.p (.o 102 none .k) .k)))))))::.v (.int .i64) .k::dn 44 ([])
noncomputable def ahg:Hint:={ tab,hn:=[],loops:=[(5,Bf)],outs:=[(5,2,C9)],bj:=[] }
noncomputable def Ui:List AK:=[.v bM .k,.v (.int .i64) .k,.v (.int .i64) .k]
noncomputable def atz (N:Nat) (x:aw Ui) (kf:aa→Option aa):Option aa:=I30 N x.1 x.2.1 x.2.2.1 (fun r0 r1=>kf ⟨[⟨bM,(.p (.o 46 none (.p .k (.p .k (.p .k (.p .k (.p .k (.o 3 none .k))))))) (.p (.o 80 none (.p .k (.p .k (.o 3 none .k)))) (.p (.o 104 none .k) (.p (.o 3 none .k) (.p (.o 136 none .k) (.p (.o 102 none .k) .k)))))),r0⟩,⟨.bool,.k,r1⟩],[]⟩)
noncomputable def Ys (N:Nat):=au Ui (atz N)
noncomputable def ahh (N:Nat):List Entry:=[⟨70,[.val],(km N)⟩,⟨40,[.val,.val],(lF N)⟩,⟨16,[.val],(tk N)⟩,⟨135,[.take,.val,.take],(OZ N)⟩,⟨103,[.val,.take,.val,.val],(mF N)⟩]
noncomputable def Gu:Code:=aI Tryz.f30
noncomputable def ahi (N n:Nat) (key:Nat) (S:St) (K:Ks):Option aa:=bif Nat.beq key 5 then ay Bf S (fun x=>rL x.1 x.2.1 x.2.2.1 x.2.2.2.1 x.2.2.2.2.1 n (fun z0=>K (.x 0) (shape C9 (x.1,x.2.1,x.2.2.1,x.2.2.2.1,x.2.2.2.2.1,z0,()))) x.2.2.2.2.2.1) else none
theorem aw9 (N key:Nat) (S:St) (K:Ks):ahi N 0 key S K=none:=(bC (aq fun _=>rfl) rfl)
noncomputable def Yt:Code:=(af Gu).getD 0 .skip
theorem aw':af Gu=[Yt]:=by kernel_rfl
theorem ahj (N:Nat):dB ahg (ahh N) (ahi N) N 5 Bf Yt:=fun _ _ _=>by kernel_rfl
theorem axa (N:Nat):bL Ui (atz N) ahg (ahh N) (ahi N N) Tryz.f30:=fun _ _=>by kernel_rfl
theorem axb {Γ:Gl} (N:Nat):Sound Γ Tryz.prog 30 (Ys N):=eZ ahg Tryz.f30 Gu (aw9 N) aw' (axa N) (rc (ahj N) trivial) ⟨qo N,⟨sr N,⟨Gj N,⟨am6 N,⟨tq N,trivial⟩⟩⟩⟩⟩
noncomputable def Ky:List AK:=[.v bY .k,.v (.ptr (.int .i64)) .k]
noncomputable def ahk (N:Nat) (x:aw Ky) (kf:aa→Option aa):Option aa:=akS N x.1 x.2.1 (fun r0=>kf ⟨[⟨.bool,.k,r0⟩],[]⟩)
noncomputable def Pb (N:Nat):=au Ky (ahk N)
theorem anF (N:Nat):bL Ky (ahk N) hq [] (dO N N) Tryz.f209:=fun _ _=>by kernel_rfl
theorem anG {Γ:Gl} (N:Nat):Sound Γ Tryz.prog 209 (Pb N):=e9 hq Tryz.f209 (anF N) trivial
noncomputable def vI:List Kd:=.v (.sl bY) .k::.ld 209 [.kv (.ptr (.int .i64))]::dn 5 (.v (.int .i64) .k::.v (.int .i64) .k::dn 10 ([]))
noncomputable def ye:List Kd:=dn 19 ([])
noncomputable def yf:List Kd:=dn 4 (.v (.int .i64) .k::dn 14 ([]))
noncomputable def Uj:Hint:={ tab,hn:=[],loops:=[(2,vI)],outs:=[(2,2,ye),(2,1,yf)],bj:=[] }
noncomputable def Kz:List AK:=[.v (.sl bY) .k,.fn 209 [(.ptr (.int .i64))]]
noncomputable def ahl (N:Nat) (x:aw Kz) (kf:aa→Option aa):Option aa:=au5 N x.1 x.2.1.1 (fun r0=>kf ⟨[⟨(.int .i64),.k,r0⟩],[]⟩)
noncomputable def Pc (N:Nat):=au Kz (ahl N)
noncomputable def Yu (N:Nat):List Entry:=[⟨209,[.val],(Pb N)⟩]
noncomputable def Bg:Code:=aI Tryz.f80
noncomputable def Uk (N n:Nat) (key:Nat) (S:St) (K:Ks):Option aa:=bif Nat.beq key 2 then ay vI S (fun x=>pB N x.1 x.2.1.1 x.2.2.1 n (K (.x 0) (shape ye ())) (fun z0=>K .r (shape yf (z0,()))) x.2.2.2.1) else none
theorem anH (N key:Nat) (S:St) (K:Ks):Uk N 0 key S K=none:=(bC (aq fun _=>rfl) rfl)
noncomputable def Pd:Code:=(af Bg).getD 0 .skip
theorem anI:af Bg=[Pd]:=by kernel_rfl
theorem ab3 (N:Nat):dB Uj (Yu N) (Uk N) N 2 vI Pd:=fun _ _ _=>by kernel_rfl
theorem anJ (N:Nat):bL Kz (ahl N) Uj (Yu N) (Uk N N) Tryz.f80:=fun _ _=>by kernel_rfl
theorem anK {Γ:Gl} (N:Nat):Sound Γ Tryz.prog 80 (Pc N):=eZ Uj Tryz.f80 Bg (anH N) anI (anJ N) (rc (ab3 N) trivial) ⟨anG N,trivial⟩
noncomputable def KA:List AK:=[.v (.sl bY) .k,.v (.int .i64) .k]
noncomputable def ahm (N:Nat) (x:aw KA) (kf:aa→Option aa):Option aa:=SN N x.1 x.2.1 (fun r0=>kf ⟨[⟨(.int .i64),.k,r0⟩],[]⟩)
noncomputable def Gv (N:Nat):=au KA (ahm N)
noncomputable def anL (N:Nat):List Entry:=[⟨80,[.val,.val],(Pc N)⟩]
theorem anM (N:Nat):bL KA (ahm N) hq (anL N) (dO N N) Tryz.f130:=fun _ _=>by kernel_rfl
theorem Yv {Γ:Gl} (N:Nat):Sound Γ Tryz.prog 130 (Gv N):=e9 hq Tryz.f130 (anM N) ⟨anK N,trivial⟩
def ahn:Go.Shelf.Ren:=⟨fun n=>bif Nat.beq n 22 then 136 else bif Nat.beq n 29 then 214 else bif Nat.beq n 30 then 215 else n,fun n=>bif Nat.beq n 0 then 0 else bif Nat.beq n 3 then 3 else bif Nat.beq n 4 then 4 else bif Nat.beq n 9 then 80 else bif Nat.beq n 24 then 25 else n,fun n=>n⟩
def anN:Array Value:=#[.int .i64 0,.int .i64 0,.slice none 0 0]
noncomputable def anO:TypeInfo:=(Tryz.prog.info? 80).get (by kernel_rfl)
theorem aho:Iw Tryz.prog ahn (Ty.size bY) anN anO:={ FB:=⟨Tryz.f136.name,by kernel_rfl,by kernel_rfl⟩,FO:=⟨Tryz.f214,by kernel_rfl,by kernel_rfl,by kernel_rfl,by kernel_rfl,by kernel_rfl⟩,mixed:=by kernel_rfl,t0:=by kernel_rfl,a0:=fun w=>by kernel_rfl,z0:=fun w=>by kernel_rfl,v0:=fun w=>by kernel_rfl,t3:=by kernel_rfl,a3:=fun w=>by kernel_rfl,z3:=fun w=>by kernel_rfl,v3:=fun w=>by kernel_rfl,t4:=by kernel_rfl,a4:=fun w=>by kernel_rfl,z4:=fun w=>by kernel_rfl,v4:=fun w=>by kernel_rfl,t24:=by kernel_rfl,a24:=fun w=>by kernel_rfl,z24:=fun w=>by kernel_rfl,v24:=fun w=>by kernel_rfl,z9:=fun w=>by kernel_rfl,hz:=by kernel_rfl,hzo:=by kernel_rfl,I8:=by kernel_rfl,hz0:=by kernel_rfl,Nf:=by kernel_rfl,hby:=Nat.le_of_ble_eq_true (by kernel_rfl),Dv:=Nat.le_of_ble_eq_true (by kernel_rfl) }
noncomputable def Yw:List AK:=[.v (.sl bY) (.o 80 none (.p .k (.p .k (.o 3 none .k)))),.v (.int .i64) .k,.v (.sl bY) (.o 80 none (.p .k (.p .k (.o 3 none .k))))]
noncomputable def axc (N:Nat) (x:aw Yw) (kf:aa→Option aa):Option aa:=akT N x.1 x.2.1 x.2.2.1 (fun r0=>kf ⟨[⟨(.sl bY),(.o 80 none (.p .k (.p .k (.o 3 none .k)))),r0⟩],[]⟩)
noncomputable def Pe (N:Nat):=au Yw (axc N)
theorem anP {Γ:Gl} (N:Nat):Sound Γ Tryz.prog 136 (Pe N):=xS aho (.p .k (.p .k (.o 3 none .k))) (by kernel_rfl)
end Go.Pv.R
