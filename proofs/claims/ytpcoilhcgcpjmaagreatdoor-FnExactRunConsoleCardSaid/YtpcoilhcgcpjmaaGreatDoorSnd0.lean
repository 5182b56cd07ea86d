/- Each function of the program that the law reaches computes its plain function, part 0. -/
import Derived.Test.YtpcoilhcgcpjmaaGreatDoorPlRes
import Derived.Test.YtpcoilhcgcpjmaaGreatDoorGro
import Derived.Test.YtpcoilhcgcpjmaaGreatDoorProg
set_option linter.unusedVariables false
noncomputable section
namespace Go.Pv.R
open List Int IntKind
open Go.Proofs
set_option maxRecDepth 100000
noncomputable abbrev dK:Kd:=.dead
noncomputable def tab:kR:=[⟨2,(.int .i64),0,[]⟩,⟨3,(.int .i64),0,[]⟩,⟨4,.bool,0,[]⟩,⟨5,(.int .u8),0,[]⟩,⟨9,.str,0,[]⟩,⟨12,(.int .u64),0,[]⟩,⟨21,(.int .i32),0,[]⟩,⟨22,(.sl .str),9,[]⟩,⟨28,(.sl Q5),106,[]⟩,⟨29,(.sl tQJ),108,[]⟩,⟨30,(.sl Fi),97,[]⟩,⟨31,(.sl (.int .i64)),3,[]⟩,⟨32,(.sl tQB),101,[]⟩,⟨33,(.sl tQL),104,[]⟩,⟨34,TN,0,[28,29,30,31,32,33,3]⟩,⟨35,TN,0,[28,29,30,31,32,33,3]⟩,⟨49,tQL,0,[3,3,3,3]⟩,⟨50,tQL,0,[3,3,3,3]⟩,⟨57,(.sl (.sl (.int .i64))),31,[]⟩,⟨58,Q6,0,[3,57]⟩,⟨59,Q6,0,[3,57]⟩,⟨69,(.sl (.int .u8)),5,[]⟩,⟨76,(.sl .bool),4,[]⟩,⟨96,Fi,0,[3,3]⟩,⟨97,Fi,0,[3,3]⟩,⟨100,tQB,0,[3,3,3]⟩,⟨101,tQB,0,[3,3,3]⟩,⟨103,tQL,0,[3,3,3,3]⟩,⟨104,tQL,0,[3,3,3,3]⟩,⟨105,Q5,0,[3,3,3,3,3,31]⟩,⟨106,Q5,0,[3,3,3,3,3,31]⟩,⟨107,tQJ,0,[3,3,31]⟩,⟨108,tQJ,0,[3,3,31]⟩,⟨133,(.int .u64),0,[]⟩,⟨149,.mp,0,[]⟩,⟨168,(.int .u64),0,[]⟩,⟨170,(.sl (.int .u64)),133,[]⟩,⟨196,(.arr 2 (.int .i64)),3,[]⟩,⟨206,(.int .u32),0,[]⟩,⟨211,(.int .i64),0,[]⟩,⟨232,(.int .u64),0,[]⟩]
theorem mixed:Tryz.prog.follows .mixedOrders=true:=by kernel_rfl
theorem vt:kh Tryz.prog tab=true:=by kernel_rfl
noncomputable def Gy:Md:=(.p (.o 106 none (.p .k (.p .k (.p .k (.p .k (.p .k (.o 3 none .k))))))) (.p (.o 108 none (.p .k (.p .k (.o 3 none .k)))) (.p (.o 97 none .k) (.p (.o 3 none .k) (.p (.o 101 none .k) (.p (.o 104 none .k) .k))))))
noncomputable def vu:Md:=(.o 3 none .k)
noncomputable def adN:Md:=(.o 106 none (.p .k (.p .k (.p .k (.p .k (.p .k vu))))))
noncomputable def aDW:Md:=(.o 35 none Gy)
noncomputable def aDX:Md:=(.o 35 none .k)
noncomputable def aDY:Md:=(.o 59 none .k)
noncomputable def avU:Md:=(.o 9 none .k)
noncomputable def api:Md:=(.o 108 none (.p .k (.p .k vu)))
noncomputable def al4:Md:=(.o 106 (some 0) .k)
noncomputable def atC:Md:=(.o 31 none .k)
noncomputable def ajD:Md:=(.o 31 (some 0) .k)
noncomputable def anA:Md:=(.p .k (.p .k (.p .k (.p .k (.p .k vu)))))
noncomputable def dG:AK:=.v (.int .i64) .k
noncomputable def lH:AK:=.v (.sl (.int .i64)) .k
noncomputable def tq:AK:=.v TN .k
noncomputable def wh:AK:=.v (.sl Q5) .k
noncomputable def zR:AK:=.v Q6 .k
noncomputable def Lh:AK:=.v .str .k
noncomputable def WK:AK:=.v (.sl tQJ) .k
noncomputable def acX:AK:=.v (.sl Fi) .k
noncomputable def agD:AK:=.v (.sl tQB) .k
noncomputable def ajE:AK:=.v (.sl .str) .k
noncomputable def acY:AK:=.v (.sl tQL) .k
noncomputable def afa:AK:=.v .bool .k
noncomputable def ajF:AK:=.v (.sl (.sl (.int .i64))) .k
noncomputable def atD:AK:=.v (.ptr (.int .i64)) .k
noncomputable def atE:AK:=.v (.sl (.sl (.int .i64))) ajD
noncomputable def aQ:Kd:=.v (.int .i64) .k
noncomputable def jA:Kd:=.v .bool .k
noncomputable def kj:Kd:=.v (.sl (.int .i64)) .k
noncomputable def lM:Kd:=.v (.sl (.int .i64)) vu
noncomputable def vw:Kd:=.v (.sl Q5) .k
noncomputable def wW:Kd:=.v (.ptr TN) aDX
noncomputable def AP:Kd:=.v (.ptr TN) aDW
noncomputable def B':Kd:=.v (.sl .str) avU
noncomputable def Ca:Kd:=.v (.ptr Q6) aDY
noncomputable def H2:Kd:=.v (.sl (.sl (.int .i64))) .k
noncomputable def wX:Kd:=.v .str .k
noncomputable def Aq:Kd:=.v (.sl tQJ) .k
noncomputable def MD:Kd:=.v (.sl (.sl (.int .i64))) atC
noncomputable def Qw:Kd:=.v (.sl .str) .k
noncomputable def S7:Kd:=.v (.sl Fi) .k
noncomputable def S8:Kd:=.v (.sl tQB) .k
noncomputable def afb:Kd:=.v (.sl Q5) (.o 106 none .k)
noncomputable def afc:Kd:=.v (.sl Q5) al4
noncomputable def afd:Kd:=.v (.sl (.sl (.int .i64))) ajD
noncomputable def anB:Kd:=.v (.sl Q5) adN
noncomputable def anC:Kd:=.v (.sl tQJ) api
noncomputable def anD:Kd:=.v (.sl .bool) (.o 4 none .k)
noncomputable def anE:Kd:=.v (.sl tQL) .k
noncomputable def anF:Kd:=.v .mp (.o 149 (some 0) .k)
noncomputable def anG:Kd:=.v (.ptr (.arr 2 (.int .i64))) (.o 196 none .k)
noncomputable def atF:Kd:=.v (.ptr Q5) (.o 106 none .k)
noncomputable def axK:Kd:=.v (.sl (.int .u64)) (.o 133 none .k)
abbrev si (Γ:Gl):Prop:=alT Tryz.prog Γ
structure CE where
 f:FuncId
 sg:List Pass
 l:List AK
 F:Nat->fu l->(iI->aa)->aa
def CE.ok (c:CE):Prop:=∀ {Γ:Gl},si Γ->∀ N,Sound Γ Tryz.prog c.f (c9 c.l (c.F N))
def runs (N:Nat):List CE->List Arg->(iI->aa)->aa
 |[]=>λ_ _=>none
 |c::r=>amP c.l (c.F N) (runs N r)
def Qx (N:Nat):List (List CE)->List Entry
 |[]=>[]
 |[]::r=>Qx N r
 |(c::g)::r=>⟨c.f,c.sg,runs N (c::g)⟩::Qx N r
def az6 (f:FuncId):List CE->Prop
 |[]=>True
 |d::r=>(d.f=f/\d.ok)/\az6 f r
def OKs:List (List CE)->Prop
 |[]=>True
 |[]::r=>OKs r
 |[c]::r=>c.ok/\OKs r
 |(c::d::g)::r=>(c.ok/\az6 c.f (d::g))/\OKs r
theorem anH {Γ:Gl} (hG:si Γ) (N:Nat) (f:FuncId):∀ g,az6 f g->Sound Γ Tryz.prog f (runs N g)
 |[],_=>abw
 |d::r,h=>abv (by rw[←h.1.1];exact h.1.2 hG N) (anH hG N f r h.2)
theorem al5 {Γ:Gl} (hG:si Γ) (N:Nat):∀ cs,OKs cs->EOK Γ Tryz.prog (Qx N cs)
 |[],_=>trivial
 |[]::r,h=>al5 hG N r h
 |[c]::r,h=>⟨abv (h.1 hG N) abw,al5 hG N r h.2⟩
 |(c::d::g)::r,h=>⟨abv (h.1.1 hG N) (anH hG N c.f (d::g) h.1.2),al5 hG N r h.2⟩
noncomputable def iw (f:Func):Code:=match f.body with |some c=>c |none=>.skip
noncomputable def lpc (f:Func) (i:Nat):Code:=(cR (iw f)).getD i .skip
noncomputable def UZ (hn:Hn) (dt:List (Nat×OT)) (pK:Option (Nat×Bool)) (F5:List (Nat×List (Nat×Path))) (keep:List Nat) (loops:List (Nat×List Kd)) (outs:List (Nat×Nat×List Kd)):Hint:={ tab,hn,loops,outs,dt,pK,F5,keep }
noncomputable def dn:Nat->List Kd->List Kd
 |0,l=>l
 |n+1,l=>dK::dn n l
noncomputable def nL:Nat->Nat->St->Ks->aa:=λ_ _ _ _=>none
noncomputable def Lc (k:Nat) (q:List Kd) (r:Nat->Ff q->Ks->aa) (t:Nat->Nat->St->Ks->aa):Nat->Nat->St->Ks->aa:=λn j S K=>bif Nat.beq j k then wA q S (λx=>r n x K) else t n j S K
theorem nL0:∀ k S K,nL 0 k S K=none:=λ_ _ _=>rfl
theorem Lc0 {k:Nat} {q:List Kd} {r:Nat->Ff q->Ks->aa} {t:Nat->Nat->St->Ks->aa} (h:∀ x K,r 0 x K=none) (h2:∀ k S K,t 0 k S K=none):∀ j S K,Lc k q r t 0 j S K=none:=λj S K=>afJ (xk λx=>h x K) (h2 j S K)
noncomputable def fw (t1:Ty) (m1:Md) (kf:iI->aa) (r1:t1.I):aa:=kf ⟨[⟨t1,m1,r1⟩],[]⟩
noncomputable def Rt (t1:Ty) (m1:Md) (t2:Ty) (m2:Md) (kf:iI->aa) (r1:t1.I) (r2:t2.I):aa:=kf ⟨[⟨t1,m1,r1⟩,⟨t2,m2,r2⟩],[]⟩
noncomputable def rk3 (t1:Ty) (m1:Md) (t2:Ty) (m2:Md) (t3:Ty) (m3:Md) (kf:iI->aa) (r1:t1.I) (r2:t2.I) (r3:t3.I):aa:=kf ⟨[⟨t1,m1,r1⟩,⟨t2,m2,r2⟩,⟨t3,m3,r3⟩],[]⟩
theorem qp {f:FuncId} {sg:List Pass} {l:List AK} {F:Nat->fu l->(iI->aa)->aa} (fn:Func) (cs:List (List CE)) (oks:OKs cs) (hn:Hn:=[]) (dt:List (Nat×OT):=[]) (pK:Option (Nat×Bool):=none) (F5:List (Nat×List (Nat×Path)):=[]) (keep:List Nat:=[])
 (hF:∀ N x kf,F N x kf=tU (UZ hn dt pK F5 keep [] []) (va.of (Qx N cs)) (nL N) fn (jD l x) kf:=by intros;kernel_rfl)
 (hls : cR (iw fn) = [] := by kernel_rfl) (hf : Tryz.prog.funcs[f]? = some fn := by kernel_rfl) (hb : fn.body = some (iw fn) := by kernel_rfl) (hnm : (fn.name == "runtime.NumGoroutine") = false := by kernel_rfl) (Ph : ∀ N, pc (UZ hn dt pK F5 keep [] []) (va.of (Qx N cs)) (iw fn) = true := by intros; kernel_rfl) (hky : Dg (iw fn) = true := by kernel_rfl) (hlen : Nat.ble l.length fn.ntmps = true := by kernel_rfl) (X9 : rE (iw fn) = true := by kernel_rfl) : CE.ok ⟨f, sg, l, F⟩ :=
 λhG N=>qn (hh:=(UZ hn dt pK F5 keep [] [])) mixed vt (al5 hG N cs oks) hf hb hnm (Ph N) hky (Lf:=nL) nL0 hls trivial (N:=N) hlen (hF N) (.inl X9)
theorem o9 {f:FuncId} {sg:List Pass} {l:List AK} {F:Nat->fu l->(iI->aa)->aa} (fn:Func) (cs:List (List CE)) (k1:Nat) (q1:List Kd) (r1:Nat->Nat->Ff q1->Ks->aa) (outs:List (Nat×Nat×List Kd)) (oks:OKs cs) (hn:Hn:=[]) (dt:List (Nat×OT):=[]) (pK:Option (Nat×Bool):=none) (F5:List (Nat×List (Nat×Path)):=[]) (keep:List Nat:=[])
 (hF:∀ N x kf,F N x kf=tU (UZ hn dt pK F5 keep [(k1,q1)] outs) (va.of (Qx N cs)) ((Lc k1 q1 (r1 N) nL) N) fn (jD l x) kf:=by intros;kernel_rfl)
 (z1:∀ N x K,r1 N 0 x K=none:=by intros;kernel_rfl) (y1:keyOf (lpc fn 0)=k1:=by kernel_rfl) (w1:AX [(k1,q1)] k1=some q1:=by kernel_rfl)
 (h1:∀ N n x K,(Lc k1 q1 (r1 N) nL) (n+1) k1 (shape q1 x) (Hint.nf (UZ hn dt pK F5 keep [(k1,q1)] outs) k1 K)=sq (UZ hn dt pK F5 keep [(k1,q1)] outs) (va.of (Qx N cs)) (JE (Lc k1 q1 (r1 N) nL) N n k1) (lpc fn 0) (shape q1 x) (Hint.nf (UZ hn dt pK F5 keep [(k1,q1)] outs) k1 K):=by intros;kernel_rfl)
 (hls : cR (iw fn) = [(lpc fn 0)] := by kernel_rfl) (hf : Tryz.prog.funcs[f]? = some fn := by kernel_rfl) (hb : fn.body = some (iw fn) := by kernel_rfl) (hnm : (fn.name == "runtime.NumGoroutine") = false := by kernel_rfl) (Ph : ∀ N, pc (UZ hn dt pK F5 keep [(k1, q1)] outs) (va.of (Qx N cs)) (iw fn) = true := by intros; kernel_rfl) (hky : Dg (iw fn) = true := by kernel_rfl) (hlen : Nat.ble l.length fn.ntmps = true := by kernel_rfl) (X9 : rE (iw fn) = true := by kernel_rfl) : CE.ok ⟨f, sg, l, F⟩ :=
 λhG N=>qn (hh:=(UZ hn dt pK F5 keep [(k1,q1)] outs)) mixed vt (al5 hG N cs oks) hf hb hnm (Ph N) hky (Lf:=(Lc k1 q1 (r1 N) nL)) (Lc0 (z1 N) nL0) hls (zz y1 w1 (h1 N) trivial) (N:=N) hlen (hF N) (.inl X9)
theorem eK2 {f:FuncId} {sg:List Pass} {l:List AK} {F:Nat->fu l->(iI->aa)->aa} (fn:Func) (cs:List (List CE)) (k1:Nat) (q1:List Kd) (r1:Nat->Nat->Ff q1->Ks->aa) (k2:Nat) (q2:List Kd) (r2:Nat->Nat->Ff q2->Ks->aa) (outs:List (Nat×Nat×List Kd)) (oks:OKs cs) (hn:Hn:=[]) (dt:List (Nat×OT):=[]) (pK:Option (Nat×Bool):=none) (F5:List (Nat×List (Nat×Path)):=[]) (keep:List Nat:=[])
 (hF:∀ N x kf,F N x kf=tU (UZ hn dt pK F5 keep [(k1,q1),(k2,q2)] outs) (va.of (Qx N cs)) ((Lc k1 q1 (r1 N) (Lc k2 q2 (r2 N) nL)) N) fn (jD l x) kf:=by intros;kernel_rfl)
 (z1:∀ N x K,r1 N 0 x K=none:=by intros;kernel_rfl) (y1:keyOf (lpc fn 0)=k1:=by kernel_rfl) (w1:AX [(k1,q1),(k2,q2)] k1=some q1:=by kernel_rfl)
 (h1:∀ N n x K,(Lc k1 q1 (r1 N) (Lc k2 q2 (r2 N) nL)) (n+1) k1 (shape q1 x) (Hint.nf (UZ hn dt pK F5 keep [(k1,q1),(k2,q2)] outs) k1 K)=sq (UZ hn dt pK F5 keep [(k1,q1),(k2,q2)] outs) (va.of (Qx N cs)) (JE (Lc k1 q1 (r1 N) (Lc k2 q2 (r2 N) nL)) N n k1) (lpc fn 0) (shape q1 x) (Hint.nf (UZ hn dt pK F5 keep [(k1,q1),(k2,q2)] outs) k1 K):=by intros;kernel_rfl)
 (z2:∀ N x K,r2 N 0 x K=none:=by intros;kernel_rfl) (y2:keyOf (lpc fn 1)=k2:=by kernel_rfl) (w2:AX [(k1,q1),(k2,q2)] k2=some q2:=by kernel_rfl)
 (h2:∀ N n x K,(Lc k1 q1 (r1 N) (Lc k2 q2 (r2 N) nL)) (n+1) k2 (shape q2 x) (Hint.nf (UZ hn dt pK F5 keep [(k1,q1),(k2,q2)] outs) k2 K)=sq (UZ hn dt pK F5 keep [(k1,q1),(k2,q2)] outs) (va.of (Qx N cs)) (JE (Lc k1 q1 (r1 N) (Lc k2 q2 (r2 N) nL)) N n k2) (lpc fn 1) (shape q2 x) (Hint.nf (UZ hn dt pK F5 keep [(k1,q1),(k2,q2)] outs) k2 K):=by intros;kernel_rfl)
 (hls : cR (iw fn) = [(lpc fn 0), (lpc fn 1)] := by kernel_rfl) (hf : Tryz.prog.funcs[f]? = some fn := by kernel_rfl) (hb : fn.body = some (iw fn) := by kernel_rfl) (hnm : (fn.name == "runtime.NumGoroutine") = false := by kernel_rfl) (Ph : ∀ N, pc (UZ hn dt pK F5 keep [(k1, q1), (k2, q2)] outs) (va.of (Qx N cs)) (iw fn) = true := by intros; kernel_rfl) (hky : Dg (iw fn) = true := by kernel_rfl) (hlen : Nat.ble l.length fn.ntmps = true := by kernel_rfl) (X9 : rE (iw fn) = true := by kernel_rfl) : CE.ok ⟨f, sg, l, F⟩ :=
 λhG N=>qn (hh:=(UZ hn dt pK F5 keep [(k1,q1),(k2,q2)] outs)) mixed vt (al5 hG N cs oks) hf hb hnm (Ph N) hky (Lf:=(Lc k1 q1 (r1 N) (Lc k2 q2 (r2 N) nL))) (Lc0 (z1 N) (Lc0 (z2 N) nL0)) hls (zz y1 w1 (h1 N) (zz y2 w2 (h2 N) trivial)) (N:=N) hlen (hF N) (.inl X9)
theorem eK3 {f:FuncId} {sg:List Pass} {l:List AK} {F:Nat->fu l->(iI->aa)->aa} (fn:Func) (cs:List (List CE)) (k1:Nat) (q1:List Kd) (r1:Nat->Nat->Ff q1->Ks->aa) (k2:Nat) (q2:List Kd) (r2:Nat->Nat->Ff q2->Ks->aa) (k3:Nat) (q3:List Kd) (r3:Nat->Nat->Ff q3->Ks->aa) (outs:List (Nat×Nat×List Kd)) (oks:OKs cs) (hn:Hn:=[]) (dt:List (Nat×OT):=[]) (pK:Option (Nat×Bool):=none) (F5:List (Nat×List (Nat×Path)):=[]) (keep:List Nat:=[])
 (hF:∀ N x kf,F N x kf=tU (UZ hn dt pK F5 keep [(k1,q1),(k2,q2),(k3,q3)] outs) (va.of (Qx N cs)) ((Lc k1 q1 (r1 N) (Lc k2 q2 (r2 N) (Lc k3 q3 (r3 N) nL))) N) fn (jD l x) kf:=by intros;kernel_rfl)
 (z1:∀ N x K,r1 N 0 x K=none:=by intros;kernel_rfl) (y1:keyOf (lpc fn 0)=k1:=by kernel_rfl) (w1:AX [(k1,q1),(k2,q2),(k3,q3)] k1=some q1:=by kernel_rfl)
 (h1:∀ N n x K,(Lc k1 q1 (r1 N) (Lc k2 q2 (r2 N) (Lc k3 q3 (r3 N) nL))) (n+1) k1 (shape q1 x) (Hint.nf (UZ hn dt pK F5 keep [(k1,q1),(k2,q2),(k3,q3)] outs) k1 K)=sq (UZ hn dt pK F5 keep [(k1,q1),(k2,q2),(k3,q3)] outs) (va.of (Qx N cs)) (JE (Lc k1 q1 (r1 N) (Lc k2 q2 (r2 N) (Lc k3 q3 (r3 N) nL))) N n k1) (lpc fn 0) (shape q1 x) (Hint.nf (UZ hn dt pK F5 keep [(k1,q1),(k2,q2),(k3,q3)] outs) k1 K):=by intros;kernel_rfl)
 (z2:∀ N x K,r2 N 0 x K=none:=by intros;kernel_rfl) (y2:keyOf (lpc fn 1)=k2:=by kernel_rfl) (w2:AX [(k1,q1),(k2,q2),(k3,q3)] k2=some q2:=by kernel_rfl)
 (h2:∀ N n x K,(Lc k1 q1 (r1 N) (Lc k2 q2 (r2 N) (Lc k3 q3 (r3 N) nL))) (n+1) k2 (shape q2 x) (Hint.nf (UZ hn dt pK F5 keep [(k1,q1),(k2,q2),(k3,q3)] outs) k2 K)=sq (UZ hn dt pK F5 keep [(k1,q1),(k2,q2),(k3,q3)] outs) (va.of (Qx N cs)) (JE (Lc k1 q1 (r1 N) (Lc k2 q2 (r2 N) (Lc k3 q3 (r3 N) nL))) N n k2) (lpc fn 1) (shape q2 x) (Hint.nf (UZ hn dt pK F5 keep [(k1,q1),(k2,q2),(k3,q3)] outs) k2 K):=by intros;kernel_rfl)
 (z3:∀ N x K,r3 N 0 x K=none:=by intros;kernel_rfl) (y3:keyOf (lpc fn 2)=k3:=by kernel_rfl) (w3:AX [(k1,q1),(k2,q2),(k3,q3)] k3=some q3:=by kernel_rfl)
 (h3:∀ N n x K,(Lc k1 q1 (r1 N) (Lc k2 q2 (r2 N) (Lc k3 q3 (r3 N) nL))) (n+1) k3 (shape q3 x) (Hint.nf (UZ hn dt pK F5 keep [(k1,q1),(k2,q2),(k3,q3)] outs) k3 K)=sq (UZ hn dt pK F5 keep [(k1,q1),(k2,q2),(k3,q3)] outs) (va.of (Qx N cs)) (JE (Lc k1 q1 (r1 N) (Lc k2 q2 (r2 N) (Lc k3 q3 (r3 N) nL))) N n k3) (lpc fn 2) (shape q3 x) (Hint.nf (UZ hn dt pK F5 keep [(k1,q1),(k2,q2),(k3,q3)] outs) k3 K):=by intros;kernel_rfl)
 (hls : cR (iw fn) = [(lpc fn 0), (lpc fn 1), (lpc fn 2)] := by kernel_rfl) (hf : Tryz.prog.funcs[f]? = some fn := by kernel_rfl) (hb : fn.body = some (iw fn) := by kernel_rfl) (hnm : (fn.name == "runtime.NumGoroutine") = false := by kernel_rfl) (Ph : ∀ N, pc (UZ hn dt pK F5 keep [(k1, q1), (k2, q2), (k3, q3)] outs) (va.of (Qx N cs)) (iw fn) = true := by intros; kernel_rfl) (hky : Dg (iw fn) = true := by kernel_rfl) (hlen : Nat.ble l.length fn.ntmps = true := by kernel_rfl) (X9 : rE (iw fn) = true := by kernel_rfl) : CE.ok ⟨f, sg, l, F⟩ :=
 λhG N=>qn (hh:=(UZ hn dt pK F5 keep [(k1,q1),(k2,q2),(k3,q3)] outs)) mixed vt (al5 hG N cs oks) hf hb hnm (Ph N) hky (Lf:=(Lc k1 q1 (r1 N) (Lc k2 q2 (r2 N) (Lc k3 q3 (r3 N) nL)))) (Lc0 (z1 N) (Lc0 (z2 N) (Lc0 (z3 N) nL0))) hls (zz y1 w1 (h1 N) (zz y2 w2 (h2 N) (zz y3 w3 (h3 N) trivial))) (N:=N) hlen (hF N) (.inl X9)
noncomputable def noL (N n:Nat) (key:Nat) (S:St) (K:Ks):aa:=none
theorem ajG (N key:Nat) (S:St) (K:Ks):noL N 0 key S K=none:=rfl
def FnT (sg:List AK) (F:fu sg->(iI->aa)->aa) (h:Hint) (es:List Entry) (L:Nat->St->Ks->aa) (f:Func):Prop:=∀ (x:fu sg) (kf:iI->aa),F x kf=tU h (va.of es) L f (jD sg x) kf
def RdT (h:Hint) (es:List Entry) (L:Nat->Nat->St->Ks->aa) (N key:Nat) (ks:List Kd) (c:Code):Prop:=∀ (n:Nat) (x:Ff ks) (K:Ks),L (n+1) key (shape ks x) (h.nf key K)=sq h (va.of es) (JE L N n key) c (shape ks x) (h.nf key K)
theorem rc {hh:Hint} {es:List Entry} {Lf:Nat->Nat->St->Ks->aa} {N key:Nat} {ks:List Kd} {c:Code} {l:List Code} (h:RdT hh es Lf N key ks c) (hr:PI hh (va.of es) Lf N l) (hk:keyOf c=key:=by kernel_rfl) (hh1:AX hh.loops key=some ks:=by kernel_rfl):PI hh (va.of es) Lf N (c::l):=zz hk hh1 h hr
theorem sdk {Γ:Gl} (hh:Hint) {es:List Entry} {f:FuncId} (fn:Func) (body:Code) {N:Nat} {Lf:Nat->Nat->St->Ks->aa} (h0:∀ k S K,Lf 0 k S K=none) {ls:List Code} (hls:cR body=ls) {l:List AK} {F:fu l->(iI->aa)->aa} (hF:FnT l F hh es (Lf N) fn) (iM:PI hh (va.of es) Lf N ls) (hO:EOK Γ Tryz.prog es)
  (hT : kh Tryz.prog hh.tab = true := by exact vt) (hf : Tryz.prog.funcs[f]? = some fn := by kernel_rfl) (hb : fn.body = some body := by kernel_rfl) (hnm : (fn.name == "runtime.NumGoroutine") = false := by kernel_rfl) (Ph : pc hh (va.of es) body = true := by kernel_rfl) (hky : Dg body = true := by kernel_rfl) (hlen : Nat.ble l.length fn.ntmps = true := by kernel_rfl) (X9 : rE body = true := by kernel_rfl) : Sound Γ Tryz.prog f (c9 l F) :=
 qn mixed hT hO hf hb hnm Ph hky h0 hls iM hlen hF (.inl X9)
noncomputable def Gz:CE:=⟨9,[],[],λN x kf=>HE N (fw TN Gy kf)⟩
theorem OD:Gz.ok:=qp Tryz.f9 [] trivial
noncomputable def ME:CE:=⟨15,[.val],[Lh],λN x kf=>K2 N x.1 (fw (.sl .str) avU kf)⟩
def Dl:List Kd:=(dn 3 (B'::dn 33 ([])))
theorem YJ:ME.ok:=o9 Tryz.f15 [] 4 (wX::dK::dK::B'::wX::aQ::dn 31 ([])) (λN n x K=>gO x.1 n (λz0=>K (.x 0) (shape Dl (z0,()))) x.2.1 x.2.2.1 x.2.2.2.1) [(4,2,Dl)] trivial
noncomputable def uW:CE:=⟨36,[.val],[wh],λN x kf=>lY N x.1 (fw (.sl Q5) adN kf)⟩
def Fz:List Kd:=(dn 3 (anB::dn 23 ([])))
theorem zf:uW.ok:=o9 Tryz.f36 [] 3 (vw::dK::dK::anB::aQ::dn 22 ([])) (λN n x K=>oD x.1 n (λz0=>K (.x 0) (shape Fz (z0,()))) x.2.1 x.2.2.1) [(3,2,Fz)] trivial (hn:=[(6,anA)])
noncomputable def Cb:CE:=⟨37,[.val],[WK],λN x kf=>qa N x.1 (fw (.sl tQJ) api kf)⟩
def Cc:List Kd:=(dn 3 (anC::dn 23 ([])))
theorem Kj:Cb.ok:=o9 Tryz.f37 [] 3 (Aq::dK::dK::anC::aQ::dn 22 ([])) (λN n x K=>lZ x.1 n (λz0=>K (.x 0) (shape Cc (z0,()))) x.2.1 x.2.2.1) [(3,2,Cc)] trivial (hn:=[(6,(.p .k (.p .k vu)))])
noncomputable def gJ:CE:=⟨16,[.val],[tq],λN x kf=>bW N x.1 (fw TN Gy kf)⟩
theorem iZ:gJ.ok:=qp Tryz.f16 [[uW],[Cb]] ⟨zf,Kj,trivial⟩ (dt:=[(1,(OT.seq [0,1,3,4,7,8,11,15,19,22] (.any [2,5,6,9,10,12,13,14,16,17,18,20,21,23] (OT.seq [24,25] .done))))])
def axL:Hint:={ tab,hn:=[],loops:=[],outs:=[],dt:=[] }
def acZ:List AK:=[Lh,dG]
noncomputable def atG (N:Nat) (x:fu acZ) (kf:iI->aa):aa:=S38 N x.1 x.2.1 (λr0 r1=>kf ⟨[⟨(.sl (.int .i64)),vu,r0⟩,⟨(.int .i64),.k,r1⟩],[]⟩)
noncomputable def agE (N:Nat):=c9 acZ (atG N)
def atH (N:Nat):List Entry:=[⟨38,[.val,.val],(agE N)⟩]
def ajH:Code:=iw Tryz.f38
theorem az7:cR ajH=[]:=by kernel_rfl
theorem az8 (N:Nat) (x:fu acZ) (kf:iI->aa):atG (N+1) x kf=tU axL (va.of (atH N)) (noL N N) Tryz.f38 (jD acZ x) kf:=by kernel_rfl
theorem atI {Γ:Gl} (AR:si Γ):∀ N:Nat,Sound Γ Tryz.prog 38 (agE N)
 |0=>wB λal kf=>by unfold agE c9;split<;>rfl
 |N+1=>qn (hh:=axL) mixed vt (es:=atH N) ⟨atI AR N,trivial⟩ (fn:=Tryz.f38) (body:=ajH) (by kernel_rfl) (by kernel_rfl) (by kernel_rfl) (by kernel_rfl) (by kernel_rfl) (Lf:=noL N) (ajG N) az7 trivial (N:=N) (by kernel_rfl) (az8 N) (.inl (by kernel_rfl))
noncomputable def atJ:CE:=⟨38,[.val,.val],acZ,atG⟩
theorem az9:atJ.ok:=λh N=>atI h N
noncomputable def fH:CE:=⟨60,[.val,.val,.val],[dG,dG,dG],λN x kf=>cj N x.1 x.2.1 x.2.2.1 (fw .bool .k kf)⟩
theorem gA:fH.ok:=qp Tryz.f60 [] trivial
noncomputable def Cd:CE:=⟨94,[.val],[lH],λN x kf=>wD N x.1 (fw .bool .k kf)⟩
def Ce:List Kd:=(kj::dK::dK::aQ::dn 44 ([]))
def Cf:List Kd:=(dK::dK::jA::dn 45 ([]))
theorem Kk:Cd.ok:=o9 Tryz.f94 [[fH]] 3 (kj::dK::dK::aQ::aQ::dn 43 ([])) (λN n x K=>fV N x.1 n (λz0=>K (.x 0) (shape Ce (x.1,z0,()))) (λz0=>K .r (shape Cf (z0,()))) x.2.1 x.2.2.1) [(3,2,Ce),(3,1,Cf)] ⟨gA,trivial⟩
noncomputable def GZ:CE:=⟨39,[.val],[lH],λN x kf=>pN N x.1 (fw .str .k kf)⟩
def yq:List Kd:=(dn 3 (B'::dn 83 ([])))
theorem Sd:GZ.ok:=o9 Tryz.f39 [[Cd]] 5 (kj::dK::dK::B'::aQ::dn 82 ([])) (λN n x K=>fD x.1 n (λz0=>K (.x 0) (shape yq (z0,()))) x.2.1 x.2.2.1) [(5,2,yq)] ⟨Kk,trivial⟩ (dt:=[(8,(OT.seq [0,1,2,3,4,5,7,8,9,10,11,12,16,17,18,19,20,6,13,14,15,21,22,23] .done)),(11,(OT.seq [0,1,2,3,4,5,6,7,8,9,10,11,12,13] .done))])
noncomputable def FA:CE:=⟨17,[.val],[Lh],λN x kf=>fW N x.1 (Rt (.sl (.int .i64)) vu .bool .k kf)⟩
theorem Qy:FA.ok:=qp Tryz.f17 [[atJ],[GZ]] ⟨az9,Sd,trivial⟩
noncomputable def Qz:CE:=⟨41,[.val],[dG],λN x kf=>JY N x.1 (fw (.sl .bool) (.o 4 none .k) kf)⟩
def G0:List Kd:=(dn 3 (anD::dn 15 ([])))
theorem ac0:Qz.ok:=o9 Tryz.f41 [] 3 (aQ::dK::dK::anD::aQ::dn 14 ([])) (λN n x K=>Is x.1 n (λz0=>K (.x 0) (shape G0 (z0,()))) x.2.1 x.2.2.1) [(3,2,G0)] trivial
noncomputable def S9:CE:=⟨95,[.val,.val,.val],[dG,afa,afa],λN x kf=>It N x.1 x.2.1 x.2.2.1 (fw .bool .k kf)⟩
theorem adO:S9.ok:=qp Tryz.f95 [] trivial
noncomputable def Ta:CE:=⟨40,[.val,.val],[lH,.v (.sl .bool) .k],λN x kf=>Iv N x.1 x.2.1 (fw .bool .k kf)⟩
def I7:List Kd:=(dn 5 (anD::dn 79 ([])))
theorem adP:Ta.ok:=o9 Tryz.f40 [[Cd],[S9]] 5 (kj::.v (.sl .bool) .k::dn 3 (anD::aQ::dn 78 ([]))) (λN n x K=>lN N x.1 x.2.1 n (λz0=>K (.x 0) (shape I7 (z0,()))) x.2.2.1 x.2.2.2.1) [(5,2,I7)] ⟨Kk,adO,trivial⟩ (dt:=[(8,(OT.seq [0,1,2,3,4,5,6,7,8,9,10,11,12,13,14,15,16,17,18,19,20,21] .done))])
noncomputable def Cg:CE:=⟨19,[.val],[lH],λN x kf=>l5 N x.1 (fw (.int .i64) .k kf)⟩
def Ch:List Kd:=(dn 3 (aQ::dn 12 ([])))
theorem Kl:Cg.ok:=o9 Tryz.f19 [[Qz],[Ta]] 3 (kj::dK::dK::aQ::aQ::dn 11 ([])) (λN n x K=>l4 N x.1 n (λz0=>K (.x 0) (shape Ch (z0,()))) x.2.1 x.2.2.1) [(3,2,Ch)] ⟨ac0,adP,trivial⟩
noncomputable def mB:CE:=⟨18,[.val],[dG],λN x kf=>cn N x.1 (fw .str .k kf)⟩
def Ci:List Kd:=(aQ::dK::dK::wX::dn 27 ([]))
theorem oq:mB.ok:=o9 Tryz.f18 [] 5 (aQ::dK::dK::wX::aQ::dn 26 ([])) (λN n x K=>iq x.1 n (λz0=>K (.x 0) (shape Ci (x.1,z0,()))) x.2.1 x.2.2.1) [(5,2,Ci)] trivial
noncomputable def MF:CE:=⟨21,[.val],[lH],λN x kf=>rQ N x.1 (fw .bool .k kf)⟩
theorem YK:MF.ok:=qp Tryz.f21 [[Cg]] ⟨Kl,trivial⟩
noncomputable def QA:CE:=⟨20,[.val],[afa],λN x kf=>pC N x.1 (fw .str .k kf)⟩
theorem ac1:QA.ok:=qp Tryz.f20 [] trivial
noncomputable def MG:CE:=⟨42,[.val],[Lh],λN x kf=>yc N x.1 (Rt (.int .i64) .k .bool .k kf)⟩
def Dm:List Kd:=(wX::dn 3 (aQ::dn 34 ([])))
def Dn:List Kd:=(dK::dK::aQ::jA::dn 35 ([]))
theorem YL:MG.ok:=o9 Tryz.f42 [[fH],[mB]] 5 (wX::dn 3 (aQ::aQ::dn 33 ([]))) (λN n x K=>pO N x.1 n (λz0=>K (.x 0) (shape Dm (x.1,z0,()))) (λz0 z1=>K .r (shape Dn (z0,z1,()))) x.2.1 x.2.2.1) [(5,2,Dm),(5,1,Dn)] ⟨gA,oq,trivial⟩
noncomputable def OE:CE:=⟨22,[.val],[ajE],λN x kf=>HF N x.1 (Rt (.sl (.int .i64)) vu .bool .k kf)⟩
def FC:List Kd:=(dn 4 (lM::dn 26 ([])))
def FD:List Kd:=(dK::dK::lM::jA::dn 27 ([]))
theorem aaa:OE.ok:=o9 Tryz.f22 [[MG]] 3 (Qw::dn 3 (lM::aQ::dn 25 ([]))) (λN n x K=>oH N x.1 n (λz0=>K (.x 0) (shape FC (z0,()))) (λz0 z1=>K .r (shape FD (z0,z1,()))) x.2.1 x.2.2.1) [(3,2,FC),(3,1,FD)] ⟨YL,trivial⟩
noncomputable def MH:CE:=⟨23,[.val,.val],[Lh,lH],λN x kf=>iX N x.1 x.2.1 (fw tQL .k kf)⟩
theorem YM:MH.ok:=qp Tryz.f23 [] trivial (dt:=[(2,(OT.seq [0,1,2,3,4,5,6,7] .done)),(4,(OT.seq [0,1,2,3,4,5,6,7] .done)),(8,(OT.seq [0,1,2,3,4,5,6,7,8,9,10] .done))])
noncomputable def ru:CE:=⟨97,[.val],[tq],λN x kf=>l6 N x.1 (fw .bool .k kf)⟩
theorem vX:ru.ok:=qp Tryz.f97 [] trivial
noncomputable def MI:CE:=⟨233,[.val],[acY],λN x kf=>K3 N x.1 (fw (.int .i64) .k kf)⟩
theorem YN:MI.ok:=qp Tryz.f233 [] trivial
noncomputable def ZL:CE:=⟨304,[.val,.val],[dG,dG],λN x kf=>PO N x.1 x.2.1 (fw (.int .i64) .k kf)⟩
theorem ajI:ZL.ok:=qp Tryz.f304 [[fH]] ⟨gA,trivial⟩
noncomputable def WL:CE:=⟨275,[.val],[lH],λN x kf=>Q7 N x.1 (fw (.int .i64) .k kf)⟩
def Km:List Kd:=(dn 3 (aQ::dn 18 ([])))
theorem agF:WL.ok:=o9 Tryz.f275 [[ZL]] 3 (kj::dK::dK::aQ::aQ::dn 17 ([])) (λN n x K=>uc N x.1 n (λz0=>K (.x 0) (shape Km (z0,()))) x.2.1 x.2.2.1) [(3,2,Km)] ⟨ajI,trivial⟩
noncomputable def GA:CE:=⟨232,[.val,.val],[dG,.v tQL .k],λN x kf=>ud N x.1 x.2.1 (fw (.int .i64) .k kf)⟩
theorem OF:GA.ok:=qp Tryz.f232 [[WL]] ⟨agF,trivial⟩
noncomputable def uB:CE:=⟨168,[.val],[acY],λN x kf=>qG N x.1 (fw .bool .k kf)⟩
def Ar:List Kd:=(anE::dn 49 ([]))
def As:List Kd:=(dK::dK::jA::dn 47 ([]))
theorem zS:uB.ok:=o9 Tryz.f168 [[GA],[fH]] 3 (anE::dK::dK::aQ::aQ::dn 45 ([])) (λN n x K=>kZ N x.1 n (K (.x 0) (shape Ar (x.1,()))) (λz0=>K .r (shape As (z0,()))) x.2.1 x.2.2.1) [(3,2,Ar),(3,1,As)] ⟨OF,gA,trivial⟩
noncomputable def Kn:CE:=⟨164,[.val,.val,.val],[acY,dG,dG],λN x kf=>Bk N x.1 x.2.1 x.2.2.1 (Rt (.sl tQL) (.o 104 none .k) .bool .k kf)⟩
theorem WM:Kn.ok:=qp Tryz.f164 [[MI],[GA],[uB]] ⟨YN,OF,zS,trivial⟩ (dt:=[(2,(OT.seq [0,2,1,3,4,5] .done)),(3,(OT.seq [1] (.any [0,2,3,4] (OT.seq [5,6] .done))))])
noncomputable def lB:CE:=⟨106,[.val,.val],[wh,dG],λN x kf=>fj N x.1 x.2.1 (fw (.int .i64) .k kf)⟩
def Dp:List Kd:=(dn 20 ([]))
def Dq:List Kd:=(dn 4 (aQ::dn 15 ([])))
theorem nB:lB.ok:=o9 Tryz.f106 [] 2 (vw::aQ::dn 3 (aQ::dn 14 ([]))) (λN n x K=>nr x.1 x.2.1 n (K (.x 0) (shape Dp ())) (λz0=>K .r (shape Dq (z0,()))) x.2.2.1) [(2,2,Dp),(2,1,Dq)] trivial
noncomputable def MJ:CE:=⟨176,[.val,.val],[lH,dG],λN x kf=>rR N x.1 x.2.1 (fw (.int .i64) .k kf)⟩
def Dr:List Kd:=(dn 5 (aQ::dn 16 ([])))
theorem YO:MJ.ok:=o9 Tryz.f176 [] 3 (kj::aQ::dn 3 (aQ::aQ::dn 15 ([]))) (λN n x K=>ln x.1 x.2.1 n (λz0=>K (.x 0) (shape Dr (z0,()))) x.2.2.1 x.2.2.2.1) [(3,2,Dr)] trivial
noncomputable def fU:CE:=⟨108,[.val],[wh],λN x kf=>dV N x.1 (fw .bool .k kf)⟩
def Ds:List Kd:=(vw::dK::dK::aQ::dn 111 ([]))
def Dt:List Kd:=(dK::dK::jA::dn 112 ([]))
def Du:List Kd:=(vw::dn 114 ([]))
def Dv:List Kd:=(dK::dK::jA::dn 112 ([]))
theorem gS:fU.ok:=eK2 Tryz.f108 [[fH],[lB],[MJ]] 2 (vw::dK::dK::aQ::dn 111 ([])) (λN n x K=>lp N x.1 n (K (.x 0) (shape Du (x.1,()))) (λz0=>K .r (shape Dv (z0,()))) x.2.1) 8 (vw::dK::dK::aQ::atF::aQ::dn 109 ([])) (λN n x K=>fN N x.1 x.2.1 x.2.2.1 n (K (.x 2) (shape Ds (x.1,x.2.1,()))) (λz0=>K .r (shape Dt (z0,()))) x.2.2.2.1) [(8,4,Ds),(8,1,Dt),(2,2,Du),(2,1,Dv)] ⟨gA,nB,YO,trivial⟩ (dt:=[(5,(OT.seq [0,1,2,3,4,5,6,7,8,9,10,11,12,13,14,15,16,17,18,19,20,21,22,23,24,25,26,27,28,29,30,31,32,33,34,35,36,37,38,39,40,41,42,43,44,45,46,47,48,49,50,51,52,53,54] .done)),(11,(OT.seq [0,1,2,3,4,5,6,7,8,9,10,11,12,13,14,16,17,18,19,20,21,22,15,23,24,25] .done))])
noncomputable def vY:CE:=⟨166,[.val],[WK],λN x kf=>sQ N x.1 (fw .bool .k kf)⟩
def Cj:List Kd:=(Aq::dK::dK::aQ::dn 88 ([]))
def Ck:List Kd:=(dK::dK::jA::dn 89 ([]))
def Cl:List Kd:=(Aq::dn 91 ([]))
def Cm:List Kd:=(dK::dK::jA::dn 89 ([]))
theorem Cn:vY.ok:=eK2 Tryz.f166 [[fH]] 2 (Aq::dK::dK::aQ::dn 88 ([])) (λN n x K=>jS N x.1 n (K (.x 0) (shape Cl (x.1,()))) (λz0=>K .r (shape Cm (z0,()))) x.2.1) 7 (Aq::dK::dK::aQ::aQ::dn 87 ([])) (λN n x K=>eM N x.1 x.2.1 n (K (.x 2) (shape Cj (x.1,x.2.1,()))) (λz0=>K .r (shape Ck (z0,()))) x.2.2.1) [(7,4,Cj),(7,1,Ck),(2,2,Cl),(2,1,Cm)] ⟨gA,trivial⟩ (dt:=[(4,(OT.seq [0,1,2,3,4,5,6,7,8,9,10,11,12,13,14,15,16,17,18,19,20,21,22,23,24,25,26,27,28,29,30,31,32,33] .done)),(9,(OT.seq [0,1,2,3,4,5,6,7,8,9,10,11,12,13,14,15,16,17,18,19,20,21,22,23,24,25,26,27,28,29,30,31,32,33] .done))])
noncomputable def Ko:CE:=⟨169,[.val],[wh],λN x kf=>Bl N x.1 (fw (.int .i64) .k kf)⟩
def Co:List Kd:=(dn 3 (aQ::dn 19 ([])))
theorem WN:Ko.ok:=o9 Tryz.f169 [[fU]] 3 (vw::dK::dK::aQ::aQ::dn 18 ([])) (λN n x K=>l8 N x.1 n (λz0=>K (.x 0) (shape Co (z0,()))) x.2.1 x.2.2.1) [(3,2,Co)] ⟨gS,trivial⟩
noncomputable def gT:CE:=⟨177,[.val,.val],[lH,dG],λN x kf=>eT N x.1 x.2.1 (fw .bool .k kf)⟩
def I8:List Kd:=(dn 18 ([]))
def I9:List Kd:=(dn 4 (jA::dn 13 ([])))
theorem kE:gT.ok:=o9 Tryz.f177 [] 2 (kj::aQ::dn 3 (aQ::dn 12 ([]))) (λN n x K=>rS x.1 x.2.1 n (K (.x 0) (shape I8 ())) (λz0=>K .r (shape I9 (z0,()))) x.2.2.1) [(2,2,I8),(2,1,I9)] trivial
noncomputable def OG:CE:=⟨276,[.val,.val,.val],[wh,dG,dG],λN x kf=>HI N x.1 x.2.1 x.2.2.1 (fw .bool .k kf)⟩
theorem aab:OG.ok:=qp Tryz.f276 [[lB],[gT]] ⟨nB,kE,trivial⟩
noncomputable def zg:CE:=⟨234,[.val,.val,.val],[wh,dG,dG],λN x kf=>uf N x.1 x.2.1 x.2.2.1 (fw .bool .k kf)⟩
theorem OH:zg.ok:=qp Tryz.f234 [[lB],[fU],[OG]] ⟨nB,gS,aab,trivial⟩ (dt:=[(3,(OT.seq [0,1,2,3,4,5,6,7,8,9,10,11,12,13,14,15,16,17,18,19,20,21,22,23,24,25,26,27,28,29,30,31,32,33,34,35] .done))])
noncomputable def OI:CE:=⟨170,[.val,.val],[wh,acX],λN x kf=>HJ N x.1 x.2.1 (fw .bool .k kf)⟩
def FE:List Kd:=(vw::dn 4 (lM::dn 61 ([])))
def FF:List Kd:=(dn 4 (jA::dn 62 ([])))
theorem aac:OI.ok:=o9 Tryz.f170 [[zg],[gT],[fU]] 3 (vw::S7::dn 3 (lM::aQ::dn 60 ([]))) (λN n x K=>oI N x.1 x.2.1 n (λz0=>K (.x 0) (shape FE (x.1,z0,()))) (λz0=>K .r (shape FF (z0,()))) x.2.2.1 x.2.2.2.1) [(3,2,FE),(3,1,FF)] ⟨OH,kE,gS,trivial⟩ (dt:=[(5,(OT.seq [0,1,2,3,4,5,6,7,8,9,10,11,12,13,14,15,16,17,18,19,20,21,22,23,24,25,26,27,28,29,30] .done)),(7,(OT.seq [0,1,2,3,4,5,6,7,8,9,10,11,12,13] .done))])
noncomputable def zh:CE:=⟨104,[.val,.val],[WK,dG],λN x kf=>jf N x.1 x.2.1 (fw (.int .i64) .k kf)⟩
def FH:List Kd:=(dn 20 ([]))
def FJ:List Kd:=(dn 4 (aQ::dn 15 ([])))
theorem GB:zh.ok:=o9 Tryz.f104 [] 2 (Aq::aQ::dn 3 (aQ::dn 14 ([]))) (λN n x K=>oJ x.1 x.2.1 n (K (.x 0) (shape FH ())) (λz0=>K .r (shape FJ (z0,()))) x.2.2.1) [(2,2,FH),(2,1,FJ)] trivial
noncomputable def tr:CE:=⟨178,[.val,.val,.val],[wh,.v tQJ .k,.v Fi .k],λN x kf=>pD N x.1 x.2.1 x.2.2.1 (fw .bool .k kf)⟩
theorem EB:tr.ok:=qp Tryz.f178 [[lB],[gT]] ⟨nB,kE,trivial⟩ (dt:=[(3,(OT.seq [0,1,2,3,4,5,6,7,8,9,10,11,12,13,14,15,16,17,18,19,20,21,22,23,24,25,26,27,28,29,30,31,32,33,34,35,36,37,38,39,40,41,42] .done))])
noncomputable def Kp:CE:=⟨171,[.val,.val,.val,.val],[wh,WK,acX,lH],λN x kf=>Bn N x.1 x.2.1 x.2.2.1 x.2.2.2.1 (fw .bool .k kf)⟩
def Cp:List Kd:=(dn 58 ([]))
def Cq:List Kd:=(dn 8 (jA::dn 49 ([])))
theorem WO:Kp.ok:=o9 Tryz.f171 [[vY],[zh],[gT],[tr]] 4 (vw::Aq::S7::kj::dn 5 (aQ::dn 48 ([]))) (λN n x K=>l9 N x.1 x.2.1 x.2.2.1 x.2.2.2.1 n (K (.x 0) (shape Cp ())) (λz0=>K .r (shape Cq (z0,()))) x.2.2.2.2.1) [(4,2,Cp),(4,1,Cq)] ⟨Cn,GB,kE,EB,trivial⟩ (dt:=[(7,(OT.seq [0,1,2,3,4,5,6,7,8,9,10,11,12,13,14,15,16,17,18,19,20,21,22,23,24] .done))])
noncomputable def xx:CE:=⟨101,[.val],[.v tQB .k],λN x kf=>pE N x.1 (fw .bool .k kf)⟩
theorem EC:xx.ok:=qp Tryz.f101 [[fH]] ⟨gA,trivial⟩
noncomputable def wY:CE:=⟨100,[.val],[tq],λN x kf=>tH N x.1 (fw .bool .k kf)⟩
def G1:List Kd:=(dn 115 ([]))
def G2:List Kd:=(dK::dK::jA::dn 112 ([]))
theorem Cr:wY.ok:=o9 Tryz.f100 [[fU],[vY],[uB],[fH],[Ko],[OI],[Kp],[xx]] 7 (dK::wW::dK::.v (.ptr tQB) (.o 101 none .k)::aQ::dn 110 ([])) (λN n x K=>nQ N x.1 x.2.1 n (K (.x 0) (shape G1 ())) (λz0=>K .r (shape G2 (z0,()))) x.2.2.1) [(7,2,G1),(7,1,G2)] ⟨gS,Cn,zS,gA,WN,aac,WO,EC,trivial⟩ (dt:=[(1,(OT.seq [0,1,2,3,4,5,6,7,8,9,10,11,12,13,14,15,16,17,18,19,20,21,22,23,24,25,26,27,28,29,30,31,32,33,34,35,36,37,38,39,40,41,42,44,45,43,46,47] .done)),(9,(OT.seq [0,1,2,3,4,5,6,7,8,9,10,11,12,13,14,15,16,17,18,19,20,21,22,23,24,25,26,27,28,29] .done))])
noncomputable def oU:CE:=⟨96,[.val,.take,.val,.val,.val],[tq,.v TN Gy,afa,dG,dG],λN x kf=>jg N x.1 x.2.1 x.2.2.1 x.2.2.2.1 x.2.2.2.2.1 (Rt TN Gy .bool .k kf)⟩
theorem qM:oU.ok:=qp Tryz.f96 [[Kn],[wY],[gJ]] ⟨WM,Cr,iZ,trivial⟩
noncomputable def MK:CE:=⟨43,[.val,.val,.val],[tq,dG,dG],λN x kf=>ET N x.1 x.2.1 x.2.2.1 (Rt TN Gy .bool .k kf)⟩
def Dw:List Kd:=(dK::aQ::aQ::wW::dK::dK::AP::dK::AP::aQ::dn 45 ([]))
theorem YP:MK.ok:=o9 Tryz.f43 [[gJ],[uW],[ru],[oU]] 3 (dK::aQ::aQ::wW::dK::dK::AP::dK::AP::aQ::dn 45 ([])) (λN n x K=>lr x.1 x.2.1 x.2.2.1 x.2.2.2.1 x.2.2.2.2.1 n (λz0=>K (.x 0) (shape Dw (x.1,x.2.1,x.2.2.1,x.2.2.2.1,x.2.2.2.2.1,z0,()))) x.2.2.2.2.2.1) [(3,2,Dw)] ⟨iZ,zf,vX,qM,trivial⟩ (dt:=[(5,(OT.seq [0,1,2,3,5,6,7,10,12] (.any [4,8,9,11,13] (OT.seq [14,15,16,17] .done)))),(6,(OT.seq [0,1,2,5,3,4,6,7,8,9,10] .done))])
noncomputable def Kq:CE:=⟨44,[.val,.val,.val],[tq,dG,dG],λN x kf=>Bp N x.1 x.2.1 x.2.2.1 (Rt TN Gy .bool .k kf)⟩
def Cs:List Kd:=(dK::aQ::aQ::wW::dK::dK::AP::dK::AP::aQ::dn 42 ([]))
theorem WQ:Kq.ok:=o9 Tryz.f44 [[gJ],[Cb],[oU]] 3 (dK::aQ::aQ::wW::dK::dK::AP::dK::AP::aQ::dn 42 ([])) (λN n x K=>jT x.1 x.2.1 x.2.2.1 x.2.2.2.1 x.2.2.2.2.1 n (λz0=>K (.x 0) (shape Cs (x.1,x.2.1,x.2.2.1,x.2.2.2.1,x.2.2.2.2.1,z0,()))) x.2.2.2.2.2.1) [(3,2,Cs)] ⟨iZ,Kj,qM,trivial⟩ (dt:=[(5,(OT.seq [0,1,2,3,5,6,7,10,12] (.any [4,8,9,11,13] (OT.seq [14,15,16,17] .done))))])
noncomputable def Ct:CE:=⟨109,[.val,.val],[.v Q5 .k,.v Q5 .k],λN x kf=>wF N x.1 x.2.1 (fw .bool .k kf)⟩
theorem Kr:Ct.ok:=qp Tryz.f109 [] trivial
noncomputable def ED:CE:=⟨50,[.val],[wh],λN x kf=>vf N x.1 (fw (.sl (.int .i64)) vu kf)⟩
def Dx:List Kd:=(vw::dK::dK::afb::aQ::aQ::dn 62 ([]))
def Dy:List Kd:=(dn 3 (afb::dn 64 ([])))
def Cu:List Kd:=(dn 6 (lM::dn 61 ([])))
theorem ML:ED.ok:=eK3 Tryz.f50 [[fU],[Ct]] 3 (vw::dK::dK::afb::aQ::dn 63 ([])) (λN n x K=>nt N x.1 n (λz0=>K (.x 0) (shape Dy (z0,()))) x.2.1 x.2.2.1) 6 (vw::dK::dK::afb::aQ::aQ::dn 62 ([])) (λN n x K=>ns N x.1 x.2.1 x.2.2.1 n (λz0=>K (.x 2) (shape Dx (x.1,x.2.1,x.2.2.1,z0,()))) x.2.2.2.1) 11 (dn 3 (afb::dK::dK::lM::aQ::dn 60 ([]))) (λN n x K=>jU x.1 n (λz0=>K (.x 4) (shape Cu (z0,()))) x.2.1 x.2.2.1) [(6,4,Dx),(3,2,Dy),(11,6,Cu)] ⟨gS,Kr,trivial⟩ (dt:=[(6,(OT.seq [0,1,2,3,4,5,6,7,8,9,10,11,12,13] .done)),(8,(OT.seq [1,2,3,5,6,7,11,12,13] (.par [0,4,8,9] [[37],[44,45],[44,45,46]] (OT.seq [10,14,15] .done))))])
noncomputable def GC:CE:=⟨235,[.val,.val,.val],[wh,dG,dG],λN x kf=>HM N x.1 x.2.1 x.2.2.1 (fw Fi .k kf)⟩
theorem aad:GC.ok:=qp Tryz.f235 [[lB],[fU],[Ct]] ⟨nB,gS,Kr,trivial⟩ (dt:=[(5,(OT.seq [0,1,2,3,4,5,6,7,8,9,10,11,12,13,14,15,16,17,18,19,20,21,22,23,24,25,26,27,28,29,30,31,32,33,34] .done))])
def UB:List Kd:=vw::kj::dn 4 (aQ::dn 53 ([]))
def WR:List Kd:=dn 60 ([])
def WS:List Kd:=dn 4 (.v (.sl Fi) (.o 97 none .k)::jA::dn 54 ([]))
def al6:Hint:={ tab,hn:=[],loops:=[(4,UB)],outs:=[(4,2,WR),(4,1,WS)],dt:=[(6,(OT.seq [0,1,2,3,4,5,6,7,8,9] .done)),(7,(OT.seq [1,2,3,5,6,7,8,0,4,9,10] .done)),(10,(OT.seq [0,1,2,3,4,5,6,7,10,8,9,11,12,13] .done))] }
def WT:List AK:=[wh,lH]
noncomputable def al7 (N:Nat) (x:fu WT) (kf:iI->aa):aa:=akW N x.1 x.2.1 (λr0 r1=>kf ⟨[⟨(.sl Fi),(.o 97 none .k),r0⟩,⟨.bool,.k,r1⟩],[]⟩)
noncomputable def ac2 (N:Nat):=c9 WT (al7 N)
def agG (N:Nat):List Entry:=[⟨234,[.val,.val,.val],(c9 zg.l (zg.F N))⟩,⟨235,[.val,.val,.val],(c9 GC.l (GC.F N))⟩,⟨165,[.val,.val],(ac2 N)⟩]
def YQ:Code:=iw Tryz.f165
noncomputable def agH (N n:Nat) (key:Nat) (S:St) (K:Ks):aa:=bif Nat.beq key 4 then wA UB S (λx=>ND N (akW N) x.1 x.2.1 n (K (.x 0) (shape WR ())) (λz0 z1=>K .r (shape WS (z0,z1,()))) x.2.2.1) else none
theorem avV (N key:Nat) (S:St) (K:Ks):agH N 0 key S K=none:=(afJ (xk λ_=>rfl) rfl)
def ajJ:Code:=(cR YQ).getD 0 .skip
theorem avW:cR YQ=[ajJ]:=by kernel_rfl
theorem apj (N:Nat):RdT al6 (agG N) (agH N) N 4 UB ajJ:=λ_ _ _=>by kernel_rfl
theorem avX (N:Nat) (x:fu WT) (kf:iI->aa):al7 (N+1) x kf=tU al6 (va.of (agG N)) (agH N N) Tryz.f165 (jD WT x) kf:=by kernel_rfl
theorem anI {Γ:Gl} (AR:si Γ):∀ N:Nat,Sound Γ Tryz.prog 165 (ac2 N)
 |0=>wB λal kf=>by unfold ac2 c9;split<;>rfl
 |N+1=>qn (hh:=al6) mixed vt (es:=agG N) ⟨OH AR N,⟨aad AR N,⟨anI AR N,trivial⟩⟩⟩ (fn:=Tryz.f165) (body:=YQ) (by kernel_rfl) (by kernel_rfl) (by kernel_rfl) (by kernel_rfl) (by kernel_rfl) (Lf:=agH N) (avV N) avW (rc (apj N) trivial) (N:=N) (by kernel_rfl) (avX N) (.inl (by kernel_rfl))
noncomputable def anJ:CE:=⟨165,[.val,.val],WT,al7⟩
theorem avY:anJ.ok:=λh N=>anI h N
noncomputable def Kt:CE:=⟨98,[.val],[wh],λN x kf=>Bs N x.1 (Rt (.sl Fi) (.o 97 none .k) .bool .k kf)⟩
theorem WU:Kt.ok:=qp Tryz.f98 [[fU],[ED],[anJ]] ⟨gS,ML,avY,trivial⟩
def UC:List Kd:=vw::Aq::S7::kj::dn 6 (aQ::dn 59 ([]))
def WV:List Kd:=dn 70 ([])
def WW:List Kd:=dn 8 (lM::jA::dn 60 ([]))
def al8:Hint:={ tab,hn:=[],loops:=[(4,UC)],outs:=[(4,2,WV),(4,1,WW)],dt:=[(6,(OT.seq [0,1,2,3,4,5,6,7,8,9,10,11,12,13,14,15,16,17,18] .done)),(7,(OT.seq [5,0,1,2,3,7,8,9,10] (.par [4,6,11,12] [[47],[53,54],[54,55]] (OT.seq [13,14,15,16,17,18,19] .done))))] }
def WX:List AK:=[wh,WK,acX,lH]
noncomputable def al9 (N:Nat) (x:fu WX) (kf:iI->aa):aa:=akY N x.1 x.2.1 x.2.2.1 x.2.2.2.1 (λr0 r1=>kf ⟨[⟨(.sl (.int .i64)),vu,r0⟩,⟨.bool,.k,r1⟩],[]⟩)
noncomputable def ac3 (N:Nat):=c9 WX (al9 N)
def agI (N:Nat):List Entry:=[⟨177,[.val,.val],(c9 gT.l (gT.F N))⟩,⟨178,[.val,.val,.val],(c9 tr.l (tr.F N))⟩,⟨167,[.val,.val,.val,.val],(ac3 N)⟩]
def YR:Code:=iw Tryz.f167
noncomputable def agJ (N n:Nat) (key:Nat) (S:St) (K:Ks):aa:=bif Nat.beq key 4 then wA UC S (λx=>JZ N (akY N) x.1 x.2.1 x.2.2.1 x.2.2.2.1 n (K (.x 0) (shape WV ())) (λz0 z1=>K .r (shape WW (z0,z1,()))) x.2.2.2.2.1) else none
theorem avZ (N key:Nat) (S:St) (K:Ks):agJ N 0 key S K=none:=(afJ (xk λ_=>rfl) rfl)
def ajK:Code:=(cR YR).getD 0 .skip
theorem av0:cR YR=[ajK]:=by kernel_rfl
theorem apk (N:Nat):RdT al8 (agI N) (agJ N) N 4 UC ajK:=λ_ _ _=>by kernel_rfl
theorem av1 (N:Nat) (x:fu WX) (kf:iI->aa):al9 (N+1) x kf=tU al8 (va.of (agI N)) (agJ N N) Tryz.f167 (jD WX x) kf:=by kernel_rfl
theorem anK {Γ:Gl} (AR:si Γ):∀ N:Nat,Sound Γ Tryz.prog 167 (ac3 N)
 |0=>wB λal kf=>by unfold ac3 c9;split<;>rfl
 |N+1=>qn (hh:=al8) mixed vt (es:=agI N) ⟨kE AR N,⟨EB AR N,⟨anK AR N,trivial⟩⟩⟩ (fn:=Tryz.f167) (body:=YR) (by kernel_rfl) (by kernel_rfl) (by kernel_rfl) (by kernel_rfl) (by kernel_rfl) (Lf:=agJ N) (avZ N) av0 (rc (apk N) trivial) (N:=N) (by kernel_rfl) (av1 N) (.inl (by kernel_rfl))
noncomputable def anL:CE:=⟨167,[.val,.val,.val,.val],WX,al9⟩
theorem av3:anL.ok:=λh N=>anK h N
noncomputable def I':CE:=⟨99,[.val,.val,.val],[wh,WK,acX],λN x kf=>yW N x.1 x.2.1 x.2.2.1 (Rt (.sl (.int .i64)) vu .bool .k kf)⟩
theorem UD:I'.ok:=qp Tryz.f99 [[vY],[fU],[anL]] ⟨Cn,gS,av3,trivial⟩
noncomputable def MM:CE:=⟨45,[.val],[tq],λN x kf=>EU N x.1 (Rt TN Gy .bool .k kf)⟩
theorem YS:MM.ok:=qp Tryz.f45 [[gJ],[Kt],[I'],[ru],[oU]] ⟨iZ,WU,UD,vX,qM,trivial⟩ (dt:=[(7,(OT.seq [0,1,2,3,4,5,6,7,8,9,10,11,12,13,14,15,16,17,18,19,20,21] .done))])
noncomputable def Ja:CE:=⟨46,[.val,.val,.val,.val],[tq,dG,dG,dG],λN x kf=>yX N x.1 x.2.1 x.2.2.1 x.2.2.2.1 (Rt TN Gy .bool .k kf)⟩
theorem UE:Ja.ok:=qp Tryz.f46 [[gJ],[wY],[fH],[xx],[oU]] ⟨iZ,Cr,gA,EC,qM,trivial⟩ (dt:=[(3,(OT.seq [0,1,2,3,4,5,6,7,8,9,10,11,12,13,14,15,16,17,18,19,20] .done)),(5,(OT.seq [0,1,2,3,4,5,6,7,8,9,10,11,12] .done)),(6,(OT.seq [0,1,2,3,4,5,6,8,9,10,11,12,7,13,14,15,16,17] .done))])
end Go.Pv.R
