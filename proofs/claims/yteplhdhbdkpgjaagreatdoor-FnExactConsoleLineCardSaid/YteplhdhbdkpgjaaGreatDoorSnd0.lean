/- Each function of the program that the law reaches computes its plain function, part 0. -/
import Derived.Test.YteplhdhbdkpgjaaGreatDoorPlRes
import Derived.Test.YteplhdhbdkpgjaaGreatDoorGro
import Derived.Test.YteplhdhbdkpgjaaGreatDoorProg
set_option linter.unusedVariables false
noncomputable section
namespace Go.Pv.R
open List Int IntKind
open Go.Proofs
set_option maxRecDepth 100000
noncomputable abbrev dK:Kd:=.dead
noncomputable def tab:nh:=[⟨2,(.int .i64),0,[]⟩,⟨3,(.int .i64),0,[]⟩,⟨4,.bool,0,[]⟩,⟨5,(.int .u8),0,[]⟩,⟨9,.str,0,[]⟩,⟨12,(.int .u64),0,[]⟩,⟨21,(.int .i32),0,[]⟩,⟨22,(.sl lG),100,[]⟩,⟨23,(.sl n5),103,[]⟩,⟨24,(.sl dt),135,[]⟩,⟨25,(.sl (.int .i64)),3,[]⟩,⟨26,(.sl vo),139,[]⟩,⟨27,(.sl tM),143,[]⟩,⟨28,pG,0,[22,23,24,25,26,27,3]⟩,⟨29,pG,0,[22,23,24,25,26,27,3]⟩,⟨31,(.sl lG),128,[]⟩,⟨32,(.sl n5),130,[]⟩,⟨33,(.sl dt),133,[]⟩,⟨34,(.sl vo),137,[]⟩,⟨35,(.sl tM),141,[]⟩,⟨36,pG,0,[31,32,33,25,34,35,3]⟩,⟨37,pG,0,[31,32,33,25,34,35,3]⟩,⟨50,(.sl .str),9,[]⟩,⟨60,tM,0,[3,3,3,3]⟩,⟨61,tM,0,[3,3,3,3]⟩,⟨69,(.sl (.sl (.int .i64))),25,[]⟩,⟨70,PW,0,[3,69]⟩,⟨71,PW,0,[3,69]⟩,⟨99,lG,0,[3,3,3,3,3,25]⟩,⟨100,lG,0,[3,3,3,3,3,25]⟩,⟨102,n5,0,[3,3,25]⟩,⟨103,n5,0,[3,3,25]⟩,⟨109,(.sl (.int .u8)),5,[]⟩,⟨111,(.sl .bool),4,[]⟩,⟨128,lG,0,[3,3,3,3,3,25]⟩,⟨130,n5,0,[3,3,25]⟩,⟨132,dt,0,[3,3]⟩,⟨133,dt,0,[3,3]⟩,⟨135,dt,0,[3,3]⟩,⟨136,vo,0,[3,3,3]⟩,⟨137,vo,0,[3,3,3]⟩,⟨139,vo,0,[3,3,3]⟩,⟨140,tM,0,[3,3,3,3]⟩,⟨141,tM,0,[3,3,3,3]⟩,⟨143,tM,0,[3,3,3,3]⟩,⟨172,(.int .u64),0,[]⟩,⟨188,.mp,0,[]⟩,⟨208,(.sl (.int .u64)),172,[]⟩,⟨210,(.int .u64),0,[]⟩,⟨233,(.arr 2 (.int .i64)),3,[]⟩,⟨242,(.int .i64),0,[]⟩,⟨250,(.int .u32),0,[]⟩,⟨270,(.int .u64),0,[]⟩]
theorem mixed:Tryz.prog.follows .mixedOrders=true:=by kernel_rfl
theorem vz:ke Tryz.prog tab=true:=by kernel_rfl
noncomputable def zH:Md:=(.p (.o 128 none (.p .k (.p .k (.p .k (.p .k (.p .k (.o 3 none .k))))))) (.p (.o 130 none (.p .k (.p .k (.o 3 none .k)))) (.p (.o 133 none .k) (.p (.o 3 none .k) (.p (.o 137 none .k) (.p (.o 141 none .k) .k))))))
noncomputable def adh:Md:=(.p .k (.p .k (.p .k (.p .k (.p .k (.o 3 none .k))))))
noncomputable def wL:Md:=(.o 3 none .k)
noncomputable def awk:Md:=(.p (.o 128 (some 0) adh) (.p (.o 130 (some 1) (.p .k (.p .k wL))) (.p (.o 133 (some 2) .k) (.p (.o 3 (some 3) .k) (.p (.o 137 (some 4) .k) (.p (.o 141 (some 5) .k) .k))))))
noncomputable def aEz:Md:=(.o 37 none zH)
noncomputable def aEA:Md:=(.o 37 none .k)
noncomputable def amQ:Md:=(.o 130 none (.p .k (.p .k wL)))
noncomputable def aEB:Md:=(.o 71 none .k)
noncomputable def aDt:Md:=(.o 9 none .k)
noncomputable def adi:Md:=(.o 128 none adh)
noncomputable def adj:Md:=(.o 128 (some 0) .k)
noncomputable def akk:Md:=(.o 25 none .k)
noncomputable def akl:Md:=(.o 25 (some 0) .k)
noncomputable def Zz:Md:=(.p .k (.p .k wL))
noncomputable def db:AK:=.v (.int .i64) .k
noncomputable def kg:AK:=.v (.sl (.int .i64)) .k
noncomputable def qv:AK:=.v pG .k
noncomputable def tF:AK:=.v (.sl lG) .k
noncomputable def zI:AK:=.v PW .k
noncomputable def Nf:AK:=.v (.sl n5) .k
noncomputable def Ng:AK:=.v .str .k
noncomputable def Q6:AK:=.v (.sl dt) .k
noncomputable def V':AK:=.v (.sl vo) .k
noncomputable def Z':AK:=.v (.sl tM) .k
noncomputable def Wa:AK:=.v lG .k
noncomputable def ZA:AK:=.v n5 .k
noncomputable def adk:AK:=.v vo .k
noncomputable def afF:AK:=.v .bool .k
noncomputable def akm:AK:=.v (.sl .str) .k
noncomputable def akn:AK:=.v (.sl (.sl (.int .i64))) .k
noncomputable def at1:AK:=.v (.ptr (.int .i64)) .k
noncomputable def at2:AK:=.v (.sl (.sl (.int .i64))) akl
noncomputable def ayg:AK:=.v (.sl (.int .i64)) (.o 3 (some 0) .k)
noncomputable def aN:Kd:=.v (.int .i64) .k
noncomputable def iE:Kd:=.v .bool .k
noncomputable def jh:Kd:=.v (.sl (.int .i64)) .k
noncomputable def lz:Kd:=.v (.sl (.int .i64)) wL
noncomputable def sC:Kd:=.v (.sl lG) .k
noncomputable def xM:Kd:=.v (.ptr pG) aEA
noncomputable def AH:Kd:=.v (.ptr pG) aEz
noncomputable def BY:Kd:=.v (.ptr PW) aEB
noncomputable def GS:Kd:=.v (.sl n5) .k
noncomputable def Ig:Kd:=.v (.sl (.sl (.int .i64))) .k
noncomputable def xr:Kd:=.v (.sl .str) aDt
noncomputable def xt:Kd:=.v .str .k
noncomputable def KF:Kd:=.v (.sl dt) .k
noncomputable def KG:Kd:=.v (.sl vo) .k
noncomputable def Mo:Kd:=.v (.sl (.sl (.int .i64))) akk
noncomputable def ZB:Kd:=.v (.sl tM) .k
noncomputable def adl:Kd:=.v (.sl .str) .k
noncomputable def adm:Kd:=.v pG .k
noncomputable def afG:Kd:=.v (.sl lG) adi
noncomputable def afH:Kd:=.v (.sl n5) amQ
noncomputable def afI:Kd:=.v (.sl lG) (.o 128 none .k)
noncomputable def afJ:Kd:=.v (.sl lG) adj
noncomputable def afK:Kd:=.v (.sl (.sl (.int .i64))) akl
noncomputable def aok:Kd:=.v (.sl dt) (.o 133 none .k)
noncomputable def aol:Kd:=.v (.sl .bool) (.o 4 none .k)
noncomputable def aom:Kd:=.v .mp (.o 188 (some 0) .k)
noncomputable def aon:Kd:=.v (.ptr (.arr 2 (.int .i64))) (.o 233 none .k)
noncomputable def at3:Kd:=.v (.ptr lG) (.o 128 none .k)
noncomputable def ayh:Kd:=.v (.sl (.int .u64)) (.o 172 none .k)
noncomputable def ayi:Kd:=.v (.sl (.int .i64)) (.o 3 (some 0) .k)
abbrev sA (Γ:Gl):Prop:=amF Tryz.prog Γ
structure CE where
 f:FuncId
 sg:List Pass
 l:List AK
 F:Nat->fK l->(jD->aa)->aa
def CE.ok (c:CE):Prop:=∀ {Γ:Gl},sA Γ->∀ N,Sound Γ Tryz.prog c.f (cX c.l (c.F N))
def runs (N:Nat):List CE->List Arg->(jD->aa)->aa
 |[]=>λ_ _=>none
 |c::r=>anB c.l (c.F N) (runs N r)
def PD (N:Nat):List (List CE)->List Entry
 |[]=>[]
 |[]::r=>PD N r
 |(c::g)::r=>⟨c.f,c.sg,runs N (c::g)⟩::PD N r
def aAE (f:FuncId):List CE->Prop
 |[]=>True
 |d::r=>(d.f=f/\d.ok)/\aAE f r
def OKs:List (List CE)->Prop
 |[]=>True
 |[]::r=>OKs r
 |[c]::r=>c.ok/\OKs r
 |(c::d::g)::r=>(c.ok/\aAE c.f (d::g))/\OKs r
theorem dC:OKs []:=trivial
theorem bE {c:CE} {r:List (List CE)} (h:c.ok) (k:OKs r):OKs ([c]::r):=⟨h,k⟩
theorem aoo {Γ:Gl} (hG:sA Γ) (N:Nat) (f:FuncId):∀ g,aAE f g->Sound Γ Tryz.prog f (runs N g)
 |[],_=>abL
 |d::r,h=>abK (by rw[←h.1.1];exact h.1.2 hG N) (aoo hG N f r h.2)
theorem amR {Γ:Gl} (hG:sA Γ) (N:Nat):∀ cs,OKs cs->EOK Γ Tryz.prog (PD N cs)
 |[],_=>trivial
 |[]::r,h=>amR hG N r h
 |[c]::r,h=>⟨abK (h.1 hG N) abL,amR hG N r h.2⟩
 |(c::d::g)::r,h=>⟨abK (h.1.1 hG N) (aoo hG N c.f (d::g) h.1.2),amR hG N r h.2⟩
noncomputable def iF (f:Func):Code:=match f.body with |some c=>c |none=>.skip
noncomputable def lpc (f:Func) (i:Nat):Code:=(cY (iF f)).getD i .skip
noncomputable def TM (hn:Hn) (dA:List (Nat×OT)) (nH:Option (Nat×Bool)) (G2:List (Nat×List (Nat×Path))) (keep:List Nat) (loops:List (Nat×List Kd)) (outs:List (Nat×Nat×List Kd)):Hint:={ tab,hn,loops,outs,dA,nH,G2,keep }
noncomputable def dn:Nat->List Kd->List Kd
 |0,l=>l
 |n+1,l=>dK::dn n l
noncomputable def nL:Nat->Nat->St->Ks->aa:=λ_ _ _ _=>none
noncomputable def Lc (k:Nat) (q:List Kd) (r:Nat->Fu q->Ks->aa) (t:Nat->Nat->St->Ks->aa):Nat->Nat->St->Ks->aa:=λn j S K=>bif Nat.beq j k then wj q S (λx=>r n x K) else t n j S K
theorem nL0:∀ k S K,nL 0 k S K=none:=λ_ _ _=>rfl
theorem Lc0 {k:Nat} {q:List Kd} {r:Nat->Fu q->Ks->aa} {t:Nat->Nat->St->Ks->aa} (h:∀ x K,r 0 x K=none) (h2:∀ k S K,t 0 k S K=none):∀ j S K,Lc k q r t 0 j S K=none:=λj S K=>agk (w6 λx=>h x K) (h2 j S K)
noncomputable def eH (t1:Ty) (m1:Md) (kf:jD->aa) (r1:t1.I):aa:=kf ⟨[⟨t1,m1,r1⟩],[]⟩
noncomputable def RS (t1:Ty) (m1:Md) (t2:Ty) (m2:Md) (kf:jD->aa) (r1:t1.I) (r2:t2.I):aa:=kf ⟨[⟨t1,m1,r1⟩,⟨t2,m2,r2⟩],[]⟩
theorem nb {f:FuncId} {sg:List Pass} {l:List AK} {cs:List (List CE)} {F:Nat->fK l->(jD->aa)->aa} (fn:Func) (oks:OKs cs) (hn:Hn:=[]) (dA:List (Nat×OT):=[]) (nH:Option (Nat×Bool):=none) (G2:List (Nat×List (Nat×Path)):=[]) (keep:List Nat:=[])
 (hF:∀ N x kf,F N x kf=rP (TM hn dA nH G2 keep [] []) (vi.of (PD N cs)) (nL N) fn (iS l x) kf:=by intros;kernel_rfl)
 (hls : cY (iF fn) = [] := by kernel_rfl) (hf : Tryz.prog.funcs[f]? = some fn := by kernel_rfl) (hb : fn.body = some (iF fn) := by kernel_rfl) (hnm : (fn.name == "runtime.NumGoroutine") = false := by kernel_rfl) (Oa : ∀ N, py (TM hn dA nH G2 keep [] []) (vi.of (PD N cs)) (iF fn) = true := by intros; kernel_rfl) (hky : C9 (iF fn) = true := by kernel_rfl) (hlen : Nat.ble l.length fn.ntmps = true := by kernel_rfl) (XF : rO (iF fn) = true := by kernel_rfl) : CE.ok ⟨f, sg, l, F⟩ :=
 λhG N=>qz (hh:=(TM hn dA nH G2 keep [] [])) mixed vz (amR hG N cs oks) hf hb hnm (Oa N) hky (Lf:=nL) nL0 hls trivial (N:=N) hlen (hF N) (.inl XF)
theorem lK {f:FuncId} {sg:List Pass} {l:List AK} {cs:List (List CE)} {F:Nat->fK l->(jD->aa)->aa} (fn:Func) (k1:Nat) (q1:List Kd) (r1:Nat->Nat->Fu q1->Ks->aa) (outs:List (Nat×Nat×List Kd)) (oks:OKs cs) (hn:Hn:=[]) (dA:List (Nat×OT):=[]) (nH:Option (Nat×Bool):=none) (G2:List (Nat×List (Nat×Path)):=[]) (keep:List Nat:=[])
 (hF:∀ N x kf,F N x kf=rP (TM hn dA nH G2 keep [(k1,q1)] outs) (vi.of (PD N cs)) ((Lc k1 q1 (r1 N) nL) N) fn (iS l x) kf:=by intros;kernel_rfl)
 (z1:∀ N x K,r1 N 0 x K=none:=by intros;kernel_rfl) (y1:keyOf (lpc fn 0)=k1:=by kernel_rfl) (w1:AN [(k1,q1)] k1=some q1:=by kernel_rfl)
 (h1:∀ N n x K,(Lc k1 q1 (r1 N) nL) (n+1) k1 (shape q1 x) (Hint.nc (TM hn dA nH G2 keep [(k1,q1)] outs) k1 K)=sF (TM hn dA nH G2 keep [(k1,q1)] outs) (vi.of (PD N cs)) (JU (Lc k1 q1 (r1 N) nL) N n k1) (lpc fn 0) (shape q1 x) (Hint.nc (TM hn dA nH G2 keep [(k1,q1)] outs) k1 K):=by intros;kernel_rfl)
 (hls : cY (iF fn) = [(lpc fn 0)] := by kernel_rfl) (hf : Tryz.prog.funcs[f]? = some fn := by kernel_rfl) (hb : fn.body = some (iF fn) := by kernel_rfl) (hnm : (fn.name == "runtime.NumGoroutine") = false := by kernel_rfl) (Oa : ∀ N, py (TM hn dA nH G2 keep [(k1, q1)] outs) (vi.of (PD N cs)) (iF fn) = true := by intros; kernel_rfl) (hky : C9 (iF fn) = true := by kernel_rfl) (hlen : Nat.ble l.length fn.ntmps = true := by kernel_rfl) (XF : rO (iF fn) = true := by kernel_rfl) : CE.ok ⟨f, sg, l, F⟩ :=
 λhG N=>qz (hh:=(TM hn dA nH G2 keep [(k1,q1)] outs)) mixed vz (amR hG N cs oks) hf hb hnm (Oa N) hky (Lf:=(Lc k1 q1 (r1 N) nL)) (Lc0 (z1 N) nL0) hls (zh y1 w1 (h1 N) trivial) (N:=N) hlen (hF N) (.inl XF)
theorem eK2 {f:FuncId} {sg:List Pass} {l:List AK} {cs:List (List CE)} {F:Nat->fK l->(jD->aa)->aa} (fn:Func) (k1:Nat) (q1:List Kd) (r1:Nat->Nat->Fu q1->Ks->aa) (k2:Nat) (q2:List Kd) (r2:Nat->Nat->Fu q2->Ks->aa) (outs:List (Nat×Nat×List Kd)) (oks:OKs cs) (hn:Hn:=[]) (dA:List (Nat×OT):=[]) (nH:Option (Nat×Bool):=none) (G2:List (Nat×List (Nat×Path)):=[]) (keep:List Nat:=[])
 (hF:∀ N x kf,F N x kf=rP (TM hn dA nH G2 keep [(k1,q1),(k2,q2)] outs) (vi.of (PD N cs)) ((Lc k1 q1 (r1 N) (Lc k2 q2 (r2 N) nL)) N) fn (iS l x) kf:=by intros;kernel_rfl)
 (z1:∀ N x K,r1 N 0 x K=none:=by intros;kernel_rfl) (y1:keyOf (lpc fn 0)=k1:=by kernel_rfl) (w1:AN [(k1,q1),(k2,q2)] k1=some q1:=by kernel_rfl)
 (h1:∀ N n x K,(Lc k1 q1 (r1 N) (Lc k2 q2 (r2 N) nL)) (n+1) k1 (shape q1 x) (Hint.nc (TM hn dA nH G2 keep [(k1,q1),(k2,q2)] outs) k1 K)=sF (TM hn dA nH G2 keep [(k1,q1),(k2,q2)] outs) (vi.of (PD N cs)) (JU (Lc k1 q1 (r1 N) (Lc k2 q2 (r2 N) nL)) N n k1) (lpc fn 0) (shape q1 x) (Hint.nc (TM hn dA nH G2 keep [(k1,q1),(k2,q2)] outs) k1 K):=by intros;kernel_rfl)
 (z2:∀ N x K,r2 N 0 x K=none:=by intros;kernel_rfl) (y2:keyOf (lpc fn 1)=k2:=by kernel_rfl) (w2:AN [(k1,q1),(k2,q2)] k2=some q2:=by kernel_rfl)
 (h2:∀ N n x K,(Lc k1 q1 (r1 N) (Lc k2 q2 (r2 N) nL)) (n+1) k2 (shape q2 x) (Hint.nc (TM hn dA nH G2 keep [(k1,q1),(k2,q2)] outs) k2 K)=sF (TM hn dA nH G2 keep [(k1,q1),(k2,q2)] outs) (vi.of (PD N cs)) (JU (Lc k1 q1 (r1 N) (Lc k2 q2 (r2 N) nL)) N n k2) (lpc fn 1) (shape q2 x) (Hint.nc (TM hn dA nH G2 keep [(k1,q1),(k2,q2)] outs) k2 K):=by intros;kernel_rfl)
 (hls : cY (iF fn) = [(lpc fn 0), (lpc fn 1)] := by kernel_rfl) (hf : Tryz.prog.funcs[f]? = some fn := by kernel_rfl) (hb : fn.body = some (iF fn) := by kernel_rfl) (hnm : (fn.name == "runtime.NumGoroutine") = false := by kernel_rfl) (Oa : ∀ N, py (TM hn dA nH G2 keep [(k1, q1), (k2, q2)] outs) (vi.of (PD N cs)) (iF fn) = true := by intros; kernel_rfl) (hky : C9 (iF fn) = true := by kernel_rfl) (hlen : Nat.ble l.length fn.ntmps = true := by kernel_rfl) (XF : rO (iF fn) = true := by kernel_rfl) : CE.ok ⟨f, sg, l, F⟩ :=
 λhG N=>qz (hh:=(TM hn dA nH G2 keep [(k1,q1),(k2,q2)] outs)) mixed vz (amR hG N cs oks) hf hb hnm (Oa N) hky (Lf:=(Lc k1 q1 (r1 N) (Lc k2 q2 (r2 N) nL))) (Lc0 (z1 N) (Lc0 (z2 N) nL0)) hls (zh y1 w1 (h1 N) (zh y2 w2 (h2 N) trivial)) (N:=N) hlen (hF N) (.inl XF)
theorem eK3 {f:FuncId} {sg:List Pass} {l:List AK} {cs:List (List CE)} {F:Nat->fK l->(jD->aa)->aa} (fn:Func) (k1:Nat) (q1:List Kd) (r1:Nat->Nat->Fu q1->Ks->aa) (k2:Nat) (q2:List Kd) (r2:Nat->Nat->Fu q2->Ks->aa) (k3:Nat) (q3:List Kd) (r3:Nat->Nat->Fu q3->Ks->aa) (outs:List (Nat×Nat×List Kd)) (oks:OKs cs) (hn:Hn:=[]) (dA:List (Nat×OT):=[]) (nH:Option (Nat×Bool):=none) (G2:List (Nat×List (Nat×Path)):=[]) (keep:List Nat:=[])
 (hF:∀ N x kf,F N x kf=rP (TM hn dA nH G2 keep [(k1,q1),(k2,q2),(k3,q3)] outs) (vi.of (PD N cs)) ((Lc k1 q1 (r1 N) (Lc k2 q2 (r2 N) (Lc k3 q3 (r3 N) nL))) N) fn (iS l x) kf:=by intros;kernel_rfl)
 (z1:∀ N x K,r1 N 0 x K=none:=by intros;kernel_rfl) (y1:keyOf (lpc fn 0)=k1:=by kernel_rfl) (w1:AN [(k1,q1),(k2,q2),(k3,q3)] k1=some q1:=by kernel_rfl)
 (h1:∀ N n x K,(Lc k1 q1 (r1 N) (Lc k2 q2 (r2 N) (Lc k3 q3 (r3 N) nL))) (n+1) k1 (shape q1 x) (Hint.nc (TM hn dA nH G2 keep [(k1,q1),(k2,q2),(k3,q3)] outs) k1 K)=sF (TM hn dA nH G2 keep [(k1,q1),(k2,q2),(k3,q3)] outs) (vi.of (PD N cs)) (JU (Lc k1 q1 (r1 N) (Lc k2 q2 (r2 N) (Lc k3 q3 (r3 N) nL))) N n k1) (lpc fn 0) (shape q1 x) (Hint.nc (TM hn dA nH G2 keep [(k1,q1),(k2,q2),(k3,q3)] outs) k1 K):=by intros;kernel_rfl)
 (z2:∀ N x K,r2 N 0 x K=none:=by intros;kernel_rfl) (y2:keyOf (lpc fn 1)=k2:=by kernel_rfl) (w2:AN [(k1,q1),(k2,q2),(k3,q3)] k2=some q2:=by kernel_rfl)
 (h2:∀ N n x K,(Lc k1 q1 (r1 N) (Lc k2 q2 (r2 N) (Lc k3 q3 (r3 N) nL))) (n+1) k2 (shape q2 x) (Hint.nc (TM hn dA nH G2 keep [(k1,q1),(k2,q2),(k3,q3)] outs) k2 K)=sF (TM hn dA nH G2 keep [(k1,q1),(k2,q2),(k3,q3)] outs) (vi.of (PD N cs)) (JU (Lc k1 q1 (r1 N) (Lc k2 q2 (r2 N) (Lc k3 q3 (r3 N) nL))) N n k2) (lpc fn 1) (shape q2 x) (Hint.nc (TM hn dA nH G2 keep [(k1,q1),(k2,q2),(k3,q3)] outs) k2 K):=by intros;kernel_rfl)
 (z3:∀ N x K,r3 N 0 x K=none:=by intros;kernel_rfl) (y3:keyOf (lpc fn 2)=k3:=by kernel_rfl) (w3:AN [(k1,q1),(k2,q2),(k3,q3)] k3=some q3:=by kernel_rfl)
 (h3:∀ N n x K,(Lc k1 q1 (r1 N) (Lc k2 q2 (r2 N) (Lc k3 q3 (r3 N) nL))) (n+1) k3 (shape q3 x) (Hint.nc (TM hn dA nH G2 keep [(k1,q1),(k2,q2),(k3,q3)] outs) k3 K)=sF (TM hn dA nH G2 keep [(k1,q1),(k2,q2),(k3,q3)] outs) (vi.of (PD N cs)) (JU (Lc k1 q1 (r1 N) (Lc k2 q2 (r2 N) (Lc k3 q3 (r3 N) nL))) N n k3) (lpc fn 2) (shape q3 x) (Hint.nc (TM hn dA nH G2 keep [(k1,q1),(k2,q2),(k3,q3)] outs) k3 K):=by intros;kernel_rfl)
 (hls : cY (iF fn) = [(lpc fn 0), (lpc fn 1), (lpc fn 2)] := by kernel_rfl) (hf : Tryz.prog.funcs[f]? = some fn := by kernel_rfl) (hb : fn.body = some (iF fn) := by kernel_rfl) (hnm : (fn.name == "runtime.NumGoroutine") = false := by kernel_rfl) (Oa : ∀ N, py (TM hn dA nH G2 keep [(k1, q1), (k2, q2), (k3, q3)] outs) (vi.of (PD N cs)) (iF fn) = true := by intros; kernel_rfl) (hky : C9 (iF fn) = true := by kernel_rfl) (hlen : Nat.ble l.length fn.ntmps = true := by kernel_rfl) (XF : rO (iF fn) = true := by kernel_rfl) : CE.ok ⟨f, sg, l, F⟩ :=
 λhG N=>qz (hh:=(TM hn dA nH G2 keep [(k1,q1),(k2,q2),(k3,q3)] outs)) mixed vz (amR hG N cs oks) hf hb hnm (Oa N) hky (Lf:=(Lc k1 q1 (r1 N) (Lc k2 q2 (r2 N) (Lc k3 q3 (r3 N) nL)))) (Lc0 (z1 N) (Lc0 (z2 N) (Lc0 (z3 N) nL0))) hls (zh y1 w1 (h1 N) (zh y2 w2 (h2 N) (zh y3 w3 (h3 N) trivial))) (N:=N) hlen (hF N) (.inl XF)
noncomputable def noL (N n:Nat) (key:Nat) (S:St) (K:Ks):aa:=none
theorem ako (N key:Nat) (S:St) (K:Ks):noL N 0 key S K=none:=rfl
def FnT (sg:List AK) (F:fK sg->(jD->aa)->aa) (h:Hint) (es:List Entry) (L:Nat->St->Ks->aa) (f:Func):Prop:=∀ (x:fK sg) (kf:jD->aa),F x kf=rP h (vi.of es) L f (iS sg x) kf
def RdT (h:Hint) (es:List Entry) (L:Nat->Nat->St->Ks->aa) (N key:Nat) (ks:List Kd) (c:Code):Prop:=∀ (n:Nat) (x:Fu ks) (K:Ks),L (n+1) key (shape ks x) (h.nc key K)=sF h (vi.of es) (JU L N n key) c (shape ks x) (h.nc key K)
theorem rc {hh:Hint} {es:List Entry} {Lf:Nat->Nat->St->Ks->aa} {N key:Nat} {ks:List Kd} {c:Code} {l:List Code} (h:RdT hh es Lf N key ks c) (hr:OC hh (vi.of es) Lf N l) (hk:keyOf c=key:=by kernel_rfl) (hh1:AN hh.loops key=some ks:=by kernel_rfl):OC hh (vi.of es) Lf N (c::l):=zh hk hh1 h hr
theorem sdk {Γ:Gl} (hh:Hint) {es:List Entry} {f:FuncId} (fn:Func) (body:Code) {N:Nat} {Lf:Nat->Nat->St->Ks->aa} (h0:∀ k S K,Lf 0 k S K=none) {ls:List Code} (hls:cY body=ls) {l:List AK} {F:fK l->(jD->aa)->aa} (hF:FnT l F hh es (Lf N) fn) (iR:OC hh (vi.of es) Lf N ls) (hO:EOK Γ Tryz.prog es)
  (hT : ke Tryz.prog hh.tab = true := by exact vz) (hf : Tryz.prog.funcs[f]? = some fn := by kernel_rfl) (hb : fn.body = some body := by kernel_rfl) (hnm : (fn.name == "runtime.NumGoroutine") = false := by kernel_rfl) (Oa : py hh (vi.of es) body = true := by kernel_rfl) (hky : C9 body = true := by kernel_rfl) (hlen : Nat.ble l.length fn.ntmps = true := by kernel_rfl) (XF : rO body = true := by kernel_rfl) : Sound Γ Tryz.prog f (cX l F) :=
 qz mixed hT hO hf hb hnm Oa hky h0 hls iR hlen hF (.inl XF)
theorem Jv:CE.ok ⟨14,[.val,.val],[kg,db],λN x kf=>zX N x.1 x.2.1 (eH (.int .i64) .k kf)⟩:=nb Tryz.f14 dC
theorem adn:CE.ok ⟨63,[.val,.val],[Wa,db],λN x kf=>zY N x.1 x.2.1 (eH (.int .i64) .k kf)⟩:=nb Tryz.f63 (bE Jv dC)
def FM:List Kd:=(dK::aN::dn 25 ([]))
def FN:List Kd:=(dn 4 (aN::dn 22 ([])))
theorem aaa:CE.ok ⟨11,[.val,.val],[tF,db],λN x kf=>HJ N x.1 x.2.1 (eH (.int .i64) .k kf)⟩:=lK Tryz.f11 5 (sC::aN::dn 3 (aN::dn 21 ([]))) (λN n x K=>oQ N x.1 n (λz0=>K (.x 0) (shape FM (z0,()))) (λz0=>K .r (shape FN (z0,()))) x.2.1 x.2.2.1) [(5,2,FM),(5,1,FN)] (bE adn dC)
theorem aab:CE.ok ⟨64,[.val,.val],[ZA,db],λN x kf=>w7 N x.1 x.2.1 (eH (.int .i64) .k kf)⟩:=nb Tryz.f64 (bE Jv dC)
def Df:List Kd:=(dK::aN::dn 25 ([]))
def Dg:List Kd:=(dn 4 (aN::dn 22 ([])))
theorem Yp:CE.ok ⟨12,[.val,.val],[Nf,db],λN x kf=>E5 N x.1 x.2.1 (eH (.int .i64) .k kf)⟩:=lK Tryz.f12 5 (GS::aN::dn 3 (aN::dn 21 ([]))) (λN n x K=>np N x.1 n (λz0=>K (.x 0) (shape Df (z0,()))) (λz0=>K .r (shape Dg (z0,()))) x.2.1 x.2.2.1) [(5,2,Df),(5,1,Dg)] (bE aab dC)
theorem aac:CE.ok ⟨13,[.val,.val],[Q6,db],λN x kf=>HK N x.1 x.2.1 (eH (.int .i64) .k kf)⟩:=nb Tryz.f13 dC
theorem Wb:CE.ok ⟨15,[.val,.val],[V',db],λN x kf=>Bb N x.1 x.2.1 (eH (.int .i64) .k kf)⟩:=nb Tryz.f15 dC
theorem aad:CE.ok ⟨16,[.val,.val],[Z',db],λN x kf=>HL N x.1 x.2.1 (eH (.int .i64) .k kf)⟩:=nb Tryz.f16 dC
noncomputable def Jw:CE:=⟨4,[.val,.val],[qv,db],λN x kf=>Fy N x.1 x.2.1 (eH (.int .i64) .k kf)⟩
theorem ado:Jw.ok:=nb Tryz.f4 (bE aaa (bE Yp (bE aac (bE Jv (bE Wb (bE aad dC))))))
def He:List Kd:=(dn 3 (lz::dn 18 ([])))
theorem Jx:CE.ok ⟨35,[.val],[kg],λN x kf=>zZ N x.1 (eH (.sl (.int .i64)) wL kf)⟩:=lK Tryz.f35 3 (jh::dK::dK::lz::aN::dn 17 ([])) (λN n x K=>qi x.1 n (λz0=>K (.x 0) (shape He (z0,()))) x.2.1 x.2.2.1) [(3,2,He)] dC
theorem adp:CE.ok ⟨91,[.val],[Wa],λN x kf=>z6 N x.1 (eH lG adh kf)⟩:=nb Tryz.f91 (bE Jx dC)
def FP:List Kd:=(dn 3 (afG::dn 19 ([])))
theorem aae:CE.ok ⟨32,[.val],[tF],λN x kf=>HM N x.1 (eH (.sl lG) adi kf)⟩:=lK Tryz.f32 3 (sC::dK::dK::afG::aN::dn 18 ([])) (λN n x K=>oS N x.1 n (λz0=>K (.x 0) (shape FP (z0,()))) x.2.1 x.2.2.1) [(3,2,FP)] (bE adp dC)
theorem aaf:CE.ok ⟨92,[.val],[ZA],λN x kf=>w8 N x.1 (eH n5 Zz kf)⟩:=nb Tryz.f92 (bE Jx dC)
def Dh:List Kd:=(dn 3 (afH::dn 19 ([])))
theorem Yq:CE.ok ⟨33,[.val],[Nf],λN x kf=>E6 N x.1 (eH (.sl n5) amQ kf)⟩:=lK Tryz.f33 3 (GS::dK::dK::afH::aN::dn 18 ([])) (λN n x K=>nq N x.1 n (λz0=>K (.x 0) (shape Dh (z0,()))) x.2.1 x.2.2.1) [(3,2,Dh)] (bE aaf dC)
theorem adq:CE.ok ⟨93,[.val],[.v dt .k],λN x kf=>z7 N x.1 (eH dt .k kf)⟩:=nb Tryz.f93 dC
def FQ:List Kd:=(dn 3 (aok::dn 19 ([])))
theorem aag:CE.ok ⟨34,[.val],[Q6],λN x kf=>HN N x.1 (eH (.sl dt) (.o 133 none .k) kf)⟩:=lK Tryz.f34 3 (KF::dK::dK::aok::aN::dn 18 ([])) (λN n x K=>oT N x.1 n (λz0=>K (.x 0) (shape FQ (z0,()))) x.2.1 x.2.2.1) [(3,2,FQ)] (bE adq dC)
theorem Yr:CE.ok ⟨94,[.val],[adk],λN x kf=>u9 N x.1 (eH vo .k kf)⟩:=nb Tryz.f94 dC
def BZ:List Kd:=(dn 3 (.v (.sl vo) (.o 137 none .k)::dn 19 ([])))
theorem Wc:CE.ok ⟨36,[.val],[V'],λN x kf=>Bc N x.1 (eH (.sl vo) (.o 137 none .k) kf)⟩:=lK Tryz.f36 3 (KG::dK::dK::.v (.sl vo) (.o 137 none .k)::aN::dn 18 ([])) (λN n x K=>lV N x.1 n (λz0=>K (.x 0) (shape BZ (z0,()))) x.2.1 x.2.2.1) [(3,2,BZ)] (bE Yr dC)
theorem adr:CE.ok ⟨95,[.val],[.v tM .k],λN x kf=>z8 N x.1 (eH tM .k kf)⟩:=nb Tryz.f95 dC
def FR:List Kd:=(dn 3 (.v (.sl tM) (.o 141 none .k)::dn 19 ([])))
theorem aah:CE.ok ⟨37,[.val],[Z'],λN x kf=>HO N x.1 (eH (.sl tM) (.o 141 none .k) kf)⟩:=lK Tryz.f37 3 (ZB::dK::dK::.v (.sl tM) (.o 141 none .k)::aN::dn 18 ([])) (λN n x K=>oU N x.1 n (λz0=>K (.x 0) (shape FR (z0,()))) x.2.1 x.2.2.1) [(3,2,FR)] (bE adr dC)
noncomputable def Jy:CE:=⟨6,[.val],[qv],λN x kf=>z' N x.1 (eH pG zH kf)⟩
theorem ads:Jy.ok:=nb Tryz.f6 (bE aae (bE Yq (bE aag (bE Jx (bE Wc (bE aah dC))))))
def Di:List Kd:=(dn 3 (xr::dn 33 ([])))
theorem Ys:CE.ok ⟨17,[.val],[Ng],λN x kf=>KY N x.1 (eH (.sl .str) aDt kf)⟩:=lK Tryz.f17 4 (xt::dK::dK::xr::xt::aN::dn 31 ([])) (λN n x K=>gX x.1 n (λz0=>K (.x 0) (shape Di (z0,()))) x.2.1 x.2.2.1 x.2.2.2.1) [(4,2,Di)] dC
def FT:List Kd:=(dn 3 (afG::dn 23 ([])))
theorem yY:CE.ok ⟨65,[.val],[tF],λN x kf=>lW N x.1 (eH (.sl lG) adi kf)⟩:=lK Tryz.f65 3 (sC::dK::dK::afG::aN::dn 22 ([])) (λN n x K=>oV x.1 n (λz0=>K (.x 0) (shape FT (z0,()))) x.2.1 x.2.2.1) [(3,2,FT)] dC (hn:=[(6,adh)])
def B0:List Kd:=(dn 3 (afH::dn 23 ([])))
theorem KH:CE.ok ⟨66,[.val],[Nf],λN x kf=>qk N x.1 (eH (.sl n5) amQ kf)⟩:=lK Tryz.f66 3 (GS::dK::dK::afH::aN::dn 22 ([])) (λN n x K=>lX x.1 n (λz0=>K (.x 0) (shape B0 (z0,()))) x.2.1 x.2.2.1) [(3,2,B0)] dC (hn:=[(6,Zz)])
theorem jf:CE.ok ⟨18,[.val],[qv],λN x kf=>bX N x.1 (eH pG zH kf)⟩:=nb Tryz.f18 (bE yY (bE KH dC)) (dA:=[(1,(OT.seq [0,1,3,4,7,8,11,15,19,22] (.any [2,5,6,9,10,12,13,14,16,17,18,20,21,23] (OT.seq [24,25] .done))))])
def ayj:Hint:={ tab,hn:=[],loops:=[],outs:=[],dA:=[] }
def adt:List AK:=[Ng,db]
noncomputable def at4 (N:Nat) (x:fK adt) (kf:jD->aa):aa:=S67 N x.1 x.2.1 (λr0 r1=>kf ⟨[⟨(.sl (.int .i64)),wL,r0⟩,⟨(.int .i64),.k,r1⟩],[]⟩)
noncomputable def ahm (N:Nat):=cX adt (at4 N)
def at5 (N:Nat):List Entry:=[⟨67,[.val,.val],(ahm N)⟩]
def akp:Code:=iF Tryz.f67
theorem aAF:cY akp=[]:=by kernel_rfl
theorem aAG (N:Nat) (x:fK adt) (kf:jD->aa):at4 (N+1) x kf=rP ayj (vi.of (at5 N)) (noL N N) Tryz.f67 (iS adt x) kf:=by kernel_rfl
theorem at6 {Γ:Gl} (zU:sA Γ):∀ N:Nat,Sound Γ Tryz.prog 67 (ahm N)
 |0=>wk λal kf=>by unfold ahm cX;split<;>rfl
 |N+1=>qz (hh:=ayj) mixed vz (es:=at5 N) ⟨at6 zU N,trivial⟩ (fn:=Tryz.f67) (body:=akp) (by kernel_rfl) (by kernel_rfl) (by kernel_rfl) (by kernel_rfl) (by kernel_rfl) (Lf:=noL N) (ako N) aAF trivial (N:=N) (by kernel_rfl) (aAG N) (.inl (by kernel_rfl))
theorem aAH:CE.ok ⟨67,[.val,.val],adt,at4⟩:=λh N=>at6 h N
theorem gN:CE.ok ⟨89,[.val,.val,.val],[db,db,db],λN x kf=>cj N x.1 x.2.1 x.2.2.1 (eH .bool .k kf)⟩:=nb Tryz.f89 dC
def B2:List Kd:=(jh::dK::dK::aN::dn 44 ([]))
def B3:List Kd:=(dK::dK::iE::dn 45 ([]))
theorem KI:CE.ok ⟨132,[.val],[kg],λN x kf=>wm N x.1 (eH .bool .k kf)⟩:=lK Tryz.f132 3 (jh::dK::dK::aN::aN::dn 43 ([])) (λN n x K=>gm N x.1 n (λz0=>K (.x 0) (shape B2 (x.1,z0,()))) (λz0=>K .r (shape B3 (z0,()))) x.2.1 x.2.2.1) [(3,2,B2),(3,1,B3)] (bE gN dC)
def yj:List Kd:=(dn 3 (xr::dn 83 ([])))
theorem Q7:CE.ok ⟨68,[.val],[kg],λN x kf=>pW N x.1 (eH .str .k kf)⟩:=lK Tryz.f68 5 (jh::dK::dK::xr::aN::dn 82 ([])) (λN n x K=>fS x.1 n (λz0=>K (.x 0) (shape yj (z0,()))) x.2.1 x.2.2.1) [(5,2,yj)] (bE KI dC) (dA:=[(8,(OT.seq [0,1,2,3,4,5,7,8,9,10,11,12,16,17,18,19,20,6,13,14,15,21,22,23] .done)),(11,(OT.seq [0,1,2,3,4,5,6,7,8,9,10,11,12,13] .done))])
theorem PE:CE.ok ⟨19,[.val],[Ng],λN x kf=>gn N x.1 (RS (.sl (.int .i64)) wL .bool .k kf)⟩:=nb Tryz.f19 (bE aAH (bE Q7 dC))
def Hf:List Kd:=(dn 3 (aol::dn 15 ([])))
theorem adu:CE.ok ⟨70,[.val],[db],λN x kf=>Kh N x.1 (eH (.sl .bool) (.o 4 none .k) kf)⟩:=lK Tryz.f70 3 (aN::dK::dK::aol::aN::dn 14 ([])) (λN n x K=>IE x.1 n (λz0=>K (.x 0) (shape Hf (z0,()))) x.2.1 x.2.2.1) [(3,2,Hf)] dC
theorem aej:CE.ok ⟨133,[.val,.val,.val],[db,afF,afF],λN x kf=>IF N x.1 x.2.1 x.2.2.1 (eH .bool .k kf)⟩:=nb Tryz.f133 dC
def Jz:List Kd:=(dn 5 (aol::dn 79 ([])))
theorem aek:CE.ok ⟨69,[.val,.val],[kg,.v (.sl .bool) .k],λN x kf=>IH N x.1 x.2.1 (eH .bool .k kf)⟩:=lK Tryz.f69 5 (jh::.v (.sl .bool) .k::dn 3 (aol::aN::dn 78 ([]))) (λN n x K=>lL N x.1 x.2.1 n (λz0=>K (.x 0) (shape Jz (z0,()))) x.2.2.1 x.2.2.2.1) [(5,2,Jz)] (bE KI (bE aej dC)) (dA:=[(8,(OT.seq [0,1,2,3,4,5,6,7,8,9,10,11,12,13,14,15,16,17,18,19,20,21] .done))])
def B4:List Kd:=(dn 3 (aN::dn 12 ([])))
theorem KJ:CE.ok ⟨21,[.val],[kg],λN x kf=>lZ N x.1 (eH (.int .i64) .k kf)⟩:=lK Tryz.f21 3 (jh::dK::dK::aN::aN::dn 11 ([])) (λN n x K=>lY N x.1 n (λz0=>K (.x 0) (shape B4 (z0,()))) x.2.1 x.2.2.1) [(3,2,B4)] (bE adu (bE aek dC))
def B5:List Kd:=(aN::dK::dK::xt::dn 27 ([]))
theorem oN:CE.ok ⟨20,[.val],[db],λN x kf=>cr N x.1 (eH .str .k kf)⟩:=lK Tryz.f20 5 (aN::dK::dK::xt::aN::dn 26 ([])) (λN n x K=>iA x.1 n (λz0=>K (.x 0) (shape B5 (x.1,z0,()))) x.2.1 x.2.2.1) [(5,2,B5)] dC
theorem Yt:CE.ok ⟨23,[.val],[kg],λN x kf=>r9 N x.1 (eH .bool .k kf)⟩:=nb Tryz.f23 (bE KJ dC)
theorem adv:CE.ok ⟨22,[.val],[afF],λN x kf=>pM N x.1 (eH .str .k kf)⟩:=nb Tryz.f22 dC
def Dj:List Kd:=(xt::dn 3 (aN::dn 34 ([])))
def Dk:List Kd:=(dK::dK::aN::iE::dn 35 ([]))
theorem Yu:CE.ok ⟨71,[.val],[Ng],λN x kf=>x4 N x.1 (RS (.int .i64) .k .bool .k kf)⟩:=lK Tryz.f71 5 (xt::dn 3 (aN::aN::dn 33 ([]))) (λN n x K=>pX N x.1 n (λz0=>K (.x 0) (shape Dj (x.1,z0,()))) (λz0 z1=>K .r (shape Dk (z0,z1,()))) x.2.1 x.2.2.1) [(5,2,Dj),(5,1,Dk)] (bE gN (bE oN dC))
def FU:List Kd:=(dn 4 (lz::dn 26 ([])))
def FV:List Kd:=(dK::dK::lz::iE::dn 27 ([]))
theorem aai:CE.ok ⟨24,[.val],[akm],λN x kf=>HP N x.1 (RS (.sl (.int .i64)) wL .bool .k kf)⟩:=lK Tryz.f24 3 (adl::dn 3 (lz::aN::dn 25 ([]))) (λN n x K=>oX N x.1 n (λz0=>K (.x 0) (shape FU (z0,()))) (λz0 z1=>K .r (shape FV (z0,z1,()))) x.2.1 x.2.2.1) [(3,2,FU),(3,1,FV)] (bE Yu dC)
theorem Yv:CE.ok ⟨25,[.val,.val],[Ng,kg],λN x kf=>jd N x.1 x.2.1 (eH tM .k kf)⟩:=nb Tryz.f25 dC (dA:=[(2,(OT.seq [0,1,2,3,4,5,6,7] .done)),(4,(OT.seq [0,1,2,3,4,5,6,7] .done)),(8,(OT.seq [0,1,2,3,4,5,6,7,8,9,10] .done))])
theorem vV:CE.ok ⟨135,[.val],[qv],λN x kf=>l4 N x.1 (eH .bool .k kf)⟩:=nb Tryz.f135 dC
theorem Yw:CE.ok ⟨269,[.val],[Z'],λN x kf=>KZ N x.1 (eH (.int .i64) .k kf)⟩:=nb Tryz.f269 dC
theorem akq:CE.ok ⟨345,[.val,.val],[db,db],λN x kf=>OK N x.1 x.2.1 (eH (.int .i64) .k kf)⟩:=nb Tryz.f345 (bE gN dC)
def KK:List Kd:=(dn 3 (aN::dn 18 ([])))
theorem ahn:CE.ok ⟨314,[.val],[kg],λN x kf=>PX N x.1 (eH (.int .i64) .k kf)⟩:=lK Tryz.f314 3 (jh::dK::dK::aN::aN::dn 17 ([])) (λN n x K=>uj N x.1 n (λz0=>K (.x 0) (shape KK (z0,()))) x.2.1 x.2.2.1) [(3,2,KK)] (bE akq dC)
theorem NN:CE.ok ⟨268,[.val,.val],[db,.v tM .k],λN x kf=>uk N x.1 x.2.1 (eH (.int .i64) .k kf)⟩:=nb Tryz.f268 (bE ahn dC)
def Al:List Kd:=(ZB::dn 49 ([]))
def Am:List Kd:=(dK::dK::iE::dn 47 ([]))
theorem zJ:CE.ok ⟨205,[.val],[Z'],λN x kf=>qR N x.1 (eH .bool .k kf)⟩:=lK Tryz.f205 3 (ZB::dK::dK::aN::aN::dn 45 ([])) (λN n x K=>kU N x.1 n (K (.x 0) (shape Al (x.1,()))) (λz0=>K .r (shape Am (z0,()))) x.2.1 x.2.2.1) [(3,2,Al),(3,1,Am)] (bE NN (bE gN dC))
theorem Wd:CE.ok ⟨201,[.val,.val,.val],[Z',db,db],λN x kf=>Bd N x.1 x.2.1 x.2.2.1 (RS (.sl tM) (.o 141 none .k) .bool .k kf)⟩:=nb Tryz.f201 (bE Yw (bE NN (bE zJ dC))) (dA:=[(2,(OT.seq [0,2,1,3,4,5] .done)),(3,(OT.seq [1] (.any [0,2,3,4] (OT.seq [5,6] .done))))])
def Dl:List Kd:=(dn 20 ([]))
def Dm:List Kd:=(dn 4 (aN::dn 15 ([])))
theorem nD:CE.ok ⟨144,[.val,.val],[tF,db],λN x kf=>fG N x.1 x.2.1 (eH (.int .i64) .k kf)⟩:=lK Tryz.f144 2 (sC::aN::dn 3 (aN::dn 14 ([]))) (λN n x K=>nr x.1 x.2.1 n (K (.x 0) (shape Dl ())) (λz0=>K .r (shape Dm (z0,()))) x.2.2.1) [(2,2,Dl),(2,1,Dm)] dC
def Dn:List Kd:=(dn 5 (aN::dn 16 ([])))
theorem Yx:CE.ok ⟨213,[.val,.val],[kg,db],λN x kf=>sh N x.1 x.2.1 (eH (.int .i64) .k kf)⟩:=lK Tryz.f213 3 (jh::aN::dn 3 (aN::aN::dn 15 ([]))) (λN n x K=>lf x.1 x.2.1 n (λz0=>K (.x 0) (shape Dn (z0,()))) x.2.2.1 x.2.2.2.1) [(3,2,Dn)] dC
def Dp:List Kd:=(sC::dK::dK::aN::dn 111 ([]))
def Dq:List Kd:=(dK::dK::iE::dn 112 ([]))
def Dr:List Kd:=(sC::dn 114 ([]))
def Ds:List Kd:=(dK::dK::iE::dn 112 ([]))
theorem hY:CE.ok ⟨146,[.val],[tF],λN x kf=>ez N x.1 (eH .bool .k kf)⟩:=eK2 Tryz.f146 2 (sC::dK::dK::aN::dn 111 ([])) (λN n x K=>lg N x.1 n (K (.x 0) (shape Dr (x.1,()))) (λz0=>K .r (shape Ds (z0,()))) x.2.1) 8 (sC::dK::dK::aN::at3::aN::dn 109 ([])) (λN n x K=>fZ N x.1 x.2.1 x.2.2.1 n (K (.x 2) (shape Dp (x.1,x.2.1,()))) (λz0=>K .r (shape Dq (z0,()))) x.2.2.2.1) [(8,4,Dp),(8,1,Dq),(2,2,Dr),(2,1,Ds)] (bE gN (bE nD (bE Yx dC))) (dA:=[(5,(OT.seq [0,1,2,3,4,5,6,7,8,9,10,11,12,13,14,15,16,17,18,19,20,21,22,23,24,25,26,27,28,29,30,31,32,33,34,35,36,37,38,39,40,41,42,43,44,45,46,47,48,49,50,51,52,53,54] .done)),(11,(OT.seq [0,1,2,3,4,5,6,7,8,9,10,11,12,13,14,16,17,18,19,20,21,22,15,23,24,25] .done))])
def B6:List Kd:=(GS::dK::dK::aN::dn 88 ([]))
def B7:List Kd:=(dK::dK::iE::dn 89 ([]))
def B8:List Kd:=(GS::dn 91 ([]))
def B9:List Kd:=(dK::dK::iE::dn 89 ([]))
theorem B':CE.ok ⟨203,[.val],[Nf],λN x kf=>s9 N x.1 (eH .bool .k kf)⟩:=eK2 Tryz.f203 2 (GS::dK::dK::aN::dn 88 ([])) (λN n x K=>jP N x.1 n (K (.x 0) (shape B8 (x.1,()))) (λz0=>K .r (shape B9 (z0,()))) x.2.1) 7 (GS::dK::dK::aN::aN::dn 87 ([])) (λN n x K=>eW N x.1 x.2.1 n (K (.x 2) (shape B6 (x.1,x.2.1,()))) (λz0=>K .r (shape B7 (z0,()))) x.2.2.1) [(7,4,B6),(7,1,B7),(2,2,B8),(2,1,B9)] (bE gN dC) (dA:=[(4,(OT.seq [0,1,2,3,4,5,6,7,8,9,10,11,12,13,14,15,16,17,18,19,20,21,22,23,24,25,26,27,28,29,30,31,32,33] .done)),(9,(OT.seq [0,1,2,3,4,5,6,7,8,9,10,11,12,13,14,15,16,17,18,19,20,21,22,23,24,25,26,27,28,29,30,31,32,33] .done))])
def Ca:List Kd:=(dn 3 (aN::dn 19 ([])))
theorem We:CE.ok ⟨206,[.val],[tF],λN x kf=>Bf N x.1 (eH (.int .i64) .k kf)⟩:=lK Tryz.f206 3 (sC::dK::dK::aN::aN::dn 18 ([])) (λN n x K=>l5 N x.1 n (λz0=>K (.x 0) (shape Ca (z0,()))) x.2.1 x.2.2.1) [(3,2,Ca)] (bE hY dC)
noncomputable def Lb:CE:=⟨214,[.val,.val],[kg,db],λN x kf=>fm N x.1 x.2.1 (eH .bool .k kf)⟩
def JA:List Kd:=(dn 18 ([]))
def JB:List Kd:=(dn 4 (iE::dn 13 ([])))
theorem ky:Lb.ok:=lK Tryz.f214 2 (jh::aN::dn 3 (aN::dn 12 ([]))) (λN n x K=>si x.1 x.2.1 n (K (.x 0) (shape JA ())) (λz0=>K .r (shape JB (z0,()))) x.2.2.1) [(2,2,JA),(2,1,JB)] dC
theorem aaj:CE.ok ⟨315,[.val,.val,.val],[tF,db,db],λN x kf=>HR N x.1 x.2.1 x.2.2.1 (eH .bool .k kf)⟩:=nb Tryz.f315 (bE nD (bE ky dC))
noncomputable def GU:CE:=⟨270,[.val,.val,.val],[tF,db,db],λN x kf=>um N x.1 x.2.1 x.2.2.1 (eH .bool .k kf)⟩
theorem NO:GU.ok:=nb Tryz.f270 (bE nD (bE hY (bE aaj dC))) (dA:=[(3,(OT.seq [0,1,2,3,4,5,6,7,8,9,10,11,12,13,14,15,16,17,18,19,20,21,22,23,24,25,26,27,28,29,30,31,32,33,34,35] .done))])
def FW:List Kd:=(sC::dn 4 (lz::dn 61 ([])))
def FX:List Kd:=(dn 4 (iE::dn 62 ([])))
theorem aak:CE.ok ⟨207,[.val,.val],[tF,Q6],λN x kf=>HS N x.1 x.2.1 (eH .bool .k kf)⟩:=lK Tryz.f207 3 (sC::KF::dn 3 (lz::aN::dn 60 ([]))) (λN n x K=>oY N x.1 x.2.1 n (λz0=>K (.x 0) (shape FW (x.1,z0,()))) (λz0=>K .r (shape FX (z0,()))) x.2.2.1 x.2.2.2.1) [(3,2,FW),(3,1,FX)] (bE NO (bE ky (bE hY dC))) (dA:=[(5,(OT.seq [0,1,2,3,4,5,6,7,8,9,10,11,12,13,14,15,16,17,18,19,20,21,22,23,24,25,26,27,28,29,30] .done)),(7,(OT.seq [0,1,2,3,4,5,6,7,8,9,10,11,12,13] .done))])
def FY:List Kd:=(dn 20 ([]))
def FZ:List Kd:=(dn 4 (aN::dn 15 ([])))
theorem GV:CE.ok ⟨142,[.val,.val],[Nf,db],λN x kf=>jr N x.1 x.2.1 (eH (.int .i64) .k kf)⟩:=lK Tryz.f142 2 (GS::aN::dn 3 (aN::dn 14 ([]))) (λN n x K=>oZ x.1 x.2.1 n (K (.x 0) (shape FY ())) (λz0=>K .r (shape FZ (z0,()))) x.2.2.1) [(2,2,FY),(2,1,FZ)] dC
noncomputable def EM:CE:=⟨215,[.val,.val,.val],[tF,ZA,.v dt .k],λN x kf=>pN N x.1 x.2.1 x.2.2.1 (eH .bool .k kf)⟩
theorem EN:EM.ok:=nb Tryz.f215 (bE nD (bE ky dC)) (dA:=[(3,(OT.seq [0,1,2,3,4,5,6,7,8,9,10,11,12,13,14,15,16,17,18,19,20,21,22,23,24,25,26,27,28,29,30,31,32,33,34,35,36,37,38,39,40,41,42] .done))])
def Cb:List Kd:=(dn 58 ([]))
def Cc:List Kd:=(dn 8 (iE::dn 49 ([])))
theorem Wf:CE.ok ⟨208,[.val,.val,.val,.val],[tF,Nf,Q6,kg],λN x kf=>Bg N x.1 x.2.1 x.2.2.1 x.2.2.2.1 (eH .bool .k kf)⟩:=lK Tryz.f208 4 (sC::GS::KF::jh::dn 5 (aN::dn 48 ([]))) (λN n x K=>l6 N x.1 x.2.1 x.2.2.1 x.2.2.2.1 n (K (.x 0) (shape Cb ())) (λz0=>K .r (shape Cc (z0,()))) x.2.2.2.2.1) [(4,2,Cb),(4,1,Cc)] (bE B' (bE GV (bE ky (bE EN dC)))) (dA:=[(7,(OT.seq [0,1,2,3,4,5,6,7,8,9,10,11,12,13,14,15,16,17,18,19,20,21,22,23,24] .done))])
theorem EO:CE.ok ⟨139,[.val],[adk],λN x kf=>pO N x.1 (eH .bool .k kf)⟩:=nb Tryz.f139 (bE gN dC)
def Hg:List Kd:=(dn 115 ([]))
def Hi:List Kd:=(dK::dK::iE::dn 112 ([]))
theorem Cd:CE.ok ⟨138,[.val],[qv],λN x kf=>tQ N x.1 (eH .bool .k kf)⟩:=lK Tryz.f138 7 (dK::xM::dK::.v (.ptr vo) (.o 137 none .k)::aN::dn 110 ([])) (λN n x K=>nU N x.1 x.2.1 n (K (.x 0) (shape Hg ())) (λz0=>K .r (shape Hi (z0,()))) x.2.2.1) [(7,2,Hg),(7,1,Hi)] (bE hY (bE B' (bE zJ (bE gN (bE We (bE aak (bE Wf (bE EO dC)))))))) (dA:=[(1,(OT.seq [0,1,2,3,4,5,6,7,8,9,10,11,12,13,14,15,16,17,18,19,20,21,22,23,24,25,26,27,28,29,30,31,32,33,34,35,36,37,38,39,40,41,42,44,45,43,46,47] .done)),(9,(OT.seq [0,1,2,3,4,5,6,7,8,9,10,11,12,13,14,15,16,17,18,19,20,21,22,23,24,25,26,27,28,29] .done))])
theorem qW:CE.ok ⟨134,[.val,.take,.val,.val,.val],[qv,.v pG zH,afF,db,db],λN x kf=>jt N x.1 x.2.1 x.2.2.1 x.2.2.2.1 x.2.2.2.2.1 (RS pG zH .bool .k kf)⟩:=nb Tryz.f134 (bE Wd (bE Cd (bE jf dC)))
def Dt:List Kd:=(dK::aN::aN::xM::dK::dK::AH::dK::AH::aN::dn 45 ([]))
theorem Yy:CE.ok ⟨72,[.val,.val,.val],[qv,db,db],λN x kf=>E8 N x.1 x.2.1 x.2.2.1 (RS pG zH .bool .k kf)⟩:=lK Tryz.f72 3 (dK::aN::aN::xM::dK::dK::AH::dK::AH::aN::dn 45 ([])) (λN n x K=>ll x.1 x.2.1 x.2.2.1 x.2.2.2.1 x.2.2.2.2.1 n (λz0=>K (.x 0) (shape Dt (x.1,x.2.1,x.2.2.1,x.2.2.2.1,x.2.2.2.2.1,z0,()))) x.2.2.2.2.2.1) [(3,2,Dt)] (bE jf (bE yY (bE vV (bE qW dC)))) (dA:=[(5,(OT.seq [0,1,2,3,5,6,7,10,12] (.any [4,8,9,11,13] (OT.seq [14,15,16,17] .done)))),(6,(OT.seq [0,1,2,5,3,4,6,7,8,9,10] .done))])
def Ce:List Kd:=(dK::aN::aN::xM::dK::dK::AH::dK::AH::aN::dn 42 ([]))
theorem Wg:CE.ok ⟨73,[.val,.val,.val],[qv,db,db],λN x kf=>Bi N x.1 x.2.1 x.2.2.1 (RS pG zH .bool .k kf)⟩:=lK Tryz.f73 3 (dK::aN::aN::xM::dK::dK::AH::dK::AH::aN::dn 42 ([])) (λN n x K=>jQ x.1 x.2.1 x.2.2.1 x.2.2.2.1 x.2.2.2.2.1 n (λz0=>K (.x 0) (shape Ce (x.1,x.2.1,x.2.2.1,x.2.2.2.1,x.2.2.2.2.1,z0,()))) x.2.2.2.2.2.1) [(3,2,Ce)] (bE jf (bE KH (bE qW dC))) (dA:=[(5,(OT.seq [0,1,2,3,5,6,7,10,12] (.any [4,8,9,11,13] (OT.seq [14,15,16,17] .done))))])
theorem KL:CE.ok ⟨147,[.val,.val],[Wa,Wa],λN x kf=>wq N x.1 x.2.1 (eH .bool .k kf)⟩:=nb Tryz.f147 dC
def Du:List Kd:=(sC::dK::dK::afI::aN::aN::dn 62 ([]))
def Dv:List Kd:=(dn 3 (afI::dn 64 ([])))
def Cf:List Kd:=(dn 6 (lz::dn 61 ([])))
theorem Mp:CE.ok ⟨79,[.val],[tF],λN x kf=>va N x.1 (eH (.sl (.int .i64)) wL kf)⟩:=eK3 Tryz.f79 3 (sC::dK::dK::afI::aN::dn 63 ([])) (λN n x K=>nt N x.1 n (λz0=>K (.x 0) (shape Dv (z0,()))) x.2.1 x.2.2.1) 6 (sC::dK::dK::afI::aN::aN::dn 62 ([])) (λN n x K=>ns N x.1 x.2.1 x.2.2.1 n (λz0=>K (.x 2) (shape Du (x.1,x.2.1,x.2.2.1,z0,()))) x.2.2.2.1) 11 (dn 3 (afI::dK::dK::lz::aN::dn 60 ([]))) (λN n x K=>jR x.1 n (λz0=>K (.x 4) (shape Cf (z0,()))) x.2.1 x.2.2.1) [(6,4,Du),(3,2,Dv),(11,6,Cf)] (bE hY (bE KL dC)) (dA:=[(6,(OT.seq [0,1,2,3,4,5,6,7,8,9,10,11,12,13] .done)),(8,(OT.seq [1,2,3,5,6,7,11,12,13] (.par [0,4,8,9] [[37],[44,45],[44,45,46]] (OT.seq [10,14,15] .done))))])
noncomputable def GW:CE:=⟨271,[.val,.val,.val],[tF,db,db],λN x kf=>HU N x.1 x.2.1 x.2.2.1 (eH dt .k kf)⟩
theorem aal:GW.ok:=nb Tryz.f271 (bE nD (bE hY (bE KL dC))) (dA:=[(5,(OT.seq [0,1,2,3,4,5,6,7,8,9,10,11,12,13,14,15,16,17,18,19,20,21,22,23,24,25,26,27,28,29,30,31,32,33,34] .done))])
def Tm:List Kd:=sC::jh::dn 4 (aN::dn 53 ([]))
def Wh:List Kd:=dn 60 ([])
def Wi:List Kd:=dn 4 (aok::iE::dn 54 ([]))
def amS:Hint:={ tab,hn:=[],loops:=[(4,Tm)],outs:=[(4,2,Wh),(4,1,Wi)],dA:=[(6,(OT.seq [0,1,2,3,4,5,6,7,8,9] .done)),(7,(OT.seq [1,2,3,5,6,7,8,0,4,9,10] .done)),(10,(OT.seq [0,1,2,3,4,5,6,7,10,8,9,11,12,13] .done))] }
def Wj:List AK:=[tF,kg]
noncomputable def amT (N:Nat) (x:fK Wj) (kf:jD->aa):aa:=alE N x.1 x.2.1 (λr0 r1=>kf ⟨[⟨(.sl dt),(.o 133 none .k),r0⟩,⟨.bool,.k,r1⟩],[]⟩)
noncomputable def adw (N:Nat):=cX Wj (amT N)
def aho (N:Nat):List Entry:=[⟨270,[.val,.val,.val],(cX GU.l (GU.F N))⟩,⟨271,[.val,.val,.val],(cX GW.l (GW.F N))⟩,⟨202,[.val,.val],(adw N)⟩]
def Yz:Code:=iF Tryz.f202
noncomputable def ahp (N n:Nat) (key:Nat) (S:St) (K:Ks):aa:=bif Nat.beq key 4 then wj Tm S (λx=>MS N (alE N) x.1 x.2.1 n (K (.x 0) (shape Wh ())) (λz0 z1=>K .r (shape Wi (z0,z1,()))) x.2.2.1) else none
theorem awl (N key:Nat) (S:St) (K:Ks):ahp N 0 key S K=none:=(agk (w6 λ_=>rfl) rfl)
def akr:Code:=(cY Yz).getD 0 .skip
theorem awm:cY Yz=[akr]:=by kernel_rfl
theorem apO (N:Nat):RdT amS (aho N) (ahp N) N 4 Tm akr:=λ_ _ _=>by kernel_rfl
theorem awn (N:Nat) (x:fK Wj) (kf:jD->aa):amT (N+1) x kf=rP amS (vi.of (aho N)) (ahp N N) Tryz.f202 (iS Wj x) kf:=by kernel_rfl
theorem aop {Γ:Gl} (zU:sA Γ):∀ N:Nat,Sound Γ Tryz.prog 202 (adw N)
 |0=>wk λal kf=>by unfold adw cX;split<;>rfl
 |N+1=>qz (hh:=amS) mixed vz (es:=aho N) ⟨NO zU N,⟨aal zU N,⟨aop zU N,trivial⟩⟩⟩ (fn:=Tryz.f202) (body:=Yz) (by kernel_rfl) (by kernel_rfl) (by kernel_rfl) (by kernel_rfl) (by kernel_rfl) (Lf:=ahp N) (awl N) awm (rc (apO N) trivial) (N:=N) (by kernel_rfl) (awn N) (.inl (by kernel_rfl))
theorem awo:CE.ok ⟨202,[.val,.val],Wj,amT⟩:=λh N=>aop h N
theorem Wk:CE.ok ⟨136,[.val],[tF],λN x kf=>Bk N x.1 (RS (.sl dt) (.o 133 none .k) .bool .k kf)⟩:=nb Tryz.f136 (bE hY (bE Mp (bE awo dC)))
end Go.Pv.R
