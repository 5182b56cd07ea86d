/- Each function of the program that the law reaches computes its plain function, part 0. -/
import Derived.Test.YtafpcididdbipaaGreatDoorPlRes
import Derived.Test.YtafpcididdbipaaGreatDoorGro
import Derived.Test.YtafpcididdbipaaGreatDoorProg
set_option linter.unusedVariables false
noncomputable section
namespace Go.Pv.R
open List Int IntKind
open Go.Proofs
set_option maxRecDepth 100000
noncomputable abbrev dK:Kd:=.dead
noncomputable abbrev dR (n:Nat):List Kd:=List.replicate n .dead
noncomputable def tab:fA:=[⟨2,(.int .i64),0,[]⟩,⟨3,(.int .i64),0,[]⟩,⟨4,.bool,0,[]⟩,⟨5,(.int .u8),0,[]⟩,⟨9,.str,0,[]⟩,⟨12,(.int .u64),0,[]⟩,⟨21,(.int .i32),0,[]⟩,⟨22,(.sl (.int .u8)),5,[]⟩,⟨24,(.sl gm),60,[]⟩,⟨25,(.sl tI),65,[]⟩,⟨26,(.sl ib),69,[]⟩,⟨27,(.sl (.int .i64)),3,[]⟩,⟨28,(.sl It),72,[]⟩,⟨29,(.sl QS),75,[]⟩,⟨30,fg,0,[24,25,26,27,28,29,3]⟩,⟨31,fg,0,[24,25,26,27,28,29,3]⟩,⟨36,(.sl .str),9,[]⟩,⟨38,(.sl (.sl (.int .i64))),27,[]⟩,⟨39,cy,0,[3,38]⟩,⟨40,cy,0,[3,38]⟩,⟨59,gm,0,[3,3,3,3,3,27]⟩,⟨60,gm,0,[3,3,3,3,3,27]⟩,⟨64,tI,0,[3,3,27]⟩,⟨65,tI,0,[3,3,27]⟩,⟨68,ib,0,[3,3]⟩,⟨69,ib,0,[3,3]⟩,⟨71,It,0,[3,3,3]⟩,⟨72,It,0,[3,3,3]⟩,⟨74,QS,0,[3,3,3,3]⟩,⟨75,QS,0,[3,3,3,3]⟩,⟨81,gn,0,[22,3,3]⟩,⟨82,gn,0,[22,3,3]⟩,⟨130,(.int .u64),0,[]⟩,⟨148,.mp,0,[]⟩,⟨149,(.int .u64),0,[]⟩,⟨166,(.sl (.int .u64)),130,[]⟩,⟨195,(.arr 2 (.int .i64)),3,[]⟩,⟨206,(.int .i64),0,[]⟩,⟨214,(.int .u32),0,[]⟩,⟨235,(.int .u64),0,[]⟩]
theorem mixed:Tryz.prog.follows .mixedOrders=true:=by kernel_rfl
theorem qe:eA Tryz.prog tab=true:=by kernel_rfl
abbrev ot (Γ:Gl):Prop:=acQ Tryz.prog Γ
structure CE where
 f:FuncId
 sg:List Pass
 l:List AK
 F:Nat->cG l->(aa->Option aa)->Option aa
def CE.ok (c:CE):Prop:=∀ {Γ:Gl},ot Γ->∀ N,Sound Γ Tryz.prog c.f (aV c.l (c.F N))
def runs (N:Nat):List CE->List Arg->(aa->Option aa)->Option aa
 |[]=>λ_ _=>none
 |c::r=>adN c.l (c.F N) (runs N r)
def HW (N:Nat):List (List CE)->List Entry
 |[]=>[]
 |[]::r=>HW N r
 |(c::g)::r=>⟨c.f,c.sg,runs N (c::g)⟩::HW N r
def apy (f:FuncId):List CE->Prop
 |[]=>True
 |d::r=>(d.f=f/\d.ok)/\apy f r
def OKs:List (List CE)->Prop
 |[]=>True
 |[]::r=>OKs r
 |[c]::r=>c.ok/\OKs r
 |(c::d::g)::r=>(c.ok/\apy c.f (d::g))/\OKs r
theorem aev {Γ:Gl} (hG:ot Γ) (N:Nat) (f:FuncId):∀ g,apy f g->Sound Γ Tryz.prog f (runs N g)
 |[],_=>Sa
 |d::r,h=>R9 (by rw[←h.1.1];exact h.1.2 hG N) (aev hG N f r h.2)
theorem ac1 {Γ:Gl} (hG:ot Γ) (N:Nat):∀ cs,OKs cs->EOK Γ Tryz.prog (HW N cs)
 |[],_=>trivial
 |[]::r,h=>ac1 hG N r h
 |[c]::r,h=>⟨R9 (h.1 hG N) Sa,ac1 hG N r h.2⟩
 |(c::d::g)::r,h=>⟨R9 (h.1.1 hG N) (aev hG N c.f (d::g) h.1.2),ac1 hG N r h.2⟩
noncomputable def cX (f:Func):Code:=match f.body with |some c=>c |none=>.skip
noncomputable def X6 (f:Func) (i:Nat):Code:=(a8 (cX f)).getD i .skip
noncomputable def LI (hn:Hn) (bw:List (Nat×OT)) (iQ:Option (Nat×Bool)) (zO:List (Nat×List (Nat×Path))) (keep:List Nat) (loops:List (Nat×List Kd)) (outs:List (Nat×Nat×List Kd)):Hint:={ tab,hn,loops,outs,bw,iQ,zO,keep }
noncomputable def dn:Nat->List Kd->List Kd
 |0,l=>l
 |n+1,l=>dK::dn n l
noncomputable def nL:Nat->Nat->St->Ks->Option aa:=λ_ _ _ _=>none
noncomputable def Lc (k:Nat) (q:List Kd) (r:Nat->xY q->Ks->Option aa) (t:Nat->Nat->St->Ks->Option aa):Nat->Nat->St->Ks->Option aa:=λn j S K=>bif Nat.beq j k then mJ q S (λx=>r n x K) else t n j S K
theorem nL0:∀ k S K,nL 0 k S K=none:=λ_ _ _=>rfl
theorem Lc0 {k:Nat} {q:List Kd} {r:Nat->xY q->Ks->Option aa} {t:Nat->Nat->St->Ks->Option aa} (h:∀ x K,r 0 x K=none) (h2:∀ k S K,t 0 k S K=none):∀ j S K,Lc k q r t 0 j S K=none:=λj S K=>WI (qw λx=>h x K) (h2 j S K)
noncomputable def ek (t1:Ty) (m1:Md) (kf:aa->Option aa) (r1:t1.I):Option aa:=kf ⟨[⟨t1,m1,r1⟩],[]⟩
noncomputable def Pd (t1:Ty) (m1:Md) (t2:Ty) (m2:Md) (kf:aa->Option aa) (r1:t1.I) (r2:t2.I):Option aa:=kf ⟨[⟨t1,m1,r1⟩,⟨t2,m2,r2⟩],[]⟩
noncomputable def rk3 (t1:Ty) (m1:Md) (t2:Ty) (m2:Md) (t3:Ty) (m3:Md) (kf:aa->Option aa) (r1:t1.I) (r2:t2.I) (r3:t3.I):Option aa:=kf ⟨[⟨t1,m1,r1⟩,⟨t2,m2,r2⟩,⟨t3,m3,r3⟩],[]⟩
noncomputable def rk4 (t1:Ty) (m1:Md) (t2:Ty) (m2:Md) (t3:Ty) (m3:Md) (t4:Ty) (m4:Md) (kf:aa->Option aa) (r1:t1.I) (r2:t2.I) (r3:t3.I) (r4:t4.I):Option aa:=kf ⟨[⟨t1,m1,r1⟩,⟨t2,m2,r2⟩,⟨t3,m3,r3⟩,⟨t4,m4,r4⟩],[]⟩
theorem lK {f:FuncId} {sg:List Pass} {l:List AK} {F:Nat->cG l->(aa->Option aa)->Option aa} (fn:Func) (cs:List (List CE)) (oks:OKs cs) (hn:Hn:=[]) (bw:List (Nat×OT):=[]) (iQ:Option (Nat×Bool):=none) (zO:List (Nat×List (Nat×Path)):=[]) (keep:List Nat:=[])
 (hF:∀ N x kf,F N x kf=ny (LI hn bw iQ zO keep [] []) (n9.of (HW N cs)) (nL N) fn (dF l x) kf:=by intros;kernel_rfl)
 (Us : a8 (cX fn) = [] := by kernel_rfl) (hf : Tryz.prog.funcs[f]? = some fn := by kernel_rfl) (hb : fn.body = some (cX fn) := by kernel_rfl) (Ud : (fn.name == "runtime.NumGoroutine") = false := by kernel_rfl) (Ey : ∀ N, ju (LI hn bw iQ zO keep [] []) (n9.of (HW N cs)) (cX fn) = true := by intros; kernel_rfl) (hky : ub (cX fn) = true := by kernel_rfl) (hlen : Nat.ble l.length fn.ntmps = true := by kernel_rfl) (KJ : kV (cX fn) = true := by kernel_rfl) : CE.ok ⟨f, sg, l, F⟩ :=
 λhG N=>lz (hh:=(LI hn bw iQ zO keep [] [])) mixed qe (ac1 hG N cs oks) hf hb Ud (Ey N) hky (Lf:=nL) nL0 Us trivial (N:=N) hlen (hF N) (.inl KJ)
theorem oX {f:FuncId} {sg:List Pass} {l:List AK} {F:Nat->cG l->(aa->Option aa)->Option aa} (fn:Func) (cs:List (List CE)) (k1:Nat) (q1:List Kd) (r1:Nat->Nat->xY q1->Ks->Option aa) (outs:List (Nat×Nat×List Kd)) (oks:OKs cs) (hn:Hn:=[]) (bw:List (Nat×OT):=[]) (iQ:Option (Nat×Bool):=none) (zO:List (Nat×List (Nat×Path)):=[]) (keep:List Nat:=[])
 (hF:∀ N x kf,F N x kf=ny (LI hn bw iQ zO keep [(k1,q1)] outs) (n9.of (HW N cs)) ((Lc k1 q1 (r1 N) nL) N) fn (dF l x) kf:=by intros;kernel_rfl)
 (z1:∀ N x K,r1 N 0 x K=none:=by intros;kernel_rfl) (y1:keyOf (X6 fn 0)=k1:=by kernel_rfl) (w1:tR [(k1,q1)] k1=some q1:=by kernel_rfl)
 (h1:∀ N n x K,(Lc k1 q1 (r1 N) nL) (n+1) k1 (shape q1 x) (Hint.iu (LI hn bw iQ zO keep [(k1,q1)] outs) k1 K)=mu (LI hn bw iQ zO keep [(k1,q1)] outs) (n9.of (HW N cs)) (By (Lc k1 q1 (r1 N) nL) N n k1) (X6 fn 0) (shape q1 x) (Hint.iu (LI hn bw iQ zO keep [(k1,q1)] outs) k1 K):=by intros;kernel_rfl)
 (Us : a8 (cX fn) = [(X6 fn 0)] := by kernel_rfl) (hf : Tryz.prog.funcs[f]? = some fn := by kernel_rfl) (hb : fn.body = some (cX fn) := by kernel_rfl) (Ud : (fn.name == "runtime.NumGoroutine") = false := by kernel_rfl) (Ey : ∀ N, ju (LI hn bw iQ zO keep [(k1, q1)] outs) (n9.of (HW N cs)) (cX fn) = true := by intros; kernel_rfl) (hky : ub (cX fn) = true := by kernel_rfl) (hlen : Nat.ble l.length fn.ntmps = true := by kernel_rfl) (KJ : kV (cX fn) = true := by kernel_rfl) : CE.ok ⟨f, sg, l, F⟩ :=
 λhG N=>lz (hh:=(LI hn bw iQ zO keep [(k1,q1)] outs)) mixed qe (ac1 hG N cs oks) hf hb Ud (Ey N) hky (Lf:=(Lc k1 q1 (r1 N) nL)) (Lc0 (z1 N) nL0) Us (sB y1 w1 (h1 N) trivial) (N:=N) hlen (hF N) (.inl KJ)
theorem eK2 {f:FuncId} {sg:List Pass} {l:List AK} {F:Nat->cG l->(aa->Option aa)->Option aa} (fn:Func) (cs:List (List CE)) (k1:Nat) (q1:List Kd) (r1:Nat->Nat->xY q1->Ks->Option aa) (k2:Nat) (q2:List Kd) (r2:Nat->Nat->xY q2->Ks->Option aa) (outs:List (Nat×Nat×List Kd)) (oks:OKs cs) (hn:Hn:=[]) (bw:List (Nat×OT):=[]) (iQ:Option (Nat×Bool):=none) (zO:List (Nat×List (Nat×Path)):=[]) (keep:List Nat:=[])
 (hF:∀ N x kf,F N x kf=ny (LI hn bw iQ zO keep [(k1,q1),(k2,q2)] outs) (n9.of (HW N cs)) ((Lc k1 q1 (r1 N) (Lc k2 q2 (r2 N) nL)) N) fn (dF l x) kf:=by intros;kernel_rfl)
 (z1:∀ N x K,r1 N 0 x K=none:=by intros;kernel_rfl) (y1:keyOf (X6 fn 0)=k1:=by kernel_rfl) (w1:tR [(k1,q1),(k2,q2)] k1=some q1:=by kernel_rfl)
 (h1:∀ N n x K,(Lc k1 q1 (r1 N) (Lc k2 q2 (r2 N) nL)) (n+1) k1 (shape q1 x) (Hint.iu (LI hn bw iQ zO keep [(k1,q1),(k2,q2)] outs) k1 K)=mu (LI hn bw iQ zO keep [(k1,q1),(k2,q2)] outs) (n9.of (HW N cs)) (By (Lc k1 q1 (r1 N) (Lc k2 q2 (r2 N) nL)) N n k1) (X6 fn 0) (shape q1 x) (Hint.iu (LI hn bw iQ zO keep [(k1,q1),(k2,q2)] outs) k1 K):=by intros;kernel_rfl)
 (z2:∀ N x K,r2 N 0 x K=none:=by intros;kernel_rfl) (y2:keyOf (X6 fn 1)=k2:=by kernel_rfl) (w2:tR [(k1,q1),(k2,q2)] k2=some q2:=by kernel_rfl)
 (h2:∀ N n x K,(Lc k1 q1 (r1 N) (Lc k2 q2 (r2 N) nL)) (n+1) k2 (shape q2 x) (Hint.iu (LI hn bw iQ zO keep [(k1,q1),(k2,q2)] outs) k2 K)=mu (LI hn bw iQ zO keep [(k1,q1),(k2,q2)] outs) (n9.of (HW N cs)) (By (Lc k1 q1 (r1 N) (Lc k2 q2 (r2 N) nL)) N n k2) (X6 fn 1) (shape q2 x) (Hint.iu (LI hn bw iQ zO keep [(k1,q1),(k2,q2)] outs) k2 K):=by intros;kernel_rfl)
 (Us : a8 (cX fn) = [(X6 fn 0), (X6 fn 1)] := by kernel_rfl) (hf : Tryz.prog.funcs[f]? = some fn := by kernel_rfl) (hb : fn.body = some (cX fn) := by kernel_rfl) (Ud : (fn.name == "runtime.NumGoroutine") = false := by kernel_rfl) (Ey : ∀ N, ju (LI hn bw iQ zO keep [(k1, q1), (k2, q2)] outs) (n9.of (HW N cs)) (cX fn) = true := by intros; kernel_rfl) (hky : ub (cX fn) = true := by kernel_rfl) (hlen : Nat.ble l.length fn.ntmps = true := by kernel_rfl) (KJ : kV (cX fn) = true := by kernel_rfl) : CE.ok ⟨f, sg, l, F⟩ :=
 λhG N=>lz (hh:=(LI hn bw iQ zO keep [(k1,q1),(k2,q2)] outs)) mixed qe (ac1 hG N cs oks) hf hb Ud (Ey N) hky (Lf:=(Lc k1 q1 (r1 N) (Lc k2 q2 (r2 N) nL))) (Lc0 (z1 N) (Lc0 (z2 N) nL0)) Us (sB y1 w1 (h1 N) (sB y2 w2 (h2 N) trivial)) (N:=N) hlen (hF N) (.inl KJ)
theorem eK3 {f:FuncId} {sg:List Pass} {l:List AK} {F:Nat->cG l->(aa->Option aa)->Option aa} (fn:Func) (cs:List (List CE)) (k1:Nat) (q1:List Kd) (r1:Nat->Nat->xY q1->Ks->Option aa) (k2:Nat) (q2:List Kd) (r2:Nat->Nat->xY q2->Ks->Option aa) (k3:Nat) (q3:List Kd) (r3:Nat->Nat->xY q3->Ks->Option aa) (outs:List (Nat×Nat×List Kd)) (oks:OKs cs) (hn:Hn:=[]) (bw:List (Nat×OT):=[]) (iQ:Option (Nat×Bool):=none) (zO:List (Nat×List (Nat×Path)):=[]) (keep:List Nat:=[])
 (hF:∀ N x kf,F N x kf=ny (LI hn bw iQ zO keep [(k1,q1),(k2,q2),(k3,q3)] outs) (n9.of (HW N cs)) ((Lc k1 q1 (r1 N) (Lc k2 q2 (r2 N) (Lc k3 q3 (r3 N) nL))) N) fn (dF l x) kf:=by intros;kernel_rfl)
 (z1:∀ N x K,r1 N 0 x K=none:=by intros;kernel_rfl) (y1:keyOf (X6 fn 0)=k1:=by kernel_rfl) (w1:tR [(k1,q1),(k2,q2),(k3,q3)] k1=some q1:=by kernel_rfl)
 (h1:∀ N n x K,(Lc k1 q1 (r1 N) (Lc k2 q2 (r2 N) (Lc k3 q3 (r3 N) nL))) (n+1) k1 (shape q1 x) (Hint.iu (LI hn bw iQ zO keep [(k1,q1),(k2,q2),(k3,q3)] outs) k1 K)=mu (LI hn bw iQ zO keep [(k1,q1),(k2,q2),(k3,q3)] outs) (n9.of (HW N cs)) (By (Lc k1 q1 (r1 N) (Lc k2 q2 (r2 N) (Lc k3 q3 (r3 N) nL))) N n k1) (X6 fn 0) (shape q1 x) (Hint.iu (LI hn bw iQ zO keep [(k1,q1),(k2,q2),(k3,q3)] outs) k1 K):=by intros;kernel_rfl)
 (z2:∀ N x K,r2 N 0 x K=none:=by intros;kernel_rfl) (y2:keyOf (X6 fn 1)=k2:=by kernel_rfl) (w2:tR [(k1,q1),(k2,q2),(k3,q3)] k2=some q2:=by kernel_rfl)
 (h2:∀ N n x K,(Lc k1 q1 (r1 N) (Lc k2 q2 (r2 N) (Lc k3 q3 (r3 N) nL))) (n+1) k2 (shape q2 x) (Hint.iu (LI hn bw iQ zO keep [(k1,q1),(k2,q2),(k3,q3)] outs) k2 K)=mu (LI hn bw iQ zO keep [(k1,q1),(k2,q2),(k3,q3)] outs) (n9.of (HW N cs)) (By (Lc k1 q1 (r1 N) (Lc k2 q2 (r2 N) (Lc k3 q3 (r3 N) nL))) N n k2) (X6 fn 1) (shape q2 x) (Hint.iu (LI hn bw iQ zO keep [(k1,q1),(k2,q2),(k3,q3)] outs) k2 K):=by intros;kernel_rfl)
 (z3:∀ N x K,r3 N 0 x K=none:=by intros;kernel_rfl) (y3:keyOf (X6 fn 2)=k3:=by kernel_rfl) (w3:tR [(k1,q1),(k2,q2),(k3,q3)] k3=some q3:=by kernel_rfl)
 (h3:∀ N n x K,(Lc k1 q1 (r1 N) (Lc k2 q2 (r2 N) (Lc k3 q3 (r3 N) nL))) (n+1) k3 (shape q3 x) (Hint.iu (LI hn bw iQ zO keep [(k1,q1),(k2,q2),(k3,q3)] outs) k3 K)=mu (LI hn bw iQ zO keep [(k1,q1),(k2,q2),(k3,q3)] outs) (n9.of (HW N cs)) (By (Lc k1 q1 (r1 N) (Lc k2 q2 (r2 N) (Lc k3 q3 (r3 N) nL))) N n k3) (X6 fn 2) (shape q3 x) (Hint.iu (LI hn bw iQ zO keep [(k1,q1),(k2,q2),(k3,q3)] outs) k3 K):=by intros;kernel_rfl)
 (Us : a8 (cX fn) = [(X6 fn 0), (X6 fn 1), (X6 fn 2)] := by kernel_rfl) (hf : Tryz.prog.funcs[f]? = some fn := by kernel_rfl) (hb : fn.body = some (cX fn) := by kernel_rfl) (Ud : (fn.name == "runtime.NumGoroutine") = false := by kernel_rfl) (Ey : ∀ N, ju (LI hn bw iQ zO keep [(k1, q1), (k2, q2), (k3, q3)] outs) (n9.of (HW N cs)) (cX fn) = true := by intros; kernel_rfl) (hky : ub (cX fn) = true := by kernel_rfl) (hlen : Nat.ble l.length fn.ntmps = true := by kernel_rfl) (KJ : kV (cX fn) = true := by kernel_rfl) : CE.ok ⟨f, sg, l, F⟩ :=
 λhG N=>lz (hh:=(LI hn bw iQ zO keep [(k1,q1),(k2,q2),(k3,q3)] outs)) mixed qe (ac1 hG N cs oks) hf hb Ud (Ey N) hky (Lf:=(Lc k1 q1 (r1 N) (Lc k2 q2 (r2 N) (Lc k3 q3 (r3 N) nL)))) (Lc0 (z1 N) (Lc0 (z2 N) (Lc0 (z3 N) nL0))) Us (sB y1 w1 (h1 N) (sB y2 w2 (h2 N) (sB y3 w3 (h3 N) trivial))) (N:=N) hlen (hF N) (.inl KJ)
noncomputable def noL (N n:Nat) (key:Nat) (S:St) (K:Ks):Option aa:=none
theorem ac2 (N key:Nat) (S:St) (K:Ks):noL N 0 key S K=none:=rfl
def FnT (sg:List AK) (F:cG sg->(aa->Option aa)->Option aa) (h:Hint) (es:List Entry) (L:Nat->St->Ks->Option aa) (f:Func):Prop:=∀ (x:cG sg) (kf:aa->Option aa),F x kf=ny h (n9.of es) L f (dF sg x) kf
def RdT (h:Hint) (es:List Entry) (L:Nat->Nat->St->Ks->Option aa) (N key:Nat) (ks:List Kd) (c:Code):Prop:=∀ (n:Nat) (x:xY ks) (K:Ks),L (n+1) key (shape ks x) (h.iu key K)=mu h (n9.of es) (By L N n key) c (shape ks x) (h.iu key K)
theorem rc {hh:Hint} {es:List Entry} {Lf:Nat->Nat->St->Ks->Option aa} {N key:Nat} {ks:List Kd} {c:Code} {l:List Code} (h:RdT hh es Lf N key ks c) (hr:Hf hh (n9.of es) Lf N l) (hk:keyOf c=key:=by kernel_rfl) (hh1:tR hh.loops key=some ks:=by kernel_rfl):Hf hh (n9.of es) Lf N (c::l):=sB hk hh1 h hr
theorem sdk {Γ:Gl} (hh:Hint) {es:List Entry} {f:FuncId} (fn:Func) (body:Code) {N:Nat} {Lf:Nat->Nat->St->Ks->Option aa} (h0:∀ k S K,Lf 0 k S K=none) {ls:List Code} (Us:a8 body=ls) {l:List AK} {F:cG l->(aa->Option aa)->Option aa} (hF:FnT l F hh es (Lf N) fn) (dE:Hf hh (n9.of es) Lf N ls) (hO:EOK Γ Tryz.prog es)
  (hT : eA Tryz.prog hh.tab = true := by exact qe) (hf : Tryz.prog.funcs[f]? = some fn := by kernel_rfl) (hb : fn.body = some body := by kernel_rfl) (Ud : (fn.name == "runtime.NumGoroutine") = false := by kernel_rfl) (Ey : ju hh (n9.of es) body = true := by kernel_rfl) (hky : ub body = true := by kernel_rfl) (hlen : Nat.ble l.length fn.ntmps = true := by kernel_rfl) (KJ : kV body = true := by kernel_rfl) : Sound Γ Tryz.prog f (aV l F) :=
 lz mixed hT hO hf hb Ud Ey hky h0 Us dE hlen hF (.inl KJ)
theorem sd0 {Γ:Gl} (hh:Hint) {es:List Entry} {f:FuncId} (fn:Func) {N:Nat} {l:List AK} {F:cG l->(aa->Option aa)->Option aa} (hF:FnT l F hh es (noL N N) fn) (hO:EOK Γ Tryz.prog es)
  (Us : a8 (cX fn) = [] := by kernel_rfl) (hT : eA Tryz.prog hh.tab = true := by exact qe) (hf : Tryz.prog.funcs[f]? = some fn := by kernel_rfl) (hb : fn.body = some (cX fn) := by kernel_rfl) (Ud : (fn.name == "runtime.NumGoroutine") = false := by kernel_rfl) (Ey : ju hh (n9.of es) (cX fn) = true := by kernel_rfl) (hky : ub (cX fn) = true := by kernel_rfl) (hlen : Nat.ble l.length fn.ntmps = true := by kernel_rfl) (KJ : kV (cX fn) = true := by kernel_rfl) : Sound Γ Tryz.prog f (aV l F) :=
 lz mixed hT hO hf hb Ud Ey hky (ac2 N) Us trivial hlen hF (.inl KJ)
def hq:Hint:={ tab,hn:=[],loops:=[],outs:=[],bw:=[] }
noncomputable def HX:CE:=⟨4,[.val],[.v (.sl (.int .u8)) .k],λN x kf=>Dn N x.1 (ek .bool .k kf)⟩
theorem aaC:HX.ok:=lK Tryz.f4 [] trivial
noncomputable def CV:CE:=⟨12,[.val],[.v (.sl (.int .u8)) .k],λN x kf=>EZ N x.1 (ek (.ptr gn) (.o 82 none .k) kf)⟩
def A7:List Kd:=(.v (.sl (.int .u8)) .k::dK::dK::.v (.int .i64) .k::dn 28 ([]))
theorem J9:CV.ok:=oX Tryz.f12 [] 3 (.v (.sl (.int .u8)) .k::dK::dK::.v (.int .i64) .k::.v (.int .i64) .k::dn 27 ([])) (λN n x K=>oQ x.1 n (λz0=>K (.x 0) (shape A7 (x.1,z0,()))) x.2.1 x.2.2.1) [(3,2,A7)] trivial
noncomputable def Gf:CE:=⟨35,[],[],λN x kf=>E0 N (ek fg (.p (.o 60 none (.p .k (.p .k (.p .k (.p .k (.p .k (.o 3 none .k))))))) (.p (.o 65 none (.p .k (.p .k (.o 3 none .k)))) (.p (.o 69 none .k) (.p (.o 3 none .k) (.p (.o 72 none .k) (.p (.o 75 none .k) .k)))))) kf)⟩
theorem Qy:Gf.ok:=lK Tryz.f35 [] trivial
noncomputable def HY:CE:=⟨76,[.Al],[.v (.ptr gn) (.o 82 (some 0) .k)],λN x kf=>pX N x.1 (λr0 z=>kf ⟨[⟨(.int .i64),.k,r0⟩],[⟨(.ptr gn),(.o 82 (some 0) .k),z⟩]⟩)⟩
theorem TL:HY.ok:=lK Tryz.f76 [] trivial (bw:=[(2,(OT.seq [0,1,2,3,4,5,6,7,8,9,10,11,12] .done)),(3,(OT.seq [0,1,2,3,4,5,6,7,8,9] .done)),(4,(OT.seq [0,1,2,3,4,5,6,7,8,9,10,11,12,13,14] .done))]) (iQ:=some (0,false))
noncomputable def ll:CE:=⟨33,[.Al,.val],[.v (.ptr gn) (.o 82 (some 0) .k),.v (.int .i64) .k],λN x kf=>b7 N x.1 x.2.1 (λr0 z=>kf ⟨[⟨(.int .i64),.k,r0⟩],[⟨(.ptr gn),(.o 82 (some 0) .k),z⟩]⟩)⟩
theorem ou:ll.ok:=lK Tryz.f33 [[HY]] ⟨TL,trivial⟩ (iQ:=some (0,false))
noncomputable def sn:CE:=⟨78,[.val],[.v (.sl gm) .k],λN x kf=>jY N x.1 (ek (.sl gm) (.o 60 none (.p .k (.p .k (.p .k (.p .k (.p .k (.o 3 none .k))))))) kf)⟩
def ye:List Kd:=(dn 3 (.v (.sl gm) (.o 60 none (.p .k (.p .k (.p .k (.p .k (.p .k (.o 3 none .k)))))))::dn 23 ([])))
theorem yT:sn.ok:=oX Tryz.f78 [] 3 (.v (.sl gm) .k::dK::dK::.v (.sl gm) (.o 60 none (.p .k (.p .k (.p .k (.p .k (.p .k (.o 3 none .k)))))))::.v (.int .i64) .k::dn 22 ([])) (λN n x K=>jx x.1 n (λz0=>K (.x 0) (shape ye (z0,()))) x.2.1 x.2.2.1) [(3,2,ye)] trivial (hn:=[(6,(.p .k (.p .k (.p .k (.p .k (.p .k (.o 3 none .k)))))))])
noncomputable def va:CE:=⟨81,[.val],[.v (.sl tI) .k],λN x kf=>kH N x.1 (ek (.sl tI) (.o 65 none (.p .k (.p .k (.o 3 none .k)))) kf)⟩
def vd:List Kd:=(dn 3 (.v (.sl tI) (.o 65 none (.p .k (.p .k (.o 3 none .k))))::dn 23 ([])))
theorem Ce:va.ok:=oX Tryz.f81 [] 3 (.v (.sl tI) .k::dK::dK::.v (.sl tI) (.o 65 none (.p .k (.p .k (.o 3 none .k))))::.v (.int .i64) .k::dn 22 ([])) (λN n x K=>gA x.1 n (λz0=>K (.x 0) (shape vd (z0,()))) x.2.1 x.2.2.1) [(3,2,vd)] trivial (hn:=[(6,(.p .k (.p .k (.o 3 none .k))))])
noncomputable def jH:CE:=⟨77,[.val],[.v fg .k],λN x kf=>fq N x.1 (ek fg (.p (.o 60 none (.p .k (.p .k (.p .k (.p .k (.p .k (.o 3 none .k))))))) (.p (.o 65 none (.p .k (.p .k (.o 3 none .k)))) (.p (.o 69 none .k) (.p (.o 3 none .k) (.p (.o 72 none .k) (.p (.o 75 none .k) .k)))))) kf)⟩
theorem ln:jH.ok:=lK Tryz.f77 [[sn],[va]] ⟨yT,Ce,trivial⟩ (bw:=[(1,(OT.seq [0,1,3,4,7,8,11,15,19,22] (.any [2,5,6,9,10,12,13,14,16,17,18,20,21,23] (OT.seq [24,25] .done))))])
noncomputable def pF:CE:=⟨80,[.val],[.v fg .k],λN x kf=>kI N x.1 (ek .bool .k kf)⟩
theorem ve:pF.ok:=lK Tryz.f80 [] trivial
noncomputable def D3:CE:=⟨192,[.val],[.v (.sl QS) .k],λN x kf=>CO N x.1 (ek (.int .i64) .k kf)⟩
theorem Pe:D3.ok:=lK Tryz.f192 [] trivial
noncomputable def kg:CE:=⟨89,[.val,.val,.val],[.v (.int .i64) .k,.v (.int .i64) .k,.v (.int .i64) .k],λN x kf=>bn N x.1 x.2.1 x.2.2.1 (ek .bool .k kf)⟩
theorem lL:kg.ok:=lK Tryz.f89 [] trivial
noncomputable def Qe:CE:=⟨273,[.val,.val],[.v (.int .i64) .k,.v (.int .i64) .k],λN x kf=>Hi N x.1 x.2.1 (ek (.int .i64) .k kf)⟩
theorem aaD:Qe.ok:=lK Tryz.f273 [[kg]] ⟨lL,trivial⟩
noncomputable def Ns:CE:=⟨242,[.val],[.v (.sl (.int .i64)) .k],λN x kf=>Iv N x.1 (ek (.int .i64) .k kf)⟩
def Cf:List Kd:=(dn 3 (.v (.int .i64) .k::dn 18 ([])))
theorem XA:Ns.ok:=oX Tryz.f242 [[Qe]] 3 (.v (.sl (.int .i64)) .k::dK::dK::.v (.int .i64) .k::.v (.int .i64) .k::dn 17 ([])) (λN n x K=>nD N x.1 n (λz0=>K (.x 0) (shape Cf (z0,()))) x.2.1 x.2.2.1) [(3,2,Cf)] ⟨aaD,trivial⟩
noncomputable def yU:CE:=⟨191,[.val,.val],[.v (.int .i64) .k,.v QS .k],λN x kf=>nE N x.1 x.2.1 (ek (.int .i64) .k kf)⟩
theorem Gg:yU.ok:=lK Tryz.f191 [[Ns]] ⟨XA,trivial⟩
noncomputable def sR:CE:=⟨138,[.val],[.v (.sl QS) .k],λN x kf=>od N x.1 (ek .bool .k kf)⟩
def tp:List Kd:=(.v (.sl QS) .k::dn 49 ([]))
def tq:List Kd:=(dK::dK::.v .bool .k::dn 47 ([]))
theorem A8:sR.ok:=oX Tryz.f138 [[yU],[kg]] 3 (.v (.sl QS) .k::dK::dK::.v (.int .i64) .k::.v (.int .i64) .k::dn 45 ([])) (λN n x K=>fL N x.1 n (K (.x 0) (shape tp (x.1,()))) (λz0=>K .r (shape tq (z0,()))) x.2.1 x.2.2.1) [(3,2,tp),(3,1,tq)] ⟨Gg,lL,trivial⟩
noncomputable def Cg:CE:=⟨132,[.val,.val,.val],[.v (.sl QS) .k,.v (.int .i64) .k,.v (.int .i64) .k],λN x kf=>ug N x.1 x.2.1 x.2.2.1 (Pd (.sl QS) (.o 75 none .k) .bool .k kf)⟩
theorem Nt:Cg.ok:=lK Tryz.f132 [[D3],[yU],[sR]] ⟨Pe,Gg,A8,trivial⟩ (bw:=[(2,(OT.seq [0,2,1,3,4,5] .done)),(3,(OT.seq [1] (.any [0,2,3,4] (OT.seq [5,6] .done))))])
noncomputable def iN:CE:=⟨142,[.val,.val],[.v (.sl gm) .k,.v (.int .i64) .k],λN x kf=>cH N x.1 x.2.1 (ek (.int .i64) .k kf)⟩
def wi:List Kd:=(dn 20 ([]))
def wj:List Kd:=(dn 4 (.v (.int .i64) .k::dn 15 ([])))
theorem ky:iN.ok:=oX Tryz.f142 [] 2 (.v (.sl gm) .k::.v (.int .i64) .k::dn 3 (.v (.int .i64) .k::dn 14 ([]))) (λN n x K=>iC x.1 x.2.1 n (K (.x 0) (shape wi ())) (λz0=>K .r (shape wj (z0,()))) x.2.2.1) [(2,2,wi),(2,1,wj)] trivial
noncomputable def D4:CE:=⟨193,[.val,.val],[.v (.sl (.int .i64)) .k,.v (.int .i64) .k],λN x kf=>lY N x.1 x.2.1 (ek (.int .i64) .k kf)⟩
def wk:List Kd:=(dn 5 (.v (.int .i64) .k::dn 16 ([])))
theorem Pf:D4.ok:=oX Tryz.f193 [] 3 (.v (.sl (.int .i64)) .k::.v (.int .i64) .k::dn 3 (.v (.int .i64) .k::.v (.int .i64) .k::dn 15 ([]))) (λN n x K=>fT x.1 x.2.1 n (λz0=>K (.x 0) (shape wk (z0,()))) x.2.2.1 x.2.2.2.1) [(3,2,wk)] trivial
noncomputable def c9:CE:=⟨133,[.val],[.v (.sl gm) .k],λN x kf=>bW N x.1 (ek .bool .k kf)⟩
def wm:List Kd:=(.v (.sl gm) .k::dK::dK::.v (.int .i64) .k::dn 111 ([]))
def wo:List Kd:=(dK::dK::.v .bool .k::dn 112 ([]))
def wq:List Kd:=(.v (.sl gm) .k::dn 114 ([]))
def wu:List Kd:=(dK::dK::.v .bool .k::dn 112 ([]))
theorem eo:c9.ok:=eK2 Tryz.f133 [[kg],[iN],[D4]] 2 (.v (.sl gm) .k::dK::dK::.v (.int .i64) .k::dn 111 ([])) (λN n x K=>fU N x.1 n (K (.x 0) (shape wq (x.1,()))) (λz0=>K .r (shape wu (z0,()))) x.2.1) 8 (.v (.sl gm) .k::dK::dK::.v (.int .i64) .k::.v (.ptr gm) (.o 60 none .k)::.v (.int .i64) .k::dn 109 ([])) (λN n x K=>cC N x.1 x.2.1 x.2.2.1 n (K (.x 2) (shape wm (x.1,x.2.1,()))) (λz0=>K .r (shape wo (z0,()))) x.2.2.2.1) [(8,4,wm),(8,1,wo),(2,2,wq),(2,1,wu)] ⟨lL,ky,Pf,trivial⟩ (bw:=[(5,(OT.seq [0,1,2,3,4,5,6,7,8,9,10,11,12,13,14,15,16,17,18,19,20,21,22,23,24,25,26,27,28,29,30,31,32,33,34,35,36,37,38,39,40,41,42,43,44,45,46,47,48,49,50,51,52,53,54] .done)),(11,(OT.seq [0,1,2,3,4,5,6,7,8,9,10,11,12,13,14,16,17,18,19,20,21,22,15,23,24,25] .done))])
noncomputable def pG:CE:=⟨136,[.val],[.v (.sl tI) .k],λN x kf=>mM N x.1 (ek .bool .k kf)⟩
def vf:List Kd:=(.v (.sl tI) .k::dK::dK::.v (.int .i64) .k::dn 88 ([]))
def vg:List Kd:=(dK::dK::.v .bool .k::dn 89 ([]))
def vh:List Kd:=(.v (.sl tI) .k::dn 91 ([]))
def vi:List Kd:=(dK::dK::.v .bool .k::dn 89 ([]))
theorem vj:pG.ok:=eK2 Tryz.f136 [[kg]] 2 (.v (.sl tI) .k::dK::dK::.v (.int .i64) .k::dn 88 ([])) (λN n x K=>eP N x.1 n (K (.x 0) (shape vh (x.1,()))) (λz0=>K .r (shape vi (z0,()))) x.2.1) 7 (.v (.sl tI) .k::dK::dK::.v (.int .i64) .k::.v (.int .i64) .k::dn 87 ([])) (λN n x K=>bP N x.1 x.2.1 n (K (.x 2) (shape vf (x.1,x.2.1,()))) (λz0=>K .r (shape vg (z0,()))) x.2.2.1) [(7,4,vf),(7,1,vg),(2,2,vh),(2,1,vi)] ⟨lL,trivial⟩ (bw:=[(4,(OT.seq [0,1,2,3,4,5,6,7,8,9,10,11,12,13,14,15,16,17,18,19,20,21,22,23,24,25,26,27,28,29,30,31,32,33] .done)),(9,(OT.seq [0,1,2,3,4,5,6,7,8,9,10,11,12,13,14,15,16,17,18,19,20,21,22,23,24,25,26,27,28,29,30,31,32,33] .done))])
noncomputable def Ch:CE:=⟨139,[.val],[.v (.sl gm) .k],λN x kf=>ui N x.1 (ek (.int .i64) .k kf)⟩
def vk:List Kd:=(dn 3 (.v (.int .i64) .k::dn 19 ([])))
theorem Nu:Ch.ok:=oX Tryz.f139 [[c9]] 3 (.v (.sl gm) .k::dK::dK::.v (.int .i64) .k::.v (.int .i64) .k::dn 18 ([])) (λN n x K=>gC N x.1 n (λz0=>K (.x 0) (shape vk (z0,()))) x.2.1 x.2.2.1) [(3,2,vk)] ⟨eo,trivial⟩
noncomputable def l8:CE:=⟨197,[.val,.val],[.v (.sl (.int .i64)) .k,.v (.int .i64) .k],λN x kf=>fM N x.1 x.2.1 (ek .bool .k kf)⟩
def A9:List Kd:=(dn 18 ([]))
def Ba:List Kd:=(dn 4 (.v .bool .k::dn 13 ([])))
theorem rG:l8.ok:=oX Tryz.f197 [] 2 (.v (.sl (.int .i64)) .k::.v (.int .i64) .k::dn 3 (.v (.int .i64) .k::dn 12 ([]))) (λN n x K=>lZ x.1 x.2.1 n (K (.x 0) (shape A9 ())) (λz0=>K .r (shape Ba (z0,()))) x.2.2.1) [(2,2,A9),(2,1,Ba)] trivial
noncomputable def Gh:CE:=⟨243,[.val,.val,.val],[.v (.sl gm) .k,.v (.int .i64) .k,.v (.int .i64) .k],λN x kf=>zS N x.1 x.2.1 x.2.2.1 (ek .bool .k kf)⟩
theorem Qz:Gh.ok:=lK Tryz.f243 [[iN],[l8]] ⟨ky,rG,trivial⟩
noncomputable def so:CE:=⟨194,[.val,.val,.val],[.v (.sl gm) .k,.v (.int .i64) .k,.v (.int .i64) .k],λN x kf=>nH N x.1 x.2.1 x.2.2.1 (ek .bool .k kf)⟩
theorem Gi:so.ok:=lK Tryz.f194 [[iN],[c9],[Gh]] ⟨ky,eo,Qz,trivial⟩ (bw:=[(3,(OT.seq [0,1,2,3,4,5,6,7,8,9,10,11,12,13,14,15,16,17,18,19,20,21,22,23,24,25,26,27,28,29,30,31,32,33,34,35] .done))])
noncomputable def Gj:CE:=⟨140,[.val,.val],[.v (.sl gm) .k,.v (.sl ib) .k],λN x kf=>zT N x.1 x.2.1 (ek .bool .k kf)⟩
def yf:List Kd:=(.v (.sl gm) .k::dn 4 (.v (.sl (.int .i64)) (.o 3 none .k)::dn 61 ([])))
def yg:List Kd:=(dn 4 (.v .bool .k::dn 62 ([])))
theorem QA:Gj.ok:=oX Tryz.f140 [[so],[l8],[c9]] 3 (.v (.sl gm) .k::.v (.sl ib) .k::dn 3 (.v (.sl (.int .i64)) (.o 3 none .k)::.v (.int .i64) .k::dn 60 ([]))) (λN n x K=>jy N x.1 x.2.1 n (λz0=>K (.x 0) (shape yf (x.1,z0,()))) (λz0=>K .r (shape yg (z0,()))) x.2.2.1 x.2.2.2.1) [(3,2,yf),(3,1,yg)] ⟨Gi,rG,eo,trivial⟩ (bw:=[(5,(OT.seq [0,1,2,3,4,5,6,7,8,9,10,11,12,13,14,15,16,17,18,19,20,21,22,23,24,25,26,27,28,29,30] .done)),(7,(OT.seq [0,1,2,3,4,5,6,7,8,9,10,11,12,13] .done))])
noncomputable def yV:CE:=⟨87,[.val,.val],[.v (.sl tI) .k,.v (.int .i64) .k],λN x kf=>gD N x.1 x.2.1 (ek (.int .i64) .k kf)⟩
def yh:List Kd:=(dn 20 ([]))
def yi:List Kd:=(dn 4 (.v (.int .i64) .k::dn 15 ([])))
theorem Gk:yV.ok:=oX Tryz.f87 [] 2 (.v (.sl tI) .k::.v (.int .i64) .k::dn 3 (.v (.int .i64) .k::dn 14 ([]))) (λN n x K=>jz x.1 x.2.1 n (K (.x 0) (shape yh ())) (λz0=>K .r (shape yi (z0,()))) x.2.2.1) [(2,2,yh),(2,1,yi)] trivial
noncomputable def qF:CE:=⟨198,[.val,.val,.val],[.v (.sl gm) .k,.v tI .k,.v ib .k],λN x kf=>oS N x.1 x.2.1 x.2.2.1 (ek .bool .k kf)⟩
theorem D5:qF.ok:=lK Tryz.f198 [[iN],[l8]] ⟨ky,rG,trivial⟩ (bw:=[(3,(OT.seq [0,1,2,3,4,5,6,7,8,9,10,11,12,13,14,15,16,17,18,19,20,21,22,23,24,25,26,27,28,29,30,31,32,33,34,35,36,37,38,39,40,41,42] .done))])
noncomputable def Ci:CE:=⟨141,[.val,.val,.val,.val],[.v (.sl gm) .k,.v (.sl tI) .k,.v (.sl ib) .k,.v (.sl (.int .i64)) .k],λN x kf=>uk N x.1 x.2.1 x.2.2.1 x.2.2.2.1 (ek .bool .k kf)⟩
def vl:List Kd:=(dn 58 ([]))
def vm:List Kd:=(dn 8 (.v .bool .k::dn 49 ([])))
theorem Nv:Ci.ok:=oX Tryz.f141 [[pG],[yV],[l8],[qF]] 4 (.v (.sl gm) .k::.v (.sl tI) .k::.v (.sl ib) .k::.v (.sl (.int .i64)) .k::dn 5 (.v (.int .i64) .k::dn 48 ([]))) (λN n x K=>gE N x.1 x.2.1 x.2.2.1 x.2.2.2.1 n (K (.x 0) (shape vl ())) (λz0=>K .r (shape vm (z0,()))) x.2.2.2.2.1) [(4,2,vl),(4,1,vm)] ⟨vj,Gk,rG,D5,trivial⟩ (bw:=[(7,(OT.seq [0,1,2,3,4,5,6,7,8,9,10,11,12,13,14,15,16,17,18,19,20,21,22,23,24] .done))])
noncomputable def qG:CE:=⟨90,[.val],[.v It .k],λN x kf=>kj N x.1 (ek .bool .k kf)⟩
theorem xv:qG.ok:=lK Tryz.f90 [[kg]] ⟨lL,trivial⟩
noncomputable def vn:CE:=⟨84,[.val],[.v fg .k],λN x kf=>pY N x.1 (ek .bool .k kf)⟩
def zn:List Kd:=(dn 115 ([]))
def zo:List Kd:=(dK::dK::.v .bool .k::dn 112 ([]))
theorem Bb:vn.ok:=oX Tryz.f84 [[c9],[pG],[sR],[kg],[Ch],[Gj],[Ci],[qG]] 7 (dK::.v (.ptr fg) (.o 31 none .k)::dK::.v (.ptr It) (.o 72 none .k)::.v (.int .i64) .k::dn 110 ([])) (λN n x K=>iV N x.1 x.2.1 n (K (.x 0) (shape zn ())) (λz0=>K .r (shape zo (z0,()))) x.2.2.1) [(7,2,zn),(7,1,zo)] ⟨eo,vj,A8,lL,Nu,QA,Nv,xv,trivial⟩ (bw:=[(1,(OT.seq [0,1,2,3,4,5,6,7,8,9,10,11,12,13,14,15,16,17,18,19,20,21,22,23,24,25,26,27,28,29,30,31,32,33,34,35,36,37,38,39,40,41,42,44,45,43,46,47] .done)),(9,(OT.seq [0,1,2,3,4,5,6,7,8,9,10,11,12,13,14,15,16,17,18,19,20,21,22,23,24,25,26,27,28,29] .done))])
noncomputable def lp:CE:=⟨79,[.val,.take,.val,.val,.val],[.v fg .k,.v fg (.p (.o 60 none (.p .k (.p .k (.p .k (.p .k (.p .k (.o 3 none .k))))))) (.p (.o 65 none (.p .k (.p .k (.o 3 none .k)))) (.p (.o 69 none .k) (.p (.o 3 none .k) (.p (.o 72 none .k) (.p (.o 75 none .k) .k)))))),.v .bool .k,.v (.int .i64) .k,.v (.int .i64) .k],λN x kf=>ft N x.1 x.2.1 x.2.2.1 x.2.2.2.1 x.2.2.2.2.1 (Pd fg (.p (.o 60 none (.p .k (.p .k (.p .k (.p .k (.p .k (.o 3 none .k))))))) (.p (.o 65 none (.p .k (.p .k (.o 3 none .k)))) (.p (.o 69 none .k) (.p (.o 3 none .k) (.p (.o 72 none .k) (.p (.o 75 none .k) .k)))))) .bool .k kf)⟩
theorem ov:lp.ok:=lK Tryz.f79 [[Cg],[vn],[jH]] ⟨Nt,Bb,ln,trivial⟩
noncomputable def D6:CE:=⟨36,[.val,.val,.val],[.v fg .k,.v (.int .i64) .k,.v (.int .i64) .k],λN x kf=>rv N x.1 x.2.1 x.2.2.1 (Pd fg (.p (.o 60 none (.p .k (.p .k (.p .k (.p .k (.p .k (.o 3 none .k))))))) (.p (.o 65 none (.p .k (.p .k (.o 3 none .k)))) (.p (.o 69 none .k) (.p (.o 3 none .k) (.p (.o 72 none .k) (.p (.o 75 none .k) .k)))))) .bool .k kf)⟩
def wv:List Kd:=(dK::.v (.int .i64) .k::.v (.int .i64) .k::.v (.ptr fg) (.o 31 none .k)::dK::dK::.v (.ptr fg) (.o 31 none (.p (.o 60 none (.p .k (.p .k (.p .k (.p .k (.p .k (.o 3 none .k))))))) (.p (.o 65 none (.p .k (.p .k (.o 3 none .k)))) (.p (.o 69 none .k) (.p (.o 3 none .k) (.p (.o 72 none .k) (.p (.o 75 none .k) .k)))))))::dK::.v (.ptr fg) (.o 31 none (.p (.o 60 none (.p .k (.p .k (.p .k (.p .k (.p .k (.o 3 none .k))))))) (.p (.o 65 none (.p .k (.p .k (.o 3 none .k)))) (.p (.o 69 none .k) (.p (.o 3 none .k) (.p (.o 72 none .k) (.p (.o 75 none .k) .k)))))))::.v (.int .i64) .k::dn 45 ([]))
theorem Pg:D6.ok:=oX Tryz.f36 [[jH],[sn],[pF],[lp]] 3 (dK::.v (.int .i64) .k::.v (.int .i64) .k::.v (.ptr fg) (.o 31 none .k)::dK::dK::.v (.ptr fg) (.o 31 none (.p (.o 60 none (.p .k (.p .k (.p .k (.p .k (.p .k (.o 3 none .k))))))) (.p (.o 65 none (.p .k (.p .k (.o 3 none .k)))) (.p (.o 69 none .k) (.p (.o 3 none .k) (.p (.o 72 none .k) (.p (.o 75 none .k) .k)))))))::dK::.v (.ptr fg) (.o 31 none (.p (.o 60 none (.p .k (.p .k (.p .k (.p .k (.p .k (.o 3 none .k))))))) (.p (.o 65 none (.p .k (.p .k (.o 3 none .k)))) (.p (.o 69 none .k) (.p (.o 3 none .k) (.p (.o 72 none .k) (.p (.o 75 none .k) .k)))))))::.v (.int .i64) .k::dn 45 ([])) (λN n x K=>fW x.1 x.2.1 x.2.2.1 x.2.2.2.1 x.2.2.2.2.1 n (λz0=>K (.x 0) (shape wv (x.1,x.2.1,x.2.2.1,x.2.2.2.1,x.2.2.2.2.1,z0,()))) x.2.2.2.2.2.1) [(3,2,wv)] ⟨ln,yT,ve,ov,trivial⟩ (bw:=[(5,(OT.seq [0,1,2,3,5,6,7,10,12] (.any [4,8,9,11,13] (OT.seq [14,15,16,17] .done)))),(6,(OT.seq [0,1,2,5,3,4,6,7,8,9,10] .done))])
noncomputable def Cj:CE:=⟨37,[.val,.val,.val],[.v fg .k,.v (.int .i64) .k,.v (.int .i64) .k],λN x kf=>pZ N x.1 x.2.1 x.2.2.1 (Pd fg (.p (.o 60 none (.p .k (.p .k (.p .k (.p .k (.p .k (.o 3 none .k))))))) (.p (.o 65 none (.p .k (.p .k (.o 3 none .k)))) (.p (.o 69 none .k) (.p (.o 3 none .k) (.p (.o 72 none .k) (.p (.o 75 none .k) .k)))))) .bool .k kf)⟩
def vo:List Kd:=(dK::.v (.int .i64) .k::.v (.int .i64) .k::.v (.ptr fg) (.o 31 none .k)::dK::dK::.v (.ptr fg) (.o 31 none (.p (.o 60 none (.p .k (.p .k (.p .k (.p .k (.p .k (.o 3 none .k))))))) (.p (.o 65 none (.p .k (.p .k (.o 3 none .k)))) (.p (.o 69 none .k) (.p (.o 3 none .k) (.p (.o 72 none .k) (.p (.o 75 none .k) .k)))))))::dK::.v (.ptr fg) (.o 31 none (.p (.o 60 none (.p .k (.p .k (.p .k (.p .k (.p .k (.o 3 none .k))))))) (.p (.o 65 none (.p .k (.p .k (.o 3 none .k)))) (.p (.o 69 none .k) (.p (.o 3 none .k) (.p (.o 72 none .k) (.p (.o 75 none .k) .k)))))))::.v (.int .i64) .k::dn 42 ([]))
theorem Nw:Cj.ok:=oX Tryz.f37 [[jH],[va],[lp]] 3 (dK::.v (.int .i64) .k::.v (.int .i64) .k::.v (.ptr fg) (.o 31 none .k)::dK::dK::.v (.ptr fg) (.o 31 none (.p (.o 60 none (.p .k (.p .k (.p .k (.p .k (.p .k (.o 3 none .k))))))) (.p (.o 65 none (.p .k (.p .k (.o 3 none .k)))) (.p (.o 69 none .k) (.p (.o 3 none .k) (.p (.o 72 none .k) (.p (.o 75 none .k) .k)))))))::dK::.v (.ptr fg) (.o 31 none (.p (.o 60 none (.p .k (.p .k (.p .k (.p .k (.p .k (.o 3 none .k))))))) (.p (.o 65 none (.p .k (.p .k (.o 3 none .k)))) (.p (.o 69 none .k) (.p (.o 3 none .k) (.p (.o 72 none .k) (.p (.o 75 none .k) .k)))))))::.v (.int .i64) .k::dn 42 ([])) (λN n x K=>eQ x.1 x.2.1 x.2.2.1 x.2.2.2.1 x.2.2.2.2.1 n (λz0=>K (.x 0) (shape vo (x.1,x.2.1,x.2.2.1,x.2.2.2.1,x.2.2.2.2.1,z0,()))) x.2.2.2.2.2.1) [(3,2,vo)] ⟨ln,Ce,ov,trivial⟩ (bw:=[(5,(OT.seq [0,1,2,3,5,6,7,10,12] (.any [4,8,9,11,13] (OT.seq [14,15,16,17] .done))))])
noncomputable def vp:CE:=⟨196,[.val,.val],[.v gm .k,.v gm .k],λN x kf=>p4 N x.1 x.2.1 (ek .bool .k kf)⟩
theorem Ck:vp.ok:=lK Tryz.f196 [] trivial
noncomputable def D7:CE:=⟨135,[.val],[.v (.sl gm) .k],λN x kf=>xH N x.1 (ek (.sl (.int .i64)) (.o 3 none .k) kf)⟩
def wx:List Kd:=(.v (.sl gm) .k::dK::dK::.v (.sl gm) (.o 60 none .k)::.v (.int .i64) .k::.v (.int .i64) .k::dn 62 ([]))
def wy:List Kd:=(dn 3 (.v (.sl gm) (.o 60 none .k)::dn 64 ([])))
def vq:List Kd:=(dn 6 (.v (.sl (.int .i64)) (.o 3 none .k)::dn 61 ([])))
theorem Ph:D7.ok:=eK3 Tryz.f135 [[c9],[vp]] 3 (.v (.sl gm) .k::dK::dK::.v (.sl gm) (.o 60 none .k)::.v (.int .i64) .k::dn 63 ([])) (λN n x K=>iF N x.1 n (λz0=>K (.x 0) (shape wy (z0,()))) x.2.1 x.2.2.1) 6 (.v (.sl gm) .k::dK::dK::.v (.sl gm) (.o 60 none .k)::.v (.int .i64) .k::.v (.int .i64) .k::dn 62 ([])) (λN n x K=>iE N x.1 x.2.1 x.2.2.1 n (λz0=>K (.x 2) (shape wx (x.1,x.2.1,x.2.2.1,z0,()))) x.2.2.2.1) 11 (dn 3 (.v (.sl gm) (.o 60 none .k)::dK::dK::.v (.sl (.int .i64)) (.o 3 none .k)::.v (.int .i64) .k::dn 60 ([]))) (λN n x K=>eR x.1 n (λz0=>K (.x 4) (shape vq (z0,()))) x.2.1 x.2.2.1) [(6,4,wx),(3,2,wy),(11,6,vq)] ⟨eo,Ck,trivial⟩ (bw:=[(6,(OT.seq [0,1,2,3,4,5,6,7,8,9,10,11,12,13] .done)),(8,(OT.seq [1,2,3,5,6,7,11,12,13] (.par [0,4,8,9] [[37],[44,45],[44,45,46]] (OT.seq [10,14,15] .done))))])
noncomputable def yW:CE:=⟨195,[.val,.val,.val],[.v (.sl gm) .k,.v (.int .i64) .k,.v (.int .i64) .k],λN x kf=>zW N x.1 x.2.1 x.2.2.1 (ek ib .k kf)⟩
theorem QD:yW.ok:=lK Tryz.f195 [[iN],[c9],[vp]] ⟨ky,eo,Ck,trivial⟩ (bw:=[(5,(OT.seq [0,1,2,3,4,5,6,7,8,9,10,11,12,13,14,15,16,17,18,19,20,21,22,23,24,25,26,27,28,29,30,31,32,33,34] .done))])
def Ll:List Kd:=.v (.sl gm) .k::.v (.sl (.int .i64)) .k::dn 4 (.v (.int .i64) .k::dn 53 ([]))
def Nx:List Kd:=dn 60 ([])
def Ny:List Kd:=dn 4 (.v (.sl ib) (.o 69 none .k)::.v .bool .k::dn 54 ([]))
def ac3:Hint:={ tab,hn:=[],loops:=[(4,Ll)],outs:=[(4,2,Nx),(4,1,Ny)],bw:=[(6,(OT.seq [0,1,2,3,4,5,6,7,8,9] .done)),(7,(OT.seq [1,2,3,5,6,7,8,0,4,9,10] .done)),(10,(OT.seq [0,1,2,3,4,5,6,7,10,8,9,11,12,13] .done))] }
def Nz:List AK:=[.v (.sl gm) .k,.v (.sl (.int .i64)) .k]
noncomputable def ac4 (N:Nat) (x:cG Nz) (kf:aa->Option aa):Option aa:=abR N x.1 x.2.1 (λr0 r1=>kf ⟨[⟨(.sl ib),(.o 69 none .k),r0⟩,⟨.bool,.k,r1⟩],[]⟩)
noncomputable def TM (N:Nat):=aV Nz (ac4 N)
def XB (N:Nat):List Entry:=[⟨194,[.val,.val,.val],(aV so.l (so.F N))⟩,⟨195,[.val,.val,.val],(aV yW.l (yW.F N))⟩,⟨134,[.val,.val],(TM N)⟩]
def Pj:Code:=cX Tryz.f134
noncomputable def XC (N n:Nat) (key:Nat) (S:St) (K:Ks):Option aa:=bif Nat.beq key 4 then mJ Ll S (λx=>E7 N (abR N) x.1 x.2.1 n (K (.x 0) (shape Nx ())) (λz0 z1=>K .r (shape Ny (z0,z1,()))) x.2.2.1) else none
theorem alz (N key:Nat) (S:St) (K:Ks):XC N 0 key S K=none:=(WI (qw λ_=>rfl) rfl)
def aaE:Code:=(a8 Pj).getD 0 .skip
theorem alA:a8 Pj=[aaE]:=by kernel_rfl
theorem af1 (N:Nat):RdT ac3 (XB N) (XC N) N 4 Ll aaE:=λ_ _ _=>by kernel_rfl
theorem alB (N:Nat) (x:cG Nz) (kf:aa->Option aa):ac4 (N+1) x kf=ny ac3 (n9.of (XB N)) (XC N N) Tryz.f134 (dF Nz x) kf:=by kernel_rfl
theorem aew {Γ:Gl} (xa:ot Γ):∀ N:Nat,Sound Γ Tryz.prog 134 (TM N)
 |0=>w8 λal kf=>by unfold TM aV;split<;>rfl
 |N+1=>lz (hh:=ac3) mixed qe (es:=XB N) ⟨Gi xa N,⟨QD xa N,⟨aew xa N,trivial⟩⟩⟩ (fn:=Tryz.f134) (body:=Pj) (by kernel_rfl) (by kernel_rfl) (by kernel_rfl) (by kernel_rfl) (by kernel_rfl) (Lf:=XC N) (alz N) alA (rc (af1 N) trivial) (N:=N) (by kernel_rfl) (alB N) (.inl (by kernel_rfl))
noncomputable def aex:CE:=⟨134,[.val,.val],Nz,ac4⟩
theorem alC:aex.ok:=λh N=>aew h N
noncomputable def Cl:CE:=⟨82,[.val],[.v (.sl gm) .k],λN x kf=>uq N x.1 (Pd (.sl ib) (.o 69 none .k) .bool .k kf)⟩
theorem NA:Cl.ok:=lK Tryz.f82 [[c9],[D7],[aex]] ⟨eo,Ph,alC,trivial⟩
def Lm:List Kd:=.v (.sl gm) .k::.v (.sl tI) .k::.v (.sl ib) .k::.v (.sl (.int .i64)) .k::dn 6 (.v (.int .i64) .k::dn 59 ([]))
def NB:List Kd:=dn 70 ([])
def NC:List Kd:=dn 8 (.v (.sl (.int .i64)) (.o 3 none .k)::.v .bool .k::dn 60 ([]))
def ac5:Hint:={ tab,hn:=[],loops:=[(4,Lm)],outs:=[(4,2,NB),(4,1,NC)],bw:=[(6,(OT.seq [0,1,2,3,4,5,6,7,8,9,10,11,12,13,14,15,16,17,18] .done)),(7,(OT.seq [5,0,1,2,3,7,8,9,10] (.par [4,6,11,12] [[47],[53,54],[54,55]] (OT.seq [13,14,15,16,17,18,19] .done))))] }
def ND:List AK:=[.v (.sl gm) .k,.v (.sl tI) .k,.v (.sl ib) .k,.v (.sl (.int .i64)) .k]
noncomputable def ac6 (N:Nat) (x:cG ND) (kf:aa->Option aa):Option aa:=abT N x.1 x.2.1 x.2.2.1 x.2.2.2.1 (λr0 r1=>kf ⟨[⟨(.sl (.int .i64)),(.o 3 none .k),r0⟩,⟨.bool,.k,r1⟩],[]⟩)
noncomputable def TN (N:Nat):=aV ND (ac6 N)
def XD (N:Nat):List Entry:=[⟨197,[.val,.val],(aV l8.l (l8.F N))⟩,⟨198,[.val,.val,.val],(aV qF.l (qF.F N))⟩,⟨137,[.val,.val,.val,.val],(TN N)⟩]
def Pl:Code:=cX Tryz.f137
noncomputable def XE (N n:Nat) (key:Nat) (S:St) (K:Ks):Option aa:=bif Nat.beq key 4 then mJ Lm S (λx=>BW N (abT N) x.1 x.2.1 x.2.2.1 x.2.2.2.1 n (K (.x 0) (shape NB ())) (λz0 z1=>K .r (shape NC (z0,z1,()))) x.2.2.2.2.1) else none
theorem alD (N key:Nat) (S:St) (K:Ks):XE N 0 key S K=none:=(WI (qw λ_=>rfl) rfl)
def aaF:Code:=(a8 Pl).getD 0 .skip
theorem alE:a8 Pl=[aaF]:=by kernel_rfl
theorem af2 (N:Nat):RdT ac5 (XD N) (XE N) N 4 Lm aaF:=λ_ _ _=>by kernel_rfl
theorem alF (N:Nat) (x:cG ND) (kf:aa->Option aa):ac6 (N+1) x kf=ny ac5 (n9.of (XD N)) (XE N N) Tryz.f137 (dF ND x) kf:=by kernel_rfl
theorem aey {Γ:Gl} (xa:ot Γ):∀ N:Nat,Sound Γ Tryz.prog 137 (TN N)
 |0=>w8 λal kf=>by unfold TN aV;split<;>rfl
 |N+1=>lz (hh:=ac5) mixed qe (es:=XD N) ⟨rG xa N,⟨D5 xa N,⟨aey xa N,trivial⟩⟩⟩ (fn:=Tryz.f137) (body:=Pl) (by kernel_rfl) (by kernel_rfl) (by kernel_rfl) (by kernel_rfl) (by kernel_rfl) (Lf:=XE N) (alD N) alE (rc (af2 N) trivial) (N:=N) (by kernel_rfl) (alF N) (.inl (by kernel_rfl))
noncomputable def aez:CE:=⟨137,[.val,.val,.val,.val],ND,ac6⟩
theorem alG:aez.ok:=λh N=>aey h N
noncomputable def Bc:CE:=⟨83,[.val,.val,.val],[.v (.sl gm) .k,.v (.sl tI) .k,.v (.sl ib) .k],λN x kf=>rY N x.1 x.2.1 x.2.2.1 (Pd (.sl (.int .i64)) (.o 3 none .k) .bool .k kf)⟩
theorem Ln:Bc.ok:=lK Tryz.f83 [[pG],[c9],[aez]] ⟨vj,eo,alG,trivial⟩
noncomputable def D8:CE:=⟨38,[.val],[.v fg .k],λN x kf=>oT N x.1 (Pd fg (.p (.o 60 none (.p .k (.p .k (.p .k (.p .k (.p .k (.o 3 none .k))))))) (.p (.o 65 none (.p .k (.p .k (.o 3 none .k)))) (.p (.o 69 none .k) (.p (.o 3 none .k) (.p (.o 72 none .k) (.p (.o 75 none .k) .k)))))) .bool .k kf)⟩
theorem Pm:D8.ok:=lK Tryz.f38 [[jH],[Cl],[Bc],[pF],[lp]] ⟨ln,NA,Ln,ve,ov,trivial⟩ (bw:=[(7,(OT.seq [0,1,2,3,4,5,6,7,8,9,10,11,12,13,14,15,16,17,18,19,20,21] .done))])
noncomputable def yX:CE:=⟨40,[.val],[.v fg .k],λN x kf=>uu N x.1 (ek (.sl (.int .i64)) (.o 3 none .k) kf)⟩
def yj:List Kd:=(dn 3 (.v (.sl (.int .i64)) (.o 3 none .k)::dn 23 ([])))
theorem Gm:yX.ok:=oX Tryz.f40 [] 4 (dK::.v (.ptr fg) (.o 31 none .k)::dK::.v (.sl (.int .i64)) (.o 3 none .k)::.v (.ptr It) (.o 72 none .k)::.v (.int .i64) .k::dn 21 ([])) (λN n x K=>ig x.1 x.2.2.1 n (λz0=>K (.x 0) (shape yj (z0,()))) x.2.1 x.2.2.2.1) [(4,2,yj)] trivial (bw:=[(6,(OT.seq [0,1,2,3,4,5,6] .done))])
noncomputable def nW:CE:=⟨143,[.val],[.v (.sl It) .k],λN x kf=>jA N x.1 (ek .bool .k kf)⟩
def tr:List Kd:=(.v (.sl It) .k::dn 36 ([]))
def tu:List Kd:=(dK::dK::.v .bool .k::dn 34 ([]))
theorem sS:nW.ok:=oX Tryz.f143 [[qG]] 2 (.v (.sl It) .k::dK::dK::.v (.int .i64) .k::dn 33 ([])) (λN n x K=>dH N x.1 n (K (.x 0) (shape tr (x.1,()))) (λz0=>K .r (shape tu (z0,()))) x.2.1) [(2,2,tr),(2,1,tu)] ⟨xv,trivial⟩ (bw:=[(4,(OT.seq [0,1,2,3,4,5,6,7,8,9,10,11,12,13,14,15,16,17,18,19,20,21,22,23] .done))])
noncomputable def CW:CE:=⟨146,[.val],[.v It .k],λN x kf=>xe N x.1 (ek (.int .i64) .k kf)⟩
theorem J':CW.ok:=lK Tryz.f146 [] trivial
noncomputable def D9:CE:=⟨144,[.val,.val],[.v (.sl It) .k,.v (.int .i64) .k],λN x kf=>rz N x.1 x.2.1 (ek (.int .i64) .k kf)⟩
def wz:List Kd:=(dn 5 (.v (.int .i64) .k::dn 21 ([])))
theorem Pn:D9.ok:=oX Tryz.f144 [[nW],[CW]] 3 (.v (.sl It) .k::.v (.int .i64) .k::dn 3 (.v (.int .i64) .k::.v (.int .i64) .k::dn 20 ([]))) (λN n x K=>fX N x.1 x.2.1 n (λz0=>K (.x 0) (shape wz (z0,()))) x.2.2.1 x.2.2.2.1) [(3,2,wz)] ⟨sS,J',trivial⟩
noncomputable def HZ:CE:=⟨145,[.val,.val],[.v (.sl It) .k,.v (.int .i64) .k],λN x kf=>Hk N x.1 x.2.1 (ek (.int .i64) .k kf)⟩
def zp:List Kd:=(dn 5 (.v (.int .i64) .k::dn 31 ([])))
theorem TO:HZ.ok:=oX Tryz.f145 [[nW]] 3 (.v (.sl It) .k::.v (.int .i64) .k::dn 3 (.v (.int .i64) .k::.v (.int .i64) .k::dn 30 ([]))) (λN n x K=>p6 N x.1 x.2.1 n (λz0=>K (.x 0) (shape zp (z0,()))) x.2.2.1 x.2.2.2.1) [(3,2,zp)] ⟨sS,trivial⟩
noncomputable def D':CE:=⟨86,[.val],[.v (.sl It) .k],λN x kf=>oU N x.1 (ek (.int .i64) .k kf)⟩
theorem Po:D'.ok:=lK Tryz.f86 [[nW],[D9],[HZ],[CW]] ⟨sS,Pn,TO,J',trivial⟩
noncomputable def Cm:CE:=⟨85,[.val,.val,.val,.val,.val,.val],[.v (.sl gm) .k,.v (.int .i64) .k,.v (.int .i64) .k,.v (.int .i64) .k,.v (.int .i64) .k,.v (.int .i64) .k],λN x kf=>mO N x.1 x.2.1 x.2.2.1 x.2.2.2.1 x.2.2.2.2.1 x.2.2.2.2.2.1 (Pd (.sl gm) (.o 60 none (.p .k (.p .k (.p .k (.p .k (.p .k (.o 3 none .k))))))) .bool .k kf)⟩
theorem NF:Cm.ok:=lK Tryz.f85 [[sn],[iN],[c9],[kg]] ⟨yT,ky,eo,lL,trivial⟩
noncomputable def H0:CE:=⟨88,[.val,.val],[.v (.sl (.int .i64)) .k,.v (.int .i64) .k],λN x kf=>dI N x.1 x.2.1 (ek (.sl (.int .i64)) (.o 3 none .k) kf)⟩
def zq:List Kd:=(.v (.sl (.int .i64)) .k::.v (.int .i64) .k::dn 3 (.v (.int .i64) .k::dn 41 ([])))
theorem TP:H0.ok:=oX Tryz.f88 [] 2 (.v (.sl (.int .i64)) .k::.v (.int .i64) .k::dn 3 (.v (.int .i64) .k::dn 41 ([]))) (λN n x K=>kJ x.1 x.2.1 n (λz0=>K (.x 0) (shape zq (x.1,x.2.1,z0,()))) x.2.2.1) [(2,2,zq)] trivial (bw:=[(6,(OT.seq [1,2,3,5,8,9,10] (.any [0,4,6] (OT.seq [7,11,12] .done))))])
noncomputable def Cn:CE:=⟨39,[.val],[.v fg .k],λN x kf=>p7 N x.1 (Pd fg (.p (.o 60 none (.p .k (.p .k (.p .k (.p .k (.p .k (.o 3 none .k))))))) (.p (.o 65 none (.p .k (.p .k (.o 3 none .k)))) (.p (.o 69 none .k) (.p (.o 3 none .k) (.p (.o 72 none .k) (.p (.o 75 none .k) .k)))))) .bool .k kf)⟩
def vt:List Kd:=(dK::.v (.ptr fg) (.o 31 none .k)::.v (.ptr fg) (.o 31 none (.p (.o 60 none (.p .k (.p .k (.p .k (.p .k (.p .k (.o 3 none .k))))))) (.p (.o 65 none (.p .k (.p .k (.o 3 none .k)))) (.p (.o 69 none .k) (.p (.o 3 none .k) (.p (.o 72 none .k) (.p (.o 75 none .k) .k)))))))::dK::.v (.ptr fg) (.o 31 none (.p (.o 60 none (.p .k (.p .k (.p .k (.p .k (.p .k (.o 3 none .k))))))) (.p (.o 65 none (.p .k (.p .k (.o 3 none .k)))) (.p (.o 69 none .k) (.p (.o 3 none .k) (.p (.o 72 none .k) (.p (.o 75 none .k) .k)))))))::.v .bool .k::dn 114 ([]))
theorem NG:Cn.ok:=oX Tryz.f39 [[jH],[vn],[pF],[yX],[D'],[Cm],[yV],[H0],[lp]] 6 (dK::.v (.ptr fg) (.o 31 none .k)::.v (.ptr fg) (.o 31 none (.p (.o 60 none (.p .k (.p .k (.p .k (.p .k (.p .k (.o 3 none .k))))))) (.p (.o 65 none (.p .k (.p .k (.o 3 none .k)))) (.p (.o 69 none .k) (.p (.o 3 none .k) (.p (.o 72 none .k) (.p (.o 75 none .k) .k)))))))::dK::.v (.ptr fg) (.o 31 none (.p (.o 60 none (.p .k (.p .k (.p .k (.p .k (.p .k (.o 3 none .k))))))) (.p (.o 65 none (.p .k (.p .k (.o 3 none .k)))) (.p (.o 69 none .k) (.p (.o 3 none .k) (.p (.o 72 none .k) (.p (.o 75 none .k) .k)))))))::.v .bool .k::.v (.int .i64) .k::dn 113 ([])) (λN n x K=>eS N x.1 x.2.1 n (λz0 z1=>K (.x 0) (shape vt (x.1,x.2.1,z0,z1,()))) x.2.2.1 x.2.2.2.1 x.2.2.2.2.1) [(6,2,vt)] ⟨ln,Bb,ve,Gm,Po,NF,Gk,TP,ov,trivial⟩ (bw:=[(9,(OT.seq [0,1,2,3,4,5,6,7,8,9,10,11,12,13,14,17,18,19,20,15,16,21,22,23,24,25,26] .done)),(12,(OT.seq [0,1,2,3,4,5,6,7,8] .done)),(13,(OT.seq [0,1,2,3,4,5,6,7,8,9,10,11,12,13,14,16,17,18,19,20,21,15,22,23,24,25] .done))])
noncomputable def Ka:CE:=⟨42,[.Al,.val],[.v (.ptr gn) (.o 82 (some 0) .k),.v (.sl (.int .i64)) .k],λN x kf=>xf N x.1 x.2.1 (λr0 z=>kf ⟨[⟨(.int .i64),.k,r0⟩],[⟨(.ptr gn),(.o 82 (some 0) .k),z⟩]⟩)⟩
theorem UG:Ka.ok:=lK Tryz.f42 [[ll]] ⟨ou,trivial⟩ (iQ:=some (0,false))
noncomputable def Bd:CE:=⟨41,[.val,.val,.val,.val],[.v fg .k,.v (.int .i64) .k,.v (.int .i64) .k,.v (.int .i64) .k],λN x kf=>oe N x.1 x.2.1 x.2.2.1 x.2.2.2.1 (Pd fg (.p (.o 60 none (.p .k (.p .k (.p .k (.p .k (.p .k (.o 3 none .k))))))) (.p (.o 65 none (.p .k (.p .k (.o 3 none .k)))) (.p (.o 69 none .k) (.p (.o 3 none .k) (.p (.o 72 none .k) (.p (.o 75 none .k) .k)))))) .bool .k kf)⟩
theorem Lo:Bd.ok:=lK Tryz.f41 [[jH],[vn],[kg],[qG],[lp]] ⟨ln,Bb,lL,xv,ov,trivial⟩ (bw:=[(3,(OT.seq [0,1,2,3,4,5,6,7,8,9,10,11,12,13,14,15,16,17,18,19,20] .done)),(5,(OT.seq [0,1,2,3,4,5,6,7,8,9,10,11,12] .done)),(6,(OT.seq [0,1,2,3,4,5,6,8,9,10,11,12,7,13,14,15,16,17] .done))])
end Go.Pv.R
