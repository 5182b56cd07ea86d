/- Each function of the program that the law reaches computes its plain function, part 1. -/
import Derived.Test.YtdacecahpdgooaaGreatDoorSnd0
import Derived.Test.YtdacecahpdgooaaGreatDoorProg
namespace Go.Pv.R
open Go.Proofs
set_option linter.unusedVariables false
set_option maxRecDepth 100000
noncomputable def kZ:List Kd:=[dK,.v (.int .i64) .k,.v (.int .i64) .k,.v (.ptr ae) (.o 37 none .k),dK,dK,.v (.ptr ae) (.o 37 none (.p (.o 45 none (.p .k (.p .k (.p .k (.p .k (.p .k (.o 3 none .k))))))) (.p (.o 88 none (.p .k (.p .k (.o 3 none .k)))) (.p (.o 53 none .k) (.p (.o 3 none .k) (.p (.o 70 none .k) (.p (.o 121 none .k) .k))))))),dK,.v (.ptr ae) (.o 37 none (.p (.o 45 none (.p .k (.p .k (.p .k (.p .k (.p .k (.o 3 none .k))))))) (.p (.o 88 none (.p .k (.p .k (.o 3 none .k)))) (.p (.o 53 none .k) (.p (.o 3 none .k) (.p (.o 70 none .k) (.p (.o 121 none .k) .k))))))),.v (.int .i64) .k,dK,dK,dK,dK,dK,dK,dK,dK,dK,dK,dK,dK,dK,dK,dK,dK,dK,dK,dK,dK,dK,dK,dK,dK,dK,dK,dK,dK,dK,dK,dK,dK,dK,dK,dK,dK,dK,dK,dK,dK,dK,dK]
noncomputable def w4:List Kd:=[dK,.v (.int .i64) .k,.v (.int .i64) .k,.v (.ptr ae) (.o 37 none .k),dK,dK,.v (.ptr ae) (.o 37 none (.p (.o 45 none (.p .k (.p .k (.p .k (.p .k (.p .k (.o 3 none .k))))))) (.p (.o 88 none (.p .k (.p .k (.o 3 none .k)))) (.p (.o 53 none .k) (.p (.o 3 none .k) (.p (.o 70 none .k) (.p (.o 121 none .k) .k))))))),dK,.v (.ptr ae) (.o 37 none (.p (.o 45 none (.p .k (.p .k (.p .k (.p .k (.p .k (.o 3 none .k))))))) (.p (.o 88 none (.p .k (.p .k (.o 3 none .k)))) (.p (.o 53 none .k) (.p (.o 3 none .k) (.p (.o 70 none .k) (.p (.o 121 none .k) .k))))))),.v (.int .i64) .k,dK,dK,dK,dK,dK,dK,dK,dK,dK,dK,dK,dK,dK,dK,dK,dK,dK,dK,dK,dK,dK,dK,dK,dK,dK,dK,dK,dK,dK,dK,dK,dK,dK,dK,dK,dK,dK,dK,dK,dK,dK,dK]
noncomputable def IN:Hint:={ bA,hn:=[],loops:=[(3,kZ)],outs:=[(3,2,w4)],bH:=[(5,(OT.seq [0,1,2,3,5,6,7,10,12] (.any [4,8,9,11,13] (OT.seq [14,15,16,17] .done))))] }
noncomputable def Ft:List AK:=[.v ae .k,.v (.int .i64) .k,.v (.int .i64) .k]
noncomputable def ZV (N:Nat) (x:ao Ft) (kf:af→Option af):Option af:=S30 N x.1 x.2.1 x.2.2.1 (fun r0 r1=>kf ⟨[⟨ae,(.p (.o 45 none (.p .k (.p .k (.p .k (.p .k (.p .k (.o 3 none .k))))))) (.p (.o 88 none (.p .k (.p .k (.o 3 none .k)))) (.p (.o 53 none .k) (.p (.o 3 none .k) (.p (.o 70 none .k) (.p (.o 121 none .k) .k)))))),r0⟩,⟨.bool,.k,r1⟩],[]⟩)
noncomputable def NR (N:Nat):=aI Ft (ZV N)
noncomputable def LN (N:Nat):List Entry:=[⟨45,[.val],(oO N)⟩,⟨49,[.val],(EV N)⟩,⟨47,[.val,.take,.val,.val,.val],(qX N)⟩]
noncomputable def A9:Code:=match Tryz.f30.body with |some c=>c |none=>.skip
noncomputable def IP (N n:Nat) (key:Nat) (S:St) (K:Ks):Option af:=bif Nat.beq key 3 then aP kZ S (fun x=>pX x.1 x.2.1 x.2.2.1 x.2.2.2.1 x.2.2.2.2.1 n (fun z0=>K (.x 0) (shape w4 (x.1,x.2.1,x.2.2.1,x.2.2.2.1,x.2.2.2.2.1,z0,()))) x.2.2.2.2.2.1) else none
theorem ael (N key:Nat) (S:St) (K:Ks):IP N 0 key S K=none:=(dm (aL fun _=>rfl) rfl)
noncomputable def NS:Code:=(ai A9).getD 0 .skip
theorem aem:ai A9=[NS]:=by kernel_rfl
theorem U9 (N n:Nat) (x:cj kZ) (K:Ks):IP N (n+1) 3 (shape kZ x) (IN.aH 3 K)=aX IN (bE.of (LN N)) (cw (IP N) N n 3) NS (shape kZ x) (IN.aH 3 K):=by kernel_rfl
theorem aen (N:Nat) (x:ao Ft) (kf:af→Option af):ZV N x kf=aG IN (bE.of (LN N)) (IP N N) Tryz.f30 (aB Ft x) kf:=by kernel_rfl
theorem aeo {Γ:Gl} (bh:bo Γ) (N:Nat):Sound Γ Tryz.prog 30 (NR N):=aA (hh:=IN) mixed aO (es:=LN N) ⟨vE bh N,⟨UC bh N,⟨A7 bh N,trivial⟩⟩⟩ (fn:=Tryz.f30) (body:=A9) (by kernel_rfl) (by kernel_rfl) (by kernel_rfl) (by kernel_rfl) (by kernel_rfl) (Lf:=IP N) (ael N) aem (aC (key:=3) (ks:=kZ) (by kernel_rfl) (by kernel_rfl) (U9 N) trivial) (N:=N) (by kernel_rfl) (aen N) (.inl (by kernel_rfl))
noncomputable def ZW:Hint:={ bA,hn:=[],loops:=[],outs:=[],bH:=[] }
noncomputable def Fu:List AK:=[.v aq .k,.v aq .k]
noncomputable def ZX (N:Nat) (x:ao Fu) (kf:af→Option af):Option af:=S94 N x.1 x.2.1 (fun r0=>kf ⟨[⟨.bool,.k,r0⟩],[]⟩)
noncomputable def Fv (N:Nat):=aI Fu (ZX N)
noncomputable def U' (N:Nat):List Entry:=[]
noncomputable def IQ:Code:=match Tryz.f94.body with |some c=>c |none=>.skip
theorem aep:ai IQ=[]:=by kernel_rfl
theorem aeq (N:Nat) (x:ao Fu) (kf:af→Option af):ZX N x kf=aG ZW (bE.of (U' N)) (eo N N) Tryz.f94 (aB Fu x) kf:=by kernel_rfl
theorem Va {Γ:Gl} (bh:bo Γ) (N:Nat):Sound Γ Tryz.prog 94 (Fv N):=aA (hh:=ZW) mixed aO (es:=U' N) trivial (fn:=Tryz.f94) (body:=IQ) (by kernel_rfl) (by kernel_rfl) (by kernel_rfl) (by kernel_rfl) (by kernel_rfl) (Lf:=eo N) (ep N) aep trivial (N:=N) (by kernel_rfl) (aeq N) (.inl (by kernel_rfl))
noncomputable def k8:List Kd:=[.v (.sl aq) .k,dK,dK,.v (.sl aq) (.o 45 none .k),.v (.int .i64) .k,.v (.int .i64) .k,dK,dK,dK,dK,dK,dK,dK,dK,dK,dK,dK,dK,dK,dK,dK,dK,dK,dK,dK,dK,dK,dK,dK,dK,dK,dK,dK,dK,dK,dK,dK,dK,dK,dK,dK,dK,dK,dK,dK,dK,dK,dK,dK,dK,dK,dK,dK,dK,dK,dK,dK,dK,dK,dK,dK,dK,dK,dK,dK,dK,dK,dK]
noncomputable def w5:List Kd:=[.v (.sl aq) .k,dK,dK,.v (.sl aq) (.o 45 none .k),.v (.int .i64) .k,.v (.int .i64) .k,dK,dK,dK,dK,dK,dK,dK,dK,dK,dK,dK,dK,dK,dK,dK,dK,dK,dK,dK,dK,dK,dK,dK,dK,dK,dK,dK,dK,dK,dK,dK,dK,dK,dK,dK,dK,dK,dK,dK,dK,dK,dK,dK,dK,dK,dK,dK,dK,dK,dK,dK,dK,dK,dK,dK,dK,dK,dK,dK,dK,dK,dK]
noncomputable def k9:List Kd:=[.v (.sl aq) .k,dK,dK,.v (.sl aq) (.o 45 none .k),.v (.int .i64) .k,dK,dK,dK,dK,dK,dK,dK,dK,dK,dK,dK,dK,dK,dK,dK,dK,dK,dK,dK,dK,dK,dK,dK,dK,dK,dK,dK,dK,dK,dK,dK,dK,dK,dK,dK,dK,dK,dK,dK,dK,dK,dK,dK,dK,dK,dK,dK,dK,dK,dK,dK,dK,dK,dK,dK,dK,dK,dK,dK,dK,dK,dK,dK]
noncomputable def w6:List Kd:=[dK,dK,dK,.v (.sl aq) (.o 45 none .k),dK,dK,dK,dK,dK,dK,dK,dK,dK,dK,dK,dK,dK,dK,dK,dK,dK,dK,dK,dK,dK,dK,dK,dK,dK,dK,dK,dK,dK,dK,dK,dK,dK,dK,dK,dK,dK,dK,dK,dK,dK,dK,dK,dK,dK,dK,dK,dK,dK,dK,dK,dK,dK,dK,dK,dK,dK,dK,dK,dK,dK,dK,dK,dK]
noncomputable def iW:List Kd:=[dK,dK,dK,.v (.sl aq) (.o 45 none .k),dK,dK,.v (.sl (.int .i64)) (.o 3 none .k),.v (.int .i64) .k,dK,dK,dK,dK,dK,dK,dK,dK,dK,dK,dK,dK,dK,dK,dK,dK,dK,dK,dK,dK,dK,dK,dK,dK,dK,dK,dK,dK,dK,dK,dK,dK,dK,dK,dK,dK,dK,dK,dK,dK,dK,dK,dK,dK,dK,dK,dK,dK,dK,dK,dK,dK,dK,dK,dK,dK,dK,dK,dK,dK]
noncomputable def uD:List Kd:=[dK,dK,dK,dK,dK,dK,.v (.sl (.int .i64)) (.o 3 none .k),dK,dK,dK,dK,dK,dK,dK,dK,dK,dK,dK,dK,dK,dK,dK,dK,dK,dK,dK,dK,dK,dK,dK,dK,dK,dK,dK,dK,dK,dK,dK,dK,dK,dK,dK,dK,dK,dK,dK,dK,dK,dK,dK,dK,dK,dK,dK,dK,dK,dK,dK,dK,dK,dK,dK,dK,dK,dK,dK,dK,dK]
noncomputable def qz:Hint:={ bA,hn:=[],loops:=[(6,k8),(3,k9),(11,iW)],outs:=[(6,4,w5),(3,2,w6),(11,6,uD)],bH:=[(6,(OT.seq [0,1,2,3,4,5,6,7,8,9,10,11,12,13] .done)),(8,(OT.seq [1,2,3,5,6,7,11,12,13] (.par [0,4,8,9] [[37],[44,45],[44,45,46]] (OT.seq [10,14,15] .done))))] }
noncomputable def Fw:List AK:=[.v (.sl aq) .k]
noncomputable def ZY (N:Nat) (x:ao Fw) (kf:af→Option af):Option af:=S70 N x.1 (fun r0=>kf ⟨[⟨(.sl (.int .i64)),(.o 3 none .k),r0⟩],[]⟩)
noncomputable def NT (N:Nat):=aI Fw (ZY N)
noncomputable def Ba (N:Nat):List Entry:=[⟨68,[.val],(jh N)⟩,⟨94,[.val,.val],(Fv N)⟩]
noncomputable def qA:Code:=match Tryz.f70.body with |some c=>c |none=>.skip
noncomputable def uE (N n:Nat) (key:Nat) (S:St) (K:Ks):Option af:=bif Nat.beq key 3 then aP k9 S (fun x=>sH N x.1 n (fun z0=>K (.x 0) (shape w6 (z0,()))) x.2.1 x.2.2.1) else bif Nat.beq key 6 then aP k8 S (fun x=>sG N x.1 x.2.1 x.2.2.1 n (fun z0=>K (.x 2) (shape w5 (x.1,x.2.1,x.2.2.1,z0,()))) x.2.2.2.1) else bif Nat.beq key 11 then aP iW S (fun x=>mF x.1 n (fun z0=>K (.x 4) (shape uD (z0,()))) x.2.1 x.2.2.1) else none
theorem aer (N key:Nat) (S:St) (K:Ks):uE N 0 key S K=none:=(dm (aL fun _=>rfl) (dm (aL fun _=>rfl) (dm (aL fun _=>rfl) rfl)))
noncomputable def NU:Code:=(ai qA).getD 0 .skip
noncomputable def NV:Code:=(ai qA).getD 1 .skip
noncomputable def NW:Code:=(ai qA).getD 2 .skip
theorem aes:ai qA=[NU,NV,NW]:=by kernel_rfl
theorem PT (N n:Nat) (x:cj iW) (K:Ks):uE N (n+1) 11 (shape iW x) (qz.aH 11 K)=aX qz (bE.of (Ba N)) (cw (uE N) N n 11) NW (shape iW x) (qz.aH 11 K):=by kernel_rfl
theorem Vb (N n:Nat) (x:cj k8) (K:Ks):uE N (n+1) 6 (shape k8 x) (qz.aH 6 K)=aX qz (bE.of (Ba N)) (cw (uE N) N n 6) NV (shape k8 x) (qz.aH 6 K):=by kernel_rfl
theorem Vc (N n:Nat) (x:cj k9) (K:Ks):uE N (n+1) 3 (shape k9 x) (qz.aH 3 K)=aX qz (bE.of (Ba N)) (cw (uE N) N n 3) NU (shape k9 x) (qz.aH 3 K):=by kernel_rfl
theorem aet (N:Nat) (x:ao Fw) (kf:af→Option af):ZY N x kf=aG qz (bE.of (Ba N)) (uE N N) Tryz.f70 (aB Fw x) kf:=by kernel_rfl
theorem aeu {Γ:Gl} (bh:bo Γ) (N:Nat):Sound Γ Tryz.prog 70 (NT N):=aA (hh:=qz) mixed aO (es:=Ba N) ⟨oN bh N,⟨Va bh N,trivial⟩⟩ (fn:=Tryz.f70) (body:=qA) (by kernel_rfl) (by kernel_rfl) (by kernel_rfl) (by kernel_rfl) (by kernel_rfl) (Lf:=uE N) (aer N) aes (aC (key:=3) (ks:=k9) (by kernel_rfl) (by kernel_rfl) (Vc N) (aC (key:=6) (ks:=k8) (by kernel_rfl) (by kernel_rfl) (Vb N) (aC (key:=11) (ks:=iW) (by kernel_rfl) (by kernel_rfl) (PT N) trivial))) (N:=N) (by kernel_rfl) (aet N) (.inl (by kernel_rfl))
noncomputable def ZZ:Hint:={ bA,hn:=[],loops:=[],outs:=[],bH:=[(5,(OT.seq [0,1,2,3,4,5,6,7,8,9,10,11,12,13,14,15,16,17,18,19,20,21,22,23,24,25,26,27,28,29,30,31,32,33,34] .done))] }
noncomputable def Fx:List AK:=[.v (.sl aq) .k,.v (.int .i64) .k,.v (.int .i64) .k]
noncomputable def Z0 (N:Nat) (x:ao Fx) (kf:af→Option af):Option af:=S93 N x.1 x.2.1 x.2.2.1 (fun r0=>kf ⟨[⟨fh,.k,r0⟩],[]⟩)
noncomputable def NX (N:Nat):=aI Fx (Z0 N)
noncomputable def Vd (N:Nat):List Entry:=[⟨76,[.val,.val],(oM N)⟩,⟨68,[.val],(jh N)⟩,⟨94,[.val,.val],(Fv N)⟩]
noncomputable def IS:Code:=match Tryz.f93.body with |some c=>c |none=>.skip
theorem aev:ai IS=[]:=by kernel_rfl
theorem aew (N:Nat) (x:ao Fx) (kf:af→Option af):Z0 N x kf=aG ZZ (bE.of (Vd N)) (eo N N) Tryz.f93 (aB Fx x) kf:=by kernel_rfl
theorem aex {Γ:Gl} (bh:bo Γ) (N:Nat):Sound Γ Tryz.prog 93 (NX N):=aA (hh:=ZZ) mixed aO (es:=Vd N) ⟨vD bh N,⟨oN bh N,⟨Va bh N,trivial⟩⟩⟩ (fn:=Tryz.f93) (body:=IS) (by kernel_rfl) (by kernel_rfl) (by kernel_rfl) (by kernel_rfl) (by kernel_rfl) (Lf:=eo N) (ep N) aev trivial (N:=N) (by kernel_rfl) (aew N) (.inl (by kernel_rfl))
noncomputable def ld:List Kd:=[.v (.sl aq) .k,.v (.sl (.int .i64)) .k,dK,dK,dK,dK,.v (.int .i64) .k,dK,dK,dK,dK,dK,dK,dK,dK,dK,dK,dK,dK,dK,dK,dK,dK,dK,dK,dK,dK,dK,dK,dK,dK,dK,dK,dK,dK,dK,dK,dK,dK,dK,dK,dK,dK,dK,dK,dK,dK,dK,dK,dK,dK,dK,dK,dK,dK,dK,dK,dK,dK,dK]
noncomputable def w7:List Kd:=[dK,dK,dK,dK,dK,dK,dK,dK,dK,dK,dK,dK,dK,dK,dK,dK,dK,dK,dK,dK,dK,dK,dK,dK,dK,dK,dK,dK,dK,dK,dK,dK,dK,dK,dK,dK,dK,dK,dK,dK,dK,dK,dK,dK,dK,dK,dK,dK,dK,dK,dK,dK,dK,dK,dK,dK,dK,dK,dK,dK]
noncomputable def w8:List Kd:=[dK,dK,dK,dK,.v (.sl fh) (.o 53 none .k),.v .bool .k,dK,dK,dK,dK,dK,dK,dK,dK,dK,dK,dK,dK,dK,dK,dK,dK,dK,dK,dK,dK,dK,dK,dK,dK,dK,dK,dK,dK,dK,dK,dK,dK,dK,dK,dK,dK,dK,dK,dK,dK,dK,dK,dK,dK,dK,dK,dK,dK,dK,dK,dK,dK,dK,dK]
noncomputable def IT:Hint:={ bA,hn:=[],loops:=[(4,ld)],outs:=[(4,2,w7),(4,1,w8)],bH:=[(6,(OT.seq [0,1,2,3,4,5,6,7,8,9] .done)),(7,(OT.seq [1,2,3,5,6,7,8,0,4,9,10] .done)),(10,(OT.seq [0,1,2,3,4,5,6,7,10,8,9,11,12,13] .done))] }
noncomputable def Fy:List AK:=[.v (.sl aq) .k,.v (.sl (.int .i64)) .k]
noncomputable def Z1 (N:Nat) (x:ao Fy) (kf:af→Option af):Option af:=S69 N x.1 x.2.1 (fun r0 r1=>kf ⟨[⟨(.sl fh),(.o 53 none .k),r0⟩,⟨.bool,.k,r1⟩],[]⟩)
noncomputable def yb (N:Nat):=aI Fy (Z1 N)
noncomputable def LO (N:Nat):List Entry:=[⟨92,[.val,.val,.val],(Ff N)⟩,⟨93,[.val,.val,.val],(NX N)⟩,⟨69,[.val,.val],(yb N)⟩]
noncomputable def Bb:Code:=match Tryz.f69.body with |some c=>c |none=>.skip
noncomputable def IU (N n:Nat) (key:Nat) (S:St) (K:Ks):Option af:=bif Nat.beq key 4 then aP ld S (fun x=>sI N (S69 N) x.1 x.2.1 n (K (.x 0) (shape w7 ())) (fun z0 z1=>K .r (shape w8 (z0,z1,()))) x.2.2.1) else none
theorem aey (N key:Nat) (S:St) (K:Ks):IU N 0 key S K=none:=(dm (aL fun _=>rfl) rfl)
noncomputable def NY:Code:=(ai Bb).getD 0 .skip
theorem aez:ai Bb=[NY]:=by kernel_rfl
theorem Ve (N n:Nat) (x:cj ld) (K:Ks):IU N (n+1) 4 (shape ld x) (IT.aH 4 K)=aX IT (bE.of (LO N)) (cw (IU N) N n 4) NY (shape ld x) (IT.aH 4 K):=by kernel_rfl
theorem aeA (N:Nat) (x:ao Fy) (kf:af→Option af):Z1 (N+1) x kf=aG IT (bE.of (LO N)) (IU N N) Tryz.f69 (aB Fy x) kf:=by kernel_rfl
theorem Vf {Γ:Gl} (bh:bo Γ):∀ N:Nat,Sound Γ Tryz.prog 69 (yb N)
 |0=>zo fun al kf=>by
  unfold yb aI
  split<;>rfl
 |N+1=>aA (hh:=IT) mixed aO (es:=LO N) ⟨UY bh N,⟨aex bh N,⟨Vf bh N,trivial⟩⟩⟩ (fn:=Tryz.f69) (body:=Bb) (by kernel_rfl) (by kernel_rfl) (by kernel_rfl) (by kernel_rfl) (by kernel_rfl) (Lf:=IU N) (aey N) aez (aC (key:=4) (ks:=ld) (by kernel_rfl) (by kernel_rfl) (Ve N) trivial) (N:=N) (by kernel_rfl) (aeA N) (.inl (by kernel_rfl))
noncomputable def Z2:Hint:={ bA,hn:=[],loops:=[],outs:=[],bH:=[] }
noncomputable def Bc:List AK:=[.v (.sl aq) .k]
noncomputable def Z3 (N:Nat) (x:ao Bc) (kf:af→Option af):Option af:=YG N x.1 (fun r0 r1=>kf ⟨[⟨(.sl fh),(.o 53 none .k),r0⟩,⟨.bool,.k,r1⟩],[]⟩)
noncomputable def Fz (N:Nat):=aI Bc (Z3 N)
noncomputable def Vg (N:Nat):List Entry:=[⟨68,[.val],(jh N)⟩,⟨70,[.val],(NT N)⟩,⟨69,[.val,.val],(yb N)⟩]
noncomputable def IV:Code:=match Tryz.f50.body with |some c=>c |none=>.skip
theorem aeB:ai IV=[]:=by kernel_rfl
theorem aeC (N:Nat) (x:ao Bc) (kf:af→Option af):Z3 N x kf=aG Z2 (bE.of (Vg N)) (eo N N) Tryz.f50 (aB Bc x) kf:=by kernel_rfl
theorem Vh {Γ:Gl} (bh:bo Γ) (N:Nat):Sound Γ Tryz.prog 50 (Fz N):=aA (hh:=Z2) mixed aO (es:=Vg N) ⟨oN bh N,⟨aeu bh N,⟨Vf bh N,trivial⟩⟩⟩ (fn:=Tryz.f50) (body:=IV) (by kernel_rfl) (by kernel_rfl) (by kernel_rfl) (by kernel_rfl) (by kernel_rfl) (Lf:=eo N) (ep N) aeB trivial (N:=N) (by kernel_rfl) (aeC N) (.inl (by kernel_rfl))
noncomputable def lf:List Kd:=[.v (.sl aq) .k,.v (.sl b5) .k,.v (.sl fh) .k,.v (.sl (.int .i64)) .k,dK,dK,dK,dK,dK,dK,.v (.int .i64) .k,dK,dK,dK,dK,dK,dK,dK,dK,dK,dK,dK,dK,dK,dK,dK,dK,dK,dK,dK,dK,dK,dK,dK,dK,dK,dK,dK,dK,dK,dK,dK,dK,dK,dK,dK,dK,dK,dK,dK,dK,dK,dK,dK,dK,dK,dK,dK,dK,dK,dK,dK,dK,dK,dK,dK,dK,dK,dK,dK]
noncomputable def w9:List Kd:=[dK,dK,dK,dK,dK,dK,dK,dK,dK,dK,dK,dK,dK,dK,dK,dK,dK,dK,dK,dK,dK,dK,dK,dK,dK,dK,dK,dK,dK,dK,dK,dK,dK,dK,dK,dK,dK,dK,dK,dK,dK,dK,dK,dK,dK,dK,dK,dK,dK,dK,dK,dK,dK,dK,dK,dK,dK,dK,dK,dK,dK,dK,dK,dK,dK,dK,dK,dK,dK,dK]
noncomputable def xa:List Kd:=[dK,dK,dK,dK,dK,dK,dK,dK,.v (.sl (.int .i64)) (.o 3 none .k),.v .bool .k,dK,dK,dK,dK,dK,dK,dK,dK,dK,dK,dK,dK,dK,dK,dK,dK,dK,dK,dK,dK,dK,dK,dK,dK,dK,dK,dK,dK,dK,dK,dK,dK,dK,dK,dK,dK,dK,dK,dK,dK,dK,dK,dK,dK,dK,dK,dK,dK,dK,dK,dK,dK,dK,dK,dK,dK,dK,dK,dK,dK]
noncomputable def IW:Hint:={ bA,hn:=[],loops:=[(4,lf)],outs:=[(4,2,w9),(4,1,xa)],bH:=[(6,(OT.seq [0,1,2,3,4,5,6,7,8,9,10,11,12,13,14,15,16,17,18] .done)),(7,(OT.seq [5,0,1,2,3,7,8,9,10] (.par [4,6,11,12] [[47],[53,54],[54,55]] (OT.seq [13,14,15,16,17,18,19] .done))))] }
noncomputable def FA:List AK:=[.v (.sl aq) .k,.v (.sl b5) .k,.v (.sl fh) .k,.v (.sl (.int .i64)) .k]
noncomputable def Z4 (N:Nat) (x:ao FA) (kf:af→Option af):Option af:=S72 N x.1 x.2.1 x.2.2.1 x.2.2.2.1 (fun r0 r1=>kf ⟨[⟨(.sl (.int .i64)),(.o 3 none .k),r0⟩,⟨.bool,.k,r1⟩],[]⟩)
noncomputable def yc (N:Nat):=aI FA (Z4 N)
noncomputable def LP (N:Nat):List Entry:=[⟨95,[.val,.val],(qW N)⟩,⟨96,[.val,.val,.val],(Fl N)⟩,⟨72,[.val,.val,.val,.val],(yc N)⟩]
noncomputable def Bd:Code:=match Tryz.f72.body with |some c=>c |none=>.skip
noncomputable def IX (N n:Nat) (key:Nat) (S:St) (K:Ks):Option af:=bif Nat.beq key 4 then aP lf S (fun x=>pY N (S72 N) x.1 x.2.1 x.2.2.1 x.2.2.2.1 n (K (.x 0) (shape w9 ())) (fun z0 z1=>K .r (shape xa (z0,z1,()))) x.2.2.2.2.1) else none
theorem aeD (N key:Nat) (S:St) (K:Ks):IX N 0 key S K=none:=(dm (aL fun _=>rfl) rfl)
noncomputable def NZ:Code:=(ai Bd).getD 0 .skip
theorem aeE:ai Bd=[NZ]:=by kernel_rfl
theorem Vi (N n:Nat) (x:cj lf) (K:Ks):IX N (n+1) 4 (shape lf x) (IW.aH 4 K)=aX IW (bE.of (LP N)) (cw (IX N) N n 4) NZ (shape lf x) (IW.aH 4 K):=by kernel_rfl
theorem aeF (N:Nat) (x:ao FA) (kf:af→Option af):Z4 (N+1) x kf=aG IW (bE.of (LP N)) (IX N N) Tryz.f72 (aB FA x) kf:=by kernel_rfl
theorem Vj {Γ:Gl} (bh:bo Γ):∀ N:Nat,Sound Γ Tryz.prog 72 (yc N)
 |0=>zo fun al kf=>by
  unfold yc aI
  split<;>rfl
 |N+1=>aA (hh:=IW) mixed aO (es:=LP N) ⟨AZ bh N,⟨U3 bh N,⟨Vj bh N,trivial⟩⟩⟩ (fn:=Tryz.f72) (body:=Bd) (by kernel_rfl) (by kernel_rfl) (by kernel_rfl) (by kernel_rfl) (by kernel_rfl) (Lf:=IX N) (aeD N) aeE (aC (key:=4) (ks:=lf) (by kernel_rfl) (by kernel_rfl) (Vi N) trivial) (N:=N) (by kernel_rfl) (aeF N) (.inl (by kernel_rfl))
noncomputable def Z5:Hint:={ bA,hn:=[],loops:=[],outs:=[],bH:=[] }
noncomputable def Be:List AK:=[.v (.sl aq) .k,.v (.sl b5) .k,.v (.sl fh) .k]
noncomputable def Z6 (N:Nat) (x:ao Be) (kf:af→Option af):Option af:=Xh N x.1 x.2.1 x.2.2.1 (fun r0 r1=>kf ⟨[⟨(.sl (.int .i64)),(.o 3 none .k),r0⟩,⟨.bool,.k,r1⟩],[]⟩)
noncomputable def FB (N:Nat):=aI Be (Z6 N)
noncomputable def Vk (N:Nat):List Entry:=[⟨71,[.val],(x7 N)⟩,⟨68,[.val],(jh N)⟩,⟨72,[.val,.val,.val,.val],(yc N)⟩]
noncomputable def IY:Code:=match Tryz.f51.body with |some c=>c |none=>.skip
theorem aeG:ai IY=[]:=by kernel_rfl
theorem aeH (N:Nat) (x:ao Be) (kf:af→Option af):Z6 N x kf=aG Z5 (bE.of (Vk N)) (eo N N) Tryz.f51 (aB Be x) kf:=by kernel_rfl
theorem Vl {Γ:Gl} (bh:bo Γ) (N:Nat):Sound Γ Tryz.prog 51 (FB N):=aA (hh:=Z5) mixed aO (es:=Vk N) ⟨LC bh N,⟨oN bh N,⟨Vj bh N,trivial⟩⟩⟩ (fn:=Tryz.f51) (body:=IY) (by kernel_rfl) (by kernel_rfl) (by kernel_rfl) (by kernel_rfl) (by kernel_rfl) (Lf:=eo N) (ep N) aeG trivial (N:=N) (by kernel_rfl) (aeH N) (.inl (by kernel_rfl))
noncomputable def Z7:Hint:={ bA,hn:=[],loops:=[],outs:=[],bH:=[(7,(OT.seq [0,1,2,3,4,5,6,7,8,9,10,11,12,13,14,15,16,17,18,19,20,21] .done))] }
noncomputable def FC:List AK:=[.v ae .k]
noncomputable def Z8 (N:Nat) (x:ao FC) (kf:af→Option af):Option af:=S31 N x.1 (fun r0 r1=>kf ⟨[⟨ae,(.p (.o 45 none (.p .k (.p .k (.p .k (.p .k (.p .k (.o 3 none .k))))))) (.p (.o 88 none (.p .k (.p .k (.o 3 none .k)))) (.p (.o 53 none .k) (.p (.o 3 none .k) (.p (.o 70 none .k) (.p (.o 121 none .k) .k)))))),r0⟩,⟨.bool,.k,r1⟩],[]⟩)
noncomputable def N0 (N:Nat):=aI FC (Z8 N)
noncomputable def Vm (N:Nat):List Entry:=[⟨45,[.val],(oO N)⟩,⟨50,[.val],(Fz N)⟩,⟨51,[.val,.val,.val],(FB N)⟩,⟨48,[.val],(xZ N)⟩,⟨47,[.val,.take,.val,.val,.val],(qX N)⟩]
noncomputable def IZ:Code:=match Tryz.f31.body with |some c=>c |none=>.skip
theorem aeI:ai IZ=[]:=by kernel_rfl
theorem aeJ (N:Nat) (x:ao FC) (kf:af→Option af):Z8 N x kf=aG Z7 (bE.of (Vm N)) (eo N N) Tryz.f31 (aB FC x) kf:=by kernel_rfl
theorem aeK {Γ:Gl} (bh:bo Γ) (N:Nat):Sound Γ Tryz.prog 31 (N0 N):=aA (hh:=Z7) mixed aO (es:=Vm N) ⟨vE bh N,⟨Vh bh N,⟨Vl bh N,⟨LA bh N,⟨A7 bh N,trivial⟩⟩⟩⟩⟩ (fn:=Tryz.f31) (body:=IZ) (by kernel_rfl) (by kernel_rfl) (by kernel_rfl) (by kernel_rfl) (by kernel_rfl) (Lf:=eo N) (ep N) aeI trivial (N:=N) (by kernel_rfl) (aeJ N) (.inl (by kernel_rfl))
noncomputable def lg:List Kd:=[dK,.v (.ptr ae) (.o 37 none .k),dK,.v (.sl (.int .i64)) (.o 3 none .k),.v (.ptr bI) (.o 70 none .k),.v (.int .i64) .k,dK,dK,dK,dK,dK,dK,dK,dK,dK,dK,dK,dK,dK,dK,dK,dK,dK,dK,dK,dK,dK]
noncomputable def xb:List Kd:=[dK,dK,dK,.v (.sl (.int .i64)) (.o 3 none .k),dK,dK,dK,dK,dK,dK,dK,dK,dK,dK,dK,dK,dK,dK,dK,dK,dK,dK,dK,dK,dK,dK,dK]
noncomputable def I0:Hint:={ bA,hn:=[],loops:=[(4,lg)],outs:=[(4,2,xb)],bH:=[(6,(OT.seq [0,1,2,3,4,5,6] .done))] }
noncomputable def FD:List AK:=[.v ae .k]
noncomputable def Z9 (N:Nat) (x:ao FD) (kf:af→Option af):Option af:=S33 N x.1 (fun r0=>kf ⟨[⟨(.sl (.int .i64)),(.o 3 none .k),r0⟩],[]⟩)
noncomputable def FE (N:Nat):=aI FD (Z9 N)
noncomputable def LQ (N:Nat):List Entry:=[]
noncomputable def Bf:Code:=match Tryz.f33.body with |some c=>c |none=>.skip
noncomputable def I1 (N n:Nat) (key:Nat) (S:St) (K:Ks):Option af:=bif Nat.beq key 4 then aP lg S (fun x=>pZ x.1 x.2.2.1 n (fun z0=>K (.x 0) (shape xb (z0,()))) x.2.1 x.2.2.2.1) else none
theorem aeL (N key:Nat) (S:St) (K:Ks):I1 N 0 key S K=none:=(dm (aL fun _=>rfl) rfl)
noncomputable def N1:Code:=(ai Bf).getD 0 .skip
theorem aeM:ai Bf=[N1]:=by kernel_rfl
theorem Vn (N n:Nat) (x:cj lg) (K:Ks):I1 N (n+1) 4 (shape lg x) (I0.aH 4 K)=aX I0 (bE.of (LQ N)) (cw (I1 N) N n 4) N1 (shape lg x) (I0.aH 4 K):=by kernel_rfl
theorem aeN (N:Nat) (x:ao FD) (kf:af→Option af):Z9 N x kf=aG I0 (bE.of (LQ N)) (I1 N N) Tryz.f33 (aB FD x) kf:=by kernel_rfl
theorem Vo {Γ:Gl} (bh:bo Γ) (N:Nat):Sound Γ Tryz.prog 33 (FE N):=aA (hh:=I0) mixed aO (es:=LQ N) trivial (fn:=Tryz.f33) (body:=Bf) (by kernel_rfl) (by kernel_rfl) (by kernel_rfl) (by kernel_rfl) (by kernel_rfl) (Lf:=I1 N) (aeL N) aeM (aC (key:=4) (ks:=lg) (by kernel_rfl) (by kernel_rfl) (Vn N) trivial) (N:=N) (by kernel_rfl) (aeN N) (.inl (by kernel_rfl))
noncomputable def lh:List Kd:=[.v (.sl bI) .k,dK,dK,.v (.int .i64) .k,dK,dK,dK,dK,dK,dK,dK,dK,dK,dK,dK,dK,dK,dK,dK,dK,dK,dK,dK,dK,dK,dK,dK,dK,dK,dK,dK,dK,dK,dK,dK,dK,dK]
noncomputable def xc:List Kd:=[.v (.sl bI) .k,dK,dK,dK,dK,dK,dK,dK,dK,dK,dK,dK,dK,dK,dK,dK,dK,dK,dK,dK,dK,dK,dK,dK,dK,dK,dK,dK,dK,dK,dK,dK,dK,dK,dK,dK,dK]
noncomputable def xd:List Kd:=[dK,dK,.v .bool .k,dK,dK,dK,dK,dK,dK,dK,dK,dK,dK,dK,dK,dK,dK,dK,dK,dK,dK,dK,dK,dK,dK,dK,dK,dK,dK,dK,dK,dK,dK,dK,dK,dK,dK]
noncomputable def I2:Hint:={ bA,hn:=[],loops:=[(2,lh)],outs:=[(2,2,xc),(2,1,xd)],bH:=[(4,(OT.seq [0,1,2,3,4,5,6,7,8,9,10,11,12,13,14,15,16,17,18,19,20,21,22,23] .done))] }
noncomputable def FF:List AK:=[.v (.sl bI) .k]
noncomputable def Z' (N:Nat) (x:ao FF) (kf:af→Option af):Option af:=S77 N x.1 (fun r0=>kf ⟨[⟨.bool,.k,r0⟩],[]⟩)
noncomputable def yd (N:Nat):=aI FF (Z' N)
noncomputable def LR (N:Nat):List Entry:=[⟨58,[.val],(x9 N)⟩]
noncomputable def Bg:Code:=match Tryz.f77.body with |some c=>c |none=>.skip
noncomputable def I3 (N n:Nat) (key:Nat) (S:St) (K:Ks):Option af:=bif Nat.beq key 2 then aP lh S (fun x=>p4 N x.1 n (K (.x 0) (shape xc (x.1,()))) (fun z0=>K .r (shape xd (z0,()))) x.2.1) else none
theorem aeO (N key:Nat) (S:St) (K:Ks):I3 N 0 key S K=none:=(dm (aL fun _=>rfl) rfl)
noncomputable def N3:Code:=(ai Bg).getD 0 .skip
theorem aeP:ai Bg=[N3]:=by kernel_rfl
theorem Vp (N n:Nat) (x:cj lh) (K:Ks):I3 N (n+1) 2 (shape lh x) (I2.aH 2 K)=aX I2 (bE.of (LR N)) (cw (I3 N) N n 2) N3 (shape lh x) (I2.aH 2 K):=by kernel_rfl
theorem aeQ (N:Nat) (x:ao FF) (kf:af→Option af):Z' N x kf=aG I2 (bE.of (LR N)) (I3 N N) Tryz.f77 (aB FF x) kf:=by kernel_rfl
theorem LS {Γ:Gl} (bh:bo Γ) (N:Nat):Sound Γ Tryz.prog 77 (yd N):=aA (hh:=I2) mixed aO (es:=LR N) ⟨LJ bh N,trivial⟩ (fn:=Tryz.f77) (body:=Bg) (by kernel_rfl) (by kernel_rfl) (by kernel_rfl) (by kernel_rfl) (by kernel_rfl) (Lf:=I3 N) (aeO N) aeP (aC (key:=2) (ks:=lh) (by kernel_rfl) (by kernel_rfl) (Vp N) trivial) (N:=N) (by kernel_rfl) (aeQ N) (.inl (by kernel_rfl))
noncomputable def aaa:Hint:={ bA,hn:=[],loops:=[],outs:=[],bH:=[] }
noncomputable def FG:List AK:=[.v bI .k]
noncomputable def aab (N:Nat) (x:ao FG) (kf:af→Option af):Option af:=S80 N x.1 (fun r0=>kf ⟨[⟨(.int .i64),.k,r0⟩],[]⟩)
noncomputable def FH (N:Nat):=aI FG (aab N)
noncomputable def Vq (N:Nat):List Entry:=[]
noncomputable def I4:Code:=match Tryz.f80.body with |some c=>c |none=>.skip
theorem aeR:ai I4=[]:=by kernel_rfl
theorem aeS (N:Nat) (x:ao FG) (kf:af→Option af):aab N x kf=aG aaa (bE.of (Vq N)) (eo N N) Tryz.f80 (aB FG x) kf:=by kernel_rfl
theorem Vr {Γ:Gl} (bh:bo Γ) (N:Nat):Sound Γ Tryz.prog 80 (FH N):=aA (hh:=aaa) mixed aO (es:=Vq N) trivial (fn:=Tryz.f80) (body:=I4) (by kernel_rfl) (by kernel_rfl) (by kernel_rfl) (by kernel_rfl) (by kernel_rfl) (Lf:=eo N) (ep N) aeR trivial (N:=N) (by kernel_rfl) (aeS N) (.inl (by kernel_rfl))
noncomputable def ll:List Kd:=[.v (.sl bI) .k,.v (.int .i64) .k,dK,dK,dK,.v (.int .i64) .k,.v (.int .i64) .k,dK,dK,dK,dK,dK,dK,dK,dK,dK,dK,dK,dK,dK,dK,dK,dK,dK,dK,dK,dK]
noncomputable def xe:List Kd:=[dK,dK,dK,dK,dK,.v (.int .i64) .k,dK,dK,dK,dK,dK,dK,dK,dK,dK,dK,dK,dK,dK,dK,dK,dK,dK,dK,dK,dK,dK]
noncomputable def I5:Hint:={ bA,hn:=[],loops:=[(3,ll)],outs:=[(3,2,xe)],bH:=[] }
noncomputable def FJ:List AK:=[.v (.sl bI) .k,.v (.int .i64) .k]
noncomputable def aac (N:Nat) (x:ao FJ) (kf:af→Option af):Option af:=S78 N x.1 x.2.1 (fun r0=>kf ⟨[⟨(.int .i64),.k,r0⟩],[]⟩)
noncomputable def N4 (N:Nat):=aI FJ (aac N)
noncomputable def LU (N:Nat):List Entry:=[⟨77,[.val],(yd N)⟩,⟨80,[.val],(FH N)⟩]
noncomputable def Bh:Code:=match Tryz.f78.body with |some c=>c |none=>.skip
noncomputable def I7 (N n:Nat) (key:Nat) (S:St) (K:Ks):Option af:=bif Nat.beq key 3 then aP ll S (fun x=>p5 N x.1 x.2.1 n (fun z0=>K (.x 0) (shape xe (z0,()))) x.2.2.1 x.2.2.2.1) else none
theorem aeT (N key:Nat) (S:St) (K:Ks):I7 N 0 key S K=none:=(dm (aL fun _=>rfl) rfl)
noncomputable def N5:Code:=(ai Bh).getD 0 .skip
theorem aeU:ai Bh=[N5]:=by kernel_rfl
theorem Vs (N n:Nat) (x:cj ll) (K:Ks):I7 N (n+1) 3 (shape ll x) (I5.aH 3 K)=aX I5 (bE.of (LU N)) (cw (I7 N) N n 3) N5 (shape ll x) (I5.aH 3 K):=by kernel_rfl
theorem aeV (N:Nat) (x:ao FJ) (kf:af→Option af):aac N x kf=aG I5 (bE.of (LU N)) (I7 N N) Tryz.f78 (aB FJ x) kf:=by kernel_rfl
theorem aeW {Γ:Gl} (bh:bo Γ) (N:Nat):Sound Γ Tryz.prog 78 (N4 N):=aA (hh:=I5) mixed aO (es:=LU N) ⟨LS bh N,⟨Vr bh N,trivial⟩⟩ (fn:=Tryz.f78) (body:=Bh) (by kernel_rfl) (by kernel_rfl) (by kernel_rfl) (by kernel_rfl) (by kernel_rfl) (Lf:=I7 N) (aeT N) aeU (aC (key:=3) (ks:=ll) (by kernel_rfl) (by kernel_rfl) (Vs N) trivial) (N:=N) (by kernel_rfl) (aeV N) (.inl (by kernel_rfl))
noncomputable def ln:List Kd:=[.v (.sl bI) .k,.v (.int .i64) .k,dK,dK,dK,.v (.int .i64) .k,.v (.int .i64) .k,dK,dK,dK,dK,dK,dK,dK,dK,dK,dK,dK,dK,dK,dK,dK,dK,dK,dK,dK,dK,dK,dK,dK,dK,dK,dK,dK,dK,dK,dK]
noncomputable def xf:List Kd:=[dK,dK,dK,dK,dK,.v (.int .i64) .k,dK,dK,dK,dK,dK,dK,dK,dK,dK,dK,dK,dK,dK,dK,dK,dK,dK,dK,dK,dK,dK,dK,dK,dK,dK,dK,dK,dK,dK,dK,dK]
noncomputable def I':Hint:={ bA,hn:=[],loops:=[(3,ln)],outs:=[(3,2,xf)],bH:=[] }
noncomputable def FK:List AK:=[.v (.sl bI) .k,.v (.int .i64) .k]
noncomputable def aad (N:Nat) (x:ao FK) (kf:af→Option af):Option af:=S79 N x.1 x.2.1 (fun r0=>kf ⟨[⟨(.int .i64),.k,r0⟩],[]⟩)
noncomputable def N6 (N:Nat):=aI FK (aad N)
noncomputable def LV (N:Nat):List Entry:=[⟨77,[.val],(yd N)⟩]
noncomputable def Bi:Code:=match Tryz.f79.body with |some c=>c |none=>.skip
noncomputable def Ja (N n:Nat) (key:Nat) (S:St) (K:Ks):Option af:=bif Nat.beq key 3 then aP ln S (fun x=>zH N x.1 x.2.1 n (fun z0=>K (.x 0) (shape xf (z0,()))) x.2.2.1 x.2.2.2.1) else none
theorem aeX (N key:Nat) (S:St) (K:Ks):Ja N 0 key S K=none:=(dm (aL fun _=>rfl) rfl)
noncomputable def N7:Code:=(ai Bi).getD 0 .skip
theorem aeY:ai Bi=[N7]:=by kernel_rfl
theorem Vt (N n:Nat) (x:cj ln) (K:Ks):Ja N (n+1) 3 (shape ln x) (I'.aH 3 K)=aX I' (bE.of (LV N)) (cw (Ja N) N n 3) N7 (shape ln x) (I'.aH 3 K):=by kernel_rfl
theorem aeZ (N:Nat) (x:ao FK) (kf:af→Option af):aad N x kf=aG I' (bE.of (LV N)) (Ja N N) Tryz.f79 (aB FK x) kf:=by kernel_rfl
theorem ae0 {Γ:Gl} (bh:bo Γ) (N:Nat):Sound Γ Tryz.prog 79 (N6 N):=aA (hh:=I') mixed aO (es:=LV N) ⟨LS bh N,trivial⟩ (fn:=Tryz.f79) (body:=Bi) (by kernel_rfl) (by kernel_rfl) (by kernel_rfl) (by kernel_rfl) (by kernel_rfl) (Lf:=Ja N) (aeX N) aeY (aC (key:=3) (ks:=ln) (by kernel_rfl) (by kernel_rfl) (Vt N) trivial) (N:=N) (by kernel_rfl) (aeZ N) (.inl (by kernel_rfl))
noncomputable def aae:Hint:={ bA,hn:=[],loops:=[],outs:=[],bH:=[] }
noncomputable def FL:List AK:=[.v (.sl bI) .k]
noncomputable def aaf (N:Nat) (x:ao FL) (kf:af→Option af):Option af:=S54 N x.1 (fun r0=>kf ⟨[⟨(.int .i64),.k,r0⟩],[]⟩)
noncomputable def N8 (N:Nat):=aI FL (aaf N)
noncomputable def Vu (N:Nat):List Entry:=[⟨77,[.val],(yd N)⟩,⟨78,[.val,.val],(N4 N)⟩,⟨79,[.val,.val],(N6 N)⟩,⟨80,[.val],(FH N)⟩]
noncomputable def Jb:Code:=match Tryz.f54.body with |some c=>c |none=>.skip
theorem ae1:ai Jb=[]:=by kernel_rfl
theorem ae2 (N:Nat) (x:ao FL) (kf:af→Option af):aaf N x kf=aG aae (bE.of (Vu N)) (eo N N) Tryz.f54 (aB FL x) kf:=by kernel_rfl
theorem ae3 {Γ:Gl} (bh:bo Γ) (N:Nat):Sound Γ Tryz.prog 54 (N8 N):=aA (hh:=aae) mixed aO (es:=Vu N) ⟨LS bh N,⟨aeW bh N,⟨ae0 bh N,⟨Vr bh N,trivial⟩⟩⟩⟩ (fn:=Tryz.f54) (body:=Jb) (by kernel_rfl) (by kernel_rfl) (by kernel_rfl) (by kernel_rfl) (by kernel_rfl) (Lf:=eo N) (ep N) ae1 trivial (N:=N) (by kernel_rfl) (ae2 N) (.inl (by kernel_rfl))
noncomputable def lp:List Kd:=[.v (.sl (.int .i64)) .k,.v (.int .i64) .k,dK,dK,dK,.v (.int .i64) .k,dK,dK,dK,dK,dK,dK,dK,dK,dK,dK,dK,dK,dK,dK,dK,dK,dK,dK,dK,dK,dK,dK,dK,dK,dK,dK,dK,dK,dK,dK,dK,dK,dK,dK,dK,dK,dK,dK,dK,dK,dK]
noncomputable def xg:List Kd:=[.v (.sl (.int .i64)) .k,.v (.int .i64) .k,dK,dK,dK,.v (.int .i64) .k,dK,dK,dK,dK,dK,dK,dK,dK,dK,dK,dK,dK,dK,dK,dK,dK,dK,dK,dK,dK,dK,dK,dK,dK,dK,dK,dK,dK,dK,dK,dK,dK,dK,dK,dK,dK,dK,dK,dK,dK,dK]
noncomputable def Jc:Hint:={ bA,hn:=[],loops:=[(2,lp)],outs:=[(2,2,xg)],bH:=[(6,(OT.seq [1,2,3,5,8,9,10] (.any [0,4,6] (OT.seq [7,11,12] .done))))] }
noncomputable def FM:List AK:=[.v (.sl (.int .i64)) .k,.v (.int .i64) .k]
noncomputable def aag (N:Nat) (x:ao FM) (kf:af→Option af):Option af:=KW N x.1 x.2.1 (fun r0=>kf ⟨[⟨(.sl (.int .i64)),(.o 3 none .k),r0⟩],[]⟩)
noncomputable def N9 (N:Nat):=aI FM (aag N)
noncomputable def LW (N:Nat):List Entry:=[]
noncomputable def Bj:Code:=match Tryz.f56.body with |some c=>c |none=>.skip
noncomputable def Jd (N n:Nat) (key:Nat) (S:St) (K:Ks):Option af:=bif Nat.beq key 2 then aP lp S (fun x=>sK x.1 x.2.1 n (fun z0=>K (.x 0) (shape xg (x.1,x.2.1,z0,()))) x.2.2.1) else none
theorem ae4 (N key:Nat) (S:St) (K:Ks):Jd N 0 key S K=none:=(dm (aL fun _=>rfl) rfl)
noncomputable def N':Code:=(ai Bj).getD 0 .skip
theorem ae5:ai Bj=[N']:=by kernel_rfl
theorem Vv (N n:Nat) (x:cj lp) (K:Ks):Jd N (n+1) 2 (shape lp x) (Jc.aH 2 K)=aX Jc (bE.of (LW N)) (cw (Jd N) N n 2) N' (shape lp x) (Jc.aH 2 K):=by kernel_rfl
theorem ae6 (N:Nat) (x:ao FM) (kf:af→Option af):aag N x kf=aG Jc (bE.of (LW N)) (Jd N N) Tryz.f56 (aB FM x) kf:=by kernel_rfl
theorem ae7 {Γ:Gl} (bh:bo Γ) (N:Nat):Sound Γ Tryz.prog 56 (N9 N):=aA (hh:=Jc) mixed aO (es:=LW N) trivial (fn:=Tryz.f56) (body:=Bj) (by kernel_rfl) (by kernel_rfl) (by kernel_rfl) (by kernel_rfl) (by kernel_rfl) (Lf:=Jd N) (ae4 N) ae5 (aC (key:=2) (ks:=lp) (by kernel_rfl) (by kernel_rfl) (Vv N) trivial) (N:=N) (by kernel_rfl) (ae6 N) (.inl (by kernel_rfl))
noncomputable def lq:List Kd:=[dK,.v (.ptr ae) (.o 37 none .k),.v (.ptr ae) (.o 37 none (.p (.o 45 none (.p .k (.p .k (.p .k (.p .k (.p .k (.o 3 none .k))))))) (.p (.o 88 none (.p .k (.p .k (.o 3 none .k)))) (.p (.o 53 none .k) (.p (.o 3 none .k) (.p (.o 70 none .k) (.p (.o 121 none .k) .k))))))),dK,.v (.ptr ae) (.o 37 none (.p (.o 45 none (.p .k (.p .k (.p .k (.p .k (.p .k (.o 3 none .k))))))) (.p (.o 88 none (.p .k (.p .k (.o 3 none .k)))) (.p (.o 53 none .k) (.p (.o 3 none .k) (.p (.o 70 none .k) (.p (.o 121 none .k) .k))))))),.v .bool .k,.v (.int .i64) .k,dK,dK,dK,dK,dK,dK,dK,dK,dK,dK,dK,dK,dK,dK,dK,dK,dK,dK,dK,dK,dK,dK,dK,dK,dK,dK,dK,dK,dK,dK,dK,dK,dK,dK,dK,dK,dK,dK,dK,dK,dK,dK,dK,dK,dK,dK,dK,dK,dK,dK,dK,dK,dK,dK,dK,dK,dK,dK,dK,dK,dK,dK,dK,dK,dK,dK,dK,dK,dK,dK,dK,dK,dK,dK,dK,dK,dK,dK,dK,dK,dK,dK,dK,dK,dK,dK,dK,dK,dK,dK,dK,dK,dK,dK,dK,dK,dK,dK,dK,dK,dK,dK,dK,dK,dK,dK,dK,dK,dK,dK,dK,dK,dK]
noncomputable def xh:List Kd:=[dK,.v (.ptr ae) (.o 37 none .k),.v (.ptr ae) (.o 37 none (.p (.o 45 none (.p .k (.p .k (.p .k (.p .k (.p .k (.o 3 none .k))))))) (.p (.o 88 none (.p .k (.p .k (.o 3 none .k)))) (.p (.o 53 none .k) (.p (.o 3 none .k) (.p (.o 70 none .k) (.p (.o 121 none .k) .k))))))),dK,.v (.ptr ae) (.o 37 none (.p (.o 45 none (.p .k (.p .k (.p .k (.p .k (.p .k (.o 3 none .k))))))) (.p (.o 88 none (.p .k (.p .k (.o 3 none .k)))) (.p (.o 53 none .k) (.p (.o 3 none .k) (.p (.o 70 none .k) (.p (.o 121 none .k) .k))))))),.v .bool .k,dK,dK,dK,dK,dK,dK,dK,dK,dK,dK,dK,dK,dK,dK,dK,dK,dK,dK,dK,dK,dK,dK,dK,dK,dK,dK,dK,dK,dK,dK,dK,dK,dK,dK,dK,dK,dK,dK,dK,dK,dK,dK,dK,dK,dK,dK,dK,dK,dK,dK,dK,dK,dK,dK,dK,dK,dK,dK,dK,dK,dK,dK,dK,dK,dK,dK,dK,dK,dK,dK,dK,dK,dK,dK,dK,dK,dK,dK,dK,dK,dK,dK,dK,dK,dK,dK,dK,dK,dK,dK,dK,dK,dK,dK,dK,dK,dK,dK,dK,dK,dK,dK,dK,dK,dK,dK,dK,dK,dK,dK,dK,dK,dK,dK]
noncomputable def Je:Hint:={ bA,hn:=[],loops:=[(6,lq)],outs:=[(6,2,xh)],bH:=[(9,(OT.seq [0,1,2,3,4,5,6,7,8,9,10,11,12,13,14,17,18,19,20,15,16,21,22,23,24,25,26] .done)),(12,(OT.seq [0,1,2,3,4,5,6,7,8] .done)),(13,(OT.seq [0,1,2,3,4,5,6,7,8,9,10,11,12,13,14,16,17,18,19,20,21,15,22,23,24,25] .done))] }
noncomputable def FN:List AK:=[.v ae .k]
noncomputable def aah (N:Nat) (x:ao FN) (kf:af→Option af):Option af:=S32 N x.1 (fun r0 r1=>kf ⟨[⟨ae,(.p (.o 45 none (.p .k (.p .k (.p .k (.p .k (.p .k (.o 3 none .k))))))) (.p (.o 88 none (.p .k (.p .k (.o 3 none .k)))) (.p (.o 53 none .k) (.p (.o 3 none .k) (.p (.o 70 none .k) (.p (.o 121 none .k) .k)))))),r0⟩,⟨.bool,.k,r1⟩],[]⟩)
noncomputable def Oa (N:Nat):=aI FN (aah N)
noncomputable def LX (N:Nat):List Entry:=[⟨45,[.val],(oO N)⟩,⟨52,[.val],(ya N)⟩,⟨48,[.val],(xZ N)⟩,⟨33,[.val],(FE N)⟩,⟨54,[.val],(N8 N)⟩,⟨53,[.val,.val,.val,.val,.val,.val],(EG N)⟩,⟨55,[.val,.val],(Fi N)⟩,⟨56,[.val,.val],(N9 N)⟩,⟨47,[.val,.take,.val,.val,.val],(qX N)⟩]
noncomputable def Bk:Code:=match Tryz.f32.body with |some c=>c |none=>.skip
noncomputable def Jf (N n:Nat) (key:Nat) (S:St) (K:Ks):Option af:=bif Nat.beq key 6 then aP lq S (fun x=>p6 N x.1 x.2.1 n (fun z0 z1=>K (.x 0) (shape xh (x.1,x.2.1,z0,z1,()))) x.2.2.1 x.2.2.2.1 x.2.2.2.2.1) else none
theorem ae8 (N key:Nat) (S:St) (K:Ks):Jf N 0 key S K=none:=(dm (aL fun _=>rfl) rfl)
noncomputable def Ob:Code:=(ai Bk).getD 0 .skip
theorem ae9:ai Bk=[Ob]:=by kernel_rfl
theorem Vw (N n:Nat) (x:cj lq) (K:Ks):Jf N (n+1) 6 (shape lq x) (Je.aH 6 K)=aX Je (bE.of (LX N)) (cw (Jf N) N n 6) Ob (shape lq x) (Je.aH 6 K):=by kernel_rfl
theorem ae' (N:Nat) (x:ao FN) (kf:af→Option af):aah N x kf=aG Je (bE.of (LX N)) (Jf N N) Tryz.f32 (aB FN x) kf:=by kernel_rfl
theorem afa {Γ:Gl} (bh:bo Γ) (N:Nat):Sound Γ Tryz.prog 32 (Oa N):=aA (hh:=Je) mixed aO (es:=LX N) ⟨vE bh N,⟨LL bh N,⟨LA bh N,⟨Vo bh N,⟨ae3 bh N,⟨Uf bh N,⟨U1 bh N,⟨ae7 bh N,⟨A7 bh N,trivial⟩⟩⟩⟩⟩⟩⟩⟩⟩ (fn:=Tryz.f32) (body:=Bk) (by kernel_rfl) (by kernel_rfl) (by kernel_rfl) (by kernel_rfl) (by kernel_rfl) (Lf:=Jf N) (ae8 N) ae9 (aC (key:=6) (ks:=lq) (by kernel_rfl) (by kernel_rfl) (Vw N) trivial) (N:=N) (by kernel_rfl) (ae' N) (.inl (by kernel_rfl))
noncomputable def aai:Hint:={ bA,hn:=[],loops:=[],outs:=[],bH:=[(3,(OT.seq [0,1,2,3,4,5,6,7,8,9,10,11,12,13,14,15,16,17,18,19,20] .done)),(5,(OT.seq [0,1,2,3,4,5,6,7,8,9,10,11,12] .done)),(6,(OT.seq [0,1,2,3,4,5,6,8,9,10,11,12,7,13,14,15,16,17] .done))] }
noncomputable def FO:List AK:=[.v ae .k,.v (.int .i64) .k,.v (.int .i64) .k,.v (.int .i64) .k]
noncomputable def aaj (N:Nat) (x:ao FO) (kf:af→Option af):Option af:=S34 N x.1 x.2.1 x.2.2.1 x.2.2.2.1 (fun r0 r1=>kf ⟨[⟨ae,(.p (.o 45 none (.p .k (.p .k (.p .k (.p .k (.p .k (.o 3 none .k))))))) (.p (.o 88 none (.p .k (.p .k (.o 3 none .k)))) (.p (.o 53 none .k) (.p (.o 3 none .k) (.p (.o 70 none .k) (.p (.o 121 none .k) .k)))))),r0⟩,⟨.bool,.k,r1⟩],[]⟩)
noncomputable def Oc (N:Nat):=aI FO (aaj N)
noncomputable def Vx (N:Nat):List Entry:=[⟨45,[.val],(oO N)⟩,⟨52,[.val],(ya N)⟩,⟨57,[.val,.val,.val],(iv N)⟩,⟨58,[.val],(x9 N)⟩,⟨47,[.val,.take,.val,.val,.val],(qX N)⟩]
noncomputable def Jg:Code:=match Tryz.f34.body with |some c=>c |none=>.skip
theorem afb:ai Jg=[]:=by kernel_rfl
theorem afc (N:Nat) (x:ao FO) (kf:af→Option af):aaj N x kf=aG aai (bE.of (Vx N)) (eo N N) Tryz.f34 (aB FO x) kf:=by kernel_rfl
theorem afd {Γ:Gl} (bh:bo Γ) (N:Nat):Sound Γ Tryz.prog 34 (Oc N):=aA (hh:=aai) mixed aO (es:=Vx N) ⟨vE bh N,⟨LL bh N,⟨nb bh N,⟨LJ bh N,⟨A7 bh N,trivial⟩⟩⟩⟩⟩ (fn:=Tryz.f34) (body:=Jg) (by kernel_rfl) (by kernel_rfl) (by kernel_rfl) (by kernel_rfl) (by kernel_rfl) (Lf:=eo N) (ep N) afb trivial (N:=N) (by kernel_rfl) (afc N) (.inl (by kernel_rfl))
noncomputable def lr:List Kd:=[.v (.ptr bg) (.o 61 (some 0) .k),dK,.v (.ptr ae) (.o 37 none (.p (.o 45 none (.p .k (.p .k (.p .k (.p .k (.p .k (.o 3 none .k))))))) (.p (.o 88 none (.p .k (.p .k (.o 3 none .k)))) (.p (.o 53 none .k) (.p (.o 3 none .k) (.p (.o 70 none .k) (.p (.o 121 none .k) .k))))))),.v (.ptr ae) (.o 37 none (.p (.o 45 none (.p .k (.p .k (.p .k (.p .k (.p .k (.o 3 none .k))))))) (.p (.o 88 none (.p .k (.p .k (.o 3 none .k)))) (.p (.o 53 none .k) (.p (.o 3 none .k) (.p (.o 70 none .k) (.p (.o 121 none .k) .k))))))),.v (.int .i64) .k,dK,dK,dK,dK,dK,dK,dK,dK,dK,dK,dK,dK,dK,dK,dK,dK,dK,dK,dK,dK,dK,dK,dK,dK,dK,dK,dK,dK,dK,dK,dK,dK,dK,dK,dK,dK,dK,dK,dK,dK,dK,dK,dK,dK,dK,dK,dK,dK,dK,dK,dK,dK,dK,dK,dK,dK,dK,dK,dK,dK,dK,dK,dK,dK,dK,dK,dK,dK,dK,dK,dK,dK,dK,dK,dK,dK,dK,dK,dK,dK,dK,dK,dK,dK,dK,dK,dK,dK,dK,dK]
noncomputable def xi:List Kd:=[.v (.ptr bg) (.o 61 (some 0) .k),dK,.v (.ptr ae) (.o 37 none (.p (.o 45 none (.p .k (.p .k (.p .k (.p .k (.p .k (.o 3 none .k))))))) (.p (.o 88 none (.p .k (.p .k (.o 3 none .k)))) (.p (.o 53 none .k) (.p (.o 3 none .k) (.p (.o 70 none .k) (.p (.o 121 none .k) .k))))))),.v (.ptr ae) (.o 37 none (.p (.o 45 none (.p .k (.p .k (.p .k (.p .k (.p .k (.o 3 none .k))))))) (.p (.o 88 none (.p .k (.p .k (.o 3 none .k)))) (.p (.o 53 none .k) (.p (.o 3 none .k) (.p (.o 70 none .k) (.p (.o 121 none .k) .k))))))),dK,dK,dK,dK,dK,dK,dK,dK,dK,dK,dK,dK,dK,dK,dK,dK,dK,dK,dK,dK,dK,dK,dK,dK,dK,dK,dK,dK,dK,dK,dK,dK,dK,dK,dK,dK,dK,dK,dK,dK,dK,dK,dK,dK,dK,dK,dK,dK,dK,dK,dK,dK,dK,dK,dK,dK,dK,dK,dK,dK,dK,dK,dK,dK,dK,dK,dK,dK,dK,dK,dK,dK,dK,dK,dK,dK,dK,dK,dK,dK,dK,dK,dK,dK,dK,dK,dK,dK,dK,dK,dK]
noncomputable def lu:List Kd:=[.v (.ptr bg) (.o 61 (some 0) .k),dK,.v (.ptr ae) (.o 37 none (.p (.o 45 none (.p .k (.p .k (.p .k (.p .k (.p .k (.o 3 none .k))))))) (.p (.o 88 none (.p .k (.p .k (.o 3 none .k)))) (.p (.o 53 none .k) (.p (.o 3 none .k) (.p (.o 70 none .k) (.p (.o 121 none .k) .k))))))),.v (.ptr ae) (.o 37 none (.p (.o 45 none (.p .k (.p .k (.p .k (.p .k (.p .k (.o 3 none .k))))))) (.p (.o 88 none (.p .k (.p .k (.o 3 none .k)))) (.p (.o 53 none .k) (.p (.o 3 none .k) (.p (.o 70 none .k) (.p (.o 121 none .k) .k))))))),dK,.v (.int .i64) .k,dK,dK,dK,dK,dK,dK,dK,dK,dK,dK,dK,dK,dK,dK,dK,dK,dK,dK,dK,dK,dK,dK,dK,dK,dK,dK,dK,dK,dK,dK,dK,dK,dK,dK,dK,dK,dK,dK,dK,dK,dK,dK,dK,dK,dK,dK,dK,dK,dK,dK,dK,dK,dK,dK,dK,dK,dK,dK,dK,dK,dK,dK,dK,dK,dK,dK,dK,dK,dK,dK,dK,dK,dK,dK,dK,dK,dK,dK,dK,dK,dK,dK,dK,dK,dK,dK,dK,dK,dK]
noncomputable def xj:List Kd:=[.v (.ptr bg) (.o 61 (some 0) .k),dK,.v (.ptr ae) (.o 37 none (.p (.o 45 none (.p .k (.p .k (.p .k (.p .k (.p .k (.o 3 none .k))))))) (.p (.o 88 none (.p .k (.p .k (.o 3 none .k)))) (.p (.o 53 none .k) (.p (.o 3 none .k) (.p (.o 70 none .k) (.p (.o 121 none .k) .k))))))),.v (.ptr ae) (.o 37 none (.p (.o 45 none (.p .k (.p .k (.p .k (.p .k (.p .k (.o 3 none .k))))))) (.p (.o 88 none (.p .k (.p .k (.o 3 none .k)))) (.p (.o 53 none .k) (.p (.o 3 none .k) (.p (.o 70 none .k) (.p (.o 121 none .k) .k))))))),dK,dK,dK,dK,dK,dK,dK,dK,dK,dK,dK,dK,dK,dK,dK,dK,dK,dK,dK,dK,dK,dK,dK,dK,dK,dK,dK,dK,dK,dK,dK,dK,dK,dK,dK,dK,dK,dK,dK,dK,dK,dK,dK,dK,dK,dK,dK,dK,dK,dK,dK,dK,dK,dK,dK,dK,dK,dK,dK,dK,dK,dK,dK,dK,dK,dK,dK,dK,dK,dK,dK,dK,dK,dK,dK,dK,dK,dK,dK,dK,dK,dK,dK,dK,dK,dK,dK,dK,dK,dK,dK]
noncomputable def iX:List Kd:=[.v (.ptr bg) (.o 61 (some 0) .k),dK,.v (.ptr ae) (.o 37 none (.p (.o 45 none (.p .k (.p .k (.p .k (.p .k (.p .k (.o 3 none .k))))))) (.p (.o 88 none (.p .k (.p .k (.o 3 none .k)))) (.p (.o 53 none .k) (.p (.o 3 none .k) (.p (.o 70 none .k) (.p (.o 121 none .k) .k))))))),.v (.ptr ae) (.o 37 none (.p (.o 45 none (.p .k (.p .k (.p .k (.p .k (.p .k (.o 3 none .k))))))) (.p (.o 88 none (.p .k (.p .k (.o 3 none .k)))) (.p (.o 53 none .k) (.p (.o 3 none .k) (.p (.o 70 none .k) (.p (.o 121 none .k) .k))))))),dK,dK,.v (.int .i64) .k,dK,dK,dK,dK,dK,dK,dK,dK,dK,dK,dK,dK,dK,dK,dK,dK,dK,dK,dK,dK,dK,dK,dK,dK,dK,dK,dK,dK,dK,dK,dK,dK,dK,dK,dK,dK,dK,dK,dK,dK,dK,dK,dK,dK,dK,dK,dK,dK,dK,dK,dK,dK,dK,dK,dK,dK,dK,dK,dK,dK,dK,dK,dK,dK,dK,dK,dK,dK,dK,dK,dK,dK,dK,dK,dK,dK,dK,dK,dK,dK,dK,dK,dK,dK,dK,dK,dK,dK]
noncomputable def uF:List Kd:=[.v (.ptr bg) (.o 61 (some 0) .k),dK,.v (.ptr ae) (.o 37 none (.p (.o 45 none (.p .k (.p .k (.p .k (.p .k (.p .k (.o 3 none .k))))))) (.p (.o 88 none (.p .k (.p .k (.o 3 none .k)))) (.p (.o 53 none .k) (.p (.o 3 none .k) (.p (.o 70 none .k) (.p (.o 121 none .k) .k))))))),.v (.ptr ae) (.o 37 none (.p (.o 45 none (.p .k (.p .k (.p .k (.p .k (.p .k (.o 3 none .k))))))) (.p (.o 88 none (.p .k (.p .k (.o 3 none .k)))) (.p (.o 53 none .k) (.p (.o 3 none .k) (.p (.o 70 none .k) (.p (.o 121 none .k) .k))))))),dK,dK,dK,dK,dK,dK,dK,dK,dK,dK,dK,dK,dK,dK,dK,dK,dK,dK,dK,dK,dK,dK,dK,dK,dK,dK,dK,dK,dK,dK,dK,dK,dK,dK,dK,dK,dK,dK,dK,dK,dK,dK,dK,dK,dK,dK,dK,dK,dK,dK,dK,dK,dK,dK,dK,dK,dK,dK,dK,dK,dK,dK,dK,dK,dK,dK,dK,dK,dK,dK,dK,dK,dK,dK,dK,dK,dK,dK,dK,dK,dK,dK,dK,dK,dK,dK,dK,dK,dK,dK,dK]
noncomputable def qB:Hint:={ bA,hn:=[(69,.k)],loops:=[(3,lr),(7,lu),(11,iX)],outs:=[(3,2,xi),(7,4,xj),(11,6,uF)],bH:=[(9,(OT.seq [3,1,2] (.par [0,4,5] [[3,36]] (OT.seq [6,7,8,9,10] .done)))),(17,(OT.seq [6,1,2,4,5] (.par [0,3,7,8,9] [[62],[65],[69],[3,62],[7,54,55,63,64,65]] (OT.seq [10,11,12,13,14] .done))))],pv:=some (0,false) }
noncomputable def FP:List AK:=[.v (.ptr bg) (.o 61 (some 0) .k)]
noncomputable def aak (N:Nat) (x:ao FP) (kf:af→Option af):Option af:=S18 N x.1 (fun r0 z=>kf ⟨[⟨ae,(.p (.o 45 none (.p .k (.p .k (.p .k (.p .k (.p .k (.o 3 none .k))))))) (.p (.o 88 none (.p .k (.p .k (.o 3 none .k)))) (.p (.o 53 none .k) (.p (.o 3 none .k) (.p (.o 70 none .k) (.p (.o 121 none .k) .k)))))),r0⟩],[⟨(.ptr bg),(.o 61 (some 0) .k),z⟩]⟩)
noncomputable def Od (N:Nat):=aI FP (aak N)
noncomputable def Bl (N:Nat):List Entry:=[⟨27,[],(Ny N)⟩,⟨28,[.dA,.val],(gG N)⟩,⟨29,[.val,.val,.val],(NP N)⟩,⟨30,[.val,.val,.val],(NR N)⟩,⟨31,[.val],(N0 N)⟩,⟨32,[.val],(Oa N)⟩,⟨33,[.val],(FE N)⟩,⟨35,[.dA,.val],(qV N)⟩,⟨34,[.val,.val,.val,.val],(Oc N)⟩]
noncomputable def qC:Code:=match Tryz.f18.body with |some c=>c |none=>.skip
noncomputable def uG (N n:Nat) (key:Nat) (S:St) (K:Ks):Option af:=bif Nat.beq key 3 then aP lr S (fun x=>sL N x.2.1 n (fun z0 z1=>K (.x 0) (shape xi (z0,x.2.1,z1,()))) x.1 x.2.2.1 x.2.2.2.1) else bif Nat.beq key 7 then aP lu S (fun x=>sM N x.2.1 n (fun z0 z1=>K (.x 2) (shape xj (z0,x.2.1,z1,()))) x.1 x.2.2.1 x.2.2.2.1) else bif Nat.beq key 11 then aP iX S (fun x=>fY N x.2.1 n (fun z0 z1=>K (.x 4) (shape uF (z0,x.2.1,z1,()))) x.1 x.2.2.1 x.2.2.2.1) else none
theorem afe (N key:Nat) (S:St) (K:Ks):uG N 0 key S K=none:=(dm (aL fun _=>rfl) (dm (aL fun _=>rfl) (dm (aL fun _=>rfl) rfl)))
noncomputable def Oe:Code:=(ai qC).getD 0 .skip
noncomputable def Of:Code:=(ai qC).getD 1 .skip
noncomputable def Og:Code:=(ai qC).getD 2 .skip
theorem aff:ai qC=[Oe,Of,Og]:=by kernel_rfl
theorem PU (N n:Nat) (x:cj iX) (K:Ks):uG N (n+1) 11 (shape iX x) (qB.aH 11 K)=aX qB (bE.of (Bl N)) (cw (uG N) N n 11) Og (shape iX x) (qB.aH 11 K):=by kernel_rfl
theorem Vy (N n:Nat) (x:cj lu) (K:Ks):uG N (n+1) 7 (shape lu x) (qB.aH 7 K)=aX qB (bE.of (Bl N)) (cw (uG N) N n 7) Of (shape lu x) (qB.aH 7 K):=by kernel_rfl
theorem Vz (N n:Nat) (x:cj lr) (K:Ks):uG N (n+1) 3 (shape lr x) (qB.aH 3 K)=aX qB (bE.of (Bl N)) (cw (uG N) N n 3) Oe (shape lr x) (qB.aH 3 K):=by kernel_rfl
theorem afg (N:Nat) (x:ao FP) (kf:af→Option af):aak N x kf=aG qB (bE.of (Bl N)) (uG N N) Tryz.f18 (aB FP x) kf:=by kernel_rfl
theorem afh {Γ:Gl} (bh:bo Γ) (N:Nat):Sound Γ Tryz.prog 18 (Od N):=aA (hh:=qB) mixed aO (es:=Bl N) ⟨adv bh N,⟨l7 bh N,⟨aek bh N,⟨aeo bh N,⟨aeK bh N,⟨afa bh N,⟨Vo bh N,⟨AN bh N,⟨afd bh N,trivial⟩⟩⟩⟩⟩⟩⟩⟩⟩ (fn:=Tryz.f18) (body:=qC) (by kernel_rfl) (by kernel_rfl) (by kernel_rfl) (by kernel_rfl) (by kernel_rfl) (Lf:=uG N) (afe N) aff (aC (key:=3) (ks:=lr) (by kernel_rfl) (by kernel_rfl) (Vz N) (aC (key:=7) (ks:=lu) (by kernel_rfl) (by kernel_rfl) (Vy N) (aC (key:=11) (ks:=iX) (by kernel_rfl) (by kernel_rfl) (PU N) trivial))) (N:=N) (by kernel_rfl) (afg N) (.inl (by kernel_rfl))
noncomputable def aal:Hint:={ bA,hn:=[],loops:=[],outs:=[],bH:=[],pv:=some (0,false) }
noncomputable def Bm:List AK:=[.v (.ptr bg) (.o 61 (some 0) .k),.v (.int .i64) .k]
noncomputable def aam (N:Nat) (x:ao Bm) (kf:af→Option af):Option af:=YL N x.1 x.2.1 (fun r0 z=>kf ⟨[⟨.bool,.k,r0⟩],[⟨(.ptr bg),(.o 61 (some 0) .k),z⟩]⟩)
noncomputable def ye (N:Nat):=aI Bm (aam N)
noncomputable def VA (N:Nat):List Entry:=[⟨28,[.dA,.val],(gG N)⟩]
noncomputable def Jh:Code:=match Tryz.f19.body with |some c=>c |none=>.skip
theorem afi:ai Jh=[]:=by kernel_rfl
theorem afj (N:Nat) (x:ao Bm) (kf:af→Option af):aam N x kf=aG aal (bE.of (VA N)) (eo N N) Tryz.f19 (aB Bm x) kf:=by kernel_rfl
theorem LY {Γ:Gl} (bh:bo Γ) (N:Nat):Sound Γ Tryz.prog 19 (ye N):=aA (hh:=aal) mixed aO (es:=VA N) ⟨l7 bh N,trivial⟩ (fn:=Tryz.f19) (body:=Jh) (by kernel_rfl) (by kernel_rfl) (by kernel_rfl) (by kernel_rfl) (by kernel_rfl) (Lf:=eo N) (ep N) afi trivial (N:=N) (by kernel_rfl) (afj N) (.inl (by kernel_rfl))
noncomputable def aiM:Hint:={ bA,hn:=[(3,.k)],loops:=[],outs:=[],bH:=[(5,(OT.seq [0,1,2,3,4,5] .done))],frz:=[(0,[(2,[]),(3,[])]),(2,[(5,[.deref])]),(4,[(2,[]),(3,[])]),(5,[(2,[]),(3,[])])] }
noncomputable def Ji:List AK:=[.v (.sl (.int .u8)) .k]
noncomputable def aiN (N:Nat) (x:ao Ji) (kf:af→Option af):Option af:=S7 N x.1 (fun r0 r1=>kf ⟨[⟨(.sl fh),.k,r0⟩,⟨(.sl (.int .i64)),.k,r1⟩],[]⟩)
noncomputable def VB (N:Nat):=aI Ji (aiN N)
noncomputable def aan (N:Nat):List Entry:=[⟨17,[.val],(uw N)⟩,⟨18,[.dA],(Od N)⟩,⟨19,[.dA,.val],(ye N)⟩]
noncomputable def Oh:Code:=match Tryz.f7.body with |some c=>c |none=>.skip
theorem aiO:ai Oh=[]:=by kernel_rfl
theorem aiP (N:Nat) (x:ao Ji) (kf:af→Option af):aiN N x kf=aG aiM (bE.of (aan N)) (eo N N) Tryz.f7 (aB Ji x) kf:=by kernel_rfl
theorem aiQ {Γ:Gl} (bh:bo Γ) (N:Nat):Sound Γ Tryz.prog 7 (VB N):=aA (hh:=aiM) mixed aO (es:=aan N) ⟨Ew bh N,⟨afh bh N,⟨LY bh N,trivial⟩⟩⟩ (fn:=Tryz.f7) (body:=Oh) (by kernel_rfl) (by kernel_rfl) (by kernel_rfl) (by kernel_rfl) (by kernel_rfl) (Lf:=eo N) (ep N) aiO trivial (N:=N) (by kernel_rfl) (aiP N) (.inl (by kernel_rfl))
noncomputable def nN:List Kd:=[dK,.v (.sl (.int .i64)) .k,dK,dK,dK,.v (.sl .str) (.o 9 none .k),dK,dK,dK,dK,.v (.sl fh) .k,.v (.int .i64) .k,.v (.int .i64) .k,dK,dK,dK,dK,dK,dK,dK,dK,dK,dK,dK,dK,dK,dK,dK,dK,dK,dK,dK,dK,dK,dK,dK,dK,dK,dK,dK,dK,dK,dK]
noncomputable def Bn:List Kd:=[dK,dK,dK,dK,dK,.v (.sl .str) (.o 9 none .k),dK,dK,dK,dK,dK,dK,dK,dK,dK,dK,dK,dK,dK,dK,dK,dK,dK,dK,dK,dK,dK,dK,dK,dK,dK,dK,dK,dK,dK,dK,dK,dK,dK,dK,dK,dK,dK]
noncomputable def VC:Hint:={ bA,hn:=[],loops:=[(3,nN)],outs:=[(3,2,Bn)],bH:=[(8,(OT.seq [0,1,2,5,6,10,3,4,7,8,9,11,12,13,14] .done))] }
noncomputable def Jj:List AK:=[.v (.sl fh) .k,.v (.sl (.int .i64)) .k]
noncomputable def aiR (N:Nat) (x:ao Jj) (kf:af→Option af):Option af:=I8 N x.1 x.2.1 (fun r0=>kf ⟨[⟨.str,.k,r0⟩],[]⟩)
noncomputable def VE (N:Nat):=aI Jj (aiR N)
noncomputable def VF (N:Nat):List Entry:=[⟨15,[.val],(uz N)⟩,⟨16,[.val],(uA N)⟩]
noncomputable def FQ:Code:=match Tryz.f8.body with |some c=>c |none=>.skip
noncomputable def VG (N n:Nat) (key:Nat) (S:St) (K:Ks):Option af:=bif Nat.beq key 3 then aP nN S (fun x=>wc N x.1 x.2.2.1 x.2.2.2.1 n (fun z0=>K (.x 0) (shape Bn (z0,()))) x.2.1 x.2.2.2.2.1) else none
theorem aiS (N key:Nat) (S:St) (K:Ks):VG N 0 key S K=none:=(dm (aL fun _=>rfl) rfl)
noncomputable def VH:Code:=(ai FQ).getD 0 .skip
theorem aiT:ai FQ=[VH]:=by kernel_rfl
theorem XV (N n:Nat) (x:cj nN) (K:Ks):VG N (n+1) 3 (shape nN x) (VC.aH 3 K)=aX VC (bE.of (VF N)) (cw (VG N) N n 3) VH (shape nN x) (VC.aH 3 K):=by kernel_rfl
theorem aiU (N:Nat) (x:ao Jj) (kf:af→Option af):aiR N x kf=aG VC (bE.of (VF N)) (VG N N) Tryz.f8 (aB Jj x) kf:=by kernel_rfl
theorem aiV {Γ:Gl} (bh:bo Γ) (N:Nat):Sound Γ Tryz.prog 8 (VE N):=aA (hh:=VC) mixed aO (es:=VF N) ⟨EO bh N,⟨ER bh N,trivial⟩⟩ (fn:=Tryz.f8) (body:=FQ) (by kernel_rfl) (by kernel_rfl) (by kernel_rfl) (by kernel_rfl) (by kernel_rfl) (Lf:=VG N) (aiS N) aiT (aC (key:=3) (ks:=nN) (by kernel_rfl) (by kernel_rfl) (XV N) trivial) (N:=N) (by kernel_rfl) (aiU N) (.inl (by kernel_rfl))
noncomputable def lv:List Kd:=[.v (.ptr bg) (.o 61 (some 0) .k),dK,dK,.v (.sl b5) (.o 88 none (.p .k (.p .k (.o 3 none .k)))),.v (.int .i64) .k,dK,dK,dK,dK,dK,dK,dK,dK,dK,dK,dK,dK,dK,dK,dK,dK,dK,dK,dK,dK,dK,dK,dK,dK,dK,dK,dK,dK]
noncomputable def xk:List Kd:=[.v (.ptr bg) (.o 61 (some 0) .k),dK,dK,.v (.sl b5) (.o 88 none (.p .k (.p .k (.o 3 none .k)))),dK,dK,dK,dK,dK,dK,dK,dK,dK,dK,dK,dK,dK,dK,dK,dK,dK,dK,dK,dK,dK,dK,dK,dK,dK,dK,dK,dK,dK]
noncomputable def Jk:Hint:={ bA,hn:=[(6,(.p .k (.p .k (.o 3 none .k))))],loops:=[(3,lv)],outs:=[(3,2,xk)],bH:=[],pv:=some (0,false) }
noncomputable def Bo:List AK:=[.v (.ptr bg) (.o 61 (some 0) .k)]
noncomputable def aao (N:Nat) (x:ao Bo) (kf:af→Option af):Option af:=S59 N x.1 (fun r0 z=>kf ⟨[⟨(.sl b5),(.o 88 none (.p .k (.p .k (.o 3 none .k)))),r0⟩],[⟨(.ptr bg),(.o 61 (some 0) .k),z⟩]⟩)
noncomputable def FR (N:Nat):=aI Bo (aao N)
noncomputable def LZ (N:Nat):List Entry:=[⟨28,[.dA,.val],(gG N)⟩,⟨19,[.dA,.val],(ye N)⟩]
noncomputable def Bp:Code:=match Tryz.f59.body with |some c=>c |none=>.skip
noncomputable def Jl (N n:Nat) (key:Nat) (S:St) (K:Ks):Option af:=bif Nat.beq key 3 then aP lv S (fun x=>mT N n (fun z0 z1=>K (.x 0) (shape xk (z0,z1,()))) x.1 x.2.1 x.2.2.1) else none
theorem afk (N key:Nat) (S:St) (K:Ks):Jl N 0 key S K=none:=(dm (aL fun _=>rfl) rfl)
noncomputable def Oi:Code:=(ai Bp).getD 0 .skip
theorem afl:ai Bp=[Oi]:=by kernel_rfl
theorem VI (N n:Nat) (x:cj lv) (K:Ks):Jl N (n+1) 3 (shape lv x) (Jk.aH 3 K)=aX Jk (bE.of (LZ N)) (cw (Jl N) N n 3) Oi (shape lv x) (Jk.aH 3 K):=by kernel_rfl
theorem afm (N:Nat) (x:ao Bo) (kf:af→Option af):aao N x kf=aG Jk (bE.of (LZ N)) (Jl N N) Tryz.f59 (aB Bo x) kf:=by kernel_rfl
theorem VJ {Γ:Gl} (bh:bo Γ) (N:Nat):Sound Γ Tryz.prog 59 (FR N):=aA (hh:=Jk) mixed aO (es:=LZ N) ⟨l7 bh N,⟨LY bh N,trivial⟩⟩ (fn:=Tryz.f59) (body:=Bp) (by kernel_rfl) (by kernel_rfl) (by kernel_rfl) (by kernel_rfl) (by kernel_rfl) (Lf:=Jl N) (afk N) afl (aC (key:=3) (ks:=lv) (by kernel_rfl) (by kernel_rfl) (VI N) trivial) (N:=N) (by kernel_rfl) (afm N) (.inl (by kernel_rfl))
noncomputable def aap:Hint:={ bA,hn:=[(18,.k),(27,.k)],loops:=[],outs:=[],bH:=[],pv:=some (0,false) }
noncomputable def Bq:List AK:=[.v (.ptr bg) (.o 61 (some 0) .k)]
noncomputable def aaq (N:Nat) (x:ao Bq) (kf:af→Option af):Option af:=S61 N x.1 (fun r0 z=>kf ⟨[⟨(.sl b5),(.o 88 none (.p .k (.p .k (.o 3 none .k)))),r0⟩],[⟨(.ptr bg),(.o 61 (some 0) .k),z⟩]⟩)
noncomputable def Oj (N:Nat):=aI Bq (aaq N)
noncomputable def VK (N:Nat):List Entry:=[⟨59,[.dA],(FR N)⟩,⟨28,[.dA,.val],(gG N)⟩,⟨35,[.dA,.val],(qV N)⟩]
noncomputable def Jm:Code:=match Tryz.f61.body with |some c=>c |none=>.skip
theorem afn:ai Jm=[]:=by kernel_rfl
theorem afo (N:Nat) (x:ao Bq) (kf:af→Option af):aaq N x kf=aG aap (bE.of (VK N)) (eo N N) Tryz.f61 (aB Bq x) kf:=by kernel_rfl
theorem afp {Γ:Gl} (bh:bo Γ) (N:Nat):Sound Γ Tryz.prog 61 (Oj N):=aA (hh:=aap) mixed aO (es:=VK N) ⟨VJ bh N,⟨l7 bh N,⟨AN bh N,trivial⟩⟩⟩ (fn:=Tryz.f61) (body:=Jm) (by kernel_rfl) (by kernel_rfl) (by kernel_rfl) (by kernel_rfl) (by kernel_rfl) (Lf:=eo N) (ep N) afn trivial (N:=N) (by kernel_rfl) (afo N) (.inl (by kernel_rfl))
noncomputable def lx:List Kd:=[.v (.ptr bg) (.o 61 (some 0) .k),dK,dK,.v (.sl fc) (.o 121 none .k),.v (.int .i64) .k,dK,dK,dK,dK,dK,dK,dK,dK,dK,dK,dK,dK,dK,dK,dK,dK,dK,dK,dK,dK,dK,dK,dK,dK,dK,dK,dK,dK,dK,dK,dK,dK,dK,dK,dK,dK,dK,dK,dK,dK,dK,dK,dK,dK,dK,dK,dK,dK,dK,dK,dK,dK,dK,dK,dK,dK,dK,dK,dK,dK,dK]
noncomputable def xl:List Kd:=[.v (.ptr bg) (.o 61 (some 0) .k),dK,dK,.v (.sl fc) (.o 121 none .k),dK,dK,dK,dK,dK,dK,dK,dK,dK,dK,dK,dK,dK,dK,dK,dK,dK,dK,dK,dK,dK,dK,dK,dK,dK,dK,dK,dK,dK,dK,dK,dK,dK,dK,dK,dK,dK,dK,dK,dK,dK,dK,dK,dK,dK,dK,dK,dK,dK,dK,dK,dK,dK,dK,dK,dK,dK,dK,dK,dK,dK,dK]
noncomputable def Jn:Hint:={ bA,hn:=[(37,.k)],loops:=[(3,lx)],outs:=[(3,2,xl)],bH:=[],pv:=some (0,false) }
noncomputable def Br:List AK:=[.v (.ptr bg) (.o 61 (some 0) .k)]
noncomputable def aar (N:Nat) (x:ao Br) (kf:af→Option af):Option af:=S62 N x.1 (fun r0 z=>kf ⟨[⟨(.sl fc),(.o 121 none .k),r0⟩],[⟨(.ptr bg),(.o 61 (some 0) .k),z⟩]⟩)
noncomputable def Ok (N:Nat):=aI Br (aar N)
noncomputable def L0 (N:Nat):List Entry:=[⟨28,[.dA,.val],(gG N)⟩,⟨67,[.val,.val,.val],(E7 N)⟩,⟨35,[.dA,.val],(qV N)⟩]
noncomputable def Bs:Code:=match Tryz.f62.body with |some c=>c |none=>.skip
noncomputable def Jo (N n:Nat) (key:Nat) (S:St) (K:Ks):Option af:=bif Nat.beq key 3 then aP lx S (fun x=>vi N n (fun z0 z1=>K (.x 0) (shape xl (z0,z1,()))) x.1 x.2.1 x.2.2.1) else none
theorem afq (N key:Nat) (S:St) (K:Ks):Jo N 0 key S K=none:=(dm (aL fun _=>rfl) rfl)
noncomputable def Ol:Code:=(ai Bs).getD 0 .skip
theorem afr:ai Bs=[Ol]:=by kernel_rfl
theorem VL (N n:Nat) (x:cj lx) (K:Ks):Jo N (n+1) 3 (shape lx x) (Jn.aH 3 K)=aX Jn (bE.of (L0 N)) (cw (Jo N) N n 3) Ol (shape lx x) (Jn.aH 3 K):=by kernel_rfl
theorem afs (N:Nat) (x:ao Br) (kf:af→Option af):aar N x kf=aG Jn (bE.of (L0 N)) (Jo N N) Tryz.f62 (aB Br x) kf:=by kernel_rfl
theorem aft {Γ:Gl} (bh:bo Γ) (N:Nat):Sound Γ Tryz.prog 62 (Ok N):=aA (hh:=Jn) mixed aO (es:=L0 N) ⟨l7 bh N,⟨UO bh N,⟨AN bh N,trivial⟩⟩⟩ (fn:=Tryz.f62) (body:=Bs) (by kernel_rfl) (by kernel_rfl) (by kernel_rfl) (by kernel_rfl) (by kernel_rfl) (Lf:=Jo N) (afq N) afr (aC (key:=3) (ks:=lx) (by kernel_rfl) (by kernel_rfl) (VL N) trivial) (N:=N) (by kernel_rfl) (afs N) (.inl (by kernel_rfl))
noncomputable def VM:Hint:={ bA,hn:=[],loops:=[],outs:=[],bH:=[(7,(OT.seq [0,1] (.Mc 2 .done))),(8,(OT.seq [0,1,2,3] (.Mc 4 .done))),(10,(OT.seq [0,1,2,3,4,5,6,7] .done))],pv:=some (0,false),yl:=[6] }
noncomputable def vG:List AK:=[.v (.ptr bg) (.o 61 (some 0) .k)]
noncomputable def aas (N:Nat) (x:ao vG) (kf:af→Option af):Option af:=S36 N x.1 (fun r0 z=>kf ⟨[⟨ae,(.p (.o 45 none (.p .k (.p .k (.p .k (.p .k (.p .k (.o 3 none .k))))))) (.p (.o 88 none (.p .k (.p .k (.o 3 none .k)))) (.p (.o 53 none .k) (.p (.o 3 none .k) (.p (.o 70 none .k) (.p (.o 121 none .k) .k)))))),r0⟩],[⟨(.ptr bg),(.o 61 (some 0) .k),z⟩]⟩)
noncomputable def Om (N:Nat):=aI vG (aas N)
noncomputable def VN (N:Nat):List Entry:=[⟨39,[.dA],(EH N)⟩,⟨59,[.dA],(FR N)⟩,⟨60,[.val],(Fa N)⟩,⟨50,[.val],(Fz N)⟩,⟨51,[.val,.val,.val],(FB N)⟩,⟨19,[.dA,.val],(ye N)⟩,⟨28,[.dA,.val],(gG N)⟩,⟨24,[.dA],(EL N)⟩,⟨61,[.dA],(Oj N)⟩,⟨62,[.dA],(Ok N)⟩]
noncomputable def Jp:Code:=match Tryz.f36.body with |some c=>c |none=>.skip
theorem afu:ai Jp=[]:=by kernel_rfl
theorem XW (g0:mH) (g1:mI) (g2:xO) (g3:xP) (g4:xQ) (g5:xR) (g6:xS) (g7:mH) (g8:mI) (g9:xT) (N:Nat) (x:ao vG) (kf:af→Option af):Si g0 g1 g2 g3 g4 g5 g6 g7 g8 g9 N x.1 (fun r0 z=>kf ⟨[⟨ae,(.p (.o 45 none (.p .k (.p .k (.p .k (.p .k (.p .k (.o 3 none .k))))))) (.p (.o 88 none (.p .k (.p .k (.o 3 none .k)))) (.p (.o 53 none .k) (.p (.o 3 none .k) (.p (.o 70 none .k) (.p (.o 121 none .k) .k)))))),r0⟩],[⟨(.ptr bg),(.o 61 (some 0) .k),z⟩]⟩)=aG VM (bE.of [⟨39,[.dA],(aI AL (fun x kf=>g0 N x.1 (fun r0 z=>kf ⟨[⟨(.sl aq),(.o 45 none (.p .k (.p .k (.p .k (.p .k (.p .k (.o 3 none .k))))))),r0⟩],[⟨(.ptr bg),(.o 61 (some 0) .k),z⟩]⟩)))⟩,⟨59,[.dA],(aI Bo (fun x kf=>g1 N x.1 (fun r0 z=>kf ⟨[⟨(.sl b5),(.o 88 none (.p .k (.p .k (.o 3 none .k)))),r0⟩],[⟨(.ptr bg),(.o 61 (some 0) .k),z⟩]⟩)))⟩,⟨60,[.val],(aI AW (fun x kf=>g2 N x.1 (fun r0=>kf ⟨[⟨(.int .i64),.k,r0⟩],[]⟩)))⟩,⟨50,[.val],(aI Bc (fun x kf=>g3 N x.1 (fun r0 r1=>kf ⟨[⟨(.sl fh),(.o 53 none .k),r0⟩,⟨.bool,.k,r1⟩],[]⟩)))⟩,⟨51,[.val,.val,.val],(aI Be (fun x kf=>g4 N x.1 x.2.1 x.2.2.1 (fun r0 r1=>kf ⟨[⟨(.sl (.int .i64)),(.o 3 none .k),r0⟩,⟨.bool,.k,r1⟩],[]⟩)))⟩,⟨19,[.dA,.val],(aI Bm (fun x kf=>g5 N x.1 x.2.1 (fun r0 z=>kf ⟨[⟨.bool,.k,r0⟩],[⟨(.ptr bg),(.o 61 (some 0) .k),z⟩]⟩)))⟩,⟨28,[.dA,.val],(aI AF (fun x kf=>g6 N x.1 x.2.1 (fun r0 z=>kf ⟨[⟨(.int .i64),.k,r0⟩],[⟨(.ptr bg),(.o 61 (some 0) .k),z⟩]⟩)))⟩,⟨24,[.dA],(aI AO (fun x kf=>g7 N x.1 (fun r0 z=>kf ⟨[⟨(.sl aq),(.o 45 none (.p .k (.p .k (.p .k (.p .k (.p .k (.o 3 none .k))))))),r0⟩],[⟨(.ptr bg),(.o 61 (some 0) .k),z⟩]⟩)))⟩,⟨61,[.dA],(aI Bq (fun x kf=>g8 N x.1 (fun r0 z=>kf ⟨[⟨(.sl b5),(.o 88 none (.p .k (.p .k (.o 3 none .k)))),r0⟩],[⟨(.ptr bg),(.o 61 (some 0) .k),z⟩]⟩)))⟩,⟨62,[.dA],(aI Br (fun x kf=>g9 N x.1 (fun r0 z=>kf ⟨[⟨(.sl fc),(.o 121 none .k),r0⟩],[⟨(.ptr bg),(.o 61 (some 0) .k),z⟩]⟩)))⟩]) (fun key S K=>none) Tryz.f36 (aB vG x) kf:=by kernel_rfl
theorem afv (N:Nat) (x:ao vG) (kf:af→Option af):aas N x kf=aG VM (bE.of (VN N)) (eo N N) Tryz.f36 (aB vG x) kf:=XW S39 S59 YA YG Xh YL mg S24 S61 S62 N x kf
theorem afw {Γ:Gl} (bh:bo Γ) (N:Nat):Sound Γ Tryz.prog 36 (Om N):=aA (hh:=VM) mixed aO (es:=VN N) ⟨Ui bh N,⟨VJ bh N,⟨US bh N,⟨Vh bh N,⟨Vl bh N,⟨LY bh N,⟨l7 bh N,⟨Ul bh N,⟨afp bh N,⟨aft bh N,trivial⟩⟩⟩⟩⟩⟩⟩⟩⟩⟩ (fn:=Tryz.f36) (body:=Jp) (by kernel_rfl) (by kernel_rfl) (by kernel_rfl) (by kernel_rfl) (by kernel_rfl) (Lf:=eo N) (ep N) afu trivial (N:=N) (by kernel_rfl) (afv N) (.inl (by kernel_rfl))
noncomputable def aat:Hint:={ bA,hn:=[],loops:=[],outs:=[],bH:=[] }
noncomputable def FT:List AK:=[.v (.sl (.int .u8)) .k]
noncomputable def aau (N:Nat) (x:ao FT) (kf:af→Option af):Option af:=S21 N x.1 (fun r0=>kf ⟨[⟨ae,(.p (.o 45 none (.p .k (.p .k (.p .k (.p .k (.p .k (.o 3 none .k))))))) (.p (.o 88 none (.p .k (.p .k (.o 3 none .k)))) (.p (.o 53 none .k) (.p (.o 3 none .k) (.p (.o 70 none .k) (.p (.o 121 none .k) .k)))))),r0⟩],[]⟩)
noncomputable def On (N:Nat):=aI FT (aau N)
noncomputable def VO (N:Nat):List Entry:=[⟨17,[.val],(uw N)⟩,⟨36,[.dA],(Om N)⟩]
noncomputable def Jq:Code:=match Tryz.f21.body with |some c=>c |none=>.skip
theorem afx:ai Jq=[]:=by kernel_rfl
theorem afy (N:Nat) (x:ao FT) (kf:af→Option af):aau N x kf=aG aat (bE.of (VO N)) (eo N N) Tryz.f21 (aB FT x) kf:=by kernel_rfl
theorem afz {Γ:Gl} (bh:bo Γ) (N:Nat):Sound Γ Tryz.prog 21 (On N):=aA (hh:=aat) mixed aO (es:=VO N) ⟨Ew bh N,⟨afw bh N,trivial⟩⟩ (fn:=Tryz.f21) (body:=Jq) (by kernel_rfl) (by kernel_rfl) (by kernel_rfl) (by kernel_rfl) (by kernel_rfl) (Lf:=eo N) (ep N) afx trivial (N:=N) (by kernel_rfl) (afy N) (.inl (by kernel_rfl))
noncomputable def aav:Hint:={ bA,hn:=[],loops:=[],outs:=[],bH:=[] }
noncomputable def Bt:List AK:=[.v (.sl (.int .u8)) .k]
noncomputable def aaw (N:Nat) (x:ao Bt) (kf:af→Option af):Option af:=S10 N x.1 (fun r0=>kf ⟨[⟨ae,(.p (.o 45 none (.p .k (.p .k (.p .k (.p .k (.p .k (.o 3 none .k))))))) (.p (.o 88 none (.p .k (.p .k (.o 3 none .k)))) (.p (.o 53 none .k) (.p (.o 3 none .k) (.p (.o 70 none .k) (.p (.o 121 none .k) .k)))))),r0⟩],[]⟩)
noncomputable def Oo (N:Nat):=aI Bt (aaw N)
noncomputable def VP (N:Nat):List Entry:=[⟨21,[.val],(On N)⟩]
noncomputable def Jr:Code:=match Tryz.f10.body with |some c=>c |none=>.skip
theorem afA:ai Jr=[]:=by kernel_rfl
theorem afB (N:Nat) (x:ao Bt) (kf:af→Option af):aaw N x kf=aG aav (bE.of (VP N)) (eo N N) Tryz.f10 (aB Bt x) kf:=by kernel_rfl
theorem afC {Γ:Gl} (bh:bo Γ) (N:Nat):Sound Γ Tryz.prog 10 (Oo N):=aA (hh:=aav) mixed aO (es:=VP N) ⟨afz bh N,trivial⟩ (fn:=Tryz.f10) (body:=Jr) (by kernel_rfl) (by kernel_rfl) (by kernel_rfl) (by kernel_rfl) (by kernel_rfl) (Lf:=eo N) (ep N) afA trivial (N:=N) (by kernel_rfl) (afB N) (.inl (by kernel_rfl))
noncomputable def ly:List Kd:=[dK,dK,dK,.v (.sl (.int .i64)) (.o 3 none .k),dK,dK,dK,dK,.v (.sl bI) .k,.v (.int .i64) .k,.v (.int .i64) .k,dK,dK,dK,dK,dK,dK,dK,dK,dK,dK,dK,dK,dK]
noncomputable def xm:List Kd:=[dK,dK,dK,.v (.sl (.int .i64)) (.o 3 none .k),dK,dK,dK,dK,dK,dK,dK,dK,dK,dK,dK,dK,dK,dK,dK,dK,dK,dK,dK,dK]
noncomputable def Js:Hint:={ bA,hn:=[],loops:=[(3,ly)],outs:=[(3,2,xm)],bH:=[] }
noncomputable def FU:List AK:=[.v ae .k]
noncomputable def aax (N:Nat) (x:ao FU) (kf:af→Option af):Option af:=I20 N x.1 (fun r0=>kf ⟨[⟨(.sl (.int .i64)),(.o 3 none .k),r0⟩],[]⟩)
noncomputable def Oq (N:Nat):=aI FU (aax N)
noncomputable def L1 (N:Nat):List Entry:=[]
noncomputable def Bu:Code:=match Tryz.f20.body with |some c=>c |none=>.skip
noncomputable def Jt (N n:Nat) (key:Nat) (S:St) (K:Ks):Option af:=bif Nat.beq key 3 then aP ly S (fun x=>qa x.2.1 x.2.2.1 n (fun z0=>K (.x 0) (shape xm (z0,()))) x.1 x.2.2.2.1) else none
theorem afD (N key:Nat) (S:St) (K:Ks):Jt N 0 key S K=none:=(dm (aL fun _=>rfl) rfl)
noncomputable def Ot:Code:=(ai Bu).getD 0 .skip
theorem afE:ai Bu=[Ot]:=by kernel_rfl
theorem VQ (N n:Nat) (x:cj ly) (K:Ks):Jt N (n+1) 3 (shape ly x) (Js.aH 3 K)=aX Js (bE.of (L1 N)) (cw (Jt N) N n 3) Ot (shape ly x) (Js.aH 3 K):=by kernel_rfl
theorem afF (N:Nat) (x:ao FU) (kf:af→Option af):aax N x kf=aG Js (bE.of (L1 N)) (Jt N N) Tryz.f20 (aB FU x) kf:=by kernel_rfl
theorem afG {Γ:Gl} (bh:bo Γ) (N:Nat):Sound Γ Tryz.prog 20 (Oq N):=aA (hh:=Js) mixed aO (es:=L1 N) trivial (fn:=Tryz.f20) (body:=Bu) (by kernel_rfl) (by kernel_rfl) (by kernel_rfl) (by kernel_rfl) (by kernel_rfl) (Lf:=Jt N) (afD N) afE (aC (key:=3) (ks:=ly) (by kernel_rfl) (by kernel_rfl) (VQ N) trivial) (N:=N) (by kernel_rfl) (afF N) (.inl (by kernel_rfl))
noncomputable def lz:List Kd:=[dK,dK,dK,.v (.sl .str) (.o 9 none .k),dK,dK,dK,.v (.sl (.int .i64)) .k,.v (.int .i64) .k,.v (.int .i64) .k,dK,dK,dK,dK,dK,dK,dK,dK,dK,dK,dK]
noncomputable def xn:List Kd:=[dK,dK,dK,.v (.sl .str) (.o 9 none .k),dK,dK,dK,dK,dK,dK,dK,dK,dK,dK,dK,dK,dK,dK,dK,dK,dK]
noncomputable def Ju:Hint:={ bA,hn:=[],loops:=[(3,lz)],outs:=[(3,2,xn)],bH:=[] }
noncomputable def Bv:List AK:=[.v (.sl (.int .i64)) .k]
noncomputable def aay (N:Nat) (x:ao Bv) (kf:af→Option af):Option af:=I12 N x.1 (fun r0=>kf ⟨[⟨.str,.k,r0⟩],[]⟩)
noncomputable def FV (N:Nat):=aI Bv (aay N)
noncomputable def L2 (N:Nat):List Entry:=[⟨15,[.val],(uz N)⟩,⟨16,[.val],(uA N)⟩]
noncomputable def Bw:Code:=match Tryz.f12.body with |some c=>c |none=>.skip
noncomputable def Jv (N n:Nat) (key:Nat) (S:St) (K:Ks):Option af:=bif Nat.beq key 3 then aP lz S (fun x=>sO N x.2.1 x.2.2.1 n (fun z0=>K (.x 0) (shape xn (z0,()))) x.1 x.2.2.2.1) else none
theorem afH (N key:Nat) (S:St) (K:Ks):Jv N 0 key S K=none:=(dm (aL fun _=>rfl) rfl)
noncomputable def Ou:Code:=(ai Bw).getD 0 .skip
theorem afI:ai Bw=[Ou]:=by kernel_rfl
theorem VR (N n:Nat) (x:cj lz) (K:Ks):Jv N (n+1) 3 (shape lz x) (Ju.aH 3 K)=aX Ju (bE.of (L2 N)) (cw (Jv N) N n 3) Ou (shape lz x) (Ju.aH 3 K):=by kernel_rfl
theorem afJ (N:Nat) (x:ao Bv) (kf:af→Option af):aay N x kf=aG Ju (bE.of (L2 N)) (Jv N N) Tryz.f12 (aB Bv x) kf:=by kernel_rfl
theorem VS {Γ:Gl} (bh:bo Γ) (N:Nat):Sound Γ Tryz.prog 12 (FV N):=aA (hh:=Ju) mixed aO (es:=L2 N) ⟨EO bh N,⟨ER bh N,trivial⟩⟩ (fn:=Tryz.f12) (body:=Bw) (by kernel_rfl) (by kernel_rfl) (by kernel_rfl) (by kernel_rfl) (by kernel_rfl) (Lf:=Jv N) (afH N) afI (aC (key:=3) (ks:=lz) (by kernel_rfl) (by kernel_rfl) (VR N) trivial) (N:=N) (by kernel_rfl) (afJ N) (.inl (by kernel_rfl))
noncomputable def aiW:Hint:={ bA,hn:=[],loops:=[],outs:=[],bH:=[(1,(OT.seq [0,1,2,3,4,5,6,7,8,9,12,13,14,15,16,10,11,17,18,19] .done))] }
noncomputable def Jw:List AK:=[.v ae .k]
noncomputable def aiX (N:Nat) (x:ao Jw) (kf:af→Option af):Option af:=I9 N x.1 (fun r0=>kf ⟨[⟨.str,.k,r0⟩],[]⟩)
noncomputable def VT (N:Nat):=aI Jw (aiX N)
noncomputable def aaz (N:Nat):List Entry:=[⟨20,[.val],(Oq N)⟩,⟨12,[.val],(FV N)⟩]
noncomputable def Ov:Code:=match Tryz.f9.body with |some c=>c |none=>.skip
theorem aiY:ai Ov=[]:=by kernel_rfl
theorem aiZ (N:Nat) (x:ao Jw) (kf:af→Option af):aiX N x kf=aG aiW (bE.of (aaz N)) (eo N N) Tryz.f9 (aB Jw x) kf:=by kernel_rfl
theorem ai0 {Γ:Gl} (bh:bo Γ) (N:Nat):Sound Γ Tryz.prog 9 (VT N):=aA (hh:=aiW) mixed aO (es:=aaz N) ⟨afG bh N,⟨VS bh N,trivial⟩⟩ (fn:=Tryz.f9) (body:=Ov) (by kernel_rfl) (by kernel_rfl) (by kernel_rfl) (by kernel_rfl) (by kernel_rfl) (Lf:=eo N) (ep N) aiY trivial (N:=N) (by kernel_rfl) (aiZ N) (.inl (by kernel_rfl))
noncomputable def lA:List Kd:=[.v (.sl bI) .k,dK,dK,.v (.int .i64) .k,dK,dK,dK,dK,dK,dK,dK,dK,dK,dK,dK,dK,dK,dK,dK,dK,dK,dK,dK,dK,dK,dK,dK,dK,dK,dK,dK,dK,dK,dK,dK,dK,dK,dK,dK,dK,dK,dK,dK,dK,dK,dK,dK,dK,dK,dK,dK,dK,dK,dK,dK,dK]
noncomputable def xo:List Kd:=[.v (.sl bI) .k,dK,dK,dK,dK,dK,dK,dK,dK,dK,dK,dK,dK,dK,dK,dK,dK,dK,dK,dK,dK,dK,dK,dK,dK,dK,dK,dK,dK,dK,dK,dK,dK,dK,dK,dK,dK,dK,dK,dK,dK,dK,dK,dK,dK,dK,dK,dK,dK,dK,dK,dK,dK,dK,dK,dK]
noncomputable def xp:List Kd:=[dK,dK,.v .bool .k,dK,dK,dK,dK,dK,dK,dK,dK,dK,dK,dK,dK,dK,dK,dK,dK,dK,dK,dK,dK,dK,dK,dK,dK,dK,dK,dK,dK,dK,dK,dK,dK,dK,dK,dK,dK,dK,dK,dK,dK,dK,dK,dK,dK,dK,dK,dK,dK,dK,dK,dK,dK,dK]
noncomputable def Jx:Hint:={ bA,hn:=[],loops:=[(2,lA)],outs:=[(2,2,xo),(2,1,xp)],bH:=[(4,(OT.seq [0,1,2,3,4,5,6,7,8,9,10,11,12,13,14,15,16,17,18,19,20,21,22,23,24,25,26,27,28,29,30,31,32,33,34,35,36,37,38,39,40,41,42] .done))] }
noncomputable def FW:List AK:=[.v (.sl bI) .k]
noncomputable def aaA (N:Nat) (x:ao FW) (kf:af→Option af):Option af:=YO N x.1 (fun r0=>kf ⟨[⟨.bool,.k,r0⟩],[]⟩)
noncomputable def FX (N:Nat):=aI FW (aaA N)
noncomputable def L5 (N:Nat):List Entry:=[⟨57,[.val,.val,.val],(iv N)⟩]
noncomputable def Bx:Code:=match Tryz.f97.body with |some c=>c |none=>.skip
noncomputable def Jy (N n:Nat) (key:Nat) (S:St) (K:Ks):Option af:=bif Nat.beq key 2 then aP lA S (fun x=>qb N x.1 n (K (.x 0) (shape xo (x.1,()))) (fun z0=>K .r (shape xp (z0,()))) x.2.1) else none
theorem afK (N key:Nat) (S:St) (K:Ks):Jy N 0 key S K=none:=(dm (aL fun _=>rfl) rfl)
noncomputable def Ow:Code:=(ai Bx).getD 0 .skip
theorem afL:ai Bx=[Ow]:=by kernel_rfl
theorem VU (N n:Nat) (x:cj lA) (K:Ks):Jy N (n+1) 2 (shape lA x) (Jx.aH 2 K)=aX Jx (bE.of (L5 N)) (cw (Jy N) N n 2) Ow (shape lA x) (Jx.aH 2 K):=by kernel_rfl
theorem afM (N:Nat) (x:ao FW) (kf:af→Option af):aaA N x kf=aG Jx (bE.of (L5 N)) (Jy N N) Tryz.f97 (aB FW x) kf:=by kernel_rfl
theorem VV {Γ:Gl} (bh:bo Γ) (N:Nat):Sound Γ Tryz.prog 97 (FX N):=aA (hh:=Jx) mixed aO (es:=L5 N) ⟨nb bh N,trivial⟩ (fn:=Tryz.f97) (body:=Bx) (by kernel_rfl) (by kernel_rfl) (by kernel_rfl) (by kernel_rfl) (by kernel_rfl) (Lf:=Jy N) (afK N) afL (aC (key:=2) (ks:=lA) (by kernel_rfl) (by kernel_rfl) (VU N) trivial) (N:=N) (by kernel_rfl) (afM N) (.inl (by kernel_rfl))
noncomputable def lB:List Kd:=[.v (.sl bI) .k,.v (.int .i64) .k,.v (.int .i64) .k,dK,dK,dK,dK,dK,.v (.int .i64) .k,dK,dK,dK,dK,dK,dK,dK,dK,dK,dK,dK,dK,dK,dK,dK,dK,dK,dK,dK,dK,dK,dK,dK,dK,dK,dK,dK,dK,dK,dK,dK,dK,dK,dK,dK,dK,dK]
noncomputable def xq:List Kd:=[.v (.sl bI) .k,.v (.int .i64) .k,.v (.int .i64) .k,dK,dK,dK,dK,dK,.v (.int .i64) .k,dK,dK,dK,dK,dK,dK,dK,dK,dK,dK,dK,dK,dK,dK,dK,dK,dK,dK,dK,dK,dK,dK,dK,dK,dK,dK,dK,dK,dK,dK,dK,dK,dK,dK,dK,dK,dK]
noncomputable def Jz:Hint:={ bA,hn:=[],loops:=[(2,lB)],outs:=[(2,2,xq)],bH:=[(4,(OT.seq [1,2,3,5,6,7,10,11,12] (.any [0,4,8] (OT.seq [9,13,14] .done))))] }
noncomputable def FY:List AK:=[.v (.sl bI) .k,.v (.int .i64) .k,.v (.int .i64) .k]
noncomputable def aaB (N:Nat) (x:ao FY) (kf:af→Option af):Option af:=S81 N x.1 x.2.1 x.2.2.1 (fun r0 r1=>kf ⟨[⟨(.sl bI),(.o 56 none .k),r0⟩,⟨.bool,.k,r1⟩],[]⟩)
noncomputable def Ox (N:Nat):=aI FY (aaB N)
noncomputable def L6 (N:Nat):List Entry:=[⟨97,[.val],(FX N)⟩]
noncomputable def By:Code:=match Tryz.f81.body with |some c=>c |none=>.skip
noncomputable def JA (N n:Nat) (key:Nat) (S:St) (K:Ks):Option af:=bif Nat.beq key 2 then aP lB S (fun x=>qc x.1 x.2.1 x.2.2.1 n (fun z0=>K (.x 0) (shape xq (x.1,x.2.1,x.2.2.1,z0,()))) x.2.2.2.1) else none
theorem afN (N key:Nat) (S:St) (K:Ks):JA N 0 key S K=none:=(dm (aL fun _=>rfl) rfl)
noncomputable def Oy:Code:=(ai By).getD 0 .skip
theorem afO:ai By=[Oy]:=by kernel_rfl
theorem VW (N n:Nat) (x:cj lB) (K:Ks):JA N (n+1) 2 (shape lB x) (Jz.aH 2 K)=aX Jz (bE.of (L6 N)) (cw (JA N) N n 2) Oy (shape lB x) (Jz.aH 2 K):=by kernel_rfl
theorem afP (N:Nat) (x:ao FY) (kf:af→Option af):aaB N x kf=aG Jz (bE.of (L6 N)) (JA N N) Tryz.f81 (aB FY x) kf:=by kernel_rfl
theorem afQ {Γ:Gl} (bh:bo Γ) (N:Nat):Sound Γ Tryz.prog 81 (Ox N):=aA (hh:=Jz) mixed aO (es:=L6 N) ⟨VV bh N,trivial⟩ (fn:=Tryz.f81) (body:=By) (by kernel_rfl) (by kernel_rfl) (by kernel_rfl) (by kernel_rfl) (by kernel_rfl) (Lf:=JA N) (afN N) afO (aC (key:=2) (ks:=lB) (by kernel_rfl) (by kernel_rfl) (VW N) trivial) (N:=N) (by kernel_rfl) (afP N) (.inl (by kernel_rfl))
noncomputable def lC:List Kd:=[.v (.sl bI) .k,.v (.int .i64) .k,.v (.int .i64) .k,.v (.int .i64) .k,dK,dK,dK,dK,dK,dK,.v (.sl bI) (.o 56 none .k),.v (.int .i64) .k,dK,dK,dK,dK,dK,dK,dK,dK,dK,dK,dK,dK,dK,dK,dK,dK,dK,dK,dK,dK,dK,dK,dK,dK,dK,dK,dK,dK,dK,dK,dK,dK,dK,dK,dK,dK,dK,dK,dK,dK,dK,dK,dK,dK,dK,dK,dK,dK,dK,dK,dK,dK,dK,dK,dK,dK,dK,dK,dK,dK,dK,dK,dK,dK,dK,dK,dK]
noncomputable def xr:List Kd:=[dK,dK,dK,dK,dK,dK,dK,dK,dK,dK,.v (.sl bI) (.o 56 none .k),dK,dK,dK,dK,dK,dK,dK,dK,dK,dK,dK,dK,dK,dK,dK,dK,dK,dK,dK,dK,dK,dK,dK,dK,dK,dK,dK,dK,dK,dK,dK,dK,dK,dK,dK,dK,dK,dK,dK,dK,dK,dK,dK,dK,dK,dK,dK,dK,dK,dK,dK,dK,dK,dK,dK,dK,dK,dK,dK,dK,dK,dK,dK,dK,dK,dK,dK,dK]
noncomputable def xt:List Kd:=[dK,dK,dK,dK,dK,dK,dK,dK,.v (.sl bI) (.o 56 none .k),.v .bool .k,dK,dK,dK,dK,dK,dK,dK,dK,dK,dK,dK,dK,dK,dK,dK,dK,dK,dK,dK,dK,dK,dK,dK,dK,dK,dK,dK,dK,dK,dK,dK,dK,dK,dK,dK,dK,dK,dK,dK,dK,dK,dK,dK,dK,dK,dK,dK,dK,dK,dK,dK,dK,dK,dK,dK,dK,dK,dK,dK,dK,dK,dK,dK,dK,dK,dK,dK,dK,dK]
noncomputable def JB:Hint:={ bA,hn:=[],loops:=[(3,lC)],outs:=[(3,2,xr),(3,1,xt)],bH:=[] }
noncomputable def FZ:List AK:=[.v (.sl bI) .k,.v (.int .i64) .k,.v (.int .i64) .k,.v (.int .i64) .k]
noncomputable def aaC (N:Nat) (x:ao FZ) (kf:af→Option af):Option af:=S82 N x.1 x.2.1 x.2.2.1 x.2.2.2.1 (fun r0 r1=>kf ⟨[⟨(.sl bI),(.o 56 none .k),r0⟩,⟨.bool,.k,r1⟩],[]⟩)
noncomputable def Oz (N:Nat):=aI FZ (aaC N)
noncomputable def L8 (N:Nat):List Entry:=[⟨97,[.val],(FX N)⟩,⟨57,[.val,.val,.val],(iv N)⟩]
noncomputable def Bz:Code:=match Tryz.f82.body with |some c=>c |none=>.skip
noncomputable def JC (N n:Nat) (key:Nat) (S:St) (K:Ks):Option af:=bif Nat.beq key 3 then aP lC S (fun x=>lX N x.1 x.2.1 x.2.2.1 x.2.2.2.1 x.2.2.2.2.1 n (K (.x 0) (shape xr (x.2.2.2.2.1,()))) (fun z0 z1=>K .r (shape xt (z0,z1,()))) x.2.2.2.2.2.1) else none
theorem afR (N key:Nat) (S:St) (K:Ks):JC N 0 key S K=none:=(dm (aL fun _=>rfl) rfl)
noncomputable def OA:Code:=(ai Bz).getD 0 .skip
theorem afS:ai Bz=[OA]:=by kernel_rfl
theorem VX (N n:Nat) (x:cj lC) (K:Ks):JC N (n+1) 3 (shape lC x) (JB.aH 3 K)=aX JB (bE.of (L8 N)) (cw (JC N) N n 3) OA (shape lC x) (JB.aH 3 K):=by kernel_rfl
theorem afT (N:Nat) (x:ao FZ) (kf:af→Option af):aaC N x kf=aG JB (bE.of (L8 N)) (JC N N) Tryz.f82 (aB FZ x) kf:=by kernel_rfl
theorem afU {Γ:Gl} (bh:bo Γ) (N:Nat):Sound Γ Tryz.prog 82 (Oz N):=aA (hh:=JB) mixed aO (es:=L8 N) ⟨VV bh N,⟨nb bh N,trivial⟩⟩ (fn:=Tryz.f82) (body:=Bz) (by kernel_rfl) (by kernel_rfl) (by kernel_rfl) (by kernel_rfl) (by kernel_rfl) (Lf:=JC N) (afR N) afS (aC (key:=3) (ks:=lC) (by kernel_rfl) (by kernel_rfl) (VX N) trivial) (N:=N) (by kernel_rfl) (afT N) (.inl (by kernel_rfl))
noncomputable def lD:List Kd:=[.v (.ptr bg) (.o 61 (some 0) .k),dK,dK,.v (.sl bI) (.o 56 none .k),.v (.int .i64) .k,dK,dK,dK,dK,dK,dK,dK,dK,dK,dK,dK,dK,dK,dK,dK,dK,dK,dK,dK,dK,dK,dK,dK,dK,dK,dK,dK,dK,dK,dK,dK,dK,dK]
noncomputable def xu:List Kd:=[.v (.ptr bg) (.o 61 (some 0) .k),dK,dK,.v (.sl bI) (.o 56 none .k),dK,dK,dK,dK,dK,dK,dK,dK,dK,dK,dK,dK,dK,dK,dK,dK,dK,dK,dK,dK,dK,dK,dK,dK,dK,dK,dK,dK,dK,dK,dK,dK,dK,dK]
noncomputable def JD:Hint:={ bA,hn:=[],loops:=[(3,lD)],outs:=[(3,2,xu)],bH:=[],pv:=some (0,false) }
noncomputable def F0:List AK:=[.v (.ptr bg) (.o 61 (some 0) .k)]
noncomputable def aaD (N:Nat) (x:ao F0) (kf:af→Option af):Option af:=S63 N x.1 (fun r0 z=>kf ⟨[⟨(.sl bI),(.o 56 none .k),r0⟩],[⟨(.ptr bg),(.o 61 (some 0) .k),z⟩]⟩)
noncomputable def OB (N:Nat):=aI F0 (aaD N)
noncomputable def L9 (N:Nat):List Entry:=[⟨28,[.dA,.val],(gG N)⟩,⟨81,[.val,.val,.val],(Ox N)⟩,⟨82,[.val,.val,.val,.val],(Oz N)⟩]
noncomputable def BA:Code:=match Tryz.f63.body with |some c=>c |none=>.skip
noncomputable def JE (N n:Nat) (key:Nat) (S:St) (K:Ks):Option af:=bif Nat.beq key 3 then aP lD S (fun x=>vk N n (fun z0 z1=>K (.x 0) (shape xu (z0,z1,()))) x.1 x.2.1 x.2.2.1) else none
theorem afV (N key:Nat) (S:St) (K:Ks):JE N 0 key S K=none:=(dm (aL fun _=>rfl) rfl)
noncomputable def OC:Code:=(ai BA).getD 0 .skip
theorem afW:ai BA=[OC]:=by kernel_rfl
theorem VY (N n:Nat) (x:cj lD) (K:Ks):JE N (n+1) 3 (shape lD x) (JD.aH 3 K)=aX JD (bE.of (L9 N)) (cw (JE N) N n 3) OC (shape lD x) (JD.aH 3 K):=by kernel_rfl
theorem afX (N:Nat) (x:ao F0) (kf:af→Option af):aaD N x kf=aG JD (bE.of (L9 N)) (JE N N) Tryz.f63 (aB F0 x) kf:=by kernel_rfl
theorem afY {Γ:Gl} (bh:bo Γ) (N:Nat):Sound Γ Tryz.prog 63 (OB N):=aA (hh:=JD) mixed aO (es:=L9 N) ⟨l7 bh N,⟨afQ bh N,⟨afU bh N,trivial⟩⟩⟩ (fn:=Tryz.f63) (body:=BA) (by kernel_rfl) (by kernel_rfl) (by kernel_rfl) (by kernel_rfl) (by kernel_rfl) (Lf:=JE N) (afV N) afW (aC (key:=3) (ks:=lD) (by kernel_rfl) (by kernel_rfl) (VY N) trivial) (N:=N) (by kernel_rfl) (afX N) (.inl (by kernel_rfl))
noncomputable def aaE:Hint:={ bA,hn:=[(21,.k),(30,.k),(39,.k)],loops:=[],outs:=[],bH:=[],pv:=some (0,false) }
noncomputable def F3:List AK:=[.v (.ptr bg) (.o 61 (some 0) .k)]
noncomputable def aaF (N:Nat) (x:ao F3) (kf:af→Option af):Option af:=S37 N x.1 (fun r0 z=>kf ⟨[⟨(.sl bI),(.o 56 none .k),r0⟩],[⟨(.ptr bg),(.o 61 (some 0) .k),z⟩]⟩)
noncomputable def OD (N:Nat):=aI F3 (aaF N)
noncomputable def VZ (N:Nat):List Entry:=[⟨63,[.dA],(OB N)⟩,⟨28,[.dA,.val],(gG N)⟩,⟨35,[.dA,.val],(qV N)⟩]
noncomputable def JF:Code:=match Tryz.f37.body with |some c=>c |none=>.skip
theorem afZ:ai JF=[]:=by kernel_rfl
theorem af0 (N:Nat) (x:ao F3) (kf:af→Option af):aaF N x kf=aG aaE (bE.of (VZ N)) (eo N N) Tryz.f37 (aB F3 x) kf:=by kernel_rfl
theorem af1 {Γ:Gl} (bh:bo Γ) (N:Nat):Sound Γ Tryz.prog 37 (OD N):=aA (hh:=aaE) mixed aO (es:=VZ N) ⟨afY bh N,⟨l7 bh N,⟨AN bh N,trivial⟩⟩⟩ (fn:=Tryz.f37) (body:=JF) (by kernel_rfl) (by kernel_rfl) (by kernel_rfl) (by kernel_rfl) (by kernel_rfl) (Lf:=eo N) (ep N) afZ trivial (N:=N) (by kernel_rfl) (af0 N) (.inl (by kernel_rfl))
end Go.Pv.R
