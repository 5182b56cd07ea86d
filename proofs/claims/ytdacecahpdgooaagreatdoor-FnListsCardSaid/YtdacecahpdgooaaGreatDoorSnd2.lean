/- Each function of the program that the law reaches computes its plain function, part 2. -/
import Derived.Test.YtdacecahpdgooaaGreatDoorSnd1
import Derived.Test.YtdacecahpdgooaaGreatDoorProg
namespace Go.Pv.R
open Go.Proofs
set_option linter.unusedVariables false
set_option maxRecDepth 100000
noncomputable def aaG:Hint:={ bA,hn:=[],loops:=[],outs:=[],bH:=[] }
noncomputable def F4:List AK:=[.v (.sl (.int .u8)) .k]
noncomputable def aaH (N:Nat) (x:ao F4) (kf:af→Option af):Option af:=S22 N x.1 (fun r0=>kf ⟨[⟨(.sl bI),(.o 56 none .k),r0⟩],[]⟩)
noncomputable def OE (N:Nat):=aI F4 (aaH N)
noncomputable def V0 (N:Nat):List Entry:=[⟨17,[.val],(uw N)⟩,⟨37,[.dA],(OD N)⟩]
noncomputable def JG:Code:=match Tryz.f22.body with |some c=>c |none=>.skip
theorem af2:ai JG=[]:=by kernel_rfl
theorem af3 (N:Nat) (x:ao F4) (kf:af→Option af):aaH N x kf=aG aaG (bE.of (V0 N)) (eo N N) Tryz.f22 (aB F4 x) kf:=by kernel_rfl
theorem af4 {Γ:Gl} (bh:bo Γ) (N:Nat):Sound Γ Tryz.prog 22 (OE N):=aA (hh:=aaG) mixed aO (es:=V0 N) ⟨Ew bh N,⟨af1 bh N,trivial⟩⟩ (fn:=Tryz.f22) (body:=JG) (by kernel_rfl) (by kernel_rfl) (by kernel_rfl) (by kernel_rfl) (by kernel_rfl) (Lf:=eo N) (ep N) af2 trivial (N:=N) (by kernel_rfl) (af3 N) (.inl (by kernel_rfl))
noncomputable def aaI:Hint:={ bA,hn:=[],loops:=[],outs:=[],bH:=[] }
noncomputable def BB:List AK:=[.v (.sl (.int .u8)) .k]
noncomputable def aaJ (N:Nat) (x:ao BB) (kf:af→Option af):Option af:=S11 N x.1 (fun r0=>kf ⟨[⟨(.sl bI),(.o 56 none .k),r0⟩],[]⟩)
noncomputable def OF (N:Nat):=aI BB (aaJ N)
noncomputable def V1 (N:Nat):List Entry:=[⟨22,[.val],(OE N)⟩]
noncomputable def JH:Code:=match Tryz.f11.body with |some c=>c |none=>.skip
theorem af5:ai JH=[]:=by kernel_rfl
theorem af6 (N:Nat) (x:ao BB) (kf:af→Option af):aaJ N x kf=aG aaI (bE.of (V1 N)) (eo N N) Tryz.f11 (aB BB x) kf:=by kernel_rfl
theorem af7 {Γ:Gl} (bh:bo Γ) (N:Nat):Sound Γ Tryz.prog 11 (OF N):=aA (hh:=aaI) mixed aO (es:=V1 N) ⟨af4 bh N,trivial⟩ (fn:=Tryz.f11) (body:=JH) (by kernel_rfl) (by kernel_rfl) (by kernel_rfl) (by kernel_rfl) (by kernel_rfl) (Lf:=eo N) (ep N) af5 trivial (N:=N) (by kernel_rfl) (af6 N) (.inl (by kernel_rfl))
noncomputable def aaK:Hint:={ bA,hn:=[],loops:=[],outs:=[],bH:=[] }
noncomputable def F5:List AK:=[.v (.int .i64) .k,.v (.int .i64) .k,.v (.int .i64) .k]
noncomputable def aaL (N:Nat) (x:ao F5) (kf:af→Option af):Option af:=I38 N x.1 x.2.1 x.2.2.1 (fun r0=>kf ⟨[⟨.bool,.k,r0⟩],[]⟩)
noncomputable def OG (N:Nat):=aI F5 (aaL N)
noncomputable def V2 (N:Nat):List Entry:=[]
noncomputable def JI:Code:=match Tryz.f38.body with |some c=>c |none=>.skip
theorem af8:ai JI=[]:=by kernel_rfl
theorem af9 (N:Nat) (x:ao F5) (kf:af→Option af):aaL N x kf=aG aaK (bE.of (V2 N)) (eo N N) Tryz.f38 (aB F5 x) kf:=by kernel_rfl
theorem af' {Γ:Gl} (bh:bo Γ) (N:Nat):Sound Γ Tryz.prog 38 (OG N):=aA (hh:=aaK) mixed aO (es:=V2 N) trivial (fn:=Tryz.f38) (body:=JI) (by kernel_rfl) (by kernel_rfl) (by kernel_rfl) (by kernel_rfl) (by kernel_rfl) (Lf:=eo N) (ep N) af8 trivial (N:=N) (by kernel_rfl) (af9 N) (.inl (by kernel_rfl))
noncomputable def aaM:Hint:={ bA,hn:=[],loops:=[],outs:=[],bH:=[(3,(OT.seq [0,1,4,5,8,9,10,11,12,13,2,3,6,7,14,15] .done))] }
noncomputable def F6:List AK:=[.v bI .k]
noncomputable def aaN (N:Nat) (x:ao F6) (kf:af→Option af):Option af:=I23 N x.1 (fun r0=>kf ⟨[⟨.str,.k,r0⟩],[]⟩)
noncomputable def OH (N:Nat):=aI F6 (aaN N)
noncomputable def V3 (N:Nat):List Entry:=[⟨38,[.val,.val,.val],(OG N)⟩,⟨15,[.val],(uz N)⟩]
noncomputable def JJ:Code:=match Tryz.f23.body with |some c=>c |none=>.skip
theorem aga:ai JJ=[]:=by kernel_rfl
theorem agb (N:Nat) (x:ao F6) (kf:af→Option af):aaN N x kf=aG aaM (bE.of (V3 N)) (eo N N) Tryz.f23 (aB F6 x) kf:=by kernel_rfl
theorem agc {Γ:Gl} (bh:bo Γ) (N:Nat):Sound Γ Tryz.prog 23 (OH N):=aA (hh:=aaM) mixed aO (es:=V3 N) ⟨af' bh N,⟨EO bh N,trivial⟩⟩ (fn:=Tryz.f23) (body:=JJ) (by kernel_rfl) (by kernel_rfl) (by kernel_rfl) (by kernel_rfl) (by kernel_rfl) (Lf:=eo N) (ep N) aga trivial (N:=N) (by kernel_rfl) (agb N) (.inl (by kernel_rfl))
noncomputable def lE:List Kd:=[dK,dK,dK,.v (.sl .str) (.o 9 none .k),dK,dK,dK,dK,.v (.sl bI) .k,.v (.int .i64) .k,.v (.int .i64) .k,dK,dK,dK,dK,dK,dK,dK,dK,dK,dK,dK,dK,dK,dK]
noncomputable def xv:List Kd:=[dK,dK,dK,.v (.sl .str) (.o 9 none .k),dK,dK,dK,dK,dK,dK,dK,dK,dK,dK,dK,dK,dK,dK,dK,dK,dK,dK,dK,dK,dK]
noncomputable def JK:Hint:={ bA,hn:=[],loops:=[(3,lE)],outs:=[(3,2,xv)],bH:=[] }
noncomputable def BC:List AK:=[.v (.sl bI) .k]
noncomputable def aaO (N:Nat) (x:ao BC) (kf:af→Option af):Option af:=I13 N x.1 (fun r0=>kf ⟨[⟨.str,.k,r0⟩],[]⟩)
noncomputable def OI (N:Nat):=aI BC (aaO N)
noncomputable def Ma (N:Nat):List Entry:=[⟨23,[.val],(OH N)⟩,⟨16,[.val],(uA N)⟩]
noncomputable def BD:Code:=match Tryz.f13.body with |some c=>c |none=>.skip
noncomputable def JL (N n:Nat) (key:Nat) (S:St) (K:Ks):Option af:=bif Nat.beq key 3 then aP lE S (fun x=>qf N x.2.1 x.2.2.1 n (fun z0=>K (.x 0) (shape xv (z0,()))) x.1 x.2.2.2.1) else none
theorem agd (N key:Nat) (S:St) (K:Ks):JL N 0 key S K=none:=(dm (aL fun _=>rfl) rfl)
noncomputable def OJ:Code:=(ai BD).getD 0 .skip
theorem age:ai BD=[OJ]:=by kernel_rfl
theorem V4 (N n:Nat) (x:cj lE) (K:Ks):JL N (n+1) 3 (shape lE x) (JK.aH 3 K)=aX JK (bE.of (Ma N)) (cw (JL N) N n 3) OJ (shape lE x) (JK.aH 3 K):=by kernel_rfl
theorem agf (N:Nat) (x:ao BC) (kf:af→Option af):aaO N x kf=aG JK (bE.of (Ma N)) (JL N N) Tryz.f13 (aB BC x) kf:=by kernel_rfl
theorem agh {Γ:Gl} (bh:bo Γ) (N:Nat):Sound Γ Tryz.prog 13 (OI N):=aA (hh:=JK) mixed aO (es:=Ma N) ⟨agc bh N,⟨ER bh N,trivial⟩⟩ (fn:=Tryz.f13) (body:=BD) (by kernel_rfl) (by kernel_rfl) (by kernel_rfl) (by kernel_rfl) (by kernel_rfl) (Lf:=JL N) (agd N) age (aC (key:=3) (ks:=lE) (by kernel_rfl) (by kernel_rfl) (V4 N) trivial) (N:=N) (by kernel_rfl) (agf N) (.inl (by kernel_rfl))
noncomputable def l8:List Kd:=[.v (.sl (.int .u8)) .k,dK,dK,.v (.sl aq) (.o 45 none (.p .k (.p .k (.p .k (.p .k (.p .k (.o 3 none .k))))))),.v .str .k,.v (.int .i64) .k,.v (.int .i64) .k,dK,dK,dK,dK,dK,dK,dK,dK,dK,dK,dK,dK,dK,dK,dK,dK,dK,dK,dK,dK,dK,dK,dK,dK,dK,dK,dK,dK,dK,dK,dK,dK,dK,dK,dK,dK,dK,dK,dK,dK,dK,dK,dK,dK,dK,dK,dK,dK,dK,dK,dK,dK,dK,dK,dK,dK,dK,dK,dK,dK,dK,dK,dK,dK,dK,dK,dK,dK,dK,dK,dK,dK,dK,dK,dK,dK,dK,dK,dK,dK,dK,dK,dK,dK,dK,dK,dK,dK,dK,dK,dK]
noncomputable def sX:List Kd:=[.v (.sl (.int .u8)) .k,dK,dK,.v (.sl aq) (.o 45 none (.p .k (.p .k (.p .k (.p .k (.p .k (.o 3 none .k))))))),dK,.v (.int .i64) .k,dK,dK,dK,dK,dK,dK,dK,dK,dK,dK,dK,dK,dK,dK,dK,dK,dK,dK,dK,dK,dK,dK,dK,dK,dK,dK,dK,dK,dK,dK,dK,dK,dK,dK,dK,dK,dK,dK,dK,dK,dK,dK,dK,dK,dK,dK,dK,dK,dK,dK,dK,dK,dK,dK,dK,dK,dK,dK,dK,dK,dK,dK,dK,dK,dK,dK,dK,dK,dK,dK,dK,dK,dK,dK,dK,dK,dK,dK,dK,dK,dK,dK,dK,dK,dK,dK,dK,dK,dK,dK,dK,dK]
noncomputable def iY:List Kd:=[.v (.sl (.int .u8)) .k,dK,dK,.v (.sl aq) (.o 45 none (.p .k (.p .k (.p .k (.p .k (.p .k (.o 3 none .k))))))),dK,.v (.int .i64) .k,dK,.v (.sl fh) .k,dK,.v .str .k,.v (.int .i64) .k,.v (.int .i64) .k,dK,dK,dK,dK,dK,dK,dK,dK,dK,dK,dK,dK,dK,dK,dK,dK,dK,dK,dK,dK,dK,dK,dK,dK,dK,dK,dK,dK,dK,dK,dK,dK,dK,dK,dK,dK,dK,dK,dK,dK,dK,dK,dK,dK,dK,dK,dK,dK,dK,dK,dK,dK,dK,dK,dK,dK,dK,dK,dK,dK,dK,dK,dK,dK,dK,dK,dK,dK,dK,dK,dK,dK,dK,dK,dK,dK,dK,dK,dK,dK,dK,dK,dK,dK,dK,dK]
noncomputable def qD:List Kd:=[.v (.sl (.int .u8)) .k,dK,dK,.v (.sl aq) (.o 45 none (.p .k (.p .k (.p .k (.p .k (.p .k (.o 3 none .k))))))),dK,.v (.int .i64) .k,dK,.v (.sl fh) .k,dK,dK,.v (.int .i64) .k,dK,dK,dK,dK,dK,dK,dK,dK,dK,dK,dK,dK,dK,dK,dK,dK,dK,dK,dK,dK,dK,dK,dK,dK,dK,dK,dK,dK,dK,dK,dK,dK,dK,dK,dK,dK,dK,dK,dK,dK,dK,dK,dK,dK,dK,dK,dK,dK,dK,dK,dK,dK,dK,dK,dK,dK,dK,dK,dK,dK,dK,dK,dK,dK,dK,dK,dK,dK,dK,dK,dK,dK,dK,dK,dK,dK,dK,dK,dK,dK,dK,dK,dK,dK,dK,dK,dK]
noncomputable def iZ:List Kd:=[.v (.sl (.int .u8)) .k,dK,dK,.v (.sl aq) (.o 45 none (.p .k (.p .k (.p .k (.p .k (.p .k (.o 3 none .k))))))),dK,.v (.int .i64) .k,dK,.v (.sl fh) .k,dK,dK,.v (.int .i64) .k,dK,.v .str .k,.v (.int .i64) .k,.v (.int .i64) .k,dK,dK,dK,dK,dK,dK,dK,dK,dK,dK,dK,dK,dK,dK,dK,dK,dK,dK,dK,dK,dK,dK,dK,dK,dK,dK,dK,dK,dK,dK,dK,dK,dK,dK,dK,dK,dK,dK,dK,dK,dK,dK,dK,dK,dK,dK,dK,dK,dK,dK,dK,dK,dK,dK,dK,dK,dK,dK,dK,dK,dK,dK,dK,dK,dK,dK,dK,dK,dK,dK,dK,dK,dK,dK,dK,dK,dK,dK,dK,dK,dK,dK,dK]
noncomputable def qE:List Kd:=[.v (.sl (.int .u8)) .k,dK,dK,.v (.sl aq) (.o 45 none (.p .k (.p .k (.p .k (.p .k (.p .k (.o 3 none .k))))))),dK,.v (.int .i64) .k,dK,.v (.sl fh) .k,dK,dK,.v (.int .i64) .k,dK,dK,.v (.int .i64) .k,dK,dK,dK,dK,dK,dK,dK,dK,dK,dK,dK,dK,dK,dK,dK,dK,dK,dK,dK,dK,dK,dK,dK,dK,dK,dK,dK,dK,dK,dK,dK,dK,dK,dK,dK,dK,dK,dK,dK,dK,dK,dK,dK,dK,dK,dK,dK,dK,dK,dK,dK,dK,dK,dK,dK,dK,dK,dK,dK,dK,dK,dK,dK,dK,dK,dK,dK,dK,dK,dK,dK,dK,dK,dK,dK,dK,dK,dK,dK,dK,dK,dK,dK,dK]
noncomputable def xF:Hint:={ bA,hn:=[],loops:=[(7,l8),(15,iY),(22,iZ)],outs:=[(7,2,sX),(15,4,qD),(22,6,qE)],bH:=[] }
noncomputable def Di:List AK:=[.v (.sl (.int .u8)) .k]
noncomputable def ai1 (N:Nat) (x:ao Di) (kf:af→Option af):Option af:=L3 N x.1 (fun r0=>kf ⟨[⟨.bool,.k,r0⟩],[]⟩)
noncomputable def F7 (N:Nat):=aI Di (ai1 N)
noncomputable def JM (N:Nat):List Entry:=[⟨4,[.val],(T4 N)⟩,⟨5,[.val],(Un N)⟩,⟨6,[.val],(Uw N)⟩,⟨7,[.val],(VB N)⟩,⟨8,[.val,.val],(VE N)⟩,⟨10,[.val],(Oo N)⟩,⟨9,[.val],(VT N)⟩,⟨11,[.val],(OF N)⟩,⟨12,[.val],(FV N)⟩,⟨13,[.val],(OI N)⟩]
noncomputable def qY:Code:=match Tryz.f3.body with |some c=>c |none=>.skip
noncomputable def F8 (N n:Nat) (key:Nat) (S:St) (K:Ks):Option af:=bif Nat.beq key 7 then aP l8 S (fun x=>wh x.1 x.2.1 x.2.2.1 n (fun z0=>K (.x 0) (shape sX (x.1,x.2.1,z0,()))) x.2.2.2.1 x.2.2.2.2.1) else bif Nat.beq key 15 then aP iY S (fun x=>qg x.1 x.2.1 x.2.2.1 x.2.2.2.1 x.2.2.2.2.1 n (fun z0=>K (.x 2) (shape qD (x.1,x.2.1,x.2.2.1,x.2.2.2.1,z0,()))) x.2.2.2.2.2.1 x.2.2.2.2.2.2.1) else bif Nat.beq key 22 then aP iZ S (fun x=>qh x.1 x.2.1 x.2.2.1 x.2.2.2.1 x.2.2.2.2.1 x.2.2.2.2.2.1 n (fun z0=>K (.x 4) (shape qE (x.1,x.2.1,x.2.2.1,x.2.2.2.1,x.2.2.2.2.1,z0,()))) x.2.2.2.2.2.2.1 x.2.2.2.2.2.2.2.1) else none
theorem ai2 (N key:Nat) (S:St) (K:Ks):F8 N 0 key S K=none:=(dm (aL fun _=>rfl) (dm (aL fun _=>rfl) (dm (aL fun _=>rfl) rfl)))
noncomputable def V5:Code:=(ai qY).getD 0 .skip
noncomputable def V6:Code:=(ai qY).getD 1 .skip
noncomputable def V7:Code:=(ai qY).getD 2 .skip
theorem ai3:ai qY=[V5,V6,V7]:=by kernel_rfl
theorem V8 (N n:Nat) (x:cj iZ) (K:Ks):F8 N (n+1) 22 (shape iZ x) (xF.aH 22 K)=aX xF (bE.of (JM N)) (cw (F8 N) N n 22) V7 (shape iZ x) (xF.aH 22 K):=by kernel_rfl
theorem V9 (N n:Nat) (x:cj iY) (K:Ks):F8 N (n+1) 15 (shape iY x) (xF.aH 15 K)=aX xF (bE.of (JM N)) (cw (F8 N) N n 15) V6 (shape iY x) (xF.aH 15 K):=by kernel_rfl
theorem XX (N n:Nat) (x:cj l8) (K:Ks):F8 N (n+1) 7 (shape l8 x) (xF.aH 7 K)=aX xF (bE.of (JM N)) (cw (F8 N) N n 7) V5 (shape l8 x) (xF.aH 7 K):=by kernel_rfl
theorem agi (g0:Sl) (g1:Sm) (g2:Sn) (g3:So) (g4:Sp) (g5:Sq) (g6:Sr) (g7:Ss) (g8:Su) (g9:Sv) (g10:MY) (g11:MZ) (g12:M0) (N:Nat) (x:ao Di) (kf:af→Option af):Xj g0 g1 g2 g3 g4 g5 g6 g7 g8 g9 g10 g11 g12 N x.1 (fun r0=>kf ⟨[⟨.bool,.k,r0⟩],[]⟩)=aG xF (bE.of [⟨4,[.val],(aI HT (fun x kf=>g0 N x.1 (fun r0=>kf ⟨[⟨.bool,.k,r0⟩],[]⟩)))⟩,⟨5,[.val],(aI Ia (fun x kf=>g1 N x.1 (fun r0=>kf ⟨[⟨(.sl aq),(.o 45 none (.p .k (.p .k (.p .k (.p .k (.p .k (.o 3 none .k))))))),r0⟩],[]⟩)))⟩,⟨6,[.val],(aI Ie (fun x kf=>g2 N x.1 (fun r0=>kf ⟨[⟨.str,.k,r0⟩],[]⟩)))⟩,⟨7,[.val],(aI Ji (fun x kf=>g3 N x.1 (fun r0 r1=>kf ⟨[⟨(.sl fh),.k,r0⟩,⟨(.sl (.int .i64)),.k,r1⟩],[]⟩)))⟩,⟨8,[.val,.val],(aI Jj (fun x kf=>g4 N x.1 x.2.1 (fun r0=>kf ⟨[⟨.str,.k,r0⟩],[]⟩)))⟩,⟨10,[.val],(aI Bt (fun x kf=>g5 N x.1 (fun r0=>kf ⟨[⟨ae,(.p (.o 45 none (.p .k (.p .k (.p .k (.p .k (.p .k (.o 3 none .k))))))) (.p (.o 88 none (.p .k (.p .k (.o 3 none .k)))) (.p (.o 53 none .k) (.p (.o 3 none .k) (.p (.o 70 none .k) (.p (.o 121 none .k) .k)))))),r0⟩],[]⟩)))⟩,⟨9,[.val],(aI Jw (fun x kf=>g6 N x.1 (fun r0=>kf ⟨[⟨.str,.k,r0⟩],[]⟩)))⟩,⟨11,[.val],(aI BB (fun x kf=>g7 N x.1 (fun r0=>kf ⟨[⟨(.sl bI),(.o 56 none .k),r0⟩],[]⟩)))⟩,⟨12,[.val],(aI Bv (fun x kf=>g8 N x.1 (fun r0=>kf ⟨[⟨.str,.k,r0⟩],[]⟩)))⟩,⟨13,[.val],(aI BC (fun x kf=>g9 N x.1 (fun r0=>kf ⟨[⟨.str,.k,r0⟩],[]⟩)))⟩]) (fun key S K=>bif Nat.beq key 7 then aP l8 S (fun x=>g10 x.1 x.2.1 x.2.2.1 N (fun z0=>K (.x 0) (shape sX (x.1,x.2.1,z0,()))) x.2.2.2.1 x.2.2.2.2.1) else bif Nat.beq key 15 then aP iY S (fun x=>g11 x.1 x.2.1 x.2.2.1 x.2.2.2.1 x.2.2.2.2.1 N (fun z0=>K (.x 2) (shape qD (x.1,x.2.1,x.2.2.1,x.2.2.2.1,z0,()))) x.2.2.2.2.2.1 x.2.2.2.2.2.2.1) else bif Nat.beq key 22 then aP iZ S (fun x=>g12 x.1 x.2.1 x.2.2.1 x.2.2.2.1 x.2.2.2.2.1 x.2.2.2.2.2.1 N (fun z0=>K (.x 4) (shape qE (x.1,x.2.1,x.2.2.1,x.2.2.2.1,x.2.2.2.2.1,z0,()))) x.2.2.2.2.2.2.1 x.2.2.2.2.2.2.2.1) else none) Tryz.f3 (aB Di x) kf:=by kernel_rfl
theorem ai4 (N:Nat) (x:ao Di) (kf:af→Option af):ai1 N x kf=aG xF (bE.of (JM N)) (F8 N N) Tryz.f3 (aB Di x) kf:=agi L4 S5 I6 S7 I8 S10 I9 S11 I12 I13 wh qg qh N x kf
theorem ai5 {Γ:Gl} (bh:bo Γ) (N:Nat):Sound Γ Tryz.prog 3 (F7 N):=aA (hh:=xF) mixed aO (es:=JM N) ⟨aiz bh N,⟨aiE bh N,⟨aiL bh N,⟨aiQ bh N,⟨aiV bh N,⟨afC bh N,⟨ai0 bh N,⟨af7 bh N,⟨VS bh N,⟨agh bh N,trivial⟩⟩⟩⟩⟩⟩⟩⟩⟩⟩ (fn:=Tryz.f3) (body:=qY) (by kernel_rfl) (by kernel_rfl) (by kernel_rfl) (by kernel_rfl) (by kernel_rfl) (Lf:=F8 N) (ai2 N) ai3 (aC (key:=7) (ks:=l8) (by kernel_rfl) (by kernel_rfl) (XX N) (aC (key:=15) (ks:=iY) (by kernel_rfl) (by kernel_rfl) (V9 N) (aC (key:=22) (ks:=iZ) (by kernel_rfl) (by kernel_rfl) (V8 N) trivial))) (N:=N) (by kernel_rfl) (ai4 N) (.inl (by kernel_rfl))
end Go.Pv.R
