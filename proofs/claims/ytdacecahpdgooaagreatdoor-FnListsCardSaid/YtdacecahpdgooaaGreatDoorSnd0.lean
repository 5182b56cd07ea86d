/- Each function of the program that the law reaches computes its plain function, part 0. -/
import Derived.Test.YtdacecahpdgooaaGreatDoorPlRes
import Derived.Test.YtdacecahpdgooaaGreatDoorJoi
import Derived.Test.YtdacecahpdgooaaGreatDoorProg
namespace Go.Pv.R
open Go.Proofs
set_option linter.unusedVariables false
set_option maxRecDepth 100000
noncomputable abbrev dK:Kd:=.dead
noncomputable abbrev dR (n:Nat):List Kd:=List.replicate n .dead
noncomputable def bA:cK:=[⟨2,(.int .i64),0,[]⟩,⟨3,(.int .i64),0,[]⟩,⟨4,.bool,0,[]⟩,⟨5,(.int .u8),0,[]⟩,⟨9,.str,0,[]⟩,⟨12,(.int .u64),0,[]⟩,⟨21,(.int .i32),0,[]⟩,⟨22,(.sl (.int .u8)),5,[]⟩,⟨24,(.sl aq),45,[]⟩,⟨27,(.sl fh),53,[]⟩,⟨28,(.sl (.int .i64)),3,[]⟩,⟨33,(.sl b5),88,[]⟩,⟨34,(.sl bI),70,[]⟩,⟨35,(.sl fc),121,[]⟩,⟨36,ae,0,[24,33,27,28,34,35,3]⟩,⟨37,ae,0,[24,33,27,28,34,35,3]⟩,⟨39,(.sl bI),56,[]⟩,⟨43,(.sl .str),9,[]⟩,⟨44,aq,0,[3,3,3,3,3,28]⟩,⟨45,aq,0,[3,3,3,3,3,28]⟩,⟨52,fh,0,[3,3]⟩,⟨53,fh,0,[3,3]⟩,⟨55,bI,0,[3,3,3]⟩,⟨56,bI,0,[3,3,3]⟩,⟨60,bg,0,[22,3,3]⟩,⟨61,bg,0,[22,3,3]⟩,⟨69,bI,0,[3,3,3]⟩,⟨70,bI,0,[3,3,3]⟩,⟨87,b5,0,[3,3,28]⟩,⟨88,b5,0,[3,3,28]⟩,⟨105,(.int .u64),0,[]⟩,⟨120,fc,0,[3,3,3,3]⟩,⟨121,fc,0,[3,3,3,3]⟩,⟨126,(.int .u64),0,[]⟩,⟨146,(.int .u32),0,[]⟩]
theorem mixed:Tryz.prog.follows .mixedOrders=true:=by kernel_rfl
theorem aO:cM Tryz.prog bA=true:=by kernel_rfl
noncomputable def eo (N n:Nat) (key:Nat) (S:St) (K:Ks):Option af:=none
theorem ep (N key:Nat) (S:St) (K:Ks):eo N 0 key S K=none:=rfl
abbrev bo (Γ:Gl):Prop:=Lr Tryz.prog Γ
noncomputable def aiv:Hint:={ bA,hn:=[],loops:=[],outs:=[],bH:=[] }
noncomputable def HT:List AK:=[.v (.sl (.int .u8)) .k]
noncomputable def aiw (N:Nat) (x:ao HT) (kf:af→Option af):Option af:=L4 N x.1 (fun r0=>kf ⟨[⟨.bool,.k,r0⟩],[]⟩)
noncomputable def T4 (N:Nat):=aI HT (aiw N)
noncomputable def Y2 (N:Nat):List Entry:=[]
noncomputable def Nh:Code:=match Tryz.f4.body with |some c=>c |none=>.skip
theorem aix:ai Nh=[]:=by kernel_rfl
theorem aiy (N:Nat) (x:ao HT) (kf:af→Option af):aiw N x kf=aG aiv (bE.of (Y2 N)) (eo N N) Tryz.f4 (aB HT x) kf:=by kernel_rfl
theorem aiz {Γ:Gl} (bh:bo Γ) (N:Nat):Sound Γ Tryz.prog 4 (T4 N):=aA (hh:=aiv) mixed aO (es:=Y2 N) trivial (fn:=Tryz.f4) (body:=Nh) (by kernel_rfl) (by kernel_rfl) (by kernel_rfl) (by kernel_rfl) (by kernel_rfl) (Lf:=eo N) (ep N) aix trivial (N:=N) (by kernel_rfl) (aiy N) (.inl (by kernel_rfl))
noncomputable def kG:List Kd:=[.v (.sl (.int .u8)) .k,dK,dK,.v (.int .i64) .k,.v (.int .i64) .k,dK,dK,dK,dK,dK,dK,dK,dK,dK,dK,dK,dK,dK,dK,dK,dK,dK,dK,dK,dK,dK,dK,dK,dK,dK,dK,dK]
noncomputable def wo:List Kd:=[.v (.sl (.int .u8)) .k,dK,dK,.v (.int .i64) .k,dK,dK,dK,dK,dK,dK,dK,dK,dK,dK,dK,dK,dK,dK,dK,dK,dK,dK,dK,dK,dK,dK,dK,dK,dK,dK,dK,dK]
noncomputable def HU:Hint:={ bA,hn:=[],loops:=[(3,kG)],outs:=[(3,2,wo)],bH:=[] }
noncomputable def Ev:List AK:=[.v (.sl (.int .u8)) .k]
noncomputable def Y3 (N:Nat) (x:ao Ev) (kf:af→Option af):Option af:=S17 N x.1 (fun r0=>kf ⟨[⟨(.ptr bg),(.o 61 none .k),r0⟩],[]⟩)
noncomputable def uw (N:Nat):=aI Ev (Y3 N)
noncomputable def Lu (N:Nat):List Entry:=[]
noncomputable def AE:Code:=match Tryz.f17.body with |some c=>c |none=>.skip
noncomputable def HV (N n:Nat) (key:Nat) (S:St) (K:Ks):Option af:=bif Nat.beq key 3 then aP kG S (fun x=>vc x.1 n (fun z0=>K (.x 0) (shape wo (x.1,z0,()))) x.2.1 x.2.2.1) else none
theorem acN (N key:Nat) (S:St) (K:Ks):HV N 0 key S K=none:=(dm (aL fun _=>rfl) rfl)
noncomputable def Ni:Code:=(ai AE).getD 0 .skip
theorem acO:ai AE=[Ni]:=by kernel_rfl
theorem T5 (N n:Nat) (x:cj kG) (K:Ks):HV N (n+1) 3 (shape kG x) (HU.aH 3 K)=aX HU (bE.of (Lu N)) (cw (HV N) N n 3) Ni (shape kG x) (HU.aH 3 K):=by kernel_rfl
theorem acP (N:Nat) (x:ao Ev) (kf:af→Option af):Y3 N x kf=aG HU (bE.of (Lu N)) (HV N N) Tryz.f17 (aB Ev x) kf:=by kernel_rfl
theorem Ew {Γ:Gl} (bh:bo Γ) (N:Nat):Sound Γ Tryz.prog 17 (uw N):=aA (hh:=HU) mixed aO (es:=Lu N) trivial (fn:=Tryz.f17) (body:=AE) (by kernel_rfl) (by kernel_rfl) (by kernel_rfl) (by kernel_rfl) (by kernel_rfl) (Lf:=HV N) (acN N) acO (aC (key:=3) (ks:=kG) (by kernel_rfl) (by kernel_rfl) (T5 N) trivial) (N:=N) (by kernel_rfl) (acP N) (.inl (by kernel_rfl))
noncomputable def Y4:Hint:={ bA,hn:=[],loops:=[],outs:=[],bH:=[(2,(OT.seq [0,1,2,3,4,5,6,7,8,9,10,11,12] .done)),(3,(OT.seq [0,1,2,3,4,5,6,7,8,9] .done)),(4,(OT.seq [0,1,2,3,4,5,6,7,8,9,10,11,12,13,14] .done))],pv:=some (0,false) }
noncomputable def Ey:List AK:=[.v (.ptr bg) (.o 61 (some 0) .k)]
noncomputable def Y5 (N:Nat) (x:ao Ey) (kf:af→Option af):Option af:=S44 N x.1 (fun r0 z=>kf ⟨[⟨(.int .i64),.k,r0⟩],[⟨(.ptr bg),(.o 61 (some 0) .k),z⟩]⟩)
noncomputable def Nj (N:Nat):=aI Ey (Y5 N)
noncomputable def T6 (N:Nat):List Entry:=[]
noncomputable def HW:Code:=match Tryz.f44.body with |some c=>c |none=>.skip
theorem acQ:ai HW=[]:=by kernel_rfl
theorem acR (N:Nat) (x:ao Ey) (kf:af→Option af):Y5 N x kf=aG Y4 (bE.of (T6 N)) (eo N N) Tryz.f44 (aB Ey x) kf:=by kernel_rfl
theorem acS {Γ:Gl} (bh:bo Γ) (N:Nat):Sound Γ Tryz.prog 44 (Nj N):=aA (hh:=Y4) mixed aO (es:=T6 N) trivial (fn:=Tryz.f44) (body:=HW) (by kernel_rfl) (by kernel_rfl) (by kernel_rfl) (by kernel_rfl) (by kernel_rfl) (Lf:=eo N) (ep N) acQ trivial (N:=N) (by kernel_rfl) (acR N) (.inl (by kernel_rfl))
noncomputable def Y6:Hint:={ bA,hn:=[],loops:=[],outs:=[],bH:=[],pv:=some (0,false) }
noncomputable def AF:List AK:=[.v (.ptr bg) (.o 61 (some 0) .k),.v (.int .i64) .k]
noncomputable def Y7 (N:Nat) (x:ao AF) (kf:af→Option af):Option af:=mg N x.1 x.2.1 (fun r0 z=>kf ⟨[⟨(.int .i64),.k,r0⟩],[⟨(.ptr bg),(.o 61 (some 0) .k),z⟩]⟩)
noncomputable def gG (N:Nat):=aI AF (Y7 N)
noncomputable def T7 (N:Nat):List Entry:=[⟨44,[.dA],(Nj N)⟩]
noncomputable def HX:Code:=match Tryz.f28.body with |some c=>c |none=>.skip
theorem acT:ai HX=[]:=by kernel_rfl
theorem acU (N:Nat) (x:ao AF) (kf:af→Option af):Y7 N x kf=aG Y6 (bE.of (T7 N)) (eo N N) Tryz.f28 (aB AF x) kf:=by kernel_rfl
theorem l7 {Γ:Gl} (bh:bo Γ) (N:Nat):Sound Γ Tryz.prog 28 (gG N):=aA (hh:=Y6) mixed aO (es:=T7 N) ⟨acS bh N,trivial⟩ (fn:=Tryz.f28) (body:=HX) (by kernel_rfl) (by kernel_rfl) (by kernel_rfl) (by kernel_rfl) (by kernel_rfl) (Lf:=eo N) (ep N) acT trivial (N:=N) (by kernel_rfl) (acU N) (.inl (by kernel_rfl))
noncomputable def kH:List Kd:=[.v (.sl aq) .k,dK,dK,.v (.sl aq) (.o 45 none (.p .k (.p .k (.p .k (.p .k (.p .k (.o 3 none .k))))))),.v (.int .i64) .k,dK,dK,dK,dK,dK,dK,dK,dK,dK,dK,dK,dK,dK,dK,dK,dK,dK,dK,dK,dK,dK,dK]
noncomputable def wq:List Kd:=[dK,dK,dK,.v (.sl aq) (.o 45 none (.p .k (.p .k (.p .k (.p .k (.p .k (.o 3 none .k))))))),dK,dK,dK,dK,dK,dK,dK,dK,dK,dK,dK,dK,dK,dK,dK,dK,dK,dK,dK,dK,dK,dK,dK]
noncomputable def HY:Hint:={ bA,hn:=[(6,(.p .k (.p .k (.p .k (.p .k (.p .k (.o 3 none .k)))))))],loops:=[(3,kH)],outs:=[(3,2,wq)],bH:=[] }
noncomputable def Ez:List AK:=[.v (.sl aq) .k]
noncomputable def Y8 (N:Nat) (x:ao Ez) (kf:af→Option af):Option af:=Xb N x.1 (fun r0=>kf ⟨[⟨(.sl aq),(.o 45 none (.p .k (.p .k (.p .k (.p .k (.p .k (.o 3 none .k))))))),r0⟩],[]⟩)
noncomputable def xY (N:Nat):=aI Ez (Y8 N)
noncomputable def Lv (N:Nat):List Entry:=[]
noncomputable def AG:Code:=match Tryz.f46.body with |some c=>c |none=>.skip
noncomputable def HZ (N n:Nat) (key:Nat) (S:St) (K:Ks):Option af:=bif Nat.beq key 3 then aP kH S (fun x=>sv x.1 n (fun z0=>K (.x 0) (shape wq (z0,()))) x.2.1 x.2.2.1) else none
theorem acV (N key:Nat) (S:St) (K:Ks):HZ N 0 key S K=none:=(dm (aL fun _=>rfl) rfl)
noncomputable def Nk:Code:=(ai AG).getD 0 .skip
theorem acW:ai AG=[Nk]:=by kernel_rfl
theorem T8 (N n:Nat) (x:cj kH) (K:Ks):HZ N (n+1) 3 (shape kH x) (HY.aH 3 K)=aX HY (bE.of (Lv N)) (cw (HZ N) N n 3) Nk (shape kH x) (HY.aH 3 K):=by kernel_rfl
theorem acX (N:Nat) (x:ao Ez) (kf:af→Option af):Y8 N x kf=aG HY (bE.of (Lv N)) (HZ N N) Tryz.f46 (aB Ez x) kf:=by kernel_rfl
theorem Lw {Γ:Gl} (bh:bo Γ) (N:Nat):Sound Γ Tryz.prog 46 (xY N):=aA (hh:=HY) mixed aO (es:=Lv N) trivial (fn:=Tryz.f46) (body:=AG) (by kernel_rfl) (by kernel_rfl) (by kernel_rfl) (by kernel_rfl) (by kernel_rfl) (Lf:=HZ N) (acV N) acW (aC (key:=3) (ks:=kH) (by kernel_rfl) (by kernel_rfl) (T8 N) trivial) (N:=N) (by kernel_rfl) (acX N) (.inl (by kernel_rfl))
noncomputable def kI:List Kd:=[.v (.sl aq) .k,.v (.int .i64) .k,dK,dK,dK,.v (.int .i64) .k,dK,dK,dK,dK,dK,dK,dK,dK,dK,dK,dK,dK,dK,dK]
noncomputable def wu:List Kd:=[dK,dK,dK,dK,dK,dK,dK,dK,dK,dK,dK,dK,dK,dK,dK,dK,dK,dK,dK,dK]
noncomputable def wv:List Kd:=[dK,dK,dK,dK,.v (.int .i64) .k,dK,dK,dK,dK,dK,dK,dK,dK,dK,dK,dK,dK,dK,dK,dK]
noncomputable def H0:Hint:={ bA,hn:=[],loops:=[(2,kI)],outs:=[(2,2,wu),(2,1,wv)],bH:=[] }
noncomputable def EA:List AK:=[.v (.sl aq) .k,.v (.int .i64) .k]
noncomputable def Y9 (N:Nat) (x:ao EA) (kf:af→Option af):Option af:=MN N x.1 x.2.1 (fun r0=>kf ⟨[⟨(.int .i64),.k,r0⟩],[]⟩)
noncomputable def oM (N:Nat):=aI EA (Y9 N)
noncomputable def Lx (N:Nat):List Entry:=[]
noncomputable def AH:Code:=match Tryz.f76.body with |some c=>c |none=>.skip
noncomputable def H2 (N n:Nat) (key:Nat) (S:St) (K:Ks):Option af:=bif Nat.beq key 2 then aP kI S (fun x=>sw x.1 x.2.1 n (K (.x 0) (shape wu ())) (fun z0=>K .r (shape wv (z0,()))) x.2.2.1) else none
theorem acY (N key:Nat) (S:St) (K:Ks):H2 N 0 key S K=none:=(dm (aL fun _=>rfl) rfl)
noncomputable def Nl:Code:=(ai AH).getD 0 .skip
theorem acZ:ai AH=[Nl]:=by kernel_rfl
theorem T9 (N n:Nat) (x:cj kI) (K:Ks):H2 N (n+1) 2 (shape kI x) (H0.aH 2 K)=aX H0 (bE.of (Lx N)) (cw (H2 N) N n 2) Nl (shape kI x) (H0.aH 2 K):=by kernel_rfl
theorem ac0 (N:Nat) (x:ao EA) (kf:af→Option af):Y9 N x kf=aG H0 (bE.of (Lx N)) (H2 N N) Tryz.f76 (aB EA x) kf:=by kernel_rfl
theorem vD {Γ:Gl} (bh:bo Γ) (N:Nat):Sound Γ Tryz.prog 76 (oM N):=aA (hh:=H0) mixed aO (es:=Lx N) trivial (fn:=Tryz.f76) (body:=AH) (by kernel_rfl) (by kernel_rfl) (by kernel_rfl) (by kernel_rfl) (by kernel_rfl) (Lf:=H2 N) (acY N) acZ (aC (key:=2) (ks:=kI) (by kernel_rfl) (by kernel_rfl) (T9 N) trivial) (N:=N) (by kernel_rfl) (ac0 N) (.inl (by kernel_rfl))
noncomputable def Y':Hint:={ bA,hn:=[],loops:=[],outs:=[],bH:=[] }
noncomputable def EB:List AK:=[.v (.int .i64) .k,.v (.int .i64) .k,.v (.int .i64) .k]
noncomputable def Za (N:Nat) (x:ao EB) (kf:af→Option af):Option af:=mC N x.1 x.2.1 x.2.2.1 (fun r0=>kf ⟨[⟨.bool,.k,r0⟩],[]⟩)
noncomputable def iv (N:Nat):=aI EB (Za N)
noncomputable def Ua (N:Nat):List Entry:=[]
noncomputable def H3:Code:=match Tryz.f57.body with |some c=>c |none=>.skip
theorem ac1:ai H3=[]:=by kernel_rfl
theorem ac2 (N:Nat) (x:ao EB) (kf:af→Option af):Za N x kf=aG Y' (bE.of (Ua N)) (eo N N) Tryz.f57 (aB EB x) kf:=by kernel_rfl
theorem nb {Γ:Gl} (bh:bo Γ) (N:Nat):Sound Γ Tryz.prog 57 (iv N):=aA (hh:=Y') mixed aO (es:=Ua N) trivial (fn:=Tryz.f57) (body:=H3) (by kernel_rfl) (by kernel_rfl) (by kernel_rfl) (by kernel_rfl) (by kernel_rfl) (Lf:=eo N) (ep N) ac1 trivial (N:=N) (by kernel_rfl) (ac2 N) (.inl (by kernel_rfl))
noncomputable def kJ:List Kd:=[.v (.sl (.int .i64)) .k,.v (.int .i64) .k,dK,dK,dK,.v (.int .i64) .k,.v (.int .i64) .k,dK,dK,dK,dK,dK,dK,dK,dK,dK,dK,dK,dK,dK,dK,dK]
noncomputable def wx:List Kd:=[dK,dK,dK,dK,dK,.v (.int .i64) .k,dK,dK,dK,dK,dK,dK,dK,dK,dK,dK,dK,dK,dK,dK,dK,dK]
noncomputable def H4:Hint:={ bA,hn:=[],loops:=[(3,kJ)],outs:=[(3,2,wx)],bH:=[] }
noncomputable def EC:List AK:=[.v (.sl (.int .i64)) .k,.v (.int .i64) .k]
noncomputable def Zb (N:Nat) (x:ao EC) (kf:af→Option af):Option af:=S91 N x.1 x.2.1 (fun r0=>kf ⟨[⟨(.int .i64),.k,r0⟩],[]⟩)
noncomputable def Nn (N:Nat):=aI EC (Zb N)
noncomputable def Ly (N:Nat):List Entry:=[]
noncomputable def AI:Code:=match Tryz.f91.body with |some c=>c |none=>.skip
noncomputable def H5 (N n:Nat) (key:Nat) (S:St) (K:Ks):Option af:=bif Nat.beq key 3 then aP kJ S (fun x=>pP x.1 x.2.1 n (fun z0=>K (.x 0) (shape wx (z0,()))) x.2.2.1 x.2.2.2.1) else none
theorem ac3 (N key:Nat) (S:St) (K:Ks):H5 N 0 key S K=none:=(dm (aL fun _=>rfl) rfl)
noncomputable def No:Code:=(ai AI).getD 0 .skip
theorem ac4:ai AI=[No]:=by kernel_rfl
theorem Ub (N n:Nat) (x:cj kJ) (K:Ks):H5 N (n+1) 3 (shape kJ x) (H4.aH 3 K)=aX H4 (bE.of (Ly N)) (cw (H5 N) N n 3) No (shape kJ x) (H4.aH 3 K):=by kernel_rfl
theorem ac5 (N:Nat) (x:ao EC) (kf:af→Option af):Zb N x kf=aG H4 (bE.of (Ly N)) (H5 N N) Tryz.f91 (aB EC x) kf:=by kernel_rfl
theorem ac6 {Γ:Gl} (bh:bo Γ) (N:Nat):Sound Γ Tryz.prog 91 (Nn N):=aA (hh:=H4) mixed aO (es:=Ly N) trivial (fn:=Tryz.f91) (body:=AI) (by kernel_rfl) (by kernel_rfl) (by kernel_rfl) (by kernel_rfl) (by kernel_rfl) (Lf:=H5 N) (ac3 N) ac4 (aC (key:=3) (ks:=kJ) (by kernel_rfl) (by kernel_rfl) (Ub N) trivial) (N:=N) (by kernel_rfl) (ac5 N) (.inl (by kernel_rfl))
noncomputable def kK:List Kd:=[.v (.sl aq) .k,dK,dK,.v (.int .i64) .k,.v (.ptr aq) (.o 45 none .k),.v (.int .i64) .k,dK,dK,dK,dK,dK,dK,dK,dK,dK,dK,dK,dK,dK,dK,dK,dK,dK,dK,dK,dK,dK,dK,dK,dK,dK,dK,dK,dK,dK,dK,dK,dK,dK,dK,dK,dK,dK,dK,dK,dK,dK,dK,dK,dK,dK,dK,dK,dK,dK,dK,dK,dK,dK,dK,dK,dK,dK,dK,dK,dK,dK,dK,dK,dK,dK,dK,dK,dK,dK,dK,dK,dK,dK,dK,dK,dK,dK,dK,dK,dK,dK,dK,dK,dK,dK,dK,dK,dK,dK,dK,dK,dK,dK,dK,dK,dK,dK,dK,dK,dK,dK,dK,dK,dK,dK,dK,dK,dK,dK]
noncomputable def wy:List Kd:=[.v (.sl aq) .k,dK,dK,.v (.int .i64) .k,dK,dK,dK,dK,dK,dK,dK,dK,dK,dK,dK,dK,dK,dK,dK,dK,dK,dK,dK,dK,dK,dK,dK,dK,dK,dK,dK,dK,dK,dK,dK,dK,dK,dK,dK,dK,dK,dK,dK,dK,dK,dK,dK,dK,dK,dK,dK,dK,dK,dK,dK,dK,dK,dK,dK,dK,dK,dK,dK,dK,dK,dK,dK,dK,dK,dK,dK,dK,dK,dK,dK,dK,dK,dK,dK,dK,dK,dK,dK,dK,dK,dK,dK,dK,dK,dK,dK,dK,dK,dK,dK,dK,dK,dK,dK,dK,dK,dK,dK,dK,dK,dK,dK,dK,dK,dK,dK,dK,dK,dK,dK]
noncomputable def wz:List Kd:=[dK,dK,.v .bool .k,dK,dK,dK,dK,dK,dK,dK,dK,dK,dK,dK,dK,dK,dK,dK,dK,dK,dK,dK,dK,dK,dK,dK,dK,dK,dK,dK,dK,dK,dK,dK,dK,dK,dK,dK,dK,dK,dK,dK,dK,dK,dK,dK,dK,dK,dK,dK,dK,dK,dK,dK,dK,dK,dK,dK,dK,dK,dK,dK,dK,dK,dK,dK,dK,dK,dK,dK,dK,dK,dK,dK,dK,dK,dK,dK,dK,dK,dK,dK,dK,dK,dK,dK,dK,dK,dK,dK,dK,dK,dK,dK,dK,dK,dK,dK,dK,dK,dK,dK,dK,dK,dK,dK,dK,dK,dK,dK,dK,dK,dK,dK,dK]
noncomputable def kL:List Kd:=[.v (.sl aq) .k,dK,dK,.v (.int .i64) .k,dK,dK,dK,dK,dK,dK,dK,dK,dK,dK,dK,dK,dK,dK,dK,dK,dK,dK,dK,dK,dK,dK,dK,dK,dK,dK,dK,dK,dK,dK,dK,dK,dK,dK,dK,dK,dK,dK,dK,dK,dK,dK,dK,dK,dK,dK,dK,dK,dK,dK,dK,dK,dK,dK,dK,dK,dK,dK,dK,dK,dK,dK,dK,dK,dK,dK,dK,dK,dK,dK,dK,dK,dK,dK,dK,dK,dK,dK,dK,dK,dK,dK,dK,dK,dK,dK,dK,dK,dK,dK,dK,dK,dK,dK,dK,dK,dK,dK,dK,dK,dK,dK,dK,dK,dK,dK,dK,dK,dK,dK,dK]
noncomputable def wA:List Kd:=[.v (.sl aq) .k,dK,dK,dK,dK,dK,dK,dK,dK,dK,dK,dK,dK,dK,dK,dK,dK,dK,dK,dK,dK,dK,dK,dK,dK,dK,dK,dK,dK,dK,dK,dK,dK,dK,dK,dK,dK,dK,dK,dK,dK,dK,dK,dK,dK,dK,dK,dK,dK,dK,dK,dK,dK,dK,dK,dK,dK,dK,dK,dK,dK,dK,dK,dK,dK,dK,dK,dK,dK,dK,dK,dK,dK,dK,dK,dK,dK,dK,dK,dK,dK,dK,dK,dK,dK,dK,dK,dK,dK,dK,dK,dK,dK,dK,dK,dK,dK,dK,dK,dK,dK,dK,dK,dK,dK,dK,dK,dK,dK,dK,dK,dK,dK,dK,dK]
noncomputable def wB:List Kd:=[dK,dK,.v .bool .k,dK,dK,dK,dK,dK,dK,dK,dK,dK,dK,dK,dK,dK,dK,dK,dK,dK,dK,dK,dK,dK,dK,dK,dK,dK,dK,dK,dK,dK,dK,dK,dK,dK,dK,dK,dK,dK,dK,dK,dK,dK,dK,dK,dK,dK,dK,dK,dK,dK,dK,dK,dK,dK,dK,dK,dK,dK,dK,dK,dK,dK,dK,dK,dK,dK,dK,dK,dK,dK,dK,dK,dK,dK,dK,dK,dK,dK,dK,dK,dK,dK,dK,dK,dK,dK,dK,dK,dK,dK,dK,dK,dK,dK,dK,dK,dK,dK,dK,dK,dK,dK,dK,dK,dK,dK,dK,dK,dK,dK,dK,dK,dK]
noncomputable def wC:Hint:={ bA,hn:=[],loops:=[(8,kK),(2,kL)],outs:=[(8,4,wy),(8,1,wz),(2,2,wA),(2,1,wB)],bH:=[(5,(OT.seq [0,1,2,3,4,5,6,7,8,9,10,11,12,13,14,15,16,17,18,19,20,21,22,23,24,25,26,27,28,29,30,31,32,33,34,35,36,37,38,39,40,41,42,43,44,45,46,47,48,49,50,51,52,53,54] .done)),(11,(OT.seq [0,1,2,3,4,5,6,7,8,9,10,11,12,13,14,16,17,18,19,20,21,22,15,23,24,25] .done))] }
noncomputable def ED:List AK:=[.v (.sl aq) .k]
noncomputable def Zc (N:Nat) (x:ao ED) (kf:af→Option af):Option af:=JT N x.1 (fun r0=>kf ⟨[⟨.bool,.k,r0⟩],[]⟩)
noncomputable def jh (N:Nat):=aI ED (Zc N)
noncomputable def EE (N:Nat):List Entry:=[⟨57,[.val,.val,.val],(iv N)⟩,⟨76,[.val,.val],(oM N)⟩,⟨91,[.val,.val],(Nn N)⟩]
noncomputable def ux:Code:=match Tryz.f68.body with |some c=>c |none=>.skip
noncomputable def AJ (N n:Nat) (key:Nat) (S:St) (K:Ks):Option af:=bif Nat.beq key 2 then aP kL S (fun x=>pQ N x.1 n (K (.x 0) (shape wA (x.1,()))) (fun z0=>K .r (shape wB (z0,()))) x.2.1) else bif Nat.beq key 8 then aP kK S (fun x=>lV N x.1 x.2.1 x.2.2.1 n (K (.x 2) (shape wy (x.1,x.2.1,()))) (fun z0=>K .r (shape wz (z0,()))) x.2.2.2.1) else none
theorem ac7 (N key:Nat) (S:St) (K:Ks):AJ N 0 key S K=none:=(dm (aL fun _=>rfl) (dm (aL fun _=>rfl) rfl))
noncomputable def Np:Code:=(ai ux).getD 0 .skip
noncomputable def Nq:Code:=(ai ux).getD 1 .skip
theorem ac8:ai ux=[Np,Nq]:=by kernel_rfl
theorem Uc (N n:Nat) (x:cj kK) (K:Ks):AJ N (n+1) 8 (shape kK x) (wC.aH 8 K)=aX wC (bE.of (EE N)) (cw (AJ N) N n 8) Nq (shape kK x) (wC.aH 8 K):=by kernel_rfl
theorem Ud (N n:Nat) (x:cj kL) (K:Ks):AJ N (n+1) 2 (shape kL x) (wC.aH 2 K)=aX wC (bE.of (EE N)) (cw (AJ N) N n 2) Np (shape kL x) (wC.aH 2 K):=by kernel_rfl
theorem ac9 (N:Nat) (x:ao ED) (kf:af→Option af):Zc N x kf=aG wC (bE.of (EE N)) (AJ N N) Tryz.f68 (aB ED x) kf:=by kernel_rfl
theorem oN {Γ:Gl} (bh:bo Γ) (N:Nat):Sound Γ Tryz.prog 68 (jh N):=aA (hh:=wC) mixed aO (es:=EE N) ⟨nb bh N,⟨vD bh N,⟨ac6 bh N,trivial⟩⟩⟩ (fn:=Tryz.f68) (body:=ux) (by kernel_rfl) (by kernel_rfl) (by kernel_rfl) (by kernel_rfl) (by kernel_rfl) (Lf:=AJ N) (ac7 N) ac8 (aC (key:=2) (ks:=kL) (by kernel_rfl) (by kernel_rfl) (Ud N) (aC (key:=8) (ks:=kK) (by kernel_rfl) (by kernel_rfl) (Uc N) trivial)) (N:=N) (by kernel_rfl) (ac9 N) (.inl (by kernel_rfl))
noncomputable def Zd:Hint:={ bA,hn:=[],loops:=[],outs:=[],bH:=[] }
noncomputable def EF:List AK:=[.v (.sl aq) .k,.v (.int .i64) .k,.v (.int .i64) .k,.v (.int .i64) .k,.v (.int .i64) .k,.v (.int .i64) .k]
noncomputable def Ze (N:Nat) (x:ao EF) (kf:af→Option af):Option af:=Yw N x.1 x.2.1 x.2.2.1 x.2.2.2.1 x.2.2.2.2.1 x.2.2.2.2.2.1 (fun r0 r1=>kf ⟨[⟨(.sl aq),(.o 45 none (.p .k (.p .k (.p .k (.p .k (.p .k (.o 3 none .k))))))),r0⟩,⟨.bool,.k,r1⟩],[]⟩)
noncomputable def EG (N:Nat):=aI EF (Ze N)
noncomputable def Ue (N:Nat):List Entry:=[⟨46,[.val],(xY N)⟩,⟨76,[.val,.val],(oM N)⟩,⟨68,[.val],(jh N)⟩,⟨57,[.val,.val,.val],(iv N)⟩]
noncomputable def H6:Code:=match Tryz.f53.body with |some c=>c |none=>.skip
theorem ac':ai H6=[]:=by kernel_rfl
theorem ada (N:Nat) (x:ao EF) (kf:af→Option af):Ze N x kf=aG Zd (bE.of (Ue N)) (eo N N) Tryz.f53 (aB EF x) kf:=by kernel_rfl
theorem Uf {Γ:Gl} (bh:bo Γ) (N:Nat):Sound Γ Tryz.prog 53 (EG N):=aA (hh:=Zd) mixed aO (es:=Ue N) ⟨Lw bh N,⟨vD bh N,⟨oN bh N,⟨nb bh N,trivial⟩⟩⟩⟩ (fn:=Tryz.f53) (body:=H6) (by kernel_rfl) (by kernel_rfl) (by kernel_rfl) (by kernel_rfl) (by kernel_rfl) (Lf:=eo N) (ep N) ac' trivial (N:=N) (by kernel_rfl) (ada N) (.inl (by kernel_rfl))
noncomputable def kM:List Kd:=[.v (.ptr bg) (.o 61 (some 0) .k),dK,dK,.v (.sl aq) (.o 45 none (.p .k (.p .k (.p .k (.p .k (.p .k (.o 3 none .k))))))),.v (.int .i64) .k,dK,dK,dK,dK,dK,dK,dK,dK,dK,dK,dK,dK,dK,dK,dK,dK,dK,dK,dK,dK,dK,dK,dK,dK,dK,dK,dK,dK,dK,dK,dK,dK,dK,dK,dK,dK,dK,dK,dK,dK,dK,dK,dK,dK,dK,dK,dK]
noncomputable def wD:List Kd:=[.v (.ptr bg) (.o 61 (some 0) .k),dK,dK,.v (.sl aq) (.o 45 none (.p .k (.p .k (.p .k (.p .k (.p .k (.o 3 none .k))))))),dK,dK,dK,dK,dK,dK,dK,dK,dK,dK,dK,dK,dK,dK,dK,dK,dK,dK,dK,dK,dK,dK,dK,dK,dK,dK,dK,dK,dK,dK,dK,dK,dK,dK,dK,dK,dK,dK,dK,dK,dK,dK,dK,dK,dK,dK,dK,dK]
noncomputable def kN:List Kd:=[.v (.ptr bg) (.o 61 (some 0) .k),dK,dK,.v (.sl aq) (.o 45 none (.p .k (.p .k (.p .k (.p .k (.p .k (.o 3 none .k))))))),dK,.v (.int .i64) .k,dK,dK,dK,dK,dK,dK,dK,dK,dK,dK,dK,dK,dK,dK,dK,dK,dK,dK,dK,dK,dK,dK,dK,dK,dK,dK,dK,dK,dK,dK,dK,dK,dK,dK,dK,dK,dK,dK,dK,dK,dK,dK,dK,dK,dK,dK]
noncomputable def wE:List Kd:=[.v (.ptr bg) (.o 61 (some 0) .k),dK,dK,.v (.sl aq) (.o 45 none (.p .k (.p .k (.p .k (.p .k (.p .k (.o 3 none .k))))))),dK,dK,dK,dK,dK,dK,dK,dK,dK,dK,dK,dK,dK,dK,dK,dK,dK,dK,dK,dK,dK,dK,dK,dK,dK,dK,dK,dK,dK,dK,dK,dK,dK,dK,dK,dK,dK,dK,dK,dK,dK,dK,dK,dK,dK,dK,dK,dK]
noncomputable def wF:Hint:={ bA,hn:=[(6,(.p .k (.p .k (.p .k (.p .k (.p .k (.o 3 none .k)))))))],loops:=[(3,kM),(7,kN)],outs:=[(3,2,wD),(7,4,wE)],bH:=[],pv:=some (0,false) }
noncomputable def AL:List AK:=[.v (.ptr bg) (.o 61 (some 0) .k)]
noncomputable def Zf (N:Nat) (x:ao AL) (kf:af→Option af):Option af:=S39 N x.1 (fun r0 z=>kf ⟨[⟨(.sl aq),(.o 45 none (.p .k (.p .k (.p .k (.p .k (.p .k (.o 3 none .k))))))),r0⟩],[⟨(.ptr bg),(.o 61 (some 0) .k),z⟩]⟩)
noncomputable def EH (N:Nat):=aI AL (Zf N)
noncomputable def EJ (N:Nat):List Entry:=[⟨28,[.dA,.val],(gG N)⟩,⟨53,[.val,.val,.val,.val,.val,.val],(EG N)⟩]
noncomputable def uy:Code:=match Tryz.f39.body with |some c=>c |none=>.skip
noncomputable def AM (N n:Nat) (key:Nat) (S:St) (K:Ks):Option af:=bif Nat.beq key 3 then aP kM S (fun x=>sx N n (fun z0 z1=>K (.x 0) (shape wD (z0,z1,()))) x.1 x.2.1 x.2.2.1) else bif Nat.beq key 7 then aP kN S (fun x=>vd N n (fun z0 z1=>K (.x 2) (shape wE (z0,z1,()))) x.1 x.2.1 x.2.2.1) else none
theorem adb (N key:Nat) (S:St) (K:Ks):AM N 0 key S K=none:=(dm (aL fun _=>rfl) (dm (aL fun _=>rfl) rfl))
noncomputable def Nr:Code:=(ai uy).getD 0 .skip
noncomputable def Ns:Code:=(ai uy).getD 1 .skip
theorem ade:ai uy=[Nr,Ns]:=by kernel_rfl
theorem Ug (N n:Nat) (x:cj kN) (K:Ks):AM N (n+1) 7 (shape kN x) (wF.aH 7 K)=aX wF (bE.of (EJ N)) (cw (AM N) N n 7) Ns (shape kN x) (wF.aH 7 K):=by kernel_rfl
theorem Uh (N n:Nat) (x:cj kM) (K:Ks):AM N (n+1) 3 (shape kM x) (wF.aH 3 K)=aX wF (bE.of (EJ N)) (cw (AM N) N n 3) Nr (shape kM x) (wF.aH 3 K):=by kernel_rfl
theorem adf (N:Nat) (x:ao AL) (kf:af→Option af):Zf N x kf=aG wF (bE.of (EJ N)) (AM N N) Tryz.f39 (aB AL x) kf:=by kernel_rfl
theorem Ui {Γ:Gl} (bh:bo Γ) (N:Nat):Sound Γ Tryz.prog 39 (EH N):=aA (hh:=wF) mixed aO (es:=EJ N) ⟨l7 bh N,⟨Uf bh N,trivial⟩⟩ (fn:=Tryz.f39) (body:=uy) (by kernel_rfl) (by kernel_rfl) (by kernel_rfl) (by kernel_rfl) (by kernel_rfl) (Lf:=AM N) (adb N) ade (aC (key:=3) (ks:=kM) (by kernel_rfl) (by kernel_rfl) (Uh N) (aC (key:=7) (ks:=kN) (by kernel_rfl) (by kernel_rfl) (Ug N) trivial)) (N:=N) (by kernel_rfl) (adf N) (.inl (by kernel_rfl))
noncomputable def Zg:Hint:={ bA,hn:=[],loops:=[],outs:=[],bH:=[],pv:=some (0,false) }
noncomputable def EK:List AK:=[.v (.ptr bg) (.o 61 (some 0) .k),.v (.sl (.int .i64)) .k]
noncomputable def Zh (N:Nat) (x:ao EK) (kf:af→Option af):Option af:=JU N x.1 x.2.1 (fun r0 z=>kf ⟨[⟨(.int .i64),.k,r0⟩],[⟨(.ptr bg),(.o 61 (some 0) .k),z⟩]⟩)
noncomputable def qV (N:Nat):=aI EK (Zh N)
noncomputable def Uj (N:Nat):List Entry:=[⟨28,[.dA,.val],(gG N)⟩]
noncomputable def H7:Code:=match Tryz.f35.body with |some c=>c |none=>.skip
theorem adg:ai H7=[]:=by kernel_rfl
theorem adh (N:Nat) (x:ao EK) (kf:af→Option af):Zh N x kf=aG Zg (bE.of (Uj N)) (eo N N) Tryz.f35 (aB EK x) kf:=by kernel_rfl
theorem AN {Γ:Gl} (bh:bo Γ) (N:Nat):Sound Γ Tryz.prog 35 (qV N):=aA (hh:=Zg) mixed aO (es:=Uj N) ⟨l7 bh N,trivial⟩ (fn:=Tryz.f35) (body:=H7) (by kernel_rfl) (by kernel_rfl) (by kernel_rfl) (by kernel_rfl) (by kernel_rfl) (Lf:=eo N) (ep N) adg trivial (N:=N) (by kernel_rfl) (adh N) (.inl (by kernel_rfl))
noncomputable def Zi:Hint:={ bA,hn:=[(18,.k),(27,.k),(36,.k),(58,.k)],loops:=[],outs:=[],bH:=[],pv:=some (0,false) }
noncomputable def AO:List AK:=[.v (.ptr bg) (.o 61 (some 0) .k)]
noncomputable def Zj (N:Nat) (x:ao AO) (kf:af→Option af):Option af:=S24 N x.1 (fun r0 z=>kf ⟨[⟨(.sl aq),(.o 45 none (.p .k (.p .k (.p .k (.p .k (.p .k (.o 3 none .k))))))),r0⟩],[⟨(.ptr bg),(.o 61 (some 0) .k),z⟩]⟩)
noncomputable def EL (N:Nat):=aI AO (Zj N)
noncomputable def Uk (N:Nat):List Entry:=[⟨39,[.dA],(EH N)⟩,⟨28,[.dA,.val],(gG N)⟩,⟨35,[.dA,.val],(qV N)⟩]
noncomputable def H8:Code:=match Tryz.f24.body with |some c=>c |none=>.skip
theorem adi:ai H8=[]:=by kernel_rfl
theorem adj (N:Nat) (x:ao AO) (kf:af→Option af):Zj N x kf=aG Zi (bE.of (Uk N)) (eo N N) Tryz.f24 (aB AO x) kf:=by kernel_rfl
theorem Ul {Γ:Gl} (bh:bo Γ) (N:Nat):Sound Γ Tryz.prog 24 (EL N):=aA (hh:=Zi) mixed aO (es:=Uk N) ⟨Ui bh N,⟨l7 bh N,⟨AN bh N,trivial⟩⟩⟩ (fn:=Tryz.f24) (body:=H8) (by kernel_rfl) (by kernel_rfl) (by kernel_rfl) (by kernel_rfl) (by kernel_rfl) (Lf:=eo N) (ep N) adi trivial (N:=N) (by kernel_rfl) (adj N) (.inl (by kernel_rfl))
noncomputable def Zk:Hint:={ bA,hn:=[],loops:=[],outs:=[],bH:=[] }
noncomputable def EM:List AK:=[.v (.sl (.int .u8)) .k]
noncomputable def Zl (N:Nat) (x:ao EM) (kf:af→Option af):Option af:=S14 N x.1 (fun r0=>kf ⟨[⟨(.sl aq),(.o 45 none (.p .k (.p .k (.p .k (.p .k (.p .k (.o 3 none .k))))))),r0⟩],[]⟩)
noncomputable def Nt (N:Nat):=aI EM (Zl N)
noncomputable def Um (N:Nat):List Entry:=[⟨17,[.val],(uw N)⟩,⟨24,[.dA],(EL N)⟩]
noncomputable def H9:Code:=match Tryz.f14.body with |some c=>c |none=>.skip
theorem adk:ai H9=[]:=by kernel_rfl
theorem adl (N:Nat) (x:ao EM) (kf:af→Option af):Zl N x kf=aG Zk (bE.of (Um N)) (eo N N) Tryz.f14 (aB EM x) kf:=by kernel_rfl
theorem adm {Γ:Gl} (bh:bo Γ) (N:Nat):Sound Γ Tryz.prog 14 (Nt N):=aA (hh:=Zk) mixed aO (es:=Um N) ⟨Ew bh N,⟨Ul bh N,trivial⟩⟩ (fn:=Tryz.f14) (body:=H9) (by kernel_rfl) (by kernel_rfl) (by kernel_rfl) (by kernel_rfl) (by kernel_rfl) (Lf:=eo N) (ep N) adk trivial (N:=N) (by kernel_rfl) (adl N) (.inl (by kernel_rfl))
noncomputable def aiA:Hint:={ bA,hn:=[],loops:=[],outs:=[],bH:=[] }
noncomputable def Ia:List AK:=[.v (.sl (.int .u8)) .k]
noncomputable def aiB (N:Nat) (x:ao Ia) (kf:af→Option af):Option af:=S5 N x.1 (fun r0=>kf ⟨[⟨(.sl aq),(.o 45 none (.p .k (.p .k (.p .k (.p .k (.p .k (.o 3 none .k))))))),r0⟩],[]⟩)
noncomputable def Un (N:Nat):=aI Ia (aiB N)
noncomputable def Zm (N:Nat):List Entry:=[⟨14,[.val],(Nt N)⟩]
noncomputable def Nu:Code:=match Tryz.f5.body with |some c=>c |none=>.skip
theorem aiC:ai Nu=[]:=by kernel_rfl
theorem aiD (N:Nat) (x:ao Ia) (kf:af→Option af):aiB N x kf=aG aiA (bE.of (Zm N)) (eo N N) Tryz.f5 (aB Ia x) kf:=by kernel_rfl
theorem aiE {Γ:Gl} (bh:bo Γ) (N:Nat):Sound Γ Tryz.prog 5 (Un N):=aA (hh:=aiA) mixed aO (es:=Zm N) ⟨adm bh N,trivial⟩ (fn:=Tryz.f5) (body:=Nu) (by kernel_rfl) (by kernel_rfl) (by kernel_rfl) (by kernel_rfl) (by kernel_rfl) (Lf:=eo N) (ep N) aiC trivial (N:=N) (by kernel_rfl) (aiD N) (.inl (by kernel_rfl))
def XJ:Go.Shelf.Ren:=⟨fun n=>bif Nat.beq n 129 then 99 else bif Nat.beq n 171 then 25 else bif Nat.beq n 243 then 40 else bif Nat.beq n 246 then 64 else bif Nat.beq n 283 then 83 else bif Nat.beq n 284 then 84 else bif Nat.beq n 285 then 85 else bif Nat.beq n 286 then 86 else bif Nat.beq n 317 then 98 else bif Nat.beq n 318 then 100 else bif Nat.beq n 319 then 101 else bif Nat.beq n 320 then 102 else bif Nat.beq n 337 then 105 else bif Nat.beq n 338 then 106 else n,fun n=>bif Nat.beq n 0 then 0 else bif Nat.beq n 2 then 2 else bif Nat.beq n 3 then 3 else bif Nat.beq n 4 then 4 else bif Nat.beq n 5 then 5 else bif Nat.beq n 9 then 9 else bif Nat.beq n 20 then 20 else bif Nat.beq n 37 then 22 else bif Nat.beq n 46 then 105 else bif Nat.beq n 51 then 146 else bif Nat.beq n 53 then 126 else bif Nat.beq n 171 then 125 else bif Nat.beq n 173 then 129 else bif Nat.beq n 212 then 145 else bif Nat.beq n 213 then 147 else bif Nat.beq n 232 then 153 else bif Nat.beq n 233 then 154 else n,fun n=>bif Nat.beq n 17 then 0 else bif Nat.beq n 18 then 2 else bif Nat.beq n 19 then 3 else n⟩
theorem Uo:LaysM.n171 Tryz.prog XJ:={ mixed:=by kernel_rfl,f129:=by kernel_rfl,f171:=by kernel_rfl,f243:=by kernel_rfl,f246:=by kernel_rfl,f283:=by kernel_rfl,f284:=by kernel_rfl,f285:=by kernel_rfl,f286:=by kernel_rfl,f317:=by kernel_rfl,f318:=by kernel_rfl,f319:=by kernel_rfl,f320:=by kernel_rfl,f337:=by kernel_rfl,f338:=by kernel_rfl,t0:=by kernel_rfl,a0:=fun w=>by kernel_rfl,z0:=fun w=>by kernel_rfl,v0:=fun w=>by kernel_rfl,t2:=by kernel_rfl,a2:=fun w=>by kernel_rfl,z2:=fun w=>by kernel_rfl,v2:=fun w=>by kernel_rfl,t3:=by kernel_rfl,a3:=fun w=>by kernel_rfl,z3:=fun w=>by kernel_rfl,v3:=fun w=>by kernel_rfl,t4:=by kernel_rfl,a4:=fun w=>by kernel_rfl,z4:=fun w=>by kernel_rfl,v4:=fun w=>by kernel_rfl,t5:=by kernel_rfl,a5:=fun w=>by kernel_rfl,z5:=fun w=>by kernel_rfl,v5:=fun w=>by kernel_rfl,t9:=by kernel_rfl,a9:=fun w=>by kernel_rfl,z9:=fun w=>by kernel_rfl,v9:=fun w=>by kernel_rfl,t20:=by kernel_rfl,a20:=fun w=>by kernel_rfl,z20:=fun w=>by kernel_rfl,v20:=fun w=>by kernel_rfl,t37:=by kernel_rfl,a37:=fun w=>by kernel_rfl,z37:=fun w=>by kernel_rfl,v37:=fun w=>by kernel_rfl,t46:=by kernel_rfl,a46:=fun w=>by kernel_rfl,z46:=fun w=>by kernel_rfl,v46:=fun w=>by kernel_rfl,t51:=by kernel_rfl,a51:=fun w=>by kernel_rfl,z51:=fun w=>by kernel_rfl,v51:=fun w=>by kernel_rfl,t53:=by kernel_rfl,a53:=fun w=>by kernel_rfl,z53:=fun w=>by kernel_rfl,v53:=fun w=>by kernel_rfl,t171:=by kernel_rfl,a171:=fun w=>by kernel_rfl,z171:=fun w=>by kernel_rfl,v171:=fun w=>by kernel_rfl,t173:=by kernel_rfl,a173:=fun w=>by kernel_rfl,z173:=fun w=>by kernel_rfl,v173:=fun w=>by kernel_rfl,t212:=by kernel_rfl,a212:=fun w=>by kernel_rfl,z212:=fun w=>by kernel_rfl,v212:=fun w=>by kernel_rfl,t213:=by kernel_rfl,a213:=fun w=>by kernel_rfl,z213:=fun w=>by kernel_rfl,t232:=by kernel_rfl,a232:=fun w=>by kernel_rfl,z232:=fun w=>by kernel_rfl,v232:=fun w=>by kernel_rfl,t233:=by kernel_rfl,a233:=fun w=>by kernel_rfl,z233:=fun w=>by kernel_rfl,v233:=fun w=>by kernel_rfl,g17:=by kernel_rfl,g18:=by kernel_rfl,g19:=by kernel_rfl,i0:=by kernel_rfl,i2:=by kernel_rfl,i3:=by kernel_rfl,i4:=by kernel_rfl,i5:=by kernel_rfl,i9:=by kernel_rfl,i20:=by kernel_rfl,i37:=by kernel_rfl,i46:=by kernel_rfl,i51:=by kernel_rfl,i53:=by kernel_rfl,i171:=by kernel_rfl,i173:=by kernel_rfl,i212:=by kernel_rfl,i232:=by kernel_rfl,i233:=by kernel_rfl,m17:=by kernel_rfl,m18:=by kernel_rfl,m19:=by kernel_rfl }
noncomputable def Up:List AK:=[.v (.int .i64) .k]
noncomputable def aiF (N:Nat) (x:ao Up) (kf:af→Option af):Option af:=S25 N x.1 (fun r0=>kf ⟨[⟨.str,.k,r0⟩],[]⟩)
noncomputable def Nv (N:Nat):=aI Up (aiF N)
theorem adn {Γ:Gl} (bh:bo Γ) (N:Nat):Sound Γ Tryz.prog 25 (Nv N):=Ls Uo bh
noncomputable def Zn:Hint:={ bA,hn:=[],loops:=[],outs:=[],bH:=[] }
noncomputable def EN:List AK:=[.v (.int .i64) .k]
noncomputable def Zo (N:Nat) (x:ao EN) (kf:af→Option af):Option af:=zz N x.1 (fun r0=>kf ⟨[⟨.str,.k,r0⟩],[]⟩)
noncomputable def uz (N:Nat):=aI EN (Zo N)
noncomputable def Uq (N:Nat):List Entry:=[⟨25,[.val],(Nv N)⟩]
noncomputable def Ib:Code:=match Tryz.f15.body with |some c=>c |none=>.skip
theorem ado:ai Ib=[]:=by kernel_rfl
theorem adp (N:Nat) (x:ao EN) (kf:af→Option af):Zo N x kf=aG Zn (bE.of (Uq N)) (eo N N) Tryz.f15 (aB EN x) kf:=by kernel_rfl
theorem EO {Γ:Gl} (bh:bo Γ) (N:Nat):Sound Γ Tryz.prog 15 (uz N):=aA (hh:=Zn) mixed aO (es:=Uq N) ⟨adn bh N,trivial⟩ (fn:=Tryz.f15) (body:=Ib) (by kernel_rfl) (by kernel_rfl) (by kernel_rfl) (by kernel_rfl) (by kernel_rfl) (Lf:=eo N) (ep N) ado trivial (N:=N) (by kernel_rfl) (adp N) (.inl (by kernel_rfl))
def Nw:Go.Shelf.Ren:=⟨fun n=>bif Nat.beq n 156 then 26 else bif Nat.beq n 165 then 41 else bif Nat.beq n 166 then 42 else bif Nat.beq n 169 then 43 else bif Nat.beq n 240 then 65 else bif Nat.beq n 241 then 66 else bif Nat.beq n 276 then 87 else bif Nat.beq n 277 then 88 else n,fun n=>bif Nat.beq n 0 then 0 else bif Nat.beq n 3 then 3 else bif Nat.beq n 4 then 4 else bif Nat.beq n 5 then 5 else bif Nat.beq n 9 then 9 else bif Nat.beq n 20 then 20 else bif Nat.beq n 31 then 43 else bif Nat.beq n 37 then 22 else bif Nat.beq n 70 then 73 else bif Nat.beq n 72 then 75 else bif Nat.beq n 75 then 78 else bif Nat.beq n 76 then 79 else bif Nat.beq n 80 then 81 else bif Nat.beq n 127 then 104 else bif Nat.beq n 164 then 131 else n,fun n=>n⟩
theorem Ur:Lays.n156 Tryz.prog Nw:={ mixed:=by kernel_rfl,f156:=by kernel_rfl,f165:=by kernel_rfl,f166:=by kernel_rfl,f169:=by kernel_rfl,f240:=by kernel_rfl,f241:=by kernel_rfl,f276:=by kernel_rfl,f277:=by kernel_rfl,t0:=by kernel_rfl,a0:=fun w=>by kernel_rfl,z0:=fun w=>by kernel_rfl,v0:=fun w=>by kernel_rfl,t3:=by kernel_rfl,a3:=fun w=>by kernel_rfl,z3:=fun w=>by kernel_rfl,v3:=fun w=>by kernel_rfl,t4:=by kernel_rfl,a4:=fun w=>by kernel_rfl,z4:=fun w=>by kernel_rfl,v4:=fun w=>by kernel_rfl,t9:=by kernel_rfl,a9:=fun w=>by kernel_rfl,z9:=fun w=>by kernel_rfl,v9:=fun w=>by kernel_rfl,t20:=by kernel_rfl,a20:=fun w=>by kernel_rfl,z20:=fun w=>by kernel_rfl,v20:=fun w=>by kernel_rfl,t31:=by kernel_rfl,a31:=fun w=>by kernel_rfl,z31:=fun w=>by kernel_rfl,v31:=fun w=>by kernel_rfl,t37:=by kernel_rfl,a37:=fun w=>by kernel_rfl,z37:=fun w=>by kernel_rfl,v37:=fun w=>by kernel_rfl,t70:=by kernel_rfl,a70:=fun w=>by kernel_rfl,z70:=fun w=>by kernel_rfl,v70:=fun w=>by kernel_rfl,t72:=by kernel_rfl,a72:=fun w=>by kernel_rfl,z72:=fun w=>by kernel_rfl,v72:=fun w=>by kernel_rfl,t75:=by kernel_rfl,a75:=fun w=>by kernel_rfl,z75:=fun w=>by kernel_rfl,v75:=fun w=>by kernel_rfl,t76:=by kernel_rfl,a76:=fun w=>by kernel_rfl,z76:=fun w=>by kernel_rfl,v76:=fun w=>by kernel_rfl,t127:=by kernel_rfl,a127:=fun w=>by kernel_rfl,z127:=fun w=>by kernel_rfl,v127:=fun w=>by kernel_rfl,t164:=by kernel_rfl,a164:=fun w=>by kernel_rfl,z164:=fun w=>by kernel_rfl,v164:=fun w=>by kernel_rfl }
theorem Us:Builder.Extra Tryz.prog Nw:={ sizeBuilder:=by kernel_rfl,liesBuilder:=by kernel_rfl,t5:=by kernel_rfl,a5:=fun w=>by kernel_rfl,z5:=fun w=>by kernel_rfl,v5:=fun w=>by kernel_rfl,infoByte:=by kernel_rfl,cellsByte:=by kernel_rfl,sizeByte:=by kernel_rfl,neB5:=by decide }
noncomputable def Ut:List AK:=[.v (.sl .str) .k,.v .str .k]
noncomputable def aiG (N:Nat) (x:ao Ut) (kf:af→Option af):Option af:=S26 N x.1 x.2.1 (fun r0=>kf ⟨[⟨.str,.k,r0⟩],[]⟩)
noncomputable def Nx (N:Nat):=aI Ut (aiG N)
theorem adq {Γ:Gl} (bh:bo Γ) (N:Nat):Sound Γ Tryz.prog 26 (Nx N):=Lt Ur Us
noncomputable def Zp:Hint:={ bA,hn:=[],loops:=[],outs:=[],bH:=[] }
noncomputable def EP:List AK:=[.v (.sl .str) .k]
noncomputable def Zq (N:Nat) (x:ao EP) (kf:af→Option af):Option af:=Wh N x.1 (fun r0=>kf ⟨[⟨.str,.k,r0⟩],[]⟩)
noncomputable def uA (N:Nat):=aI EP (Zq N)
noncomputable def Uu (N:Nat):List Entry:=[⟨26,[.val,.val],(Nx N)⟩]
noncomputable def Ic:Code:=match Tryz.f16.body with |some c=>c |none=>.skip
theorem adr:ai Ic=[]:=by kernel_rfl
theorem ads (N:Nat) (x:ao EP) (kf:af→Option af):Zq N x kf=aG Zp (bE.of (Uu N)) (eo N N) Tryz.f16 (aB EP x) kf:=by kernel_rfl
theorem ER {Γ:Gl} (bh:bo Γ) (N:Nat):Sound Γ Tryz.prog 16 (uA N):=aA (hh:=Zp) mixed aO (es:=Uu N) ⟨adq bh N,trivial⟩ (fn:=Tryz.f16) (body:=Ic) (by kernel_rfl) (by kernel_rfl) (by kernel_rfl) (by kernel_rfl) (by kernel_rfl) (Lf:=eo N) (ep N) adr trivial (N:=N) (by kernel_rfl) (ads N) (.inl (by kernel_rfl))
noncomputable def nM:List Kd:=[dK,dK,dK,.v (.sl .str) (.o 9 none .k),dK,dK,dK,.v (.sl aq) .k,.v (.int .i64) .k,.v (.int .i64) .k,dK,dK,dK,dK,dK,dK,dK,dK,dK,dK,dK,dK,dK,dK,dK,dK,dK,dK,dK,dK,dK,dK,dK,dK,dK,dK,dK,dK]
noncomputable def AP:List Kd:=[dK,dK,dK,.v (.sl .str) (.o 9 none .k),dK,dK,dK,dK,dK,dK,dK,dK,dK,dK,dK,dK,dK,dK,dK,dK,dK,dK,dK,dK,dK,dK,dK,dK,dK,dK,dK,dK,dK,dK,dK,dK,dK,dK]
noncomputable def Uv:Hint:={ bA,hn:=[],loops:=[(3,nM)],outs:=[(3,2,AP)],bH:=[(5,(OT.seq [0,1,2,5,6,10,11,12,16,17,3,4,7,8,9,13,14,15,18,19,20,21,22] .done))] }
noncomputable def Ie:List AK:=[.v (.sl aq) .k]
noncomputable def aiH (N:Nat) (x:ao Ie) (kf:af→Option af):Option af:=I6 N x.1 (fun r0=>kf ⟨[⟨.str,.k,r0⟩],[]⟩)
noncomputable def Uw (N:Nat):=aI Ie (aiH N)
noncomputable def Ux (N:Nat):List Entry:=[⟨15,[.val],(uz N)⟩,⟨16,[.val],(uA N)⟩]
noncomputable def ES:Code:=match Tryz.f6.body with |some c=>c |none=>.skip
noncomputable def Uy (N n:Nat) (key:Nat) (S:St) (K:Ks):Option af:=bif Nat.beq key 3 then aP nM S (fun x=>zA N x.2.1 x.2.2.1 n (fun z0=>K (.x 0) (shape AP (z0,()))) x.1 x.2.2.2.1) else none
theorem aiI (N key:Nat) (S:St) (K:Ks):Uy N 0 key S K=none:=(dm (aL fun _=>rfl) rfl)
noncomputable def Uz:Code:=(ai ES).getD 0 .skip
theorem aiJ:ai ES=[Uz]:=by kernel_rfl
theorem XK (N n:Nat) (x:cj nM) (K:Ks):Uy N (n+1) 3 (shape nM x) (Uv.aH 3 K)=aX Uv (bE.of (Ux N)) (cw (Uy N) N n 3) Uz (shape nM x) (Uv.aH 3 K):=by kernel_rfl
theorem aiK (N:Nat) (x:ao Ie) (kf:af→Option af):aiH N x kf=aG Uv (bE.of (Ux N)) (Uy N N) Tryz.f6 (aB Ie x) kf:=by kernel_rfl
theorem aiL {Γ:Gl} (bh:bo Γ) (N:Nat):Sound Γ Tryz.prog 6 (Uw N):=aA (hh:=Uv) mixed aO (es:=Ux N) ⟨EO bh N,⟨ER bh N,trivial⟩⟩ (fn:=Tryz.f6) (body:=ES) (by kernel_rfl) (by kernel_rfl) (by kernel_rfl) (by kernel_rfl) (by kernel_rfl) (Lf:=Uy N) (aiI N) aiJ (aC (key:=3) (ks:=nM) (by kernel_rfl) (by kernel_rfl) (XK N) trivial) (N:=N) (by kernel_rfl) (aiK N) (.inl (by kernel_rfl))
noncomputable def Zr:Hint:={ bA,hn:=[],loops:=[],outs:=[],bH:=[] }
noncomputable def ET:List AK:=[]
noncomputable def Zs (N:Nat) (x:ao ET) (kf:af→Option af):Option af:=S27 N (fun r0=>kf ⟨[⟨ae,(.p (.o 45 none (.p .k (.p .k (.p .k (.p .k (.p .k (.o 3 none .k))))))) (.p (.o 88 none (.p .k (.p .k (.o 3 none .k)))) (.p (.o 53 none .k) (.p (.o 3 none .k) (.p (.o 70 none .k) (.p (.o 121 none .k) .k)))))),r0⟩],[]⟩)
noncomputable def Ny (N:Nat):=aI ET (Zs N)
noncomputable def UA (N:Nat):List Entry:=[]
noncomputable def Ig:Code:=match Tryz.f27.body with |some c=>c |none=>.skip
theorem adt:ai Ig=[]:=by kernel_rfl
theorem adu (N:Nat) (x:ao ET) (kf:af→Option af):Zs N x kf=aG Zr (bE.of (UA N)) (eo N N) Tryz.f27 (aB ET x) kf:=by kernel_rfl
theorem adv {Γ:Gl} (bh:bo Γ) (N:Nat):Sound Γ Tryz.prog 27 (Ny N):=aA (hh:=Zr) mixed aO (es:=UA N) trivial (fn:=Tryz.f27) (body:=Ig) (by kernel_rfl) (by kernel_rfl) (by kernel_rfl) (by kernel_rfl) (by kernel_rfl) (Lf:=eo N) (ep N) adt trivial (N:=N) (by kernel_rfl) (adu N) (.inl (by kernel_rfl))
noncomputable def kO:List Kd:=[.v (.sl b5) .k,dK,dK,.v (.sl b5) (.o 88 none (.p .k (.p .k (.o 3 none .k)))),.v (.int .i64) .k,dK,dK,dK,dK,dK,dK,dK,dK,dK,dK,dK,dK,dK,dK,dK,dK,dK,dK,dK,dK,dK,dK]
noncomputable def wG:List Kd:=[dK,dK,dK,.v (.sl b5) (.o 88 none (.p .k (.p .k (.o 3 none .k)))),dK,dK,dK,dK,dK,dK,dK,dK,dK,dK,dK,dK,dK,dK,dK,dK,dK,dK,dK,dK,dK,dK,dK]
noncomputable def Ih:Hint:={ bA,hn:=[(6,(.p .k (.p .k (.o 3 none .k))))],loops:=[(3,kO)],outs:=[(3,2,wG)],bH:=[] }
noncomputable def EU:List AK:=[.v (.sl b5) .k]
noncomputable def Zt (N:Nat) (x:ao EU) (kf:af→Option af):Option af:=S49 N x.1 (fun r0=>kf ⟨[⟨(.sl b5),(.o 88 none (.p .k (.p .k (.o 3 none .k)))),r0⟩],[]⟩)
noncomputable def EV (N:Nat):=aI EU (Zt N)
noncomputable def Lz (N:Nat):List Entry:=[]
noncomputable def AQ:Code:=match Tryz.f49.body with |some c=>c |none=>.skip
noncomputable def Ii (N n:Nat) (key:Nat) (S:St) (K:Ks):Option af:=bif Nat.beq key 3 then aP kO S (fun x=>sy x.1 n (fun z0=>K (.x 0) (shape wG (z0,()))) x.2.1 x.2.2.1) else none
theorem adw (N key:Nat) (S:St) (K:Ks):Ii N 0 key S K=none:=(dm (aL fun _=>rfl) rfl)
noncomputable def Nz:Code:=(ai AQ).getD 0 .skip
theorem adx:ai AQ=[Nz]:=by kernel_rfl
theorem UB (N n:Nat) (x:cj kO) (K:Ks):Ii N (n+1) 3 (shape kO x) (Ih.aH 3 K)=aX Ih (bE.of (Lz N)) (cw (Ii N) N n 3) Nz (shape kO x) (Ih.aH 3 K):=by kernel_rfl
theorem ady (N:Nat) (x:ao EU) (kf:af→Option af):Zt N x kf=aG Ih (bE.of (Lz N)) (Ii N N) Tryz.f49 (aB EU x) kf:=by kernel_rfl
theorem UC {Γ:Gl} (bh:bo Γ) (N:Nat):Sound Γ Tryz.prog 49 (EV N):=aA (hh:=Ih) mixed aO (es:=Lz N) trivial (fn:=Tryz.f49) (body:=AQ) (by kernel_rfl) (by kernel_rfl) (by kernel_rfl) (by kernel_rfl) (by kernel_rfl) (Lf:=Ii N) (adw N) adx (aC (key:=3) (ks:=kO) (by kernel_rfl) (by kernel_rfl) (UB N) trivial) (N:=N) (by kernel_rfl) (ady N) (.inl (by kernel_rfl))
noncomputable def Zu:Hint:={ bA,hn:=[],loops:=[],outs:=[],bH:=[(1,(OT.seq [0,1,3,4,7,8,11,15,19,22] (.any [2,5,6,9,10,12,13,14,16,17,18,20,21,23] (OT.seq [24,25] .done))))] }
noncomputable def EW:List AK:=[.v ae .k]
noncomputable def Zv (N:Nat) (x:ao EW) (kf:af→Option af):Option af:=P3 N x.1 (fun r0=>kf ⟨[⟨ae,(.p (.o 45 none (.p .k (.p .k (.p .k (.p .k (.p .k (.o 3 none .k))))))) (.p (.o 88 none (.p .k (.p .k (.o 3 none .k)))) (.p (.o 53 none .k) (.p (.o 3 none .k) (.p (.o 70 none .k) (.p (.o 121 none .k) .k)))))),r0⟩],[]⟩)
noncomputable def oO (N:Nat):=aI EW (Zv N)
noncomputable def UD (N:Nat):List Entry:=[⟨46,[.val],(xY N)⟩,⟨49,[.val],(EV N)⟩]
noncomputable def Ij:Code:=match Tryz.f45.body with |some c=>c |none=>.skip
theorem adz:ai Ij=[]:=by kernel_rfl
theorem adA (N:Nat) (x:ao EW) (kf:af→Option af):Zv N x kf=aG Zu (bE.of (UD N)) (eo N N) Tryz.f45 (aB EW x) kf:=by kernel_rfl
theorem vE {Γ:Gl} (bh:bo Γ) (N:Nat):Sound Γ Tryz.prog 45 (oO N):=aA (hh:=Zu) mixed aO (es:=UD N) ⟨Lw bh N,⟨UC bh N,trivial⟩⟩ (fn:=Tryz.f45) (body:=Ij) (by kernel_rfl) (by kernel_rfl) (by kernel_rfl) (by kernel_rfl) (by kernel_rfl) (Lf:=eo N) (ep N) adz trivial (N:=N) (by kernel_rfl) (adA N) (.inl (by kernel_rfl))
noncomputable def Zw:Hint:={ bA,hn:=[],loops:=[],outs:=[],bH:=[] }
noncomputable def EX:List AK:=[.v ae .k]
noncomputable def Zx (N:Nat) (x:ao EX) (kf:af→Option af):Option af:=S48 N x.1 (fun r0=>kf ⟨[⟨.bool,.k,r0⟩],[]⟩)
noncomputable def xZ (N:Nat):=aI EX (Zx N)
noncomputable def UE (N:Nat):List Entry:=[]
noncomputable def Ik:Code:=match Tryz.f48.body with |some c=>c |none=>.skip
theorem adB:ai Ik=[]:=by kernel_rfl
theorem adC (N:Nat) (x:ao EX) (kf:af→Option af):Zx N x kf=aG Zw (bE.of (UE N)) (eo N N) Tryz.f48 (aB EX x) kf:=by kernel_rfl
theorem LA {Γ:Gl} (bh:bo Γ) (N:Nat):Sound Γ Tryz.prog 48 (xZ N):=aA (hh:=Zw) mixed aO (es:=UE N) trivial (fn:=Tryz.f48) (body:=Ik) (by kernel_rfl) (by kernel_rfl) (by kernel_rfl) (by kernel_rfl) (by kernel_rfl) (Lf:=eo N) (ep N) adB trivial (N:=N) (by kernel_rfl) (adC N) (.inl (by kernel_rfl))
noncomputable def Zy:Hint:={ bA,hn:=[],loops:=[],outs:=[],bH:=[] }
noncomputable def EY:List AK:=[.v (.sl fc) .k]
noncomputable def Zz (N:Nat) (x:ao EY) (kf:af→Option af):Option af:=S90 N x.1 (fun r0=>kf ⟨[⟨(.int .i64),.k,r0⟩],[]⟩)
noncomputable def NA (N:Nat):=aI EY (Zz N)
noncomputable def UF (N:Nat):List Entry:=[]
noncomputable def Il:Code:=match Tryz.f90.body with |some c=>c |none=>.skip
theorem adD:ai Il=[]:=by kernel_rfl
theorem adE (N:Nat) (x:ao EY) (kf:af→Option af):Zz N x kf=aG Zy (bE.of (UF N)) (eo N N) Tryz.f90 (aB EY x) kf:=by kernel_rfl
theorem adF {Γ:Gl} (bh:bo Γ) (N:Nat):Sound Γ Tryz.prog 90 (NA N):=aA (hh:=Zy) mixed aO (es:=UF N) trivial (fn:=Tryz.f90) (body:=Il) (by kernel_rfl) (by kernel_rfl) (by kernel_rfl) (by kernel_rfl) (by kernel_rfl) (Lf:=eo N) (ep N) adD trivial (N:=N) (by kernel_rfl) (adE N) (.inl (by kernel_rfl))
noncomputable def UG:Hint:={ bA,hn:=[],loops:=[],outs:=[],bH:=[] }
noncomputable def x5:List AK:=[.v (.int .i64) .k,.v (.int .i64) .k]
noncomputable def UH (N:Nat) (x:ao x5) (kf:af→Option af):Option af:=RU N x.1 x.2.1 (fun r0=>kf ⟨[⟨(.int .i64),.k,r0⟩],[]⟩)
noncomputable def Im (N:Nat):=aI x5 (UH N)
noncomputable def NB (N:Nat):List Entry:=[⟨57,[.val,.val,.val],(iv N)⟩]
noncomputable def Dg:Code:=match Tryz.f107.body with |some c=>c |none=>.skip
theorem XL:ai Dg=[]:=by kernel_rfl
theorem XM (N:Nat) (x:ao x5) (kf:af→Option af):UH N x kf=aG UG (bE.of (NB N)) (eo N N) Tryz.f107 (aB x5 x) kf:=by kernel_rfl
theorem XN {Γ:Gl} (bh:bo Γ) (N:Nat):Sound Γ Tryz.prog 107 (Im N):=aA (hh:=UG) mixed aO (es:=NB N) ⟨nb bh N,trivial⟩ (fn:=Tryz.f107) (body:=Dg) (by kernel_rfl) (by kernel_rfl) (by kernel_rfl) (by kernel_rfl) (by kernel_rfl) (Lf:=eo N) (ep N) XL trivial (N:=N) (by kernel_rfl) (XM N) (.inl (by kernel_rfl))
noncomputable def iV:List Kd:=[.v (.sl (.int .i64)) .k,dK,dK,.v (.int .i64) .k,.v (.int .i64) .k,dK,dK,dK,dK,dK,dK,dK,dK,dK,dK,dK,dK,dK,dK,dK,dK,dK]
noncomputable def uB:List Kd:=[dK,dK,dK,.v (.int .i64) .k,dK,dK,dK,dK,dK,dK,dK,dK,dK,dK,dK,dK,dK,dK,dK,dK,dK,dK]
noncomputable def AR:Hint:={ bA,hn:=[],loops:=[(3,iV)],outs:=[(3,2,uB)],bH:=[] }
noncomputable def x6:List AK:=[.v (.sl (.int .i64)) .k]
noncomputable def UI (N:Nat) (x:ao x6) (kf:af→Option af):Option af:=Xe N x.1 (fun r0=>kf ⟨[⟨(.int .i64),.k,r0⟩],[]⟩)
noncomputable def Io (N:Nat):=aI x6 (UI N)
noncomputable def EZ (N:Nat):List Entry:=[⟨107,[.val,.val],(Im N)⟩]
noncomputable def vF:Code:=match Tryz.f103.body with |some c=>c |none=>.skip
noncomputable def AS (N n:Nat) (key:Nat) (S:St) (K:Ks):Option af:=bif Nat.beq key 3 then aP iV S (fun x=>oh N x.1 n (fun z0=>K (.x 0) (shape uB (z0,()))) x.2.1 x.2.2.1) else none
theorem XO (N key:Nat) (S:St) (K:Ks):AS N 0 key S K=none:=(dm (aL fun _=>rfl) rfl)
noncomputable def Ip:Code:=(ai vF).getD 0 .skip
theorem XP:ai vF=[Ip]:=by kernel_rfl
theorem PS (N n:Nat) (x:cj iV) (K:Ks):AS N (n+1) 3 (shape iV x) (AR.aH 3 K)=aX AR (bE.of (EZ N)) (cw (AS N) N n 3) Ip (shape iV x) (AR.aH 3 K):=by kernel_rfl
theorem XQ (N:Nat) (x:ao x6) (kf:af→Option af):UI N x kf=aG AR (bE.of (EZ N)) (AS N N) Tryz.f103 (aB x6 x) kf:=by kernel_rfl
theorem XR {Γ:Gl} (bh:bo Γ) (N:Nat):Sound Γ Tryz.prog 103 (Io N):=aA (hh:=AR) mixed aO (es:=EZ N) ⟨XN bh N,trivial⟩ (fn:=Tryz.f103) (body:=vF) (by kernel_rfl) (by kernel_rfl) (by kernel_rfl) (by kernel_rfl) (by kernel_rfl) (Lf:=AS N) (XO N) XP (aC (key:=3) (ks:=iV) (by kernel_rfl) (by kernel_rfl) (PS N) trivial) (N:=N) (by kernel_rfl) (XQ N) (.inl (by kernel_rfl))
noncomputable def ZA:Hint:={ bA,hn:=[],loops:=[],outs:=[],bH:=[] }
noncomputable def E0:List AK:=[.v (.int .i64) .k,.v fc .k]
noncomputable def ZB (N:Nat) (x:ao E0) (kf:af→Option af):Option af:=S89 N x.1 x.2.1 (fun r0=>kf ⟨[⟨(.int .i64),.k,r0⟩],[]⟩)
noncomputable def E3 (N:Nat):=aI E0 (ZB N)
noncomputable def UJ (N:Nat):List Entry:=[⟨103,[.val],(Io N)⟩]
noncomputable def Iq:Code:=match Tryz.f89.body with |some c=>c |none=>.skip
theorem adG:ai Iq=[]:=by kernel_rfl
theorem adH (N:Nat) (x:ao E0) (kf:af→Option af):ZB N x kf=aG ZA (bE.of (UJ N)) (eo N N) Tryz.f89 (aB E0 x) kf:=by kernel_rfl
theorem UK {Γ:Gl} (bh:bo Γ) (N:Nat):Sound Γ Tryz.prog 89 (E3 N):=aA (hh:=ZA) mixed aO (es:=UJ N) ⟨XR bh N,trivial⟩ (fn:=Tryz.f89) (body:=Iq) (by kernel_rfl) (by kernel_rfl) (by kernel_rfl) (by kernel_rfl) (by kernel_rfl) (Lf:=eo N) (ep N) adG trivial (N:=N) (by kernel_rfl) (adH N) (.inl (by kernel_rfl))
noncomputable def kP:List Kd:=[.v (.sl fc) .k,dK,dK,.v (.int .i64) .k,.v (.int .i64) .k,dK,dK,dK,dK,dK,dK,dK,dK,dK,dK,dK,dK,dK,dK,dK,dK,dK,dK,dK,dK,dK,dK,dK,dK,dK,dK,dK,dK,dK,dK,dK,dK,dK,dK,dK,dK,dK,dK,dK,dK,dK,dK,dK,dK,dK]
noncomputable def wH:List Kd:=[.v (.sl fc) .k,dK,dK,dK,dK,dK,dK,dK,dK,dK,dK,dK,dK,dK,dK,dK,dK,dK,dK,dK,dK,dK,dK,dK,dK,dK,dK,dK,dK,dK,dK,dK,dK,dK,dK,dK,dK,dK,dK,dK,dK,dK,dK,dK,dK,dK,dK,dK,dK,dK]
noncomputable def wI:List Kd:=[dK,dK,.v .bool .k,dK,dK,dK,dK,dK,dK,dK,dK,dK,dK,dK,dK,dK,dK,dK,dK,dK,dK,dK,dK,dK,dK,dK,dK,dK,dK,dK,dK,dK,dK,dK,dK,dK,dK,dK,dK,dK,dK,dK,dK,dK,dK,dK,dK,dK,dK,dK]
noncomputable def Ir:Hint:={ bA,hn:=[],loops:=[(3,kP)],outs:=[(3,2,wH),(3,1,wI)],bH:=[] }
noncomputable def E4:List AK:=[.v (.sl fc) .k]
noncomputable def ZC (N:Nat) (x:ao E4) (kf:af→Option af):Option af:=S73 N x.1 (fun r0=>kf ⟨[⟨.bool,.k,r0⟩],[]⟩)
noncomputable def E5 (N:Nat):=aI E4 (ZC N)
noncomputable def LB (N:Nat):List Entry:=[⟨89,[.val,.val],(E3 N)⟩,⟨57,[.val,.val,.val],(iv N)⟩]
noncomputable def AT:Code:=match Tryz.f73.body with |some c=>c |none=>.skip
noncomputable def Is (N n:Nat) (key:Nat) (S:St) (K:Ks):Option af:=bif Nat.beq key 3 then aP kP S (fun x=>sz N x.1 n (K (.x 0) (shape wH (x.1,()))) (fun z0=>K .r (shape wI (z0,()))) x.2.1 x.2.2.1) else none
theorem adI (N key:Nat) (S:St) (K:Ks):Is N 0 key S K=none:=(dm (aL fun _=>rfl) rfl)
noncomputable def NC:Code:=(ai AT).getD 0 .skip
theorem adJ:ai AT=[NC]:=by kernel_rfl
theorem UL (N n:Nat) (x:cj kP) (K:Ks):Is N (n+1) 3 (shape kP x) (Ir.aH 3 K)=aX Ir (bE.of (LB N)) (cw (Is N) N n 3) NC (shape kP x) (Ir.aH 3 K):=by kernel_rfl
theorem adK (N:Nat) (x:ao E4) (kf:af→Option af):ZC N x kf=aG Ir (bE.of (LB N)) (Is N N) Tryz.f73 (aB E4 x) kf:=by kernel_rfl
theorem UM {Γ:Gl} (bh:bo Γ) (N:Nat):Sound Γ Tryz.prog 73 (E5 N):=aA (hh:=Ir) mixed aO (es:=LB N) ⟨UK bh N,⟨nb bh N,trivial⟩⟩ (fn:=Tryz.f73) (body:=AT) (by kernel_rfl) (by kernel_rfl) (by kernel_rfl) (by kernel_rfl) (by kernel_rfl) (Lf:=Is N) (adI N) adJ (aC (key:=3) (ks:=kP) (by kernel_rfl) (by kernel_rfl) (UL N) trivial) (N:=N) (by kernel_rfl) (adK N) (.inl (by kernel_rfl))
noncomputable def ZD:Hint:={ bA,hn:=[],loops:=[],outs:=[],bH:=[(2,(OT.seq [0,2,1,3,4,5] .done)),(3,(OT.seq [1] (.any [0,2,3,4] (OT.seq [5,6] .done))))] }
noncomputable def E6:List AK:=[.v (.sl fc) .k,.v (.int .i64) .k,.v (.int .i64) .k]
noncomputable def ZE (N:Nat) (x:ao E6) (kf:af→Option af):Option af:=S67 N x.1 x.2.1 x.2.2.1 (fun r0 r1=>kf ⟨[⟨(.sl fc),(.o 121 none .k),r0⟩,⟨.bool,.k,r1⟩],[]⟩)
noncomputable def E7 (N:Nat):=aI E6 (ZE N)
noncomputable def UN (N:Nat):List Entry:=[⟨90,[.val],(NA N)⟩,⟨89,[.val,.val],(E3 N)⟩,⟨73,[.val],(E5 N)⟩]
noncomputable def It:Code:=match Tryz.f67.body with |some c=>c |none=>.skip
theorem adL:ai It=[]:=by kernel_rfl
theorem adM (N:Nat) (x:ao E6) (kf:af→Option af):ZE N x kf=aG ZD (bE.of (UN N)) (eo N N) Tryz.f67 (aB E6 x) kf:=by kernel_rfl
theorem UO {Γ:Gl} (bh:bo Γ) (N:Nat):Sound Γ Tryz.prog 67 (E7 N):=aA (hh:=ZD) mixed aO (es:=UN N) ⟨adF bh N,⟨UK bh N,⟨UM bh N,trivial⟩⟩⟩ (fn:=Tryz.f67) (body:=It) (by kernel_rfl) (by kernel_rfl) (by kernel_rfl) (by kernel_rfl) (by kernel_rfl) (Lf:=eo N) (ep N) adL trivial (N:=N) (by kernel_rfl) (adM N) (.inl (by kernel_rfl))
noncomputable def kQ:List Kd:=[.v (.sl b5) .k,dK,dK,.v (.int .i64) .k,.v (.int .i64) .k,dK,dK,dK,dK,dK,dK,dK,dK,dK,dK,dK,dK,dK,dK,dK,dK,dK,dK,dK,dK,dK,dK,dK,dK,dK,dK,dK,dK,dK,dK,dK,dK,dK,dK,dK,dK,dK,dK,dK,dK,dK,dK,dK,dK,dK,dK,dK,dK,dK,dK,dK,dK,dK,dK,dK,dK,dK,dK,dK,dK,dK,dK,dK,dK,dK,dK,dK,dK,dK,dK,dK,dK,dK,dK,dK,dK,dK,dK,dK,dK,dK,dK,dK,dK,dK,dK,dK]
noncomputable def wJ:List Kd:=[.v (.sl b5) .k,dK,dK,.v (.int .i64) .k,dK,dK,dK,dK,dK,dK,dK,dK,dK,dK,dK,dK,dK,dK,dK,dK,dK,dK,dK,dK,dK,dK,dK,dK,dK,dK,dK,dK,dK,dK,dK,dK,dK,dK,dK,dK,dK,dK,dK,dK,dK,dK,dK,dK,dK,dK,dK,dK,dK,dK,dK,dK,dK,dK,dK,dK,dK,dK,dK,dK,dK,dK,dK,dK,dK,dK,dK,dK,dK,dK,dK,dK,dK,dK,dK,dK,dK,dK,dK,dK,dK,dK,dK,dK,dK,dK,dK,dK]
noncomputable def wK:List Kd:=[dK,dK,.v .bool .k,dK,dK,dK,dK,dK,dK,dK,dK,dK,dK,dK,dK,dK,dK,dK,dK,dK,dK,dK,dK,dK,dK,dK,dK,dK,dK,dK,dK,dK,dK,dK,dK,dK,dK,dK,dK,dK,dK,dK,dK,dK,dK,dK,dK,dK,dK,dK,dK,dK,dK,dK,dK,dK,dK,dK,dK,dK,dK,dK,dK,dK,dK,dK,dK,dK,dK,dK,dK,dK,dK,dK,dK,dK,dK,dK,dK,dK,dK,dK,dK,dK,dK,dK,dK,dK,dK,dK,dK,dK]
noncomputable def kR:List Kd:=[.v (.sl b5) .k,dK,dK,.v (.int .i64) .k,dK,dK,dK,dK,dK,dK,dK,dK,dK,dK,dK,dK,dK,dK,dK,dK,dK,dK,dK,dK,dK,dK,dK,dK,dK,dK,dK,dK,dK,dK,dK,dK,dK,dK,dK,dK,dK,dK,dK,dK,dK,dK,dK,dK,dK,dK,dK,dK,dK,dK,dK,dK,dK,dK,dK,dK,dK,dK,dK,dK,dK,dK,dK,dK,dK,dK,dK,dK,dK,dK,dK,dK,dK,dK,dK,dK,dK,dK,dK,dK,dK,dK,dK,dK,dK,dK,dK,dK]
noncomputable def wL:List Kd:=[.v (.sl b5) .k,dK,dK,dK,dK,dK,dK,dK,dK,dK,dK,dK,dK,dK,dK,dK,dK,dK,dK,dK,dK,dK,dK,dK,dK,dK,dK,dK,dK,dK,dK,dK,dK,dK,dK,dK,dK,dK,dK,dK,dK,dK,dK,dK,dK,dK,dK,dK,dK,dK,dK,dK,dK,dK,dK,dK,dK,dK,dK,dK,dK,dK,dK,dK,dK,dK,dK,dK,dK,dK,dK,dK,dK,dK,dK,dK,dK,dK,dK,dK,dK,dK,dK,dK,dK,dK,dK,dK,dK,dK,dK,dK]
noncomputable def wM:List Kd:=[dK,dK,.v .bool .k,dK,dK,dK,dK,dK,dK,dK,dK,dK,dK,dK,dK,dK,dK,dK,dK,dK,dK,dK,dK,dK,dK,dK,dK,dK,dK,dK,dK,dK,dK,dK,dK,dK,dK,dK,dK,dK,dK,dK,dK,dK,dK,dK,dK,dK,dK,dK,dK,dK,dK,dK,dK,dK,dK,dK,dK,dK,dK,dK,dK,dK,dK,dK,dK,dK,dK,dK,dK,dK,dK,dK,dK,dK,dK,dK,dK,dK,dK,dK,dK,dK,dK,dK,dK,dK,dK,dK,dK,dK]
noncomputable def wN:Hint:={ bA,hn:=[],loops:=[(7,kQ),(2,kR)],outs:=[(7,4,wJ),(7,1,wK),(2,2,wL),(2,1,wM)],bH:=[(4,(OT.seq [0,1,2,3,4,5,6,7,8,9,10,11,12,13,14,15,16,17,18,19,20,21,22,23,24,25,26,27,28,29,30,31,32,33] .done)),(9,(OT.seq [0,1,2,3,4,5,6,7,8,9,10,11,12,13,14,15,16,17,18,19,20,21,22,23,24,25,26,27,28,29,30,31,32,33] .done))] }
noncomputable def E8:List AK:=[.v (.sl b5) .k]
noncomputable def ZF (N:Nat) (x:ao E8) (kf:af→Option af):Option af:=S71 N x.1 (fun r0=>kf ⟨[⟨.bool,.k,r0⟩],[]⟩)
noncomputable def x7 (N:Nat):=aI E8 (ZF N)
noncomputable def E9 (N:Nat):List Entry:=[⟨57,[.val,.val,.val],(iv N)⟩]
noncomputable def uC:Code:=match Tryz.f71.body with |some c=>c |none=>.skip
noncomputable def AU (N n:Nat) (key:Nat) (S:St) (K:Ks):Option af:=bif Nat.beq key 2 then aP kR S (fun x=>pU N x.1 n (K (.x 0) (shape wL (x.1,()))) (fun z0=>K .r (shape wM (z0,()))) x.2.1) else bif Nat.beq key 7 then aP kQ S (fun x=>jM N x.1 x.2.1 n (K (.x 2) (shape wJ (x.1,x.2.1,()))) (fun z0=>K .r (shape wK (z0,()))) x.2.2.1) else none
theorem adN (N key:Nat) (S:St) (K:Ks):AU N 0 key S K=none:=(dm (aL fun _=>rfl) (dm (aL fun _=>rfl) rfl))
noncomputable def ND:Code:=(ai uC).getD 0 .skip
noncomputable def NF:Code:=(ai uC).getD 1 .skip
theorem adO:ai uC=[ND,NF]:=by kernel_rfl
theorem UP (N n:Nat) (x:cj kQ) (K:Ks):AU N (n+1) 7 (shape kQ x) (wN.aH 7 K)=aX wN (bE.of (E9 N)) (cw (AU N) N n 7) NF (shape kQ x) (wN.aH 7 K):=by kernel_rfl
theorem UQ (N n:Nat) (x:cj kR) (K:Ks):AU N (n+1) 2 (shape kR x) (wN.aH 2 K)=aX wN (bE.of (E9 N)) (cw (AU N) N n 2) ND (shape kR x) (wN.aH 2 K):=by kernel_rfl
theorem adP (N:Nat) (x:ao E8) (kf:af→Option af):ZF N x kf=aG wN (bE.of (E9 N)) (AU N N) Tryz.f71 (aB E8 x) kf:=by kernel_rfl
theorem LC {Γ:Gl} (bh:bo Γ) (N:Nat):Sound Γ Tryz.prog 71 (x7 N):=aA (hh:=wN) mixed aO (es:=E9 N) ⟨nb bh N,trivial⟩ (fn:=Tryz.f71) (body:=uC) (by kernel_rfl) (by kernel_rfl) (by kernel_rfl) (by kernel_rfl) (by kernel_rfl) (Lf:=AU N) (adN N) adO (aC (key:=2) (ks:=kR) (by kernel_rfl) (by kernel_rfl) (UQ N) (aC (key:=7) (ks:=kQ) (by kernel_rfl) (by kernel_rfl) (UP N) trivial)) (N:=N) (by kernel_rfl) (adP N) (.inl (by kernel_rfl))
noncomputable def kS:List Kd:=[.v (.sl aq) .k,dK,dK,.v (.int .i64) .k,.v (.int .i64) .k,dK,dK,dK,dK,dK,dK,dK,dK,dK,dK,dK,dK,dK,dK,dK,dK,dK,dK]
noncomputable def wO:List Kd:=[dK,dK,dK,.v (.int .i64) .k,dK,dK,dK,dK,dK,dK,dK,dK,dK,dK,dK,dK,dK,dK,dK,dK,dK,dK,dK]
noncomputable def Iu:Hint:={ bA,hn:=[],loops:=[(3,kS)],outs:=[(3,2,wO)],bH:=[] }
noncomputable def AW:List AK:=[.v (.sl aq) .k]
noncomputable def ZG (N:Nat) (x:ao AW) (kf:af→Option af):Option af:=YA N x.1 (fun r0=>kf ⟨[⟨(.int .i64),.k,r0⟩],[]⟩)
noncomputable def Fa (N:Nat):=aI AW (ZG N)
noncomputable def LD (N:Nat):List Entry:=[⟨68,[.val],(jh N)⟩]
noncomputable def AX:Code:=match Tryz.f60.body with |some c=>c |none=>.skip
noncomputable def Iv (N n:Nat) (key:Nat) (S:St) (K:Ks):Option af:=bif Nat.beq key 3 then aP kS S (fun x=>sA N x.1 n (fun z0=>K (.x 0) (shape wO (z0,()))) x.2.1 x.2.2.1) else none
theorem adQ (N key:Nat) (S:St) (K:Ks):Iv N 0 key S K=none:=(dm (aL fun _=>rfl) rfl)
noncomputable def NG:Code:=(ai AX).getD 0 .skip
theorem adR:ai AX=[NG]:=by kernel_rfl
theorem UR (N n:Nat) (x:cj kS) (K:Ks):Iv N (n+1) 3 (shape kS x) (Iu.aH 3 K)=aX Iu (bE.of (LD N)) (cw (Iv N) N n 3) NG (shape kS x) (Iu.aH 3 K):=by kernel_rfl
theorem adS (N:Nat) (x:ao AW) (kf:af→Option af):ZG N x kf=aG Iu (bE.of (LD N)) (Iv N N) Tryz.f60 (aB AW x) kf:=by kernel_rfl
theorem US {Γ:Gl} (bh:bo Γ) (N:Nat):Sound Γ Tryz.prog 60 (Fa N):=aA (hh:=Iu) mixed aO (es:=LD N) ⟨oN bh N,trivial⟩ (fn:=Tryz.f60) (body:=AX) (by kernel_rfl) (by kernel_rfl) (by kernel_rfl) (by kernel_rfl) (by kernel_rfl) (Lf:=Iv N) (adQ N) adR (aC (key:=3) (ks:=kS) (by kernel_rfl) (by kernel_rfl) (UR N) trivial) (N:=N) (by kernel_rfl) (adS N) (.inl (by kernel_rfl))
noncomputable def kT:List Kd:=[.v (.sl (.int .i64)) .k,.v (.int .i64) .k,dK,dK,dK,.v (.int .i64) .k,dK,dK,dK,dK,dK,dK,dK,dK,dK,dK,dK,dK]
noncomputable def wP:List Kd:=[dK,dK,dK,dK,dK,dK,dK,dK,dK,dK,dK,dK,dK,dK,dK,dK,dK,dK]
noncomputable def wQ:List Kd:=[dK,dK,dK,dK,.v .bool .k,dK,dK,dK,dK,dK,dK,dK,dK,dK,dK,dK,dK,dK]
noncomputable def Iw:Hint:={ bA,hn:=[],loops:=[(2,kT)],outs:=[(2,2,wP),(2,1,wQ)],bH:=[] }
noncomputable def Fb:List AK:=[.v (.sl (.int .i64)) .k,.v (.int .i64) .k]
noncomputable def ZH (N:Nat) (x:ao Fb) (kf:af→Option af):Option af:=KQ N x.1 x.2.1 (fun r0=>kf ⟨[⟨.bool,.k,r0⟩],[]⟩)
noncomputable def qW (N:Nat):=aI Fb (ZH N)
noncomputable def LF (N:Nat):List Entry:=[]
noncomputable def AY:Code:=match Tryz.f95.body with |some c=>c |none=>.skip
noncomputable def Ix (N n:Nat) (key:Nat) (S:St) (K:Ks):Option af:=bif Nat.beq key 2 then aP kT S (fun x=>sB x.1 x.2.1 n (K (.x 0) (shape wP ())) (fun z0=>K .r (shape wQ (z0,()))) x.2.2.1) else none
theorem adT (N key:Nat) (S:St) (K:Ks):Ix N 0 key S K=none:=(dm (aL fun _=>rfl) rfl)
noncomputable def NH:Code:=(ai AY).getD 0 .skip
theorem adU:ai AY=[NH]:=by kernel_rfl
theorem UT (N n:Nat) (x:cj kT) (K:Ks):Ix N (n+1) 2 (shape kT x) (Iw.aH 2 K)=aX Iw (bE.of (LF N)) (cw (Ix N) N n 2) NH (shape kT x) (Iw.aH 2 K):=by kernel_rfl
theorem adV (N:Nat) (x:ao Fb) (kf:af→Option af):ZH N x kf=aG Iw (bE.of (LF N)) (Ix N N) Tryz.f95 (aB Fb x) kf:=by kernel_rfl
theorem AZ {Γ:Gl} (bh:bo Γ) (N:Nat):Sound Γ Tryz.prog 95 (qW N):=aA (hh:=Iw) mixed aO (es:=LF N) trivial (fn:=Tryz.f95) (body:=AY) (by kernel_rfl) (by kernel_rfl) (by kernel_rfl) (by kernel_rfl) (by kernel_rfl) (Lf:=Ix N) (adT N) adU (aC (key:=2) (ks:=kT) (by kernel_rfl) (by kernel_rfl) (UT N) trivial) (N:=N) (by kernel_rfl) (adV N) (.inl (by kernel_rfl))
noncomputable def UU:Hint:={ bA,hn:=[],loops:=[],outs:=[],bH:=[] }
noncomputable def x8:List AK:=[.v (.sl aq) .k,.v (.int .i64) .k,.v (.int .i64) .k]
noncomputable def UW (N:Nat) (x:ao x8) (kf:af→Option af):Option af:=Xf N x.1 x.2.1 x.2.2.1 (fun r0=>kf ⟨[⟨.bool,.k,r0⟩],[]⟩)
noncomputable def Iy (N:Nat):=aI x8 (UW N)
noncomputable def NI (N:Nat):List Entry:=[⟨76,[.val,.val],(oM N)⟩,⟨95,[.val,.val],(qW N)⟩]
noncomputable def Dh:Code:=match Tryz.f104.body with |some c=>c |none=>.skip
theorem XS:ai Dh=[]:=by kernel_rfl
theorem XT (N:Nat) (x:ao x8) (kf:af→Option af):UW N x kf=aG UU (bE.of (NI N)) (eo N N) Tryz.f104 (aB x8 x) kf:=by kernel_rfl
theorem XU {Γ:Gl} (bh:bo Γ) (N:Nat):Sound Γ Tryz.prog 104 (Iy N):=aA (hh:=UU) mixed aO (es:=NI N) ⟨vD bh N,⟨AZ bh N,trivial⟩⟩ (fn:=Tryz.f104) (body:=Dh) (by kernel_rfl) (by kernel_rfl) (by kernel_rfl) (by kernel_rfl) (by kernel_rfl) (Lf:=eo N) (ep N) XS trivial (N:=N) (by kernel_rfl) (XT N) (.inl (by kernel_rfl))
noncomputable def ZI:Hint:={ bA,hn:=[],loops:=[],outs:=[],bH:=[(3,(OT.seq [0,1,2,3,4,5,6,7,8,9,10,11,12,13,14,15,16,17,18,19,20,21,22,23,24,25,26,27,28,29,30,31,32,33,34,35] .done))] }
noncomputable def Fe:List AK:=[.v (.sl aq) .k,.v (.int .i64) .k,.v (.int .i64) .k]
noncomputable def ZJ (N:Nat) (x:ao Fe) (kf:af→Option af):Option af:=S92 N x.1 x.2.1 x.2.2.1 (fun r0=>kf ⟨[⟨.bool,.k,r0⟩],[]⟩)
noncomputable def Ff (N:Nat):=aI Fe (ZJ N)
noncomputable def UX (N:Nat):List Entry:=[⟨76,[.val,.val],(oM N)⟩,⟨68,[.val],(jh N)⟩,⟨104,[.val,.val,.val],(Iy N)⟩]
noncomputable def Iz:Code:=match Tryz.f92.body with |some c=>c |none=>.skip
theorem adW:ai Iz=[]:=by kernel_rfl
theorem adX (N:Nat) (x:ao Fe) (kf:af→Option af):ZJ N x kf=aG ZI (bE.of (UX N)) (eo N N) Tryz.f92 (aB Fe x) kf:=by kernel_rfl
theorem UY {Γ:Gl} (bh:bo Γ) (N:Nat):Sound Γ Tryz.prog 92 (Ff N):=aA (hh:=ZI) mixed aO (es:=UX N) ⟨vD bh N,⟨oN bh N,⟨XU bh N,trivial⟩⟩⟩ (fn:=Tryz.f92) (body:=Iz) (by kernel_rfl) (by kernel_rfl) (by kernel_rfl) (by kernel_rfl) (by kernel_rfl) (Lf:=eo N) (ep N) adW trivial (N:=N) (by kernel_rfl) (adX N) (.inl (by kernel_rfl))
noncomputable def kU:List Kd:=[.v (.sl aq) .k,.v (.sl fh) .k,dK,dK,dK,.v (.sl (.int .i64)) (.o 3 none .k),.v (.int .i64) .k,dK,dK,dK,dK,dK,dK,dK,dK,dK,dK,dK,dK,dK,dK,dK,dK,dK,dK,dK,dK,dK,dK,dK,dK,dK,dK,dK,dK,dK,dK,dK,dK,dK,dK,dK,dK,dK,dK,dK,dK,dK,dK,dK,dK,dK,dK,dK,dK,dK,dK,dK,dK,dK,dK,dK,dK,dK,dK,dK,dK]
noncomputable def wR:List Kd:=[.v (.sl aq) .k,dK,dK,dK,dK,.v (.sl (.int .i64)) (.o 3 none .k),dK,dK,dK,dK,dK,dK,dK,dK,dK,dK,dK,dK,dK,dK,dK,dK,dK,dK,dK,dK,dK,dK,dK,dK,dK,dK,dK,dK,dK,dK,dK,dK,dK,dK,dK,dK,dK,dK,dK,dK,dK,dK,dK,dK,dK,dK,dK,dK,dK,dK,dK,dK,dK,dK,dK,dK,dK,dK,dK,dK,dK]
noncomputable def wS:List Kd:=[dK,dK,dK,dK,.v .bool .k,dK,dK,dK,dK,dK,dK,dK,dK,dK,dK,dK,dK,dK,dK,dK,dK,dK,dK,dK,dK,dK,dK,dK,dK,dK,dK,dK,dK,dK,dK,dK,dK,dK,dK,dK,dK,dK,dK,dK,dK,dK,dK,dK,dK,dK,dK,dK,dK,dK,dK,dK,dK,dK,dK,dK,dK,dK,dK,dK,dK,dK,dK]
noncomputable def IA:Hint:={ bA,hn:=[],loops:=[(3,kU)],outs:=[(3,2,wR),(3,1,wS)],bH:=[(5,(OT.seq [0,1,2,3,4,5,6,7,8,9,10,11,12,13,14,15,16,17,18,19,20,21,22,23,24,25,26,27,28,29,30] .done)),(7,(OT.seq [0,1,2,3,4,5,6,7,8,9,10,11,12,13] .done))] }
noncomputable def Fg:List AK:=[.v (.sl aq) .k,.v (.sl fh) .k]
noncomputable def ZK (N:Nat) (x:ao Fg) (kf:af→Option af):Option af:=S74 N x.1 x.2.1 (fun r0=>kf ⟨[⟨.bool,.k,r0⟩],[]⟩)
noncomputable def NJ (N:Nat):=aI Fg (ZK N)
noncomputable def LG (N:Nat):List Entry:=[⟨92,[.val,.val,.val],(Ff N)⟩,⟨95,[.val,.val],(qW N)⟩,⟨68,[.val],(jh N)⟩]
noncomputable def A3:Code:=match Tryz.f74.body with |some c=>c |none=>.skip
noncomputable def IB (N n:Nat) (key:Nat) (S:St) (K:Ks):Option af:=bif Nat.beq key 3 then aP kU S (fun x=>sC N x.1 x.2.1 n (fun z0=>K (.x 0) (shape wR (x.1,z0,()))) (fun z0=>K .r (shape wS (z0,()))) x.2.2.1 x.2.2.2.1) else none
theorem adY (N key:Nat) (S:St) (K:Ks):IB N 0 key S K=none:=(dm (aL fun _=>rfl) rfl)
noncomputable def NK:Code:=(ai A3).getD 0 .skip
theorem adZ:ai A3=[NK]:=by kernel_rfl
theorem UZ (N n:Nat) (x:cj kU) (K:Ks):IB N (n+1) 3 (shape kU x) (IA.aH 3 K)=aX IA (bE.of (LG N)) (cw (IB N) N n 3) NK (shape kU x) (IA.aH 3 K):=by kernel_rfl
theorem ad0 (N:Nat) (x:ao Fg) (kf:af→Option af):ZK N x kf=aG IA (bE.of (LG N)) (IB N N) Tryz.f74 (aB Fg x) kf:=by kernel_rfl
theorem ad1 {Γ:Gl} (bh:bo Γ) (N:Nat):Sound Γ Tryz.prog 74 (NJ N):=aA (hh:=IA) mixed aO (es:=LG N) ⟨UY bh N,⟨AZ bh N,⟨oN bh N,trivial⟩⟩⟩ (fn:=Tryz.f74) (body:=A3) (by kernel_rfl) (by kernel_rfl) (by kernel_rfl) (by kernel_rfl) (by kernel_rfl) (Lf:=IB N) (adY N) adZ (aC (key:=3) (ks:=kU) (by kernel_rfl) (by kernel_rfl) (UZ N) trivial) (N:=N) (by kernel_rfl) (ad0 N) (.inl (by kernel_rfl))
noncomputable def kV:List Kd:=[.v (.sl b5) .k,.v (.int .i64) .k,dK,dK,dK,.v (.int .i64) .k,dK,dK,dK,dK,dK,dK,dK,dK,dK,dK,dK,dK,dK,dK]
noncomputable def wT:List Kd:=[dK,dK,dK,dK,dK,dK,dK,dK,dK,dK,dK,dK,dK,dK,dK,dK,dK,dK,dK,dK]
noncomputable def wU:List Kd:=[dK,dK,dK,dK,.v (.int .i64) .k,dK,dK,dK,dK,dK,dK,dK,dK,dK,dK,dK,dK,dK,dK,dK]
noncomputable def IC:Hint:={ bA,hn:=[],loops:=[(2,kV)],outs:=[(2,2,wT),(2,1,wU)],bH:=[] }
noncomputable def Fh:List AK:=[.v (.sl b5) .k,.v (.int .i64) .k]
noncomputable def ZL (N:Nat) (x:ao Fh) (kf:af→Option af):Option af:=R0 N x.1 x.2.1 (fun r0=>kf ⟨[⟨(.int .i64),.k,r0⟩],[]⟩)
noncomputable def Fi (N:Nat):=aI Fh (ZL N)
noncomputable def LH (N:Nat):List Entry:=[]
noncomputable def A4:Code:=match Tryz.f55.body with |some c=>c |none=>.skip
noncomputable def ID (N n:Nat) (key:Nat) (S:St) (K:Ks):Option af:=bif Nat.beq key 2 then aP kV S (fun x=>sD x.1 x.2.1 n (K (.x 0) (shape wT ())) (fun z0=>K .r (shape wU (z0,()))) x.2.2.1) else none
theorem ad2 (N key:Nat) (S:St) (K:Ks):ID N 0 key S K=none:=(dm (aL fun _=>rfl) rfl)
noncomputable def NL:Code:=(ai A4).getD 0 .skip
theorem ad3:ai A4=[NL]:=by kernel_rfl
theorem U0 (N n:Nat) (x:cj kV) (K:Ks):ID N (n+1) 2 (shape kV x) (IC.aH 2 K)=aX IC (bE.of (LH N)) (cw (ID N) N n 2) NL (shape kV x) (IC.aH 2 K):=by kernel_rfl
theorem ad4 (N:Nat) (x:ao Fh) (kf:af→Option af):ZL N x kf=aG IC (bE.of (LH N)) (ID N N) Tryz.f55 (aB Fh x) kf:=by kernel_rfl
theorem U1 {Γ:Gl} (bh:bo Γ) (N:Nat):Sound Γ Tryz.prog 55 (Fi N):=aA (hh:=IC) mixed aO (es:=LH N) trivial (fn:=Tryz.f55) (body:=A4) (by kernel_rfl) (by kernel_rfl) (by kernel_rfl) (by kernel_rfl) (by kernel_rfl) (Lf:=ID N) (ad2 N) ad3 (aC (key:=2) (ks:=kV) (by kernel_rfl) (by kernel_rfl) (U0 N) trivial) (N:=N) (by kernel_rfl) (ad4 N) (.inl (by kernel_rfl))
noncomputable def ZM:Hint:={ bA,hn:=[],loops:=[],outs:=[],bH:=[(3,(OT.seq [0,1,2,3,4,5,6,7,8,9,10,11,12,13,14,15,16,17,18,19,20,21,22,23,24,25,26,27,28,29,30,31,32,33,34,35,36,37,38,39,40,41,42] .done))] }
noncomputable def Fj:List AK:=[.v (.sl aq) .k,.v b5 .k,.v fh .k]
noncomputable def ZN (N:Nat) (x:ao Fj) (kf:af→Option af):Option af:=S96 N x.1 x.2.1 x.2.2.1 (fun r0=>kf ⟨[⟨.bool,.k,r0⟩],[]⟩)
noncomputable def Fl (N:Nat):=aI Fj (ZN N)
noncomputable def U2 (N:Nat):List Entry:=[⟨76,[.val,.val],(oM N)⟩,⟨95,[.val,.val],(qW N)⟩]
noncomputable def IE:Code:=match Tryz.f96.body with |some c=>c |none=>.skip
theorem ad5:ai IE=[]:=by kernel_rfl
theorem ad6 (N:Nat) (x:ao Fj) (kf:af→Option af):ZN N x kf=aG ZM (bE.of (U2 N)) (eo N N) Tryz.f96 (aB Fj x) kf:=by kernel_rfl
theorem U3 {Γ:Gl} (bh:bo Γ) (N:Nat):Sound Γ Tryz.prog 96 (Fl N):=aA (hh:=ZM) mixed aO (es:=U2 N) ⟨vD bh N,⟨AZ bh N,trivial⟩⟩ (fn:=Tryz.f96) (body:=IE) (by kernel_rfl) (by kernel_rfl) (by kernel_rfl) (by kernel_rfl) (by kernel_rfl) (Lf:=eo N) (ep N) ad5 trivial (N:=N) (by kernel_rfl) (ad6 N) (.inl (by kernel_rfl))
noncomputable def kW:List Kd:=[.v (.sl aq) .k,.v (.sl b5) .k,.v (.sl fh) .k,.v (.sl (.int .i64)) .k,dK,dK,dK,dK,dK,.v (.int .i64) .k,dK,dK,dK,dK,dK,dK,dK,dK,dK,dK,dK,dK,dK,dK,dK,dK,dK,dK,dK,dK,dK,dK,dK,dK,dK,dK,dK,dK,dK,dK,dK,dK,dK,dK,dK,dK,dK,dK,dK,dK,dK,dK,dK,dK,dK,dK,dK,dK]
noncomputable def wV:List Kd:=[dK,dK,dK,dK,dK,dK,dK,dK,dK,dK,dK,dK,dK,dK,dK,dK,dK,dK,dK,dK,dK,dK,dK,dK,dK,dK,dK,dK,dK,dK,dK,dK,dK,dK,dK,dK,dK,dK,dK,dK,dK,dK,dK,dK,dK,dK,dK,dK,dK,dK,dK,dK,dK,dK,dK,dK,dK,dK]
noncomputable def wW:List Kd:=[dK,dK,dK,dK,dK,dK,dK,dK,.v .bool .k,dK,dK,dK,dK,dK,dK,dK,dK,dK,dK,dK,dK,dK,dK,dK,dK,dK,dK,dK,dK,dK,dK,dK,dK,dK,dK,dK,dK,dK,dK,dK,dK,dK,dK,dK,dK,dK,dK,dK,dK,dK,dK,dK,dK,dK,dK,dK,dK,dK]
noncomputable def IF:Hint:={ bA,hn:=[],loops:=[(4,kW)],outs:=[(4,2,wV),(4,1,wW)],bH:=[(7,(OT.seq [0,1,2,3,4,5,6,7,8,9,10,11,12,13,14,15,16,17,18,19,20,21,22,23,24] .done))] }
noncomputable def Fm:List AK:=[.v (.sl aq) .k,.v (.sl b5) .k,.v (.sl fh) .k,.v (.sl (.int .i64)) .k]
noncomputable def ZO (N:Nat) (x:ao Fm) (kf:af→Option af):Option af:=S75 N x.1 x.2.1 x.2.2.1 x.2.2.2.1 (fun r0=>kf ⟨[⟨.bool,.k,r0⟩],[]⟩)
noncomputable def NM (N:Nat):=aI Fm (ZO N)
noncomputable def LI (N:Nat):List Entry:=[⟨71,[.val],(x7 N)⟩,⟨55,[.val,.val],(Fi N)⟩,⟨95,[.val,.val],(qW N)⟩,⟨96,[.val,.val,.val],(Fl N)⟩]
noncomputable def A5:Code:=match Tryz.f75.body with |some c=>c |none=>.skip
noncomputable def IG (N n:Nat) (key:Nat) (S:St) (K:Ks):Option af:=bif Nat.beq key 4 then aP kW S (fun x=>sE N x.1 x.2.1 x.2.2.1 x.2.2.2.1 n (K (.x 0) (shape wV ())) (fun z0=>K .r (shape wW (z0,()))) x.2.2.2.2.1) else none
theorem ad7 (N key:Nat) (S:St) (K:Ks):IG N 0 key S K=none:=(dm (aL fun _=>rfl) rfl)
noncomputable def NN:Code:=(ai A5).getD 0 .skip
theorem ad8:ai A5=[NN]:=by kernel_rfl
theorem U4 (N n:Nat) (x:cj kW) (K:Ks):IG N (n+1) 4 (shape kW x) (IF.aH 4 K)=aX IF (bE.of (LI N)) (cw (IG N) N n 4) NN (shape kW x) (IF.aH 4 K):=by kernel_rfl
theorem ad9 (N:Nat) (x:ao Fm) (kf:af→Option af):ZO N x kf=aG IF (bE.of (LI N)) (IG N N) Tryz.f75 (aB Fm x) kf:=by kernel_rfl
theorem ad' {Γ:Gl} (bh:bo Γ) (N:Nat):Sound Γ Tryz.prog 75 (NM N):=aA (hh:=IF) mixed aO (es:=LI N) ⟨LC bh N,⟨U1 bh N,⟨AZ bh N,⟨U3 bh N,trivial⟩⟩⟩⟩ (fn:=Tryz.f75) (body:=A5) (by kernel_rfl) (by kernel_rfl) (by kernel_rfl) (by kernel_rfl) (by kernel_rfl) (Lf:=IG N) (ad7 N) ad8 (aC (key:=4) (ks:=kW) (by kernel_rfl) (by kernel_rfl) (U4 N) trivial) (N:=N) (by kernel_rfl) (ad9 N) (.inl (by kernel_rfl))
noncomputable def ZP:Hint:={ bA,hn:=[],loops:=[],outs:=[],bH:=[] }
noncomputable def Fo:List AK:=[.v bI .k]
noncomputable def ZQ (N:Nat) (x:ao Fo) (kf:af→Option af):Option af:=YC N x.1 (fun r0=>kf ⟨[⟨.bool,.k,r0⟩],[]⟩)
noncomputable def x9 (N:Nat):=aI Fo (ZQ N)
noncomputable def U5 (N:Nat):List Entry:=[⟨57,[.val,.val,.val],(iv N)⟩]
noncomputable def IH:Code:=match Tryz.f58.body with |some c=>c |none=>.skip
theorem aea:ai IH=[]:=by kernel_rfl
theorem aeb (N:Nat) (x:ao Fo) (kf:af→Option af):ZQ N x kf=aG ZP (bE.of (U5 N)) (eo N N) Tryz.f58 (aB Fo x) kf:=by kernel_rfl
theorem LJ {Γ:Gl} (bh:bo Γ) (N:Nat):Sound Γ Tryz.prog 58 (x9 N):=aA (hh:=ZP) mixed aO (es:=U5 N) ⟨nb bh N,trivial⟩ (fn:=Tryz.f58) (body:=IH) (by kernel_rfl) (by kernel_rfl) (by kernel_rfl) (by kernel_rfl) (by kernel_rfl) (Lf:=eo N) (ep N) aea trivial (N:=N) (by kernel_rfl) (aeb N) (.inl (by kernel_rfl))
noncomputable def kX:List Kd:=[dK,.v (.ptr ae) (.o 37 none .k),dK,.v (.ptr bI) (.o 70 none .k),.v (.int .i64) .k,dK,dK,dK,dK,dK,dK,dK,dK,dK,dK,dK,dK,dK,dK,dK,dK,dK,dK,dK,dK,dK,dK,dK,dK,dK,dK,dK,dK,dK,dK,dK,dK,dK,dK,dK,dK,dK,dK,dK,dK,dK,dK,dK,dK,dK,dK,dK,dK,dK,dK,dK,dK,dK,dK,dK,dK,dK,dK,dK,dK,dK,dK,dK,dK,dK,dK,dK,dK,dK,dK,dK,dK,dK,dK,dK,dK,dK,dK,dK,dK,dK,dK,dK,dK,dK,dK,dK,dK,dK,dK,dK,dK,dK,dK,dK,dK,dK,dK,dK,dK,dK,dK,dK,dK,dK,dK,dK,dK,dK,dK]
noncomputable def wX:List Kd:=[dK,dK,dK,dK,dK,dK,dK,dK,dK,dK,dK,dK,dK,dK,dK,dK,dK,dK,dK,dK,dK,dK,dK,dK,dK,dK,dK,dK,dK,dK,dK,dK,dK,dK,dK,dK,dK,dK,dK,dK,dK,dK,dK,dK,dK,dK,dK,dK,dK,dK,dK,dK,dK,dK,dK,dK,dK,dK,dK,dK,dK,dK,dK,dK,dK,dK,dK,dK,dK,dK,dK,dK,dK,dK,dK,dK,dK,dK,dK,dK,dK,dK,dK,dK,dK,dK,dK,dK,dK,dK,dK,dK,dK,dK,dK,dK,dK,dK,dK,dK,dK,dK,dK,dK,dK,dK,dK,dK,dK,dK,dK,dK,dK,dK,dK]
noncomputable def wY:List Kd:=[dK,dK,.v .bool .k,dK,dK,dK,dK,dK,dK,dK,dK,dK,dK,dK,dK,dK,dK,dK,dK,dK,dK,dK,dK,dK,dK,dK,dK,dK,dK,dK,dK,dK,dK,dK,dK,dK,dK,dK,dK,dK,dK,dK,dK,dK,dK,dK,dK,dK,dK,dK,dK,dK,dK,dK,dK,dK,dK,dK,dK,dK,dK,dK,dK,dK,dK,dK,dK,dK,dK,dK,dK,dK,dK,dK,dK,dK,dK,dK,dK,dK,dK,dK,dK,dK,dK,dK,dK,dK,dK,dK,dK,dK,dK,dK,dK,dK,dK,dK,dK,dK,dK,dK,dK,dK,dK,dK,dK,dK,dK,dK,dK,dK,dK,dK,dK]
noncomputable def II:Hint:={ bA,hn:=[],loops:=[(7,kX)],outs:=[(7,2,wX),(7,1,wY)],bH:=[(1,(OT.seq [0,1,2,3,4,5,6,7,8,9,10,11,12,13,14,15,16,17,18,19,20,21,22,23,24,25,26,27,28,29,30,31,32,33,34,35,36,37,38,39,40,41,42,44,45,43,46,47] .done)),(9,(OT.seq [0,1,2,3,4,5,6,7,8,9,10,11,12,13,14,15,16,17,18,19,20,21,22,23,24,25,26,27,28,29] .done))] }
noncomputable def Fp:List AK:=[.v ae .k]
noncomputable def ZR (N:Nat) (x:ao Fp) (kf:af→Option af):Option af:=S52 N x.1 (fun r0=>kf ⟨[⟨.bool,.k,r0⟩],[]⟩)
noncomputable def ya (N:Nat):=aI Fp (ZR N)
noncomputable def LK (N:Nat):List Entry:=[⟨68,[.val],(jh N)⟩,⟨71,[.val],(x7 N)⟩,⟨73,[.val],(E5 N)⟩,⟨57,[.val,.val,.val],(iv N)⟩,⟨60,[.val],(Fa N)⟩,⟨74,[.val,.val],(NJ N)⟩,⟨75,[.val,.val,.val,.val],(NM N)⟩,⟨58,[.val],(x9 N)⟩]
noncomputable def A6:Code:=match Tryz.f52.body with |some c=>c |none=>.skip
noncomputable def IJ (N n:Nat) (key:Nat) (S:St) (K:Ks):Option af:=bif Nat.beq key 7 then aP kX S (fun x=>pV N x.1 x.2.1 n (K (.x 0) (shape wX ())) (fun z0=>K .r (shape wY (z0,()))) x.2.2.1) else none
theorem aec (N key:Nat) (S:St) (K:Ks):IJ N 0 key S K=none:=(dm (aL fun _=>rfl) rfl)
noncomputable def NO:Code:=(ai A6).getD 0 .skip
theorem aed:ai A6=[NO]:=by kernel_rfl
theorem U6 (N n:Nat) (x:cj kX) (K:Ks):IJ N (n+1) 7 (shape kX x) (II.aH 7 K)=aX II (bE.of (LK N)) (cw (IJ N) N n 7) NO (shape kX x) (II.aH 7 K):=by kernel_rfl
theorem aee (N:Nat) (x:ao Fp) (kf:af→Option af):ZR N x kf=aG II (bE.of (LK N)) (IJ N N) Tryz.f52 (aB Fp x) kf:=by kernel_rfl
theorem LL {Γ:Gl} (bh:bo Γ) (N:Nat):Sound Γ Tryz.prog 52 (ya N):=aA (hh:=II) mixed aO (es:=LK N) ⟨oN bh N,⟨LC bh N,⟨UM bh N,⟨nb bh N,⟨US bh N,⟨ad1 bh N,⟨ad' bh N,⟨LJ bh N,trivial⟩⟩⟩⟩⟩⟩⟩⟩ (fn:=Tryz.f52) (body:=A6) (by kernel_rfl) (by kernel_rfl) (by kernel_rfl) (by kernel_rfl) (by kernel_rfl) (Lf:=IJ N) (aec N) aed (aC (key:=7) (ks:=kX) (by kernel_rfl) (by kernel_rfl) (U6 N) trivial) (N:=N) (by kernel_rfl) (aee N) (.inl (by kernel_rfl))
noncomputable def ZS:Hint:={ bA,hn:=[],loops:=[],outs:=[],bH:=[] }
noncomputable def Fq:List AK:=[.v ae .k,.v ae (.p (.o 45 none (.p .k (.p .k (.p .k (.p .k (.p .k (.o 3 none .k))))))) (.p (.o 88 none (.p .k (.p .k (.o 3 none .k)))) (.p (.o 53 none .k) (.p (.o 3 none .k) (.p (.o 70 none .k) (.p (.o 121 none .k) .k)))))),.v .bool .k,.v (.int .i64) .k,.v (.int .i64) .k]
noncomputable def ZT (N:Nat) (x:ao Fq) (kf:af→Option af):Option af:=P4 N x.1 x.2.1 x.2.2.1 x.2.2.2.1 x.2.2.2.2.1 (fun r0 r1=>kf ⟨[⟨ae,(.p (.o 45 none (.p .k (.p .k (.p .k (.p .k (.p .k (.o 3 none .k))))))) (.p (.o 88 none (.p .k (.p .k (.o 3 none .k)))) (.p (.o 53 none .k) (.p (.o 3 none .k) (.p (.o 70 none .k) (.p (.o 121 none .k) .k)))))),r0⟩,⟨.bool,.k,r1⟩],[]⟩)
noncomputable def qX (N:Nat):=aI Fq (ZT N)
noncomputable def U7 (N:Nat):List Entry:=[⟨67,[.val,.val,.val],(E7 N)⟩,⟨52,[.val],(ya N)⟩,⟨45,[.val],(oO N)⟩]
noncomputable def IK:Code:=match Tryz.f47.body with |some c=>c |none=>.skip
theorem aef:ai IK=[]:=by kernel_rfl
theorem aeg (N:Nat) (x:ao Fq) (kf:af→Option af):ZT N x kf=aG ZS (bE.of (U7 N)) (eo N N) Tryz.f47 (aB Fq x) kf:=by kernel_rfl
theorem A7 {Γ:Gl} (bh:bo Γ) (N:Nat):Sound Γ Tryz.prog 47 (qX N):=aA (hh:=ZS) mixed aO (es:=U7 N) ⟨UO bh N,⟨LL bh N,⟨vE bh N,trivial⟩⟩⟩ (fn:=Tryz.f47) (body:=IK) (by kernel_rfl) (by kernel_rfl) (by kernel_rfl) (by kernel_rfl) (by kernel_rfl) (Lf:=eo N) (ep N) aef trivial (N:=N) (by kernel_rfl) (aeg N) (.inl (by kernel_rfl))
noncomputable def kY:List Kd:=[dK,.v (.int .i64) .k,.v (.int .i64) .k,.v (.ptr ae) (.o 37 none .k),dK,dK,.v (.ptr ae) (.o 37 none (.p (.o 45 none (.p .k (.p .k (.p .k (.p .k (.p .k (.o 3 none .k))))))) (.p (.o 88 none (.p .k (.p .k (.o 3 none .k)))) (.p (.o 53 none .k) (.p (.o 3 none .k) (.p (.o 70 none .k) (.p (.o 121 none .k) .k))))))),dK,.v (.ptr ae) (.o 37 none (.p (.o 45 none (.p .k (.p .k (.p .k (.p .k (.p .k (.o 3 none .k))))))) (.p (.o 88 none (.p .k (.p .k (.o 3 none .k)))) (.p (.o 53 none .k) (.p (.o 3 none .k) (.p (.o 70 none .k) (.p (.o 121 none .k) .k))))))),.v (.int .i64) .k,dK,dK,dK,dK,dK,dK,dK,dK,dK,dK,dK,dK,dK,dK,dK,dK,dK,dK,dK,dK,dK,dK,dK,dK,dK,dK,dK,dK,dK,dK,dK,dK,dK,dK,dK,dK,dK,dK,dK,dK,dK,dK,dK,dK,dK]
noncomputable def wZ:List Kd:=[dK,.v (.int .i64) .k,.v (.int .i64) .k,.v (.ptr ae) (.o 37 none .k),dK,dK,.v (.ptr ae) (.o 37 none (.p (.o 45 none (.p .k (.p .k (.p .k (.p .k (.p .k (.o 3 none .k))))))) (.p (.o 88 none (.p .k (.p .k (.o 3 none .k)))) (.p (.o 53 none .k) (.p (.o 3 none .k) (.p (.o 70 none .k) (.p (.o 121 none .k) .k))))))),dK,.v (.ptr ae) (.o 37 none (.p (.o 45 none (.p .k (.p .k (.p .k (.p .k (.p .k (.o 3 none .k))))))) (.p (.o 88 none (.p .k (.p .k (.o 3 none .k)))) (.p (.o 53 none .k) (.p (.o 3 none .k) (.p (.o 70 none .k) (.p (.o 121 none .k) .k))))))),.v (.int .i64) .k,dK,dK,dK,dK,dK,dK,dK,dK,dK,dK,dK,dK,dK,dK,dK,dK,dK,dK,dK,dK,dK,dK,dK,dK,dK,dK,dK,dK,dK,dK,dK,dK,dK,dK,dK,dK,dK,dK,dK,dK,dK,dK,dK,dK,dK]
noncomputable def IL:Hint:={ bA,hn:=[],loops:=[(3,kY)],outs:=[(3,2,wZ)],bH:=[(5,(OT.seq [0,1,2,3,5,6,7,10,12] (.any [4,8,9,11,13] (OT.seq [14,15,16,17] .done)))),(6,(OT.seq [0,1,2,5,3,4,6,7,8,9,10] .done))] }
noncomputable def Fs:List AK:=[.v ae .k,.v (.int .i64) .k,.v (.int .i64) .k]
noncomputable def ZU (N:Nat) (x:ao Fs) (kf:af→Option af):Option af:=S29 N x.1 x.2.1 x.2.2.1 (fun r0 r1=>kf ⟨[⟨ae,(.p (.o 45 none (.p .k (.p .k (.p .k (.p .k (.p .k (.o 3 none .k))))))) (.p (.o 88 none (.p .k (.p .k (.o 3 none .k)))) (.p (.o 53 none .k) (.p (.o 3 none .k) (.p (.o 70 none .k) (.p (.o 121 none .k) .k)))))),r0⟩,⟨.bool,.k,r1⟩],[]⟩)
noncomputable def NP (N:Nat):=aI Fs (ZU N)
noncomputable def LM (N:Nat):List Entry:=[⟨45,[.val],(oO N)⟩,⟨46,[.val],(xY N)⟩,⟨48,[.val],(xZ N)⟩,⟨47,[.val,.take,.val,.val,.val],(qX N)⟩]
noncomputable def A8:Code:=match Tryz.f29.body with |some c=>c |none=>.skip
noncomputable def IM (N n:Nat) (key:Nat) (S:St) (K:Ks):Option af:=bif Nat.beq key 3 then aP kY S (fun x=>pW x.1 x.2.1 x.2.2.1 x.2.2.2.1 x.2.2.2.2.1 n (fun z0=>K (.x 0) (shape wZ (x.1,x.2.1,x.2.2.1,x.2.2.2.1,x.2.2.2.2.1,z0,()))) x.2.2.2.2.2.1) else none
theorem aeh (N key:Nat) (S:St) (K:Ks):IM N 0 key S K=none:=(dm (aL fun _=>rfl) rfl)
noncomputable def NQ:Code:=(ai A8).getD 0 .skip
theorem aei:ai A8=[NQ]:=by kernel_rfl
theorem U8 (N n:Nat) (x:cj kY) (K:Ks):IM N (n+1) 3 (shape kY x) (IL.aH 3 K)=aX IL (bE.of (LM N)) (cw (IM N) N n 3) NQ (shape kY x) (IL.aH 3 K):=by kernel_rfl
theorem aej (N:Nat) (x:ao Fs) (kf:af→Option af):ZU N x kf=aG IL (bE.of (LM N)) (IM N N) Tryz.f29 (aB Fs x) kf:=by kernel_rfl
theorem aek {Γ:Gl} (bh:bo Γ) (N:Nat):Sound Γ Tryz.prog 29 (NP N):=aA (hh:=IL) mixed aO (es:=LM N) ⟨vE bh N,⟨Lw bh N,⟨LA bh N,⟨A7 bh N,trivial⟩⟩⟩⟩ (fn:=Tryz.f29) (body:=A8) (by kernel_rfl) (by kernel_rfl) (by kernel_rfl) (by kernel_rfl) (by kernel_rfl) (Lf:=IM N) (aeh N) aei (aC (key:=3) (ks:=kY) (by kernel_rfl) (by kernel_rfl) (U8 N) trivial) (N:=N) (by kernel_rfl) (aej N) (.inl (by kernel_rfl))
end Go.Pv.R
