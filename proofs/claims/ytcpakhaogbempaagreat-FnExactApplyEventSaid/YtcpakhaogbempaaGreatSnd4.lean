/- Each function of the program that the law reaches computes its plain function, part 4. -/
import Derived.Test.YtcpakhaogbempaaGreatSnd3
import Derived.Test.YtcpakhaogbempaaGreatProg
namespace Go.Pv.R
open Go.Proofs
set_option linter.unusedVariables false
set_option maxRecDepth 100000
noncomputable def ai0:Hint:={ tab,hn:=[],loops:=[],outs:=[],bp:=[(3,(OT.seq [0,1,2,3,4,5,6,7,8,9,10,11,12,13,14,15,16,17,18,19,20] .done)),(5,(OT.seq [0,1,2,3,4,5,6,7,8,9,10,11,12] .done)),(6,(OT.seq [0,1,2,3,4,5,6,8,9,10,11,12,7,13,14,15,16,17] .done))] }
noncomputable def L4:List AK:=[.v bY .k,.v (.int .i64) .k,.v (.int .i64) .k,.v (.int .i64) .k]
noncomputable def ai1 (N:Nat) (x:ay L4) (kf:aa→Option aa):Option aa:=akl N x.1 x.2.1 x.2.2.1 x.2.2.2.1 (fun r0 r1=>kf ⟨[⟨bY,(.p (.o 46 none (.p .k (.p .k (.p .k (.p .k (.p .k (.o 3 none .k))))))) (.p (.o 80 none (.p .k (.p .k (.o 3 none .k)))) (.p (.o 104 none .k) (.p (.o 3 none .k) (.p (.o 136 none .k) (.p (.o 102 none .k) .k)))))),r0⟩,⟨.bool,.k,r1⟩],[]⟩)
noncomputable def QZ (N:Nat):=ar L4 (ai1 N)
noncomputable def arw (N:Nat):List Entry:=[⟨90,[.val],(lE N)⟩,⟨122,[.val],(y3 N)⟩,⟨195,[.val,.val,.val],(jo N)⟩,⟨199,[.val],(yY N)⟩,⟨93,[.val,.take,.val,.val,.val],(qj N)⟩]
theorem arx (N:Nat):bQ L4 (ai1 N) ai0 (arw N) (dP N N) Tryz.f139:=fun _ _=>by kernel_rfl
theorem ary {Γ:Gl} (N:Nat):Sound Γ Tryz.prog 139 (QZ N):=fo ai0 Tryz.f139 (arx N) ⟨sk N,⟨Lp N,⟨nm N,⟨Ln N,⟨BC N,trivial⟩⟩⟩⟩⟩
noncomputable def ai2:Hint:={ tab,hn:=[],loops:=[],outs:=[],bp:=[(5,(OT.seq [0,1,2,3,5,6,7,8,9,4,10,11,12,13] .done))] }
noncomputable def L5:List AK:=[.v bY .k,.v (.int .i64) .k]
noncomputable def ai3 (N:Nat) (x:ay L5) (kf:aa→Option aa):Option aa:=akm N x.1 x.2.1 (fun r0 r1=>kf ⟨[⟨bY,(.p (.o 46 none (.p .k (.p .k (.p .k (.p .k (.p .k (.o 3 none .k))))))) (.p (.o 80 none (.p .k (.p .k (.o 3 none .k)))) (.p (.o 104 none .k) (.p (.o 3 none .k) (.p (.o 136 none .k) (.p (.o 102 none .k) .k)))))),r0⟩,⟨.bool,.k,r1⟩],[]⟩)
noncomputable def Q0 (N:Nat):=ar L5 (ai3 N)
noncomputable def arz (N:Nat):List Entry:=[⟨90,[.val],(lE N)⟩,⟨200,[.val,.val],(kE N)⟩,⟨94,[.val],(yN N)⟩,⟨173,[.val],(sj N)⟩,⟨93,[.val,.take,.val,.val,.val],(qj N)⟩]
theorem arA (N:Nat):bQ L5 (ai3 N) ai2 (arz N) (dP N N) Tryz.f161:=fun _ _=>by kernel_rfl
theorem arB {Γ:Gl} (N:Nat):Sound Γ Tryz.prog 161 (Q0 N):=fo ai2 Tryz.f161 (arA N) ⟨sk N,⟨qi N,⟨La N,⟨DF N,⟨BC N,trivial⟩⟩⟩⟩⟩
noncomputable def VO:List AK:=[.v bY .k,.v df .k]
noncomputable def as2 (N:Nat) (x:ay VO) (kf:aa→Option aa):Option aa:=S60 N x.1 x.2.1 (fun r0 r1=>kf ⟨[⟨bY,(.p (.o 46 none (.p .k (.p .k (.p .k (.p .k (.p .k (.o 3 none .k))))))) (.p (.o 80 none (.p .k (.p .k (.o 3 none .k)))) (.p (.o 104 none .k) (.p (.o 3 none .k) (.p (.o 136 none .k) (.p (.o 102 none .k) .k)))))),r0⟩,⟨.bool,.k,r1⟩],[]⟩)
noncomputable def Y7 (N:Nat):=ar VO (as2 N)
noncomputable def axr (N:Nat):List Entry:=[⟨141,[.val,.val,.val],(QV N)⟩,⟨160,[.val,.val,.val],(QX N)⟩,⟨21,[.val],(YM N)⟩,⟨139,[.val,.val,.val,.val],(QZ N)⟩,⟨27,[.val],(Y3 N)⟩,⟨161,[.val,.val],(Q0 N)⟩,⟨90,[.val],(lE N)⟩]
theorem axs (N:Nat):bQ VO (as2 N) hq (axr N) (dP N N) Tryz.f60:=fun _ _=>by kernel_rfl
theorem axt {Γ:Gl} (N:Nat):Sound Γ Tryz.prog 60 (Y7 N):=fo hq Tryz.f60 (axs N) ⟨arq N,⟨arv N,⟨axd N,⟨ary N,⟨axq N,⟨arB N,⟨sk N,trivial⟩⟩⟩⟩⟩⟩⟩
noncomputable def VP:List AK:=[.v df .k]
noncomputable def as3 (N:Nat) (x:ay VP) (kf:aa→Option aa):Option aa:=L61 N x.1 (fun r0=>kf ⟨[⟨df,.k,r0⟩],[]⟩)
noncomputable def Y8 (N:Nat):=ar VP (as3 N)
theorem axu (N:Nat):bQ VP (as3 N) hq [] (dP N N) Tryz.f61:=fun _ _=>by kernel_rfl
theorem axv {Γ:Gl} (N:Nat):Sound Γ Tryz.prog 61 (Y8 N):=fo hq Tryz.f61 (axu N) trivial
noncomputable def azf:Hint:={ tab,hn:=[],loops:=[],outs:=[],bp:=[(5,(OT.seq [0,2] (.par [1,3,4,5,6,7,8] [[6]] (OT.seq [9,10] .done)))),(7,(OT.seq [0,1] (.par [2,3,4,5,6,7] [[9]] (OT.seq [8,9] .done)))),(10,(OT.seq [0,1,2,3,4] .done)),(24,(OT.seq [0,2] (.par [1,3,4,5,6,7,8] [[14]] (OT.seq [9,10] .done))))] }
noncomputable def ai4:List AK:=[.v bY .k,.v df .k]
noncomputable def azg (N:Nat) (x:ay ai4) (kf:aa→Option aa):Option aa:=L9 N x.1 x.2.1 (fun r0=>kf ⟨[⟨.bool,.k,r0⟩],[]⟩)
noncomputable def L6 (N:Nat):=ar ai4 (azg N)
noncomputable def azh (N:Nat):List Entry:=[⟨20,[.val,.val],(Yj N)⟩,⟨22,[.val],(Yu N)⟩,⟨61,[.val],(Y8 N)⟩,⟨60,[.val,.val],(Y7 N)⟩,⟨13,[.val,.val],(Yb N)⟩,⟨24,[.val,.val],(YS N)⟩,⟨25,[.nH,.val],(YV N)⟩,⟨26,[.val,.val],(YY N)⟩]
noncomputable def L7:Code:=aI Tryz.f9
theorem azi:af L7=[]:=by kernel_rfl
theorem azj (N:Nat):bQ ai4 (azg N) azf (azh N) (dP N N) Tryz.f9:=fun _ _=>by kernel_rfl
theorem azk {Γ:Gl} (N:Nat):Sound Γ Tryz.prog 9 (L6 N):=fq azf Tryz.f9 L7 (S4 N) azi (azj N) trivial ⟨awE N,⟨aw0 N,⟨axv N,⟨axt N,⟨awm N,⟨axg N,⟨axj N,⟨axm N,trivial⟩⟩⟩⟩⟩⟩⟩⟩
end Go.Pv.R
