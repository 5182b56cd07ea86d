/- Each function of the program that the law reaches computes its plain function, part 1. -/
import Derived.Test.YtafpcididdbipaaGreatDoorSnd0
import Derived.Test.YtafpcididdbipaaGreatDoorProg
set_option linter.unusedVariables false
noncomputable section
namespace Go.Pv.R
open List Int IntKind
open Go.Proofs
set_option maxRecDepth 100000
noncomputable def Gn:CE:=⟨13,[.Al],[.v (.ptr gn) (.o 82 (some 0) .k)],λN x kf=>zX N x.1 (λr0 z=>kf ⟨[⟨fg,(.p (.o 60 none (.p .k (.p .k (.p .k (.p .k (.p .k (.o 3 none .k))))))) (.p (.o 65 none (.p .k (.p .k (.o 3 none .k)))) (.p (.o 69 none .k) (.p (.o 3 none .k) (.p (.o 72 none .k) (.p (.o 75 none .k) .k)))))),r0⟩],[⟨(.ptr gn),(.o 82 (some 0) .k),z⟩]⟩)⟩
def yk:List Kd:=(.v (.ptr gn) (.o 82 (some 0) .k)::dK::.v (.ptr fg) (.o 31 none (.p (.o 60 none (.p .k (.p .k (.p .k (.p .k (.p .k (.o 3 none .k))))))) (.p (.o 65 none (.p .k (.p .k (.o 3 none .k)))) (.p (.o 69 none .k) (.p (.o 3 none .k) (.p (.o 72 none .k) (.p (.o 75 none .k) .k)))))))::.v (.ptr fg) (.o 31 none (.p (.o 60 none (.p .k (.p .k (.p .k (.p .k (.p .k (.o 3 none .k))))))) (.p (.o 65 none (.p .k (.p .k (.o 3 none .k)))) (.p (.o 69 none .k) (.p (.o 3 none .k) (.p (.o 72 none .k) (.p (.o 75 none .k) .k)))))))::dn 91 ([]))
def yl:List Kd:=(.v (.ptr gn) (.o 82 (some 0) .k)::dK::.v (.ptr fg) (.o 31 none (.p (.o 60 none (.p .k (.p .k (.p .k (.p .k (.p .k (.o 3 none .k))))))) (.p (.o 65 none (.p .k (.p .k (.o 3 none .k)))) (.p (.o 69 none .k) (.p (.o 3 none .k) (.p (.o 72 none .k) (.p (.o 75 none .k) .k)))))))::.v (.ptr fg) (.o 31 none (.p (.o 60 none (.p .k (.p .k (.p .k (.p .k (.p .k (.o 3 none .k))))))) (.p (.o 65 none (.p .k (.p .k (.o 3 none .k)))) (.p (.o 69 none .k) (.p (.o 3 none .k) (.p (.o 72 none .k) (.p (.o 75 none .k) .k)))))))::dn 91 ([]))
def wA:List Kd:=(.v (.ptr gn) (.o 82 (some 0) .k)::dK::.v (.ptr fg) (.o 31 none (.p (.o 60 none (.p .k (.p .k (.p .k (.p .k (.p .k (.o 3 none .k))))))) (.p (.o 65 none (.p .k (.p .k (.o 3 none .k)))) (.p (.o 69 none .k) (.p (.o 3 none .k) (.p (.o 72 none .k) (.p (.o 75 none .k) .k)))))))::.v (.ptr fg) (.o 31 none (.p (.o 60 none (.p .k (.p .k (.p .k (.p .k (.p .k (.o 3 none .k))))))) (.p (.o 65 none (.p .k (.p .k (.o 3 none .k)))) (.p (.o 69 none .k) (.p (.o 3 none .k) (.p (.o 72 none .k) (.p (.o 75 none .k) .k)))))))::dn 91 ([]))
theorem QE:Gn.ok:=eK3 Tryz.f13 [[Gf],[ll],[D6],[Cj],[D8],[Cn],[yX],[Ka],[Bd]] 3 (.v (.ptr gn) (.o 82 (some 0) .k)::dK::.v (.ptr fg) (.o 31 none (.p (.o 60 none (.p .k (.p .k (.p .k (.p .k (.p .k (.o 3 none .k))))))) (.p (.o 65 none (.p .k (.p .k (.o 3 none .k)))) (.p (.o 69 none .k) (.p (.o 3 none .k) (.p (.o 72 none .k) (.p (.o 75 none .k) .k)))))))::.v (.ptr fg) (.o 31 none (.p (.o 60 none (.p .k (.p .k (.p .k (.p .k (.p .k (.o 3 none .k))))))) (.p (.o 65 none (.p .k (.p .k (.o 3 none .k)))) (.p (.o 69 none .k) (.p (.o 3 none .k) (.p (.o 72 none .k) (.p (.o 75 none .k) .k)))))))::.v (.int .i64) .k::dn 90 ([])) (λN n x K=>jB N x.2.1 n (λz0 z1=>K (.x 0) (shape yk (z0,x.2.1,z1,()))) x.1 x.2.2.1 x.2.2.2.1) 7 (.v (.ptr gn) (.o 82 (some 0) .k)::dK::.v (.ptr fg) (.o 31 none (.p (.o 60 none (.p .k (.p .k (.p .k (.p .k (.p .k (.o 3 none .k))))))) (.p (.o 65 none (.p .k (.p .k (.o 3 none .k)))) (.p (.o 69 none .k) (.p (.o 3 none .k) (.p (.o 72 none .k) (.p (.o 75 none .k) .k)))))))::.v (.ptr fg) (.o 31 none (.p (.o 60 none (.p .k (.p .k (.p .k (.p .k (.p .k (.o 3 none .k))))))) (.p (.o 65 none (.p .k (.p .k (.o 3 none .k)))) (.p (.o 69 none .k) (.p (.o 3 none .k) (.p (.o 72 none .k) (.p (.o 75 none .k) .k)))))))::dK::.v (.int .i64) .k::dn 89 ([])) (λN n x K=>jC N x.2.1 n (λz0 z1=>K (.x 2) (shape yl (z0,x.2.1,z1,()))) x.1 x.2.2.1 x.2.2.2.1) 11 (.v (.ptr gn) (.o 82 (some 0) .k)::dK::.v (.ptr fg) (.o 31 none (.p (.o 60 none (.p .k (.p .k (.p .k (.p .k (.p .k (.o 3 none .k))))))) (.p (.o 65 none (.p .k (.p .k (.o 3 none .k)))) (.p (.o 69 none .k) (.p (.o 3 none .k) (.p (.o 72 none .k) (.p (.o 75 none .k) .k)))))))::.v (.ptr fg) (.o 31 none (.p (.o 60 none (.p .k (.p .k (.p .k (.p .k (.p .k (.o 3 none .k))))))) (.p (.o 65 none (.p .k (.p .k (.o 3 none .k)))) (.p (.o 69 none .k) (.p (.o 3 none .k) (.p (.o 72 none .k) (.p (.o 75 none .k) .k)))))))::dK::dK::.v (.int .i64) .k::dn 88 ([])) (λN n x K=>bO N x.2.1 n (λz0 z1=>K (.x 4) (shape wA (z0,x.2.1,z1,()))) x.1 x.2.2.1 x.2.2.2.1) [(3,2,yk),(7,4,yl),(11,6,wA)] ⟨Qy,ou,Pg,Nw,Pm,NG,Gm,UG,Lo,trivial⟩ (hn:=[(69,.k)]) (bw:=[(9,(OT.seq [3,1,2] (.par [0,4,5] [[3,36]] (OT.seq [6,7,8,9,10] .done)))),(17,(OT.seq [6,1,2,4,5] (.par [0,3,7,8,9] [[62],[65],[69],[3,62],[7,54,55,63,64,65]] (OT.seq [10,11,12,13,14] .done))))]) (iQ:=some (0,false))
noncomputable def Kb:CE:=⟨43,[.Al,.val],[.v (.ptr gn) (.o 82 (some 0) .k),.v (.sl .str) .k],λN x kf=>AD N x.1 x.2.1 (λr0 z=>kf ⟨[⟨.str,.k,r0⟩],[⟨(.ptr gn),(.o 82 (some 0) .k),z⟩]⟩)⟩
theorem UH:Kb.ok:=lK Tryz.f43 [[ll]] ⟨ou,trivial⟩ (iQ:=some (0,false))
noncomputable def yY:CE:=⟨14,[.Al],[.v (.ptr gn) (.o 82 (some 0) .k)],λN x kf=>zY N x.1 (λr0 z=>kf ⟨[⟨.str,.k,r0⟩],[⟨(.ptr gn),(.o 82 (some 0) .k),z⟩]⟩)⟩
theorem Gp:yY.ok:=lK Tryz.f14 [[Kb]] ⟨UH,trivial⟩ (hn:=[(4,.k)]) (iQ:=some (0,false))
noncomputable def nb:CE:=⟨5,[.val],[.v (.sl (.int .u8)) .k],λN x kf=>iW N x.1 (Pd fg (.p (.o 60 none (.p .k (.p .k (.p .k (.p .k (.p .k (.o 3 none .k))))))) (.p (.o 65 none (.p .k (.p .k (.o 3 none .k)))) (.p (.o 69 none .k) (.p (.o 3 none .k) (.p (.o 72 none .k) (.p (.o 75 none .k) .k)))))) .str .k kf)⟩
theorem Ea:nb.ok:=lK Tryz.f5 [[CV],[Gn],[yY]] ⟨J9,QE,Gp,trivial⟩ (bw:=[(3,(OT.seq [1] (.par [0,2] [[5,10]] (OT.seq [3,4] .done))))])
def alH:Go.Shelf.Ren:=⟨λn=>bif Nat.beq n 138 then 92 else bif Nat.beq n 143 then 93 else bif Nat.beq n 146 then 15 else bif Nat.beq n 195 then 147 else bif Nat.beq n 197 then 148 else bif Nat.beq n 217 then 200 else bif Nat.beq n 218 then 149 else bif Nat.beq n 219 then 150 else bif Nat.beq n 221 then 44 else bif Nat.beq n 224 then 202 else bif Nat.beq n 225 then 201 else bif Nat.beq n 260 then 199 else bif Nat.beq n 266 then 244 else bif Nat.beq n 267 then 203 else bif Nat.beq n 268 then 91 else bif Nat.beq n 314 then 245 else n,λn=>bif Nat.beq n 0 then 0 else bif Nat.beq n 3 then 3 else bif Nat.beq n 4 then 4 else bif Nat.beq n 5 then 5 else bif Nat.beq n 9 then 9 else bif Nat.beq n 21 then 21 else bif Nat.beq n 31 then 36 else bif Nat.beq n 46 then 149 else bif Nat.beq n 51 then 214 else bif Nat.beq n 105 then 162 else bif Nat.beq n 119 then 227 else bif Nat.beq n 138 then 229 else bif Nat.beq n 139 then 230 else bif Nat.beq n 146 then 231 else n,λn=>bif Nat.beq n 1 then 0 else bif Nat.beq n 3 then 1 else bif Nat.beq n 4 then 2 else n⟩
theorem ajD:Lays.n146 Tryz.prog alH:={ mixed:=by kernel_rfl,f138:=by kernel_rfl,f143:=by kernel_rfl,f146:=by kernel_rfl,f195:=by kernel_rfl,f197:=by kernel_rfl,f217:=by kernel_rfl,f218:=by kernel_rfl,f219:=by kernel_rfl,f221:=by kernel_rfl,f224:=by kernel_rfl,f225:=by kernel_rfl,f260:=by kernel_rfl,f266:=by kernel_rfl,f267:=by kernel_rfl,f268:=by kernel_rfl,f314:=by kernel_rfl,t0:=by kernel_rfl,a0:=λw=>by kernel_rfl,z0:=λw=>by kernel_rfl,v0:=λw=>by kernel_rfl,t3:=by kernel_rfl,a3:=λw=>by kernel_rfl,z3:=λw=>by kernel_rfl,v3:=λw=>by kernel_rfl,t4:=by kernel_rfl,a4:=λw=>by kernel_rfl,z4:=λw=>by kernel_rfl,v4:=λw=>by kernel_rfl,t5:=by kernel_rfl,a5:=λw=>by kernel_rfl,z5:=λw=>by kernel_rfl,v5:=λw=>by kernel_rfl,t9:=by kernel_rfl,a9:=λw=>by kernel_rfl,z9:=λw=>by kernel_rfl,v9:=λw=>by kernel_rfl,t21:=by kernel_rfl,a21:=λw=>by kernel_rfl,z21:=λw=>by kernel_rfl,v21:=λw=>by kernel_rfl,t31:=by kernel_rfl,a31:=λw=>by kernel_rfl,z31:=λw=>by kernel_rfl,v31:=λw=>by kernel_rfl,t46:=by kernel_rfl,a46:=λw=>by kernel_rfl,z46:=λw=>by kernel_rfl,v46:=λw=>by kernel_rfl,t51:=by kernel_rfl,a51:=λw=>by kernel_rfl,z51:=λw=>by kernel_rfl,v51:=λw=>by kernel_rfl,t105:=by kernel_rfl,a105:=λw=>by kernel_rfl,z105:=λw=>by kernel_rfl,v105:=λw=>by kernel_rfl,t119:=by kernel_rfl,a119:=λw=>by kernel_rfl,z119:=λw=>by kernel_rfl,t138:=by kernel_rfl,a138:=λw=>by kernel_rfl,z138:=λw=>by kernel_rfl,v138:=λw=>by kernel_rfl,t139:=by kernel_rfl,a139:=λw=>by kernel_rfl,z139:=λw=>by kernel_rfl,v139:=λw=>by kernel_rfl,t146:=by kernel_rfl,a146:=λw=>by kernel_rfl,z146:=λw=>by kernel_rfl,v146:=λw=>by kernel_rfl,g1:=by kernel_rfl,g3:=by kernel_rfl,g4:=by kernel_rfl }
def ac7:List AK:=[.v .str .k,.v .str .k]
noncomputable def ann (N:Nat) (x:cG ac7) (kf:aa->Option aa):Option aa:=S15 N x.1 x.2.1 (λr0=>kf ⟨[⟨(.sl .str),.k,r0⟩],[]⟩)
noncomputable def alI (N:Nat):=aV ac7 (ann N)
theorem apz {Γ:Gl} (xa:ot Γ) (N:Nat):Sound Γ Tryz.prog 15 (alI N):=aat ajD (by kernel_rfl)
noncomputable def ac8:CE:=⟨15,[.val,.val],ac7,ann⟩
theorem ajE:ac8.ok:=λh N=>apz h N
def ano:Hint:={ tab,hn:=[],loops:=[],outs:=[],bw:=[] }
def TQ:List AK:=[.v (.sl (.int .i64)) .k]
noncomputable def aaG (N:Nat) (x:cG TQ) (kf:aa->Option aa):Option aa:=S48 N x.1 (λr0=>kf ⟨[⟨(.sl (.int .i64)),(.o 3 none .k),r0⟩],[]⟩)
noncomputable def aeA (N:Nat):=aV TQ (aaG N)
def aaH:Code:=cX Tryz.f48
theorem apA:a8 aaH=[]:=by kernel_rfl
theorem apB (N:Nat):FnT TQ (aaG N) ano [] (noL N N) Tryz.f48:=λ_ _=>by kernel_rfl
theorem alJ (N:Nat) (x:cG TQ):dk (aaG N x):=by
 obtain⟨l,u⟩:=x;unfold aaG S48;cases l with
 |nil=>exact⟨some _,λK=>Af _⟩
 |cons a l=>simp only[List.isEmpty_cons,cond_false];exact dk.bif _ (dk.pure _) dk.none
theorem ajF {Γ:Gl} (xa:ot Γ) (N:Nat):Sound Γ Tryz.prog 48 (aeA N):=lz (hh:=ano) mixed qe (es:=[]) trivial (fn:=Tryz.f48) (body:=aaH) (by kernel_rfl) (by kernel_rfl) (by kernel_rfl) (by kernel_rfl) (by kernel_rfl) (Lf:=noL N) (ac2 N) apA trivial (N:=N) (by kernel_rfl) (apB N) (.inr (alJ N))
noncomputable def XF:CE:=⟨48,[.val],TQ,aaG⟩
theorem ac9:XF.ok:=λh N=>ajF h N
noncomputable def sU:CE:=⟨45,[.val],[.v (.sl gm) .k],λN x kf=>jD N x.1 (ek (.sl gm) (.o 60 none (.p .k (.p .k (.p .k (.p .k (.p .k (.o 3 none .k))))))) kf)⟩
def tx:List Kd:=(dn 3 (.v (.sl gm) (.o 60 none (.p .k (.p .k (.p .k (.p .k (.p .k (.o 3 none .k)))))))::dn 19 ([])))
theorem Be:sU.ok:=oX Tryz.f45 [[XF]] 3 (dn 3 (.v (.sl gm) (.o 60 none (.p .k (.p .k (.p .k (.p .k (.p .k (.o 3 none .k)))))))::dn 3 (.v (.sl gm) .k::.v (.int .i64) .k::.v (.int .i64) .k::dn 13 ([])))) (λN n x K=>fN N x.2.1 x.2.2.1 n (λz0=>K (.x 0) (shape tx (z0,()))) x.1 x.2.2.2.1) [(3,2,tx)] ⟨ac9,trivial⟩ (hn:=[(6,(.p .k (.p .k (.p .k (.p .k (.p .k (.o 3 none .k)))))))])
noncomputable def zr:CE:=⟨46,[.val],[.v (.sl tI) .k],λN x kf=>qy N x.1 (ek (.sl tI) (.o 65 none (.p .k (.p .k (.o 3 none .k)))) kf)⟩
def rH:List Kd:=(dn 3 (.v (.sl tI) (.o 65 none (.p .k (.p .k (.o 3 none .k))))::dn 19 ([])))
theorem Js:zr.ok:=oX Tryz.f46 [[XF]] 3 (dn 3 (.v (.sl tI) (.o 65 none (.p .k (.p .k (.o 3 none .k))))::dn 3 (.v (.sl tI) .k::.v (.int .i64) .k::.v (.int .i64) .k::dn 13 ([])))) (λN n x K=>eK N x.2.1 x.2.2.1 n (λz0=>K (.x 0) (shape rH (z0,()))) x.1 x.2.2.2.1) [(3,2,rH)] ⟨ac9,trivial⟩ (hn:=[(6,(.p .k (.p .k (.o 3 none .k))))])
def anp:Hint:={ tab,hn:=[],loops:=[],outs:=[],bw:=[] }
def TR:List AK:=[.v (.sl ib) .k]
noncomputable def aaI (N:Nat) (x:cG TR) (kf:aa->Option aa):Option aa:=S47 N x.1 (λr0=>kf ⟨[⟨(.sl ib),(.o 69 none .k),r0⟩],[]⟩)
noncomputable def alK (N:Nat):=aV TR (aaI N)
def aaJ:Code:=cX Tryz.f47
theorem apC:a8 aaJ=[]:=by kernel_rfl
theorem apD (N:Nat):FnT TR (aaI N) anp [] (noL N N) Tryz.f47:=λ_ _=>by kernel_rfl
theorem alL (N:Nat) (x:cG TR):dk (aaI N x):=by
 obtain⟨l,u⟩:=x;unfold aaI S47;cases l with
 |nil=>exact⟨some _,λK=>Af _⟩
 |cons a l=>simp only[List.isEmpty_cons,cond_false];exact dk.bif _ (dk.pure _) dk.none
theorem apE {Γ:Gl} (xa:ot Γ) (N:Nat):Sound Γ Tryz.prog 47 (alK N):=lz (hh:=anp) mixed qe (es:=[]) trivial (fn:=Tryz.f47) (body:=aaJ) (by kernel_rfl) (by kernel_rfl) (by kernel_rfl) (by kernel_rfl) (by kernel_rfl) (Lf:=noL N) (ac2 N) apC trivial (N:=N) (by kernel_rfl) (apD N) (.inr (alL N))
noncomputable def ajG:CE:=⟨47,[.val],TR,aaI⟩
theorem apF:ajG.ok:=λh N=>apE h N
def anq:Hint:={ tab,hn:=[],loops:=[],outs:=[],bw:=[] }
def TS:List AK:=[.v (.sl It) .k]
noncomputable def aaK (N:Nat) (x:cG TS) (kf:aa->Option aa):Option aa:=S49 N x.1 (λr0=>kf ⟨[⟨(.sl It),(.o 72 none .k),r0⟩],[]⟩)
noncomputable def alM (N:Nat):=aV TS (aaK N)
def aaL:Code:=cX Tryz.f49
theorem apG:a8 aaL=[]:=by kernel_rfl
theorem apH (N:Nat):FnT TS (aaK N) anq [] (noL N N) Tryz.f49:=λ_ _=>by kernel_rfl
theorem alN (N:Nat) (x:cG TS):dk (aaK N x):=by
 obtain⟨l,u⟩:=x;unfold aaK S49;cases l with
 |nil=>exact⟨some _,λK=>Af _⟩
 |cons a l=>simp only[List.isEmpty_cons,cond_false];exact dk.bif _ (dk.pure _) dk.none
theorem apI {Γ:Gl} (xa:ot Γ) (N:Nat):Sound Γ Tryz.prog 49 (alM N):=lz (hh:=anq) mixed qe (es:=[]) trivial (fn:=Tryz.f49) (body:=aaL) (by kernel_rfl) (by kernel_rfl) (by kernel_rfl) (by kernel_rfl) (by kernel_rfl) (Lf:=noL N) (ac2 N) apG trivial (N:=N) (by kernel_rfl) (apH N) (.inr (alN N))
noncomputable def ajH:CE:=⟨49,[.val],TS,aaK⟩
theorem apJ:ajH.ok:=λh N=>apI h N
def anr:Hint:={ tab,hn:=[],loops:=[],outs:=[],bw:=[] }
def TT:List AK:=[.v (.sl QS) .k]
noncomputable def aaM (N:Nat) (x:cG TT) (kf:aa->Option aa):Option aa:=S50 N x.1 (λr0=>kf ⟨[⟨(.sl QS),(.o 75 none .k),r0⟩],[]⟩)
noncomputable def alO (N:Nat):=aV TT (aaM N)
def aaN:Code:=cX Tryz.f50
theorem apK:a8 aaN=[]:=by kernel_rfl
theorem apL (N:Nat):FnT TT (aaM N) anr [] (noL N N) Tryz.f50:=λ_ _=>by kernel_rfl
theorem alP (N:Nat) (x:cG TT):dk (aaM N x):=by
 obtain⟨l,u⟩:=x;unfold aaM S50;cases l with
 |nil=>exact⟨some _,λK=>Af _⟩
 |cons a l=>simp only[List.isEmpty_cons,cond_false];exact dk.bif _ (dk.pure _) dk.none
theorem apM {Γ:Gl} (xa:ot Γ) (N:Nat):Sound Γ Tryz.prog 50 (alO N):=lz (hh:=anr) mixed qe (es:=[]) trivial (fn:=Tryz.f50) (body:=aaN) (by kernel_rfl) (by kernel_rfl) (by kernel_rfl) (by kernel_rfl) (by kernel_rfl) (Lf:=noL N) (ac2 N) apK trivial (N:=N) (by kernel_rfl) (apL N) (.inr (alP N))
noncomputable def ac':CE:=⟨50,[.val],TT,aaM⟩
theorem ajI:ac'.ok:=λh N=>apM h N
noncomputable def dv:CE:=⟨16,[.val],[.v fg .k],λN x kf=>aF N x.1 (ek fg (.p (.o 60 none (.p .k (.p .k (.p .k (.p .k (.p .k (.o 3 none .k))))))) (.p (.o 65 none (.p .k (.p .k (.o 3 none .k)))) (.p (.o 69 none .k) (.p (.o 3 none .k) (.p (.o 72 none .k) (.p (.o 75 none .k) .k)))))) kf)⟩
theorem eX:dv.ok:=lK Tryz.f16 [[sU],[zr],[ajG],[XF],[ajH],[ac']] ⟨Be,Js,apF,ac9,apJ,ajI,trivial⟩ (bw:=[(1,(OT.seq [0,1,3,4,2,6,5,7,8,9] .done)),(2,(OT.seq [0,1,3,4,6,7,9,10,2,12,5,8,11,13,14,15,16,17,18,19] .done))])
def ajJ:Go.Shelf.Ren:=⟨λn=>bif Nat.beq n 137 then 151 else bif Nat.beq n 217 then 200 else bif Nat.beq n 266 then 244 else n,λn=>bif Nat.beq n 3 then 3 else bif Nat.beq n 5 then 5 else bif Nat.beq n 9 then 9 else n,λn=>n⟩
theorem af3:Lays.n137 Tryz.prog ajJ:={ mixed:=by kernel_rfl,f137:=by kernel_rfl,f217:=by kernel_rfl,f266:=by kernel_rfl,t3:=by kernel_rfl,a3:=λw=>by kernel_rfl,z3:=λw=>by kernel_rfl,v3:=λw=>by kernel_rfl,t5:=by kernel_rfl,a5:=λw=>by kernel_rfl,z5:=λw=>by kernel_rfl,v5:=λw=>by kernel_rfl,t9:=by kernel_rfl,a9:=λw=>by kernel_rfl,z9:=λw=>by kernel_rfl,v9:=λw=>by kernel_rfl }
def XG:List AK:=[.v .str .k,.v (.int .u8) .k]
noncomputable def ajK (N:Nat) (x:cG XG) (kf:aa->Option aa):Option aa:=arc N x.1 x.2.1 (λr0=>kf ⟨[⟨(.int .i64),.k,r0⟩],[]⟩)
noncomputable def aaO (N:Nat):=aV XG (ajK N)
theorem aeB {Γ:Gl} (xa:ot Γ) (N:Nat):Sound Γ Tryz.prog 151 (aaO N):=aas af3
noncomputable def alQ:CE:=⟨151,[.val,.val],XG,ajK⟩
theorem asM:alQ.ok:=λh N=>aeB h N
def aaP:Go.Shelf.Ren:=⟨λn=>bif Nat.beq n 4 then 204 else n,λn=>bif Nat.beq n 0 then 0 else bif Nat.beq n 3 then 3 else bif Nat.beq n 4 then 4 else bif Nat.beq n 9 then 9 else bif Nat.beq n 20 then 20 else bif Nat.beq n 22 then 27 else bif Nat.beq n 25 then 3 else n,λn=>n⟩
theorem af4:Go.Proofs.Lays8.n4 Tryz.prog aaP:={ f4:=⟨Tryz.f204.name,by kernel_rfl,by kernel_rfl⟩,mixed:=by kernel_rfl,t0:=by kernel_rfl,a0:=λw=>by kernel_rfl,z0:=λw=>by kernel_rfl,v0:=λw=>by kernel_rfl,t3:=by kernel_rfl,a3:=λw=>by kernel_rfl,z3:=λw=>by kernel_rfl,v3:=λw=>by kernel_rfl,t4:=by kernel_rfl,a4:=λw=>by kernel_rfl,z4:=λw=>by kernel_rfl,v4:=λw=>by kernel_rfl,t9:=by kernel_rfl,a9:=λw=>by kernel_rfl,z9:=λw=>by kernel_rfl,v9:=λw=>by kernel_rfl,t20:=by kernel_rfl,a20:=λw=>by kernel_rfl,z20:=λw=>by kernel_rfl,v20:=λw=>by kernel_rfl,t22:=by kernel_rfl,a22:=λw=>by kernel_rfl,z22:=λw=>by kernel_rfl,v22:=λw=>by kernel_rfl }
noncomputable def alR:TypeInfo:=(Tryz.prog.info? 3).get (by kernel_rfl)
def XH:List AK:=[.v (.sl (.int .i64)) (.o 3 none .k),.v (.int .i64) .k]
noncomputable def ajL (N:Nat) (x:cG XH) (kf:aa->Option aa):Option aa:=aos N x.1 x.2.1 (λr0=>kf ⟨[⟨(.sl (.int .i64)),(.o 3 none .k),r0⟩],[]⟩)
noncomputable def ajM (N:Nat):=aV XH (ajL N)
theorem alS {Γ:Gl} (xa:ot Γ) (N:Nat):Sound Γ Tryz.prog 204 (ajM N):=ac0 (ρ:=aaP) (i0:=alR) (z:=.int .i64 0) af4 (by kernel_rfl) (by kernel_rfl) (by kernel_rfl) (by kernel_rfl) (by kernel_rfl)
noncomputable def aeC:CE:=⟨204,[.take,.val],XH,ajL⟩
theorem alT:aeC.ok:=λh N=>alS h N
noncomputable def jh:CE:=⟨152,[.val],[.v (.sl (.sl (.int .i64))) .k],λN x kf=>lB N x.1 (ek (.sl (.int .i64)) (.o 3 none .k) kf)⟩
def qO:List Kd:=(.v (.sl (.sl (.int .i64))) .k::dK::dK::.v (.int .i64) .k::dn 32 ([]))
def qf:List Kd:=(dn 6 (.v (.sl (.int .i64)) (.o 3 none .k)::dn 29 ([])))
theorem ym:jh.ok:=eK2 Tryz.f152 [[aeC]] 3 (.v (.sl (.sl (.int .i64))) .k::dK::dK::.v (.int .i64) .k::dn 5 (.v (.sl (.sl (.int .i64))) .k::.v (.int .i64) .k::.v (.int .i64) .k::dn 24 ([]))) (λN n x K=>dJ x.1 x.2.2.1 x.2.2.2.1 n (λz0=>K (.x 0) (shape qO (x.1,z0,()))) x.2.1 x.2.2.2.2.1) 11 (dn 6 (.v (.sl (.int .i64)) (.o 3 none .k)::dn 18 (.v (.sl (.sl (.int .i64))) .k::.v (.int .i64) .k::.v (.int .i64) .k::dn 8 ([])))) (λN n x K=>cq x.2.1 x.2.2.1 n (λz0=>K (.x 2) (shape qf (z0,()))) x.1 x.2.2.2.1) [(3,2,qO),(11,4,qf)] ⟨alT,trivial⟩
def ant:Hint:={ tab,hn:=[],loops:=[],outs:=[],bw:=[(14,(OT.seq [0,1,2,3,7,8,4,5,6,9,10,11] .done)),(15,(OT.seq [0,1,2,3,5,6,4,7,8,9] .done))] }
def TU:List AK:=[.v .str .k]
noncomputable def ajN (N:Nat) (x:cG TU) (kf:aa->Option aa):Option aa:=I94 N x.1 (λr0 r1 r2=>kf ⟨[⟨(.sl (.int .i64)),(.o 3 none .k),r0⟩,⟨.str,.k,r1⟩,⟨.bool,.k,r2⟩],[]⟩)
noncomputable def XI (N:Nat):=aV TU (ajN N)
def ajO (N:Nat):List Entry:=[⟨151,[.val,.val],(aaO N)⟩,⟨152,[.val],(aV jh.l (jh.F N))⟩,⟨94,[.val],(XI N)⟩]
def aaQ:Code:=cX Tryz.f94
theorem apN:a8 aaQ=[]:=by kernel_rfl
theorem apO (N:Nat) (x:cG TU) (kf:aa->Option aa):ajN (N+1) x kf=ny ant (n9.of (ajO N)) (noL N N) Tryz.f94 (dF TU x) kf:=by kernel_rfl
theorem ajP {Γ:Gl} (xa:ot Γ):∀ N:Nat,Sound Γ Tryz.prog 94 (XI N)
 |0=>w8 λal kf=>by unfold XI aV;split<;>rfl
 |N+1=>lz (hh:=ant) mixed qe (es:=ajO N) ⟨aeB xa N,⟨ym xa N,⟨ajP xa N,trivial⟩⟩⟩ (fn:=Tryz.f94) (body:=aaQ) (by kernel_rfl) (by kernel_rfl) (by kernel_rfl) (by kernel_rfl) (by kernel_rfl) (Lf:=noL N) (ac2 N) apN trivial (N:=N) (by kernel_rfl) (apO N) (.inl (by kernel_rfl))
noncomputable def ajQ:CE:=⟨94,[.val],TU,ajN⟩
theorem apP:ajQ.ok:=λh N=>ajP h N
noncomputable def cA:CE:=⟨72,[.val,.val,.val],[.v (.int .i64) .k,.v (.int .i64) .k,.v (.int .i64) .k],λN x kf=>aw N x.1 x.2.1 x.2.2.1 (ek .bool .k kf)⟩
theorem cY:cA.ok:=lK Tryz.f72 [] trivial
noncomputable def Bf:CE:=⟨154,[.val],[.v (.int .i64) .k],λN x kf=>F0 N x.1 (ek (.int .u64) .k kf)⟩
def tz:List Kd:=(dn 3 (.v (.int .u64) .k::dn 15 ([])))
theorem Lp:Bf.ok:=oX Tryz.f154 [] 3 (.v (.int .i64) .k::dK::dK::.v (.int .u64) .k::dK::.v (.int .i64) .k::dn 13 ([])) (λN n x K=>nJ x.1 n (λz0=>K (.x 0) (shape tz (z0,()))) x.2.1 x.2.2.1) [(3,2,tz)] trivial
noncomputable def vu:CE:=⟨96,[.val],[.v (.sl (.int .i64)) .k],λN x kf=>BY N x.1 (Pd (.int .u64) .k .bool .k kf)⟩
def zt:List Kd:=(dn 4 (.v (.sl (.int .u64)) (.o 130 none .k)::dn 98 ([])))
def zu:List Kd:=(dK::dK::.v (.int .u64) .k::.v .bool .k::dn 99 ([]))
theorem Bg:vu.ok:=oX Tryz.f96 [[cA],[Bf]] 5 (dn 4 (.v (.sl (.int .u64)) (.o 130 none .k)::dn 10 (.v (.sl (.int .i64)) .k::.v (.int .i64) .k::.v (.int .i64) .k::dn 85 ([])))) (λN n x K=>kK N x.2.1 x.2.2.1 n (λz0=>K (.x 0) (shape zt (z0,()))) (λz0 z1=>K .r (shape zu (z0,z1,()))) x.1 x.2.2.2.1) [(5,2,zt),(5,1,zu)] ⟨cY,Lp,trivial⟩ (bw:=[(14,(OT.seq [0,1,2,3,4,5,6,7,8,9,10,11] .done))])
noncomputable def Co:CE:=⟨153,[.val],[.v (.sl (.int .i64)) .k],λN x kf=>Hp N x.1 (ek .bool .k kf)⟩
theorem NH:Co.ok:=lK Tryz.f153 [[vu]] ⟨Bg,trivial⟩
noncomputable def zw:CE:=⟨95,[.val],[.v (.sl (.int .i64)) .k],λN x kf=>Dw N x.1 (ek .str .k kf)⟩
def rI:List Kd:=(dn 3 (.v (.sl .str) (.o 9 none .k)::dn 71 ([])))
theorem Jt:zw.ok:=oX Tryz.f95 [[Co]] 5 (dn 3 (.v (.sl .str) (.o 9 none .k)::dn 8 (.v (.sl (.int .i64)) .k::.v (.int .i64) .k::.v (.int .i64) .k::dn 60 ([])))) (λN n x K=>jO x.2.1 x.2.2.1 n (λz0=>K (.x 0) (shape rI (z0,()))) x.1 x.2.2.2.1) [(5,2,rI)] ⟨NH,trivial⟩ (bw:=[(9,(OT.seq [0,1,2,3,4,5,6,7,8,9,10,11,12,13,14,15,16,17,18,19,20,21,22] .done))])
noncomputable def yn:CE:=⟨51,[.val],[.v .str .k],λN x kf=>BZ N x.1 (Pd (.sl (.int .i64)) (.o 3 none .k) .bool .k kf)⟩
theorem H2:yn.ok:=lK Tryz.f51 [[ajQ],[zw]] ⟨apP,Jt,trivial⟩
noncomputable def rJ:CE:=⟨97,[.val],[.v (.int .u64) .k],λN x kf=>wb N x.1 (ek (.int .i64) .k kf)⟩
theorem CX:rJ.ok:=lK Tryz.f97 [] trivial
noncomputable def Cp:CE:=⟨52,[.val],[.v (.sl (.int .i64)) .k],λN x kf=>Hq N x.1 (ek (.int .i64) .k kf)⟩
theorem NI:Cp.ok:=lK Tryz.f52 [[vu],[rJ]] ⟨Bg,CX,trivial⟩
def alU:Go.Shelf.Ren:=⟨λn=>bif Nat.beq n 129 then 222 else bif Nat.beq n 171 then 75 else bif Nat.beq n 243 then 131 else bif Nat.beq n 246 then 190 else bif Nat.beq n 283 then 238 else bif Nat.beq n 284 then 239 else bif Nat.beq n 285 then 240 else bif Nat.beq n 286 then 241 else bif Nat.beq n 317 then 269 else bif Nat.beq n 318 then 270 else bif Nat.beq n 319 then 271 else bif Nat.beq n 320 then 272 else bif Nat.beq n 337 then 281 else bif Nat.beq n 338 then 282 else n,λn=>bif Nat.beq n 0 then 0 else bif Nat.beq n 2 then 2 else bif Nat.beq n 3 then 3 else bif Nat.beq n 4 then 4 else bif Nat.beq n 5 then 5 else bif Nat.beq n 9 then 9 else bif Nat.beq n 20 then 20 else bif Nat.beq n 37 then 22 else bif Nat.beq n 46 then 149 else bif Nat.beq n 51 then 214 else bif Nat.beq n 53 then 130 else bif Nat.beq n 171 then 223 else bif Nat.beq n 173 then 225 else bif Nat.beq n 212 then 252 else bif Nat.beq n 213 then 253 else bif Nat.beq n 232 then 261 else bif Nat.beq n 233 then 262 else n,λn=>bif Nat.beq n 17 then 3 else bif Nat.beq n 18 then 4 else bif Nat.beq n 19 then 5 else n⟩
theorem ajR:LaysM.n171 Tryz.prog alU:={ mixed:=by kernel_rfl,f129:=by kernel_rfl,f171:=by kernel_rfl,f243:=by kernel_rfl,f246:=by kernel_rfl,f283:=by kernel_rfl,f284:=by kernel_rfl,f285:=by kernel_rfl,f286:=by kernel_rfl,f317:=by kernel_rfl,f318:=by kernel_rfl,f319:=by kernel_rfl,f320:=by kernel_rfl,f337:=by kernel_rfl,f338:=by kernel_rfl,t0:=by kernel_rfl,a0:=λw=>by kernel_rfl,z0:=λw=>by kernel_rfl,v0:=λw=>by kernel_rfl,t2:=by kernel_rfl,a2:=λw=>by kernel_rfl,z2:=λw=>by kernel_rfl,v2:=λw=>by kernel_rfl,t3:=by kernel_rfl,a3:=λw=>by kernel_rfl,z3:=λw=>by kernel_rfl,v3:=λw=>by kernel_rfl,t4:=by kernel_rfl,a4:=λw=>by kernel_rfl,z4:=λw=>by kernel_rfl,v4:=λw=>by kernel_rfl,t5:=by kernel_rfl,a5:=λw=>by kernel_rfl,z5:=λw=>by kernel_rfl,v5:=λw=>by kernel_rfl,t9:=by kernel_rfl,a9:=λw=>by kernel_rfl,z9:=λw=>by kernel_rfl,v9:=λw=>by kernel_rfl,t20:=by kernel_rfl,a20:=λw=>by kernel_rfl,z20:=λw=>by kernel_rfl,v20:=λw=>by kernel_rfl,t37:=by kernel_rfl,a37:=λw=>by kernel_rfl,z37:=λw=>by kernel_rfl,v37:=λw=>by kernel_rfl,t46:=by kernel_rfl,a46:=λw=>by kernel_rfl,z46:=λw=>by kernel_rfl,v46:=λw=>by kernel_rfl,t51:=by kernel_rfl,a51:=λw=>by kernel_rfl,z51:=λw=>by kernel_rfl,v51:=λw=>by kernel_rfl,t53:=by kernel_rfl,a53:=λw=>by kernel_rfl,z53:=λw=>by kernel_rfl,v53:=λw=>by kernel_rfl,t171:=by kernel_rfl,a171:=λw=>by kernel_rfl,z171:=λw=>by kernel_rfl,v171:=λw=>by kernel_rfl,t173:=by kernel_rfl,a173:=λw=>by kernel_rfl,z173:=λw=>by kernel_rfl,v173:=λw=>by kernel_rfl,t212:=by kernel_rfl,a212:=λw=>by kernel_rfl,z212:=λw=>by kernel_rfl,v212:=λw=>by kernel_rfl,t213:=by kernel_rfl,a213:=λw=>by kernel_rfl,z213:=λw=>by kernel_rfl,t232:=by kernel_rfl,a232:=λw=>by kernel_rfl,z232:=λw=>by kernel_rfl,v232:=λw=>by kernel_rfl,t233:=by kernel_rfl,a233:=λw=>by kernel_rfl,z233:=λw=>by kernel_rfl,v233:=λw=>by kernel_rfl,g17:=by kernel_rfl,g18:=by kernel_rfl,g19:=by kernel_rfl,i0:=by kernel_rfl,i2:=by kernel_rfl,i3:=by kernel_rfl,i4:=by kernel_rfl,i5:=by kernel_rfl,i9:=by kernel_rfl,i20:=by kernel_rfl,i37:=by kernel_rfl,i46:=by kernel_rfl,i51:=by kernel_rfl,i53:=by kernel_rfl,i171:=by kernel_rfl,i173:=by kernel_rfl,i212:=by kernel_rfl,i232:=by kernel_rfl,i233:=by kernel_rfl,m17:=by kernel_rfl,m18:=by kernel_rfl,m19:=by kernel_rfl }
def ada:List AK:=[.v (.int .i64) .k]
noncomputable def anu (N:Nat) (x:cG ada) (kf:aa->Option aa):Option aa:=S75 N x.1 (λr0=>kf ⟨[⟨.str,.k,r0⟩],[]⟩)
noncomputable def alV (N:Nat):=aV ada (anu N)
theorem apQ {Γ:Gl} (xa:ot Γ) (N:Nat):Sound Γ Tryz.prog 75 (alV N):=acR ajR xa
noncomputable def ajS:CE:=⟨75,[.val],ada,anu⟩
theorem apR:ajS.ok:=λh N=>apQ h N
noncomputable def gU:CE:=⟨31,[.val],[.v (.int .i64) .k],λN x kf=>aM N x.1 (ek .str .k kf)⟩
theorem jr:gU.ok:=lK Tryz.f31 [[ajS]] ⟨apR,trivial⟩
noncomputable def Eb:CE:=⟨54,[.val],[.v (.sl (.int .i64)) .k],λN x kf=>JS N x.1 (ek .bool .k kf)⟩
theorem Pp:Eb.ok:=lK Tryz.f54 [[vu]] ⟨Bg,trivial⟩
noncomputable def CY:CE:=⟨53,[.val],[.v .bool .k],λN x kf=>KP N x.1 (ek .str .k kf)⟩
theorem Kc:CY.ok:=lK Tryz.f53 [] trivial
noncomputable def zx:CE:=⟨17,[.val],[.v (.sl .str) .k],λN x kf=>xg N x.1 (ek .str .k kf)⟩
theorem Ju:zx.ok:=lK Tryz.f17 [[yn],[Cp],[gU],[Eb],[CY]] ⟨H2,NI,jr,Pp,Kc,trivial⟩
noncomputable def Ke:CE:=⟨18,[.val],[.v .str .k],λN x kf=>Su N x.1 (ek (.int .i64) .k kf)⟩
theorem UI:Ke.ok:=lK Tryz.f18 [] trivial
noncomputable def Ee:CE:=⟨19,[.val],[.v .str .k],λN x kf=>JV N x.1 (Pd (.int .i64) .k .bool .k kf)⟩
def wB:List Kd:=(dn 4 (.v (.int .i64) .k::dn 46 ([])))
def wC:List Kd:=(dK::dK::.v (.int .i64) .k::.v .bool .k::dn 47 ([]))
theorem Pq:Ee.ok:=oX Tryz.f19 [] 5 (.v .str .k::dn 3 (.v (.int .i64) .k::dn 20 (.v (.int .i64) .k::.v (.int .i64) .k::dn 24 ([])))) (λN n x K=>xh x.1 x.2.2.1 n (λz0=>K (.x 0) (shape wB (z0,()))) (λz0 z1=>K .r (shape wC (z0,z1,()))) x.2.1 x.2.2.2.1) [(5,2,wB),(5,1,wC)] trivial
noncomputable def yZ:CE:=⟨34,[],[],λN x kf=>zZ N (ek fg (.p (.o 60 none (.p .k (.p .k (.p .k (.p .k (.p .k (.o 3 none .k))))))) (.p (.o 65 none (.p .k (.p .k (.o 3 none .k)))) (.p (.o 69 none .k) (.p (.o 3 none .k) (.p (.o 72 none .k) (.p (.o 75 none .k) .k)))))) kf)⟩
theorem Gq:yZ.ok:=lK Tryz.f34 [] trivial
noncomputable def Bh:CE:=⟨156,[.val],[.v gm .k,.v (.ptr (.int .i64)) .k],λN x kf=>rZ N x.1 x.2.1 (ek .bool .k kf)⟩
theorem Lq:Bh.ok:=lK Tryz.f156 [] trivial
noncomputable def iy:CE:=⟨155,[.val,.val],[.v (.sl gm) .k,.fn 156 [(.ptr (.int .i64))]],λN x kf=>dZ N x.1 x.2.1.1 (ek (.int .i64) .k kf)⟩
def fC:List Kd:=(dn 19 ([]))
def fD:List Kd:=(dn 4 (.v (.int .i64) .k::dn 14 ([])))
theorem pc:iy.ok:=oX Tryz.f155 [[Bh]] 2 (.v (.sl gm) .k::.vY 156 [.kv (.ptr (.int .i64))]::dn 5 (.v (.int .i64) .k::.v (.int .i64) .k::dn 10 ([]))) (λN n x K=>aS N x.1 x.2.1.1 x.2.2.1 n (K (.x 0) (shape fC ())) (λz0=>K .r (shape fD (z0,()))) x.2.2.2.1) [(2,2,fC),(2,1,fD)] ⟨Lq,trivial⟩
noncomputable def ep:CE:=⟨98,[.val,.val],[.v (.sl gm) .k,.v (.int .i64) .k],λN x kf=>bL N x.1 x.2.1 (ek (.int .i64) .k kf)⟩
theorem gh:ep.ok:=lK Tryz.f98 [[iy]] ⟨pc,trivial⟩
noncomputable def jt:CE:=⟨99,[.val],[.v fg .k],λN x kf=>dL N x.1 (ek .bool .k kf)⟩
theorem lM:jt.ok:=lK Tryz.f99 [] trivial
def ajT:Go.Shelf.Ren:=⟨λn=>bif Nat.beq n 22 then 100 else bif Nat.beq n 29 then 157 else bif Nat.beq n 30 then 158 else n,λn=>bif Nat.beq n 0 then 0 else bif Nat.beq n 3 then 3 else bif Nat.beq n 4 then 4 else bif Nat.beq n 9 then 60 else bif Nat.beq n 24 then 24 else n,λn=>n⟩
def alW:Array Value:=#[.int .i64 0,.int .i64 0,.int .i64 0,.int .i64 0,.int .i64 0,.slice none 0 0]
noncomputable def alX:TypeInfo:=(Tryz.prog.info? 60).get (by kernel_rfl)
theorem ajU:V0 Tryz.prog ajT (Ty.size gm) alW alX:={ FB:=⟨Tryz.f100.name,by kernel_rfl,by kernel_rfl⟩,FO:=⟨Tryz.f157,by kernel_rfl,by kernel_rfl,by kernel_rfl,by kernel_rfl,by kernel_rfl⟩,mixed:=by kernel_rfl,t0:=by kernel_rfl,a0:=λw=>by kernel_rfl,z0:=λw=>by kernel_rfl,v0:=λw=>by kernel_rfl,t3:=by kernel_rfl,a3:=λw=>by kernel_rfl,z3:=λw=>by kernel_rfl,v3:=λw=>by kernel_rfl,t4:=by kernel_rfl,a4:=λw=>by kernel_rfl,z4:=λw=>by kernel_rfl,v4:=λw=>by kernel_rfl,t24:=by kernel_rfl,a24:=λw=>by kernel_rfl,z24:=λw=>by kernel_rfl,v24:=λw=>by kernel_rfl,z9:=λw=>by kernel_rfl,hz:=by kernel_rfl,hzo:=by kernel_rfl,WG:=by kernel_rfl,hz0:=by kernel_rfl,Wt:=by kernel_rfl,hby:=Nat.le_of_ble_eq_true (by kernel_rfl),Qk:=Nat.le_of_ble_eq_true (by kernel_rfl) }
def XJ:List AK:=[.v (.sl gm) (.o 60 none (.p .k (.p .k (.p .k (.p .k (.p .k (.o 3 none .k))))))),.v (.int .i64) .k,.v (.sl gm) (.o 60 none (.p .k (.p .k (.p .k (.p .k (.p .k (.o 3 none .k)))))))]
noncomputable def ajV (N:Nat) (x:cG XJ) (kf:aa->Option aa):Option aa:=akY N x.1 x.2.1 x.2.2.1 (λr0=>kf ⟨[⟨(.sl gm),(.o 60 none (.p .k (.p .k (.p .k (.p .k (.p .k (.o 3 none .k))))))),r0⟩],[]⟩)
noncomputable def ajW (N:Nat):=aV XJ (ajV N)
theorem alY {Γ:Gl} (xa:ot Γ) (N:Nat):Sound Γ Tryz.prog 100 (ajW N):=Nr ajU (.p .k (.p .k (.p .k (.p .k (.p .k (.o 3 none .k)))))) (by kernel_rfl)
noncomputable def aeD:CE:=⟨100,[.take,.val,.take],XJ,ajV⟩
theorem alZ:aeD.ok:=λh N=>alY h N
noncomputable def Ef:CE:=⟨207,[.val],[.v (.sl QS) .k],λN x kf=>CQ N x.1 (ek (.int .i64) .k kf)⟩
theorem Pr:Ef.ok:=lK Tryz.f207 [] trivial
noncomputable def Qf:CE:=⟨283,[.val,.val],[.v (.int .i64) .k,.v (.int .i64) .k],λN x kf=>Mz N x.1 x.2.1 (ek (.int .i64) .k kf)⟩
theorem aaR:Qf.ok:=lK Tryz.f283 [[cA]] ⟨cY,trivial⟩
noncomputable def NJ:CE:=⟨274,[.val,.val],[.v (.int .i64) .k,.v (.int .i64) .k],λN x kf=>Iy N x.1 x.2.1 (ek (.int .i64) .k kf)⟩
theorem XK:NJ.ok:=lK Tryz.f274 [[Qf]] ⟨aaR,trivial⟩
noncomputable def NK:CE:=⟨247,[.val],[.v (.sl (.int .i64)) .k],λN x kf=>Iz N x.1 (ek (.int .i64) .k kf)⟩
def Cq:List Kd:=(dn 3 (.v (.int .i64) .k::dn 13 ([])))
theorem XL:NK.ok:=oX Tryz.f247 [[NJ]] 3 (dn 3 (.v (.int .i64) .k::dK::dK::.v (.sl (.int .i64)) .k::.v (.int .i64) .k::.v (.int .i64) .k::dn 8 ([]))) (λN n x K=>nK N x.2.1 x.2.2.1 n (λz0=>K (.x 0) (shape Cq (z0,()))) x.1 x.2.2.2.1) [(3,2,Cq)] ⟨XK,trivial⟩
noncomputable def xw:CE:=⟨206,[.val,.val],[.v (.int .i64) .k,.v QS .k],λN x kf=>l4 N x.1 x.2.1 (ek (.int .i64) .k kf)⟩
theorem Eg:xw.ok:=lK Tryz.f206 [[NK]] ⟨XL,trivial⟩
noncomputable def nX:CE:=⟨165,[.val],[.v (.sl QS) .k],λN x kf=>k8 N x.1 (ek .bool .k kf)⟩
def tC:List Kd:=(dn 44 ([]))
def tD:List Kd:=(dK::dK::.v .bool .k::dn 41 ([]))
theorem sV:nX.ok:=oX Tryz.f165 [[cA],[xw]] 5 (dn 3 (.v (.int .i64) .k::dn 5 (.v (.sl QS) .k::.v (.int .i64) .k::.v (.int .i64) .k::dn 32 ([])))) (λN n x K=>fO N x.2.1 x.2.2.1 n (K (.x 0) (shape tC ())) (λz0=>K .r (shape tD (z0,()))) x.1 x.2.2.2.1) [(5,2,tC),(5,1,tD)] ⟨cY,Eg,trivial⟩ (bw:=[(7,(OT.seq [0,1,2,3,4,5,6,7,8,9,10,11,12,13,14,15,16,17,18,19,20,21,22,23,24] .done))])
noncomputable def Cr:CE:=⟨159,[.val,.val,.val],[.v (.sl QS) .k,.v (.int .i64) .k,.v (.int .i64) .k],λN x kf=>uw N x.1 x.2.1 x.2.2.1 (Pd (.sl QS) (.o 75 none .k) .bool .k kf)⟩
theorem NL:Cr.ok:=lK Tryz.f159 [[Ef],[xw],[ac'],[nX]] ⟨Pr,Eg,ajI,sV,trivial⟩ (bw:=[(2,(OT.seq [0,2,1,3,4,5] .done)),(3,(OT.seq [0,2] (.any [1,3] (OT.seq [4,5] .done))))])
end Go.Pv.R
