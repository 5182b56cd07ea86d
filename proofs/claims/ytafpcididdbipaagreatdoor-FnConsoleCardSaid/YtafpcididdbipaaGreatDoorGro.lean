/- Functions of the library (Gro): what is told of them holds. -/
import Derived.Test.YtafpcididdbipaaGreatDoorIns
import Derived.Shelf.Spec.SlicesGrow
set_option linter.unusedSimpArgs false
set_option linter.unusedVariables false
namespace Go.Pv
open List Int IntKind
open Go.Shelf Go.Proofs
variable {P:Program} {w w':World} {A A':Nat->Prop} {H:Nat->Value} {ρ:Ren}
theorem ajC {Γ:Gl} {B:Nat->Prop} {t:Ty} {m:Md} {xs:List t.I} {n:Int} {σ:Nat->Option Nat} {bT:List Value} (gl:In Γ B H w σ [.tv ⟨.sl t,m,xs⟩,.tv ⟨.int .i64,.k,n⟩] bT):
  ∃ v,bT=[v,.int .i64 n]/\M w (Av σ B) H (.sl t) m xs [v] (λg=>σ g=some 0) []:=by
 obtain⟨v,hv,cs,h1,h2⟩:=gl.ok 0 _ rfl
 obtain⟨u,hu,fH,k1,k2⟩:=gl.ok 1 _ rfl
 have qk:cs=[v]:=by simpa[ah,isAgg] using h1
 subst qk
 have atI:fH=[u]:=by simpa[ah,isAgg] using k1
 subst atI
 simp only[M] at k2
 have Il:u=.int .i64 n:=e9 (cs:=[u]) (by simp[ah,isAgg]) k2.2
 subst Il
 refine⟨v,?_,h2⟩
 have hl:=gl.len
 match bT,hl,hv,hu with
 |[a,b],_,hv,hu=>
  simp only[List.getElem?_cons_zero,Option.some.injEq,List.getElem?_cons_succ] at hv hu
  rw[hv,hu]
theorem ac0 {Γ:Gl} (L:Lays8.n4 P ρ) {i0:TypeInfo} {z:Value} (WG:P.info? (ρ.t 25)=some i0) (hz0:i0.zero=some z) (hs0:i0.size=1) (hzc:z.cells.size=1) (hby:i0.bytes=8):
  Sound Γ P (ρ.f 4) (aV [.v (.sl (.int .i64)) (.o (ρ.t 25) none .k),.v (.int .i64) .k]
  λx kf=>bif List.isEmpty x.1&&(decide (0<=x.2.1)&&decide (x.2.1<=549755813888)) then kf ⟨[⟨.sl (.int .i64),.o (ρ.t 25) none .k,[]⟩],[]⟩ else none):=by
 refine⟨?_,λal=>?_⟩
 rotate_left
 ·unfold aV
  split
  ·exact dk.bif _ (dk.pure _) dk.none
  ·exact dk.none
 intro args kf ret w σ bT H B hr gl
 unfold aV at hr
 split at hr
 case h_2=>cases hr
 rename_i x hx
 have:=ly _ args hx
 subst this
 rcases x with⟨xs,(nn:Int),u⟩
 simp only[dF] at gl hr
 cases Ue:(List.isEmpty xs&&(decide (0<=nn)&&decide (nn<=549755813888))) with
 |false=>rw[Ue] at hr;cases hr
 |true=>
 rw[Ue] at hr
 simp only[cond_true] at hr
 simp only[Bool.and_eq_true,decide_eq_true_eq,List.isEmpty_iff] at Ue
 obtain⟨rfl,hn0,hn1⟩:=Ue
 obtain⟨n,rfl⟩:∃ n:Nat,nn=(n:Int):=⟨nn.toNat,by omega⟩
 obtain⟨v,rfl,hM⟩:=ajC gl
 have hmx:maxLen=9223372036854775807:=rfl
 obtain⟨X,c,rfl,nm⟩:∃ X c,v=.slice X 0 c/\((X=X/\c=0)∨∃ g cur,X=some ⟨g,0,none⟩/\σ g=some 0/\w.heap[g]?=some (.cells cur (ρ.t 25) (0,0))/\cur.size=c/\c<=maxLen):=by
  simp only[M] at hM
  rcases hM with⟨hn,_⟩ |⟨hk,_⟩ |⟨T,tag,me,X,c,e1,e2,hc,ht,hM⟩
  ·simp at hn
  ·simp[Md.b5] at hk
  ·injection e1 with e1 L8 Di
   subst e1 L8 Di
   injection e2 with e2 _
   refine⟨X,c,e2,?_⟩
   rcases hM with⟨_,h⟩ |⟨g,cur,τ,h1,h2,h3,h4,h5,h6⟩
   ·exact .inl ⟨rfl,h⟩
   ·exact .inr ⟨g,cur,h1,h2,h3,by rw[h4];simp[Ty.size],h5⟩
 have hen:(callFunc (ρ.f 4) [Value.slice X 0 c,.int .i64 n].toArray).run P w=.ok (.enter (ρ.f 4) [Value.slice X 0 c,.int .i64 n].toArray) w:=L.f4.enters rfl _ w
 by_cases FV:n<=c
 ·have Xz:c<=9223372036854775807:=by
   rcases nm with⟨_,h⟩ |⟨g,cur,_,_,_,_,h⟩
   ·omega
   ·omega
  refine .inl ⟨hen,(Any8.slices_Grow_room L X 0 c n w (Nat.zero_le _) Xz (by omega) (by omega)).mono λen w' he=>?_⟩
  obtain⟨rfl,rfl⟩:=he
  refine⟨_,hr,⟨rfl,rfl,rfl,Nat.le_refl _,λ_ _ _=>rfl⟩,λg=>if σ g=some 0 then some 0 else none,[.slice X 0 c],rfl,rfl,λg i hg=>?_,λi b hb=>?_,λc hc=>(by cases hc)⟩
  ·simp only at hg
   split at hg
   ·rename_i hx
    exact⟨.inr ⟨0,hx⟩,(gl.lt g 0 hx).2⟩
   ·cases hg
  ·cases i with
   |succ i=>simp at hb
   |zero=>
    simp only[List.getElem?_cons_zero,Option.some.injEq] at hb
    subst hb
    refine⟨_,[.slice X 0 c],rfl,by simp[ah,isAgg],?_⟩
    simp only[M]
    refine .inr (.inr ⟨ρ.t 25,none,.k,X,c,rfl,rfl,Nat.zero_le _,λh hh=>(by cases hh),?_⟩)
    rcases nm with⟨_,h⟩ |⟨g,cur,h1,h2,h3,h4,h5⟩
    ·exact .inl ⟨by simp,h⟩
    ·exact .inr ⟨g,cur,λj=>j,h1,by simp[h2],h3,by rw[h4];simp[Ty.size],h5,λj hj=>by simp at hj⟩
 ·have qk:∃ cs:List Value,cs.length=c*i0.size/\(X=none->c=0)/\∀ a,X=some a->∀ j v,cs[j]?=some v->w.cell? (a.add j)=some v:=by
   rcases nm with⟨_,rfl⟩ |⟨g,cur,rfl,h2,h3,h4,h5⟩
   ·exact⟨[],by simp,λ_=>rfl,λa _ j v h=>by simp at h⟩
   ·refine⟨cur.toList,by rw[hs0,Nat.mul_one];simpa using h4,λh=>(by cases h),λa ha j v hj=>?_⟩
    injection ha with ha
    subst ha
    rw[tV,Nat.zero_add]
    simp only[World.cell?,h3]
    rw[Array.getElem?_toList] at hj
    exact hj
  obtain⟨cs,rX,akE,WB⟩:=qk
  refine .inl ⟨hen,(Any8.slices_Grow_grow L i0 z WG hz0 (by omega) X 0 c n cs w (Nat.zero_le _) (by omega) (by rw[hby];omega) (by omega) rX akE WB).mono λen w' he=>?_⟩
  obtain⟨rfl,rfl⟩:=he
  have hGn:=grownCap_ge w (0+n) c (ρ.t 25)
  have hGm:=grownCap_le_maxLen w (0+n) c (ρ.t 25) (by omega)
  obtain⟨G,hG⟩:∃ G,G=grownCap w (0+n) c (ρ.t 25):=⟨_,rfl⟩
  rw[←hG] at hGn hGm ⊢
  have aeU:(w.drew.alloc (.cells (cs.toArray++Builtin.zeroCells z.cells (0+n - c)++Builtin.zeroCells z.cells (G - (0+n))) (ρ.t 25))).heap[w.heap.size]?=some (.cells (cs.toArray++Builtin.zeroCells z.cells (0+n - c)++Builtin.zeroCells z.cells (G - (0+n))) (ρ.t 25) (0,0)):=heap_alloc_new w.drew _
  refine⟨_,hr,⟨rfl,rfl,rfl,Nat.le_of_lt (bh aeU),λg hg _=>heap_alloc_old w.drew _ hg⟩,λg=>if g=w.heap.size then some 0 else none,[.slice (some ⟨w.heap.size,0,none⟩) 0 G],rfl,rfl,λg i hg=>?_,λi b hb=>?_,λc hc=>(by cases hc)⟩
  ·simp only at hg
   split at hg
   ·rename_i hx
    rw[hx]
    exact⟨.inl (Nat.le_refl _),bh aeU⟩
   ·cases hg
  ·cases i with
   |succ i=>simp at hb
   |zero=>
    simp only[List.getElem?_cons_zero,Option.some.injEq] at hb
    subst hb
    refine⟨_,[.slice (some ⟨w.heap.size,0,none⟩) 0 G],rfl,by simp[ah,isAgg],?_⟩
    simp only[M]
    refine .inr (.inr ⟨ρ.t 25,none,.k,some ⟨w.heap.size,0,none⟩,G,rfl,rfl,Nat.zero_le _,λh hh=>(by cases hh),.inr ⟨w.heap.size,_,λj=>j,rfl,by simp,aeU,?_,hGm,λj hj=>by simp at hj⟩⟩)
    have:cs.length=c:=by rw[rX,hs0,Nat.mul_one]
    simp only[Array.size_append,List.size_toArray,size_zeroCells,hzc,Ty.size]
    omega
end Go.Pv
