/- Functions of the library (Gro): what is told of them holds. -/
import Derived.Test.YteplhdhbdkpgjaaGreatDoorIns
import Derived.Shelf.Spec.SlicesGrow
set_option linter.unusedSimpArgs false
set_option linter.unusedVariables false
namespace Go.Pv
open List Int IntKind
open Go.Shelf Go.Proofs
variable {P:Program} {w w':World} {A A':Nat->Prop} {H:Nat->Value} {ρ:Ren}
theorem at0 {Γ:Gl} {B:Nat->Prop} {t:Ty} {m:Md} {xs:List t.I} {n:Int} {σ:Nat->Option Nat} {fC:List Value} (mI:In Γ B H w σ [.tv ⟨.sl t,m,xs⟩,.tv ⟨.int .i64,.k,n⟩] fC):
  ∃ v,fC=[v,.int .i64 n]/\M w (Av σ B) H (.sl t) m xs [v] (λg=>σ g=some 0) []:=by
 obtain⟨v,hv,cs,h1,h2⟩:=mI.ok 0 _ rfl
 obtain⟨u,hu,kY,k1,k2⟩:=mI.ok 1 _ rfl
 have wS:cs=[v]:=by simpa[a7,isAgg] using h1
 subst wS
 have aEy:kY=[u]:=by simpa[a7,isAgg] using k1
 subst aEy
 simp only[M] at k2
 have PO:u=.int .i64 n:=kZ (cs:=[u]) (by simp[a7,isAgg]) k2.2
 subst PO
 refine⟨v,?_,h2⟩
 have hl:=mI.len
 match fC,hl,hv,hu with
 |[a,b],_,hv,hu=>
  simp only[aE,ah,eY] at hv hu
  rw[hv,hu]
theorem amP {Γ:Gl} (L:Lays8.n4 P ρ) {i0:TypeInfo} {z:Value} (hi0:P.info? (ρ.t 25)=some i0) (hz0:i0.zero=some z) (hs0:i0.size=1) (hzc:z.cells.size=1) (hby:i0.bytes=8):
  Sound Γ P (ρ.f 4) (cX [.v (.sl (.int .i64)) (.o (ρ.t 25) none .k),.v (.int .i64) .k]
  λx kf=>bif List.isEmpty x.1&&(decide (0<=x.2.1)&&decide (x.2.1<=549755813888)) then kf ⟨[⟨.sl (.int .i64),.o (ρ.t 25) none .k,[]⟩],[]⟩ else none):=by
 refine⟨?_,λal=>?_⟩
 rotate_left
 ·unfold cX
  split
  ·exact jk.bif _ (jk.pure _) jk.none
  ·exact jk.none
 intro args kf ret w σ fC H B hr mI
 unfold cX at hr
 split at hr
 case h_2=>cases hr
 rename_i x hx
 have:=uM _ args hx
 subst this
 rcases x with⟨xs,(nn:Int),u⟩
 simp only[iS] at mI hr
 cases hc0:(List.isEmpty xs&&(decide (0<=nn)&&decide (nn<=549755813888))) with
 |false=>rw[hc0] at hr;cases hr
 |true=>
 rw[hc0] at hr
 simp only[ab] at hr
 simp only[ai,ax,List.isEmpty_iff] at hc0
 obtain⟨rfl,hn0,hn1⟩:=hc0
 obtain⟨n,rfl⟩:∃ n:Nat,nn=(n:Int):=⟨nn.toNat,by omega⟩
 obtain⟨v,rfl,hM⟩:=at0 mI
 have hmx:maxLen=9223372036854775807:=rfl
 obtain⟨X,c,rfl,tL⟩:∃ X c,v=.slice X 0 c/\((X=X/\c=0)∨∃ g cur,X=some ⟨g,0,none⟩/\σ g=some 0/\w.heap[g]?=some (.cells cur (ρ.t 25) (0,0))/\cur.size=c/\c<=maxLen):=by
  simp only[M] at hM
  rcases hM with⟨hn,_⟩ |⟨hk,_⟩ |⟨T,tag,me,X,c,e1,e2,hc,ht,hM⟩
  ·simp at hn
  ·simp[Md.fu] at hk
  ·injection e1 with e1 Uf LB
   subst e1 Uf LB
   injection e2 with e2 _
   refine⟨X,c,e2,?_⟩
   rcases hM with⟨_,h⟩ |⟨g,cur,τ,h1,h2,h3,h4,h5,h6⟩
   ·exact .inl ⟨rfl,h⟩
   ·exact .inr ⟨g,cur,h1,h2,h3,by rw[h4];simp[Ty.size],h5⟩
 have hen:(callFunc (ρ.f 4) [Value.slice X 0 c,.int .i64 n].toArray).run P w=.ok (.enter (ρ.f 4) [Value.slice X 0 c,.int .i64 n].toArray) w:=L.f4.enters rfl _ w
 by_cases Oy:n<=c
 ·have ahl:c<=9223372036854775807:=by
   rcases tL with⟨_,h⟩ |⟨g,cur,_,_,_,_,h⟩
   ·omega
   ·omega
  refine .inl ⟨hen,(Any8.slices_Grow_room L X 0 c n w (fY _) ahl (by omega) (by omega)).mono λen w' he=>?_⟩
  obtain⟨rfl,rfl⟩:=he
  refine⟨_,hr,⟨rfl,rfl,rfl,aR _,λ_ _ _=>rfl⟩,λg=>if σ g=some 0 then some 0 else none,[.slice X 0 c],rfl,rfl,λg i hg=>?_,λi b hb=>?_,λc hc=>(by cases hc)⟩
  ·simp only at hg
   split at hg
   ·rename_i hx
    exact⟨.inr ⟨0,hx⟩,(mI.lt g 0 hx).2⟩
   ·cases hg
  ·cases i with
   |succ i=>simp at hb
   |zero=>
    simp only[aE,ah] at hb
    subst hb
    refine⟨_,[.slice X 0 c],rfl,by simp[a7,isAgg],?_⟩
    simp only[M]
    refine .inr (.inr ⟨ρ.t 25,none,.k,X,c,rfl,rfl,fY _,λh hh=>(by cases hh),?_⟩)
    rcases tL with⟨_,h⟩ |⟨g,cur,h1,h2,h3,h4,h5⟩
    ·exact .inl ⟨by simp,h⟩
    ·exact .inr ⟨g,cur,λj=>j,h1,by simp[h2],h3,by rw[h4];simp[Ty.size],h5,λj hj=>by simp at hj⟩
 ·have wS:∃ cs:List Value,cs.length=c*i0.size/\(X=none->c=0)/\∀ a,X=some a->∀ j v,cs[j]?=some v->w.cell? (a.add j)=some v:=by
   rcases tL with⟨_,rfl⟩ |⟨g,cur,rfl,h2,h3,h4,h5⟩
   ·exact⟨[],by simp,λ_=>rfl,λa _ j v h=>by simp at h⟩
   ·refine⟨cur.toList,by rw[hs0,nm];simpa using h4,λh=>(by cases h),λa ha j v hj=>?_⟩
    injection ha with ha
    subst ha
    rw[AT,aW]
    simp only[World.cell?,h3]
    rw[bK] at hj
    exact hj
  obtain⟨cs,C1,ak4,agf⟩:=wS
  refine .inl ⟨hen,(Any8.slices_Grow_grow L i0 z hi0 hz0 (by omega) X 0 c n cs w (fY _) (by omega) (by rw[hby];omega) (by omega) C1 ak4 agf).mono λen w' he=>?_⟩
  obtain⟨rfl,rfl⟩:=he
  have hGn:=vH w (0+n) c (ρ.t 25)
  have hGm:=og w (0+n) c (ρ.t 25) (by omega)
  obtain⟨G,hG⟩:∃ G,G=grownCap w (0+n) c (ρ.t 25):=⟨_,rfl⟩
  rw[←hG] at hGn hGm ⊢
  have aoJ:(w.drew.alloc (.cells (cs.toArray++Builtin.zeroCells z.cells (0+n - c)++Builtin.zeroCells z.cells (G - (0+n))) (ρ.t 25))).heap[w.heap.size]?=some (.cells (cs.toArray++Builtin.zeroCells z.cells (0+n - c)++Builtin.zeroCells z.cells (G - (0+n))) (ρ.t 25) (0,0)):=ia w.drew _
  refine⟨_,hr,⟨rfl,rfl,rfl,Nat.le_of_lt (dz aoJ),λg hg _=>heap_alloc_old w.drew _ hg⟩,λg=>if g=w.heap.size then some 0 else none,[.slice (some ⟨w.heap.size,0,none⟩) 0 G],rfl,rfl,λg i hg=>?_,λi b hb=>?_,λc hc=>(by cases hc)⟩
  ·simp only at hg
   split at hg
   ·rename_i hx
    rw[hx]
    exact⟨.inl (aR _),dz aoJ⟩
   ·cases hg
  ·cases i with
   |succ i=>simp at hb
   |zero=>
    simp only[aE,ah] at hb
    subst hb
    refine⟨_,[.slice (some ⟨w.heap.size,0,none⟩) 0 G],rfl,by simp[a7,isAgg],?_⟩
    simp only[M]
    refine .inr (.inr ⟨ρ.t 25,none,.k,some ⟨w.heap.size,0,none⟩,G,rfl,rfl,fY _,λh hh=>(by cases hh),.inr ⟨w.heap.size,_,λj=>j,rfl,by simp,aoJ,?_,hGm,λj hj=>by simp at hj⟩⟩)
    have:cs.length=c:=by rw[C1,hs0,nm]
    simp only[jq,cg,size_zeroCells,hzc,Ty.size]
    omega
end Go.Pv
