/- Functions of the library (Joi): what is told of them holds. -/
import Derived.Test.YteplhdhbdkpgjaaGreatDoorSpl
import Derived.Shelf.Strings.OnBuilder
set_option linter.unusedSimpArgs false
set_option linter.unusedVariables false
namespace Go.Pv
open List Int IntKind
open Go.Shelf Go.RowKit Go.Proofs
variable {Γ:Gl} {P:Program} {ρ:Ren}
theorem amH (L:Lays.n156 P ρ) (X:Builder.Extra P ρ):Sound Γ P (ρ.f 156) (cX [.v (.sl .str) .k,.v .str .k] λx kf=>bif Nat.ble (length x.1) 140737488355328&&Nat.ble (ByteArray.size (Kc x.1 x.2.1)) 140737488355328 then kf ⟨[⟨.str,.k,Kc x.1 x.2.1⟩],[]⟩ else none):=by
 refine⟨?_,λal=>?_⟩
 rotate_left
 ·unfold cX
  split
  ·exact jk.bif _ (jk.pure _) jk.none
  ·exact jk.none
 intro args kf ret w σ fC H B hr mI
 unfold cX at hr
 split at hr
 case h_2=>cases hr
 rename_i x hx
 have:=uM _ args hx
 subst this
 rcases x with⟨(xs:List ByteArray),(sep:ByteArray),u⟩
 simp only[iS] at mI hr
 cases hc:(Nat.ble (length xs) 140737488355328&&Nat.ble (ByteArray.size (Kc xs sep)) 140737488355328) with
 |false=>rw[hc] at hr;cases hr
 |true=>
 rw[hc] at hr
 simp only[ab] at hr
 rw[ai,qQ,qQ] at hc
 obtain⟨hN,hlen⟩:=hc
 have hlen:(Lib.join (xs.map (·.data.toList)) sep.data.toList).length<=140737488355328:=by
  have:(Kc xs sep).size=(Lib.join (xs.map (·.data.toList)) sep.data.toList).length:=by unfold Kc;rw[Lib.size_eq]
  omega
 obtain⟨v,hv,cs,h1,h2⟩:=mI.ok 0 _ rfl
 have h2:=tJ _ rfl h2
 obtain⟨A,c,hve,rfl,C1⟩:=Ix h1 h2
 obtain rfl:=ade mI.len hv (arg_str mI rfl)
 subst hve
 simp only[K] at h2
 obtain⟨A',c',e1,apa,Qh⟩:=h2
 simp only[eB,fx,iO] at e1
 obtain⟨rfl,_,rfl⟩:=e1
 have fin:∀ {Q:Calls P (ρ.f 156) #[.slice A (length xs) c,.string sep] w λe w'=>e=.returned (.string (Kc xs sep))/\Below w.heap.size w w'},air P (ρ.f 156) [.slice A (length xs) c,.string sep] w λv w'=>∃ rt,kf rt=some ret/\Out B H w w' σ rt v:=λ{Q}=>by
  refine .inl ⟨pj L.f156 (by kernel_rfl) rfl _ w,Q.mono λen w' he=>?_⟩
  obtain⟨rfl,hb⟩:=he
  refine⟨_,hr,Yo (vs:=[_]) hb rfl λi b hi=>?_⟩
  cases i with
  |succ i=>simp at hi
  |zero=>
   simp only[aE,ah] at hi
   subst hi
   exact⟨_,rfl,by simp[a7,isAgg],rfl,λA=>by simp[K]⟩
 by_cases h0:0<length xs
 ·obtain⟨g,off,cur,T,fr,rfl,_,hw,_,hj⟩:=Qh h0
  refine fin (Q:=Any.strings_Join L X g off c xs sep w (λj x hx=>?_) (dz hw) hN apa hlen)
  have Np:=(bO.1 hx).1
  have hn:xs[j]=x:=(bO.1 hx).2
  have h3:=hj j Np
  simp only[K,Ty.size,nm] at h3
  rw[hn] at h3
  have h4:(cur.toList.drop (off+j)).head?=some (.string x):=by
   cases hd:cur.toList.drop (off+j) with
   |nil=>rw[hd] at h3;simp at h3
   |cons y r=>rw[hd] at h3;simp at h3;simp[h3]
  rw[xF] at h4
  simp only[World.cell?,hw]
  rw[←bK,h4]
  rfl
 ·have:xs=[]:=ek (by omega)
  subst this
  exact fin (Q:=(Any.strings_Join_none L X A c sep w).mono λe w' ⟨he,hw⟩=>⟨he,hw▸Below.refl _ _⟩)
end Go.Pv
