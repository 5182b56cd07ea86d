/- Functions of the library (Joi): what is told of them holds. -/
import Derived.Test.YtafpcididdbipaaGreatDoorSpl
import Derived.Shelf.Strings.OnBuilder
set_option linter.unusedSimpArgs false
set_option linter.unusedVariables false
namespace Go.Pv
open List Int IntKind
open Go.Shelf Go.RowKit Go.Proofs
variable {Γ:Gl} {P:Program} {ρ:Ren}
theorem acS (L:Lays.n156 P ρ) (X:Builder.Extra P ρ):Sound Γ P (ρ.f 156) (aV [.v (.sl .str) .k,.v .str .k] λx kf=>bif Nat.ble (length x.1) 140737488355328&&Nat.ble (ByteArray.size (BQ x.1 x.2.1)) 140737488355328 then kf ⟨[⟨.str,.k,BQ x.1 x.2.1⟩],[]⟩ else none):=by
 refine⟨?_,λal=>?_⟩
 rotate_left
 ·unfold aV
  split
  ·exact dk.bif _ (dk.pure _) dk.none
  ·exact dk.none
 intro args kf ret w σ bT H B hr gl
 unfold aV at hr
 split at hr
 case h_2=>cases hr
 rename_i x hx
 have:=ly _ args hx
 subst this
 rcases x with⟨(xs:List ByteArray),(sep:ByteArray),u⟩
 simp only[dF] at gl hr
 cases hc:(Nat.ble (length xs) 140737488355328&&Nat.ble (ByteArray.size (BQ xs sep)) 140737488355328) with
 |false=>rw[hc] at hr;cases hr
 |true=>
 rw[hc] at hr
 simp only[cond_true] at hr
 rw[Bool.and_eq_true,Nat.ble_eq,Nat.ble_eq] at hc
 obtain⟨hN,hlen⟩:=hc
 have hlen:(Lib.join (xs.map (·.data.toList)) sep.data.toList).length<=140737488355328:=by
  have:(BQ xs sep).size=(Lib.join (xs.map (·.data.toList)) sep.data.toList).length:=by unfold BQ;rw[Lib.size_eq]
  omega
 obtain⟨v,hv,cs,h1,h2⟩:=gl.ok 0 _ rfl
 have h2:=nj _ rfl h2
 obtain⟨A,c,hve,rfl,rX⟩:=Au h1 h2
 obtain rfl:=Np gl.len hv (arg_str gl rfl)
 subst hve
 simp only[K] at h2
 obtain⟨A',c',e1,afl,I1⟩:=h2
 simp only[List.cons.injEq,Value.slice.injEq,and_true] at e1
 obtain⟨rfl,_,rfl⟩:=e1
 have fin:∀ {Q:Calls P (ρ.f 156) #[.slice A (length xs) c,.string sep] w λe w'=>e=.returned (.string (BQ xs sep))/\Below w.heap.size w w'},YP P (ρ.f 156) [.slice A (length xs) c,.string sep] w λv w'=>∃ rt,kf rt=some ret/\Out B H w w' σ rt v:=λ{Q}=>by
  refine .inl ⟨enters_of L.f156 (by kernel_rfl) rfl _ w,Q.mono λen w' he=>?_⟩
  obtain⟨rfl,hb⟩:=he
  refine⟨_,hr,IX (vs:=[_]) hb rfl λi b hi=>?_⟩
  cases i with
  |succ i=>simp at hi
  |zero=>
   simp only[List.getElem?_cons_zero,Option.some.injEq] at hi
   subst hi
   exact⟨_,rfl,by simp[ah,isAgg],rfl,λA=>by simp[K]⟩
 by_cases h0:0<length xs
 ·obtain⟨g,off,cur,T,fr,rfl,_,hw,_,hj⟩:=I1 h0
  refine fin (Q:=Any.strings_Join L X g off c xs sep w (λj x hx=>?_) (bh hw) hN afl hlen)
  have FU:=(List.getElem?_eq_some_iff.1 hx).1
  have hn:xs[j]=x:=(List.getElem?_eq_some_iff.1 hx).2
  have h3:=hj j FU
  simp only[K,Ty.size,Nat.mul_one] at h3
  rw[hn] at h3
  have h4:(cur.toList.drop (off+j)).head?=some (.string x):=by
   cases hd:cur.toList.drop (off+j) with
   |nil=>rw[hd] at h3;simp at h3
   |cons y r=>rw[hd] at h3;simp at h3;simp[h3]
  rw[List.head?_drop] at h4
  simp only[World.cell?,hw]
  rw[←Array.getElem?_toList,h4]
  rfl
 ·have:xs=[]:=List.eq_nil_of_length_eq_zero (by omega)
  subst this
  exact fin (Q:=(Any.strings_Join_none L X A c sep w).mono λe w' ⟨he,hw⟩=>⟨he,hw▸Below.refl _ _⟩)
end Go.Pv
