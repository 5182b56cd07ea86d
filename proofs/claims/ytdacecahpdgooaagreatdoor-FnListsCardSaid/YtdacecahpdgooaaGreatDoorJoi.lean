/- Functions of the library (Joi): what is told of them holds. -/
import Derived.Test.YtdacecahpdgooaaGreatDoorItoa
import Derived.Shelf.Strings.OnBuilder
namespace Go.Pv
open Go.Shelf Go.RowKit Go.Proofs
set_option linter.unusedVariables false
set_option linter.unusedSimpArgs false
variable {Γ:Gl} {P:Program} {ρ:Ren}
theorem Lt (L:Lays.n156 P ρ) (X:Builder.Extra P ρ):Sound Γ P (ρ.f 156) (aI [.v (.sl .str) .k,.v .str .k] fun x kf=>bif Nat.ble (List.length x.1) 140737488355328&&Nat.ble (ByteArray.size (jU x.1 x.2.1)) 140737488355328 then kf ⟨[⟨.str,.k,jU x.1 x.2.1⟩],[]⟩ else none):=by
 refine⟨?_,fun al=> ?_⟩
 rotate_left
 ·unfold aI
  split
  ·exact dc.bif _ (dc.pure _) dc.none
  ·exact dc.none
 intro args kf ret w σ cy H B hr jc
 unfold aI at hr
 split at hr
 case h_2=>cases hr
 rename_i x hx
 have:=nB _ args hx
 subst this
 rcases x with⟨(xs:List ByteArray),(sep:ByteArray),u⟩
 simp only[aB] at jc hr
 cases hc:(Nat.ble (List.length xs) 140737488355328&&Nat.ble (ByteArray.size (jU xs sep)) 140737488355328) with
 |false=>rw[hc] at hr;cases hr
 |true=>
 rw[hc] at hr
 simp only[cond_true] at hr
 rw[Bool.and_eq_true,Nat.ble_eq,Nat.ble_eq] at hc
 obtain⟨hN,hlen⟩:=hc
 have hlen:(Lib.join (xs.map (·.data.toList)) sep.data.toList).length≤140737488355328:=by
  have:(jU xs sep).size=(Lib.join (xs.map (·.data.toList)) sep.data.toList).length:=by unfold jU;rw[Lib.size_eq]
  omega
 obtain⟨v,hv,cs,h1,h2⟩:=jc.ok 0 _ rfl
 have h2:=eU _ rfl h2
 obtain⟨A,c,hve,rfl,l9⟩:=lO h1 h2
 obtain rfl:=HS jc.len hv (arg_str jc rfl)
 subst hve
 simp only[K] at h2
 obtain⟨A',c',e1,WW,BG⟩:=h2
 simp only[List.cons.injEq,Value.slice.injEq,and_true] at e1
 obtain⟨rfl,_,rfl⟩:=e1
 have fin:∀ {Q:Calls P (ρ.f 156) #[.slice A (List.length xs) c,.string sep] w fun e w'=>e=.returned (.string (jU xs sep))∧Below w.heap.size w w'},GW P (ρ.f 156) [.slice A (List.length xs) c,.string sep] w fun v w'=>∃ rt,kf rt=some ret∧Out B H w w' σ rt v:=fun {Q}=>by
  refine .inl ⟨enters_of L.f156 (by kernel_rfl) rfl _ w,Q.mono fun en w' he=> ?_⟩
  obtain⟨rfl,hb⟩:=he
  refine⟨_,hr,vC (vs:=[_]) hb rfl fun i b hi=> ?_⟩
  cases i with
  |succ i=>simp at hi
  |zero=>
   simp only[List.getElem?_cons_zero,Option.some.injEq] at hi
   subst hi
   exact⟨_,rfl,by simp[an,isAgg],rfl,fun A=>by simp[K]⟩
 by_cases h0:0<List.length xs
 ·obtain⟨g,off,cur,T,fr,rfl,_,hw,_,hj⟩:=BG h0
  refine fin (Q:=Any.strings_Join L X g off c xs sep w (fun j x hx=> ?_) (bO hw) hN WW hlen)
  have pg:=(List.getElem?_eq_some_iff.1 hx).1
  have hn:xs[j]=x:=(List.getElem?_eq_some_iff.1 hx).2
  have h3:=hj j pg
  simp only[K,Ty.size,Nat.mul_one] at h3
  rw[hn] at h3
  have h4:(cur.toList.drop (off+j)).head? =some (.string x):=by
   cases hd:cur.toList.drop (off+j) with
   |nil=>rw[hd] at h3;simp at h3
   |cons y r=>rw[hd] at h3;simp at h3;simp[h3]
  rw[List.head?_drop] at h4
  simp only[World.cell?,hw]
  rw[←Array.getElem?_toList,h4]
  rfl
 ·have:xs=[]:=List.eq_nil_of_length_eq_zero (by omega)
  subst this
  exact fin (Q:=(Any.strings_Join_none L X A c sep w).mono fun e w' ⟨he,hw⟩=>⟨he,hw▸Below.refl _ _⟩)
end Go.Pv
