/- Functions of the library (Itoa): what is told of them holds. -/
import Derived.Test.YtdacecahpdgooaaGreatDoorStr
import Derived.Shelf.Strconv.Itoa3
namespace Go.Pv
open Go.Shelf Go.RowKit Go.Proofs
set_option linter.unusedVariables false
set_option linter.unusedSimpArgs false
variable {Γ:Gl} {P:Program} {ρ:Ren}
def Lr (P : Program) (Γ : Gl) : Prop := ∀ w : World, (∀ g o, Γ g = some o → w.heap[g]? = some o) → Lib.TabIs P w "internal/strconv.uint64pow10" .u64 Lib.pow10Tab
theorem PR {W : World} {G : Nat} (hg : P.globalNamed "internal/strconv.uint64pow10" = some G) (h : Lib.TabIs P W "internal/strconv.uint64pow10" .u64 Lib.pow10Tab) : Lr P (fun g => if g = G then W.heap[g]? else none) := by
 intro w hw
 unfold Lib.TabIs World.var? at h ⊢
 rw[hg] at h ⊢
 simp only[Option.bind_some] at h ⊢
 cases ho:W.heap[G]? with
 |none=>rw[ho] at h;cases h
 |some o=>
  rw[ho] at h
  rw[hw G o (by show(if G=G then W.heap[G]? else none)=_;rw[if_pos rfl];exact ho)]
  exact h
theorem Ls (L:LaysM.n171 P ρ) (bh:Lr P Γ):Sound Γ P (ρ.f 171) (aI [.v (.int .i64) .k] fun x kf=>bif decide ((-9223372036854775808:Int)≤x.1)&&decide (x.1≤(9223372036854775807:Int)) then kf ⟨[⟨.str,.k,dd x.1⟩],[]⟩ else none):=by
 refine⟨?_,fun al=> ?_⟩
 rotate_left
 ·unfold aI
  split
  ·exact dc.bif _ (dc.pure _) dc.none
  ·exact dc.none
 intro args kf ret w σ cy H B hr jc
 unfold aI at hr
 split at hr
 case h_2=>cases hr
 rename_i x hx
 have:=nB _ args hx
 subst this
 rcases x with⟨(n:Int),u⟩
 simp only[aB] at jc hr
 cases hc:(decide ((-9223372036854775808:Int)≤n)&&decide (n≤(9223372036854775807:Int))) with
 |false=>rw[hc] at hr;cases hr
 |true=>
 rw[hc] at hr
 simp only[cond_true] at hr
 simp only[Bool.and_eq_true,decide_eq_true_eq] at hc
 obtain rfl:=XI jc.len (Ng jc rfl)
 have ajP:=bh w fun g o hg=>(jc.env g o hg).2
 refine .inl ⟨enters_of L.f171 (by kernel_rfl) rfl _ w,(Any.strconv_Itoa L n hc.1 hc.2 w ajP).mono fun en w' he=> ?_⟩
 obtain⟨rfl,k,os,rfl⟩:=he
 refine⟨_,hr,vC (vs:=[_]) ?_ rfl fun i b hi=> ?_⟩
 ·exact⟨rfl,rfl,rfl,by rw[Sort.size_grow];rw[World.heap_drewN];omega,fun g hg=>Sort.heap_grow_old _ _ hg⟩
 cases i with
 |succ i=>simp at hi
 |zero=>
  simp only[List.getElem?_cons_zero,Option.some.injEq] at hi
  subst hi
  exact⟨_,rfl,by simp[an,isAgg],rfl,fun A=>by simp[K,dd]⟩
end Go.Pv
