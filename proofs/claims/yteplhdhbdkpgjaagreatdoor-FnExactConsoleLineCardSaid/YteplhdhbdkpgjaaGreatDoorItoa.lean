/- Functions of the library (Itoa): what is told of them holds. -/
import Derived.Test.YteplhdhbdkpgjaaGreatDoorStr
import Derived.Shelf.Strconv.Itoa3
set_option linter.unusedSimpArgs false
set_option linter.unusedVariables false
namespace Go.Pv
open List Int IntKind
open Go.Shelf Go.RowKit Go.Proofs
variable {Γ:Gl} {P:Program} {ρ:Ren}
def amF (P : Program) (Γ : Gl) : Prop := ∀ w : World, (∀ g o, Γ g = some o → w.heap[g]? = some o) → Lib.TabIs P w "internal/strconv.uint64pow10" .u64 Lib.pow10Tab
theorem apK {W : World} {G : Nat} (hg : P.globalNamed "internal/strconv.uint64pow10" = some G) (h : Lib.TabIs P W "internal/strconv.uint64pow10" .u64 Lib.pow10Tab) : amF P (fun g => if g = G then W.heap[g]? else none) := by
 intro w hw
 unfold Lib.TabIs World.var? at h ⊢
 rw[hg] at h ⊢
 simp only[aL] at h ⊢
 cases ho:W.heap[G]? with
 |none=>rw[ho] at h;cases h
 |some o=>
  rw[ho] at h
  rw[hw G o (by show(if G=G then W.heap[G]? else none)=_;rw[aA rfl];exact ho)]
  exact h
theorem amG (L:LaysM.n171 P ρ) (zU:amF P Γ):Sound Γ P (ρ.f 171) (cX [.v (.int .i64) .k] λx kf=>bif decide ((-9223372036854775808:Int)<=x.1)&&decide (x.1<=(9223372036854775807:Int)) then kf ⟨[⟨.str,.k,rp x.1⟩],[]⟩ else none):=by
 refine⟨?_,λal=>?_⟩
 rotate_left
 ·unfold cX
  split
  ·exact jk.bif _ (jk.pure _) jk.none
  ·exact jk.none
 intro args kf ret w σ fC H B hr mI
 unfold cX at hr
 split at hr
 case h_2=>cases hr
 rename_i x hx
 have:=uM _ args hx
 subst this
 rcases x with⟨(n:Int),u⟩
 simp only[iS] at mI hr
 cases hc:(decide ((-9223372036854775808:Int)<=n)&&decide (n<=(9223372036854775807:Int))) with
 |false=>rw[hc] at hr;cases hr
 |true=>
 rw[hc] at hr
 simp only[ab] at hr
 simp only[ai,ax] at hc
 obtain rfl:=awi mI.len (aoi mI rfl)
 have aEp:=zU w λg o hg=>(mI.env g o hg).2
 refine .inl ⟨pj L.f171 (by kernel_rfl) rfl _ w,(Any.strconv_Itoa L n hc.1 hc.2 w aEp).mono λen w' he=>?_⟩
 obtain⟨rfl,k,os,rfl⟩:=he
 refine⟨_,hr,Yo (vs:=[_]) ?_ rfl λi b hi=>?_⟩
 ·exact⟨rfl,rfl,rfl,by rw[Sort.size_grow];rw[World.heap_drewN];omega,λg hg=>Sort.heap_grow_old _ _ hg⟩
 cases i with
 |succ i=>simp at hi
 |zero=>
  simp only[aE,ah] at hi
  subst hi
  exact⟨_,rfl,by simp[a7,isAgg],rfl,λA=>by simp[K,rp]⟩
end Go.Pv
