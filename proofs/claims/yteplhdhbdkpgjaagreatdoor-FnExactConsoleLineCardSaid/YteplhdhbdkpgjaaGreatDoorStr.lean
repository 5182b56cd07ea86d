/- Functions of the library (Str): what is told of them holds. -/
import Derived.Test.YteplhdhbdkpgjaaGreatDoorPv5
import Derived.Shelf.Lays
import Derived.Below
import Derived.Shelf.Small.Strs
set_option linter.unusedSimpArgs false
set_option linter.unusedVariables false
namespace Go.Pv
open List Int IntKind
abbrev pj:= @Go.Proofs.enters_of
open Go.Shelf Go.RowKit Go.Proofs
variable {Γ:Gl} {B:Nat->Prop} {P:Program} {ρ:Ren} {w w':World} {H:Nat->Value} {σ:Nat->Option Nat}
theorem arg_str {args:List Arg} {fC:List Value} {j:Nat} {m:Md} {s:ByteArray} (mI:In Γ B H w σ args fC) (hj:args[j]?=some (.tv ⟨.str,m,s⟩)):fC[j]?=some (.string s):=by obtain⟨v,hv,cs,h1,h2⟩:=mI.ok j _ hj;simp only[M] at h2;rw[hv,qO h1 h2.2]
theorem aoi {args:List Arg} {fC:List Value} {j:Nat} {m:Md} {k:IntKind} {n:Int} (mI:In Γ B H w σ args fC) (hj:args[j]?=some (.tv ⟨.int k,m,n⟩)):fC[j]?=some (.int k n):=by obtain⟨v,hv,cs,h1,h2⟩:=mI.ok j _ hj;simp only[M] at h2;rw[hv,kZ h1 h2.2]
theorem ade {fC:List Value} {u v:Value} (hl:fC.length=2) (h0:fC[0]?=some u) (h1:fC[1]?=some v):fC=[u,v]:=by
 match fC,hl with
 |[a,b],_=>simp at h0 h1;rw[h0,h1]
theorem awi {fC:List Value} {u:Value} (hl:fC.length=1) (h0:fC[0]?=some u):fC=[u]:=by
 match fC,hl with
 |[a],_=>simp at h0;rw[h0]
theorem Yo {res:List TV} {vs:List Value} (hb:Below w.heap.size w w') (hl:vs.length=res.length) (h:∀ (i:Nat) (b:TV),res[i]?=some b->∃ u,vs[i]?=some u/\a7 b.t u [u]/\b.m=.k/\∀ A,K w' A b.t b.x [u]):Out B H w w' σ ⟨res,[]⟩ (ant vs):=by refine⟨⟨hb.os,hb.tape,hb.output,hb.size,λg hg _=>hb.block g hg⟩,λ_=>none,vs,rfl,hl,λg i hg=>(by cases hg),λi b hi=>?_,λc hc=>(by cases hc)⟩;obtain⟨u,h1,h2,h3,h4⟩:=h i b hi;refine⟨u,[u],h1,h2,?_⟩;rw[h3];exact ua _ (h4 _)
theorem aka (L:Lays.n137 P ρ):Sound Γ P (ρ.f 137) (cX [.v .str .k,.v (.int .u8) .k] λx kf=>kf ⟨[⟨.int .i64,.k,LH x.1 x.2.1⟩],[]⟩):=by
 refine⟨?_,λal=>?_⟩
 rotate_left
 ·unfold cX
  split
  ·exact jk.pure _
  ·exact jk.none
 intro args kf ret w σ fC H B hr mI
 unfold cX at hr
 split at hr
 case h_2=>cases hr
 rename_i x hx
 have:=uM _ args hx
 subst this
 rcases x with⟨(s:ByteArray),(c:Int),u⟩
 simp only[iS] at mI hr
 obtain rfl:=ade mI.len (arg_str mI rfl) (aoi mI rfl)
 refine .inl ⟨pj L.f137 (by kernel_rfl) rfl _ w,(Any.strings_IndexByte L s c w).mono λen w' he=>?_⟩
 obtain⟨rfl,rfl⟩:=he
 refine⟨_,hr,Yo (vs:=[_]) (Below.refl _ _) rfl λi b hi=>?_⟩
 cases i with
 |succ i=>simp at hi
 |zero=>
  simp only[aE,ah] at hi
  subst hi
  exact⟨_,rfl,by simp[a7,isAgg],rfl,λA=>by simp[K,LH]⟩
end Go.Pv
