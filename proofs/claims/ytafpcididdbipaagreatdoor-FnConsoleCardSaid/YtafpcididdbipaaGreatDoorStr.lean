/- Functions of the library (Str): what is told of them holds. -/
import Derived.Test.YtafpcididdbipaaGreatDoorPv5
import Derived.Shelf.Lays
import Derived.Below
import Derived.Shelf.Small.Strs
set_option linter.unusedSimpArgs false
set_option linter.unusedVariables false
namespace Go.Pv
open List Int IntKind
open Go.Shelf Go.RowKit Go.Proofs
variable {Γ:Gl} {B:Nat->Prop} {P:Program} {ρ:Ren} {w w':World} {H:Nat->Value} {σ:Nat->Option Nat}
theorem arg_str {args:List Arg} {bT:List Value} {j:Nat} {m:Md} {s:ByteArray} (gl:In Γ B H w σ args bT) (hj:args[j]?=some (.tv ⟨.str,m,s⟩)):bT[j]?=some (.string s):=by obtain⟨v,hv,cs,h1,h2⟩:=gl.ok j _ hj;simp only[M] at h2;rw[hv,kY h1 h2.2]
theorem aet {args:List Arg} {bT:List Value} {j:Nat} {m:Md} {k:IntKind} {n:Int} (gl:In Γ B H w σ args bT) (hj:args[j]?=some (.tv ⟨.int k,m,n⟩)):bT[j]?=some (.int k n):=by obtain⟨v,hv,cs,h1,h2⟩:=gl.ok j _ hj;simp only[M] at h2;rw[hv,e9 h1 h2.2]
theorem Np {bT:List Value} {u v:Value} (hl:bT.length=2) (h0:bT[0]?=some u) (h1:bT[1]?=some v):bT=[u,v]:=by
 match bT,hl with
 |[a,b],_=>simp at h0 h1;rw[h0,h1]
theorem alw {bT:List Value} {u:Value} (hl:bT.length=1) (h0:bT[0]?=some u):bT=[u]:=by
 match bT,hl with
 |[a],_=>simp at h0;rw[h0]
theorem IX {res:List TV} {vs:List Value} (hb:Below w.heap.size w w') (hl:vs.length=res.length) (h:∀ (i:Nat) (b:TV),res[i]?=some b->∃ u,vs[i]?=some u/\ah b.t u [u]/\b.m=.k/\∀ A,K w' A b.t b.x [u]):Out B H w w' σ ⟨res,[]⟩ (adF vs):=by refine⟨⟨hb.os,hb.tape,hb.output,hb.size,λg hg _=>hb.block g hg⟩,λ_=>none,vs,rfl,hl,λg i hg=>(by cases hg),λi b hi=>?_,λc hc=>(by cases hc)⟩;obtain⟨u,h1,h2,h3,h4⟩:=h i b hi;refine⟨u,[u],h1,h2,?_⟩;rw[h3];exact nu _ (h4 _)
theorem aas (L:Lays.n137 P ρ):Sound Γ P (ρ.f 137) (aV [.v .str .k,.v (.int .u8) .k] λx kf=>kf ⟨[⟨.int .i64,.k,Sb x.1 x.2.1⟩],[]⟩):=by
 refine⟨?_,λal=>?_⟩
 rotate_left
 ·unfold aV
  split
  ·exact dk.pure _
  ·exact dk.none
 intro args kf ret w σ bT H B hr gl
 unfold aV at hr
 split at hr
 case h_2=>cases hr
 rename_i x hx
 have:=ly _ args hx
 subst this
 rcases x with⟨(s:ByteArray),(c:Int),u⟩
 simp only[dF] at gl hr
 obtain rfl:=Np gl.len (arg_str gl rfl) (aet gl rfl)
 refine .inl ⟨enters_of L.f137 (by kernel_rfl) rfl _ w,(Any.strings_IndexByte L s c w).mono λen w' he=>?_⟩
 obtain⟨rfl,rfl⟩:=he
 refine⟨_,hr,IX (vs:=[_]) (Below.refl _ _) rfl λi b hi=>?_⟩
 cases i with
 |succ i=>simp at hi
 |zero=>
  simp only[List.getElem?_cons_zero,Option.some.injEq] at hi
  subst hi
  exact⟨_,rfl,by simp[ah,isAgg],rfl,λA=>by simp[K,Sb]⟩
end Go.Pv
