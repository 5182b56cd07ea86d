/- Functions of the library (Str): what is told of them holds. -/
import Derived.Test.YtpcoilhcgcpjmaaGreatDoorPv5
import Derived.Shelf.Lays
import Derived.Below
import Derived.Shelf.Small.Strs
set_option linter.unusedSimpArgs false
set_option linter.unusedVariables false
namespace Go.Pv
open List Int IntKind
abbrev oT:= @Go.Proofs.enters_of
end Go.Pv
namespace Go.Pv
open List Int IntKind
open Go.Shelf Go.RowKit Go.Proofs
variable {Γ:Gl} {B:Nat->Prop} {P:Program} {ρ:Ren} {w w':World} {H:Nat->Value} {σ:Nat->Option Nat}
theorem arg_str {args:List Arg} {fe:List Value} {j:Nat} {m:Md} {s:ByteArray} (lT:In Γ B H w σ args fe) (hj:args[j]?=some (.tv ⟨.str,m,s⟩)):fe[j]?=some (.string s):=by obtain⟨v,hv,cs,h1,h2⟩:=lT.ok j _ hj;simp only[M] at h2;rw[hv,qD h1 h2.2]
theorem anx {args:List Arg} {fe:List Value} {j:Nat} {m:Md} {k:IntKind} {n:Int} (lT:In Γ B H w σ args fe) (hj:args[j]?=some (.tv ⟨.int k,m,n⟩)):fe[j]?=some (.int k n):=by obtain⟨v,hv,cs,h1,h2⟩:=lT.ok j _ hj;simp only[M] at h2;rw[hv,lg h1 h2.2]
theorem acU {fe:List Value} {u v:Value} (hl:fe.length=2) (h0:fe[0]?=some u) (h1:fe[1]?=some v):fe=[u,v]:=by
 match fe,hl with
 |[a,b],_=>simp at h0 h1;rw[h0,h1]
theorem avS {fe:List Value} {u:Value} (hl:fe.length=1) (h0:fe[0]?=some u):fe=[u]:=by
 match fe,hl with
 |[a],_=>simp at h0;rw[h0]
theorem YI {res:List TV} {vs:List Value} (hb:Below w.heap.size w w') (hl:vs.length=res.length) (h:∀ (i:Nat) (b:TV),res[i]?=some b->∃ u,vs[i]?=some u/\a6 b.t u [u]/\b.m=.k/\∀ A,K w' A b.t b.x [u]):Out B H w w' σ ⟨res,[]⟩ (amI vs):=by refine⟨⟨hb.os,hb.tape,hb.output,hb.size,λg hg _=>hb.block g hg⟩,λ_=>none,vs,rfl,hl,λg i hg=>(by cases hg),λi b hi=>?_,λc hc=>(by cases hc)⟩;obtain⟨u,h1,h2,h3,h4⟩:=h i b hi;refine⟨u,[u],h1,h2,?_⟩;rw[h3];exact tS _ (h4 _)
theorem ajt (L:Lays.n137 P ρ):Sound Γ P (ρ.f 137) (c9 [.v .str .k,.v (.int .u8) .k] λx kf=>kf ⟨[⟨.int .i64,.k,LP x.1 x.2.1⟩],[]⟩):=by
 refine⟨?_,λal=>?_⟩
 rotate_left
 ·unfold c9
  split
  ·exact ja.pure _
  ·exact ja.none
 intro args kf ret w σ fe H B hr lT
 unfold c9 at hr
 split at hr
 case h_2=>cases hr
 rename_i x hx
 have:=uK _ args hx
 subst this
 rcases x with⟨(s:ByteArray),(c:Int),u⟩
 simp only[jD] at lT hr
 obtain rfl:=acU lT.len (arg_str lT rfl) (anx lT rfl)
 refine .inl ⟨oT L.f137 (by kernel_rfl) rfl _ w,(Any.strings_IndexByte L s c w).mono λen w' he=>?_⟩
 obtain⟨rfl,rfl⟩:=he
 refine⟨_,hr,YI (vs:=[_]) (Below.refl _ _) rfl λi b hi=>?_⟩
 cases i with
 |succ i=>simp at hi
 |zero=>
  simp only[aD,ah] at hi
  subst hi
  exact⟨_,rfl,by simp[a6,isAgg],rfl,λA=>by simp[K,LP]⟩
end Go.Pv
