/- Functions of the library (Str): what is told of them holds. -/
import Derived.Test.YtdacecahpdgooaaGreatDoorPv4
import Derived.Shelf.Lays
import Derived.Below
import Derived.Shelf.Small.Strs
namespace Go.Pv
open Go.Shelf Go.RowKit Go.Proofs
set_option linter.unusedVariables false
set_option linter.unusedSimpArgs false
variable {Γ:Gl} {B:Nat→Prop} {P:Program} {ρ:Ren} {w w':World} {H:Nat→Value} {σ:Nat→Option Nat}
theorem arg_str {args:List Arg} {cy:List Value} {j:Nat} {m:Md} {s:ByteArray} (jc:In Γ B H w σ args cy) (hj:args[j]? =some (.tv ⟨.str,m,s⟩)):cy[j]? =some (.string s):=by
 obtain⟨v,hv,cs,h1,h2⟩:=jc.ok j _ hj
 simp only[M] at h2
 rw[hv,dI h1 h2.2]
theorem Ng {args:List Arg} {cy:List Value} {j:Nat} {m:Md} {k:IntKind} {n:Int} (jc:In Γ B H w σ args cy) (hj:args[j]? =some (.tv ⟨.int k,m,n⟩)):cy[j]? =some (.int k n):=by
 obtain⟨v,hv,cs,h1,h2⟩:=jc.ok j _ hj
 simp only[M] at h2
 rw[hv,eJ h1 h2.2]
theorem HS {cy:List Value} {u v:Value} (hl:cy.length=2) (h0:cy[0]? =some u) (h1:cy[1]? =some v):cy=[u,v]:=by
 match cy,hl with
 |[a,b],_=>simp at h0 h1;rw[h0,h1]
theorem XI {cy:List Value} {u:Value} (hl:cy.length=1) (h0:cy[0]? =some u):cy=[u]:=by
 match cy,hl with
 |[a],_=>simp at h0;rw[h0]
theorem vC {res:List TV} {vs:List Value} (hb:Below w.heap.size w w') (hl:vs.length=res.length) (h:∀ (i:Nat) (b:TV),res[i]? =some b→∃ u,vs[i]? =some u∧an b.t u [u]∧b.m=.k∧∀ A,K w' A b.t b.x [u]):Out B H w w' σ ⟨res,[]⟩ (MF vs):=by
 refine⟨⟨hb.os,hb.tape,hb.output,hb.size,fun g hg _=>hb.block g hg⟩,fun _=>none,vs,rfl,hl,fun g i hg=>(by cases hg),fun i b hi=> ?_,fun c hc=>(by cases hc)⟩
 obtain⟨u,h1,h2,h3,h4⟩:=h i b hi
 refine⟨u,[u],h1,h2, ?_⟩
 rw[h3]
 exact eX _ (h4 _)
theorem Y1 (L:Lays.n137 P ρ):Sound Γ P (ρ.f 137) (aI [.v .str .k,.v (.int .u8) .k] fun x kf=>kf ⟨[⟨.int .i64,.k,Hb x.1 x.2.1⟩],[]⟩):=by
 refine⟨?_,fun al=> ?_⟩
 rotate_left
 ·unfold aI
  split
  ·exact dc.pure _
  ·exact dc.none
 intro args kf ret w σ cy H B hr jc
 unfold aI at hr
 split at hr
 case h_2=>cases hr
 rename_i x hx
 have:=nB _ args hx
 subst this
 rcases x with⟨(s:ByteArray),(c:Int),u⟩
 simp only[aB] at jc hr
 obtain rfl:=HS jc.len (arg_str jc rfl) (Ng jc rfl)
 refine .inl ⟨enters_of L.f137 (by kernel_rfl) rfl _ w,(Any.strings_IndexByte L s c w).mono fun en w' he=> ?_⟩
 obtain⟨rfl,rfl⟩:=he
 refine⟨_,hr,vC (vs:=[_]) (Below.refl _ _) rfl fun i b hi=> ?_⟩
 cases i with
 |succ i=>simp at hi
 |zero=>
  simp only[List.getElem?_cons_zero,Option.some.injEq] at hi
  subst hi
  exact⟨_,rfl,by simp[an,isAgg],rfl,fun A=>by simp[K,Hb]⟩
end Go.Pv
