/- Functions of the library (Prim): what is told of them holds. -/
import Derived.Test.YtpcoilhcgcpjmaaGreatDoorJoi
import Derived.Shelf.Sort.Plain
import Derived.Shelf.Slices.In.SortNone
import Derived.Shelf.Slices.CompactI
set_option linter.unusedSimpArgs false
set_option linter.unusedVariables false
namespace Go.Pv
open List Int IntKind
abbrev vW:= @getElem!_pos
end Go.Pv
namespace Go.Pv
open List Int IntKind
open Go.Shelf Go.Proofs
variable {P:Program} {w w':World} {A A':Nat->Prop} {H:Nat->Value} {ρ:Ren}
abbrev ZK:Ty:=.sl (.int .i64)
theorem ae5 {e:TypeId} {tag:Option Nat} {xs:List Int} {v:Value} {ow:Nat->Prop} (h:M w A H ZK (.o e tag .k) xs [v] ow []): ∃ X c,v=.slice X xs.length c/\xs.length<=c/\(∀ h,tag=some h->H h=.slice X xs.length c)/\ ((xs=[]/\c=0)∨∃ g cur,X=some ⟨g,0,none⟩/\ow g/\w.heap[g]?=some (.cells cur e (0,0))/\cur.size=c/\c<=maxLen/\∀ j (hj:j<xs.length),cur[j]?=some (.int .i64 xs[j])):=by
 simp only[M] at h;rcases h with⟨hn,_⟩ |⟨hk,_⟩ |⟨T,ap5,me,X,c,e1,e2,hc,ht,h⟩
 ·simp at hn
 ·simp[Md.eY] at hk
 injection e1 with e1 Vm LK;subst e1 Vm LK;injection e2 with e2 _;refine⟨X,c,e2,hc,ht,?_⟩;rcases h with h |⟨g,cur,τ,h1,h2,h3,h4,h5,h6⟩
 ·exact .inl h
 refine .inr ⟨g,cur,h1,h2,h3,by rw[h4];simp[Ty.size],h5,λj hj=>?_⟩;have h7:=h6 j hj;simp only[M,K] at h7;have h8:=h7.2;simp only[Ty.size,nq] at h8;have h9:(cur.toList.drop j).head?=some (.int .i64 xs[j]):=by
  cases hd:cur.toList.drop j with
  |nil=>rw[hd] at h8;simp at h8
  |cons y r=>rw[hd] at h8;simp at h8;simp[h8]
 rw[xQ] at h9;simpa using h9
theorem ae6 {e:TypeId} {tag:Option Nat} {xs:List Int} {ow:Nat->Prop} {g c:Nat} {cur:Array Value} (hc:xs.length<=c) (ht:∀ h,tag=some h->H h=.slice (some ⟨g,0,none⟩) xs.length c) (hg:ow g) (hw:w.heap[g]?=some (.cells cur e (0,0))) (hs:cur.size=c) (hm:c<=maxLen) (hj:∀ j (hj:j<xs.length),cur[j]?=some (.int .i64 xs[j])):M w A H ZK (.o e tag .k) xs [.slice (some ⟨g,0,none⟩) xs.length c] ow []:=by
 simp only[M];refine .inr (.inr ⟨e,tag,.k,some ⟨g,0,none⟩,c,rfl,rfl,hc,ht,.inr ⟨g,cur,λj=>j,rfl,hg,hw,by rw[hs];simp[Ty.size],hm,λj hj1=>?_⟩⟩);simp only[M,K];refine⟨rfl,?_⟩;simp only[Ty.size,nq];have h1:=hj j hj1;have h2:j<cur.toList.length:=by rw[bQ];exact dh h1
 rw[aT h2];rw[←bI,aN h2] at h1;injection h1 with h1;simp[h1]
theorem acV {e:TypeId} {xs:List Int} {g:Nat} {cur:Array Value} (hw:w.heap[g]?=some (.cells cur e (0,0))) (hj:∀ j (hj:j<xs.length),cur[j]?=some (.int .i64 xs[j])):Sort.Holds (Value.int .i64) w g 0 xs.toArray:=by
 intro j h1;have h2:j<xs.length:=by simpa using h1
 refine⟨?_,by simp[World.frozen?,hw]⟩;simp only[World.cell?,hw,aW];rw[hj j h2,vW xs.toArray j h1];simp
theorem ajv {e:TypeId} {ys:List Int} {g:Nat} {cur:Array Value} {q:Nat} (hw:w.heap[g]?=some (.cells cur e (0,0))) (hl:ys.length<=cur.size): ∃ aku,(Sort.putRow (Value.int .i64) (Sort.ahead w q) g 0 ys.toArray).heap[g]?=some (.cells aku e (0,0))/\aku.size=cur.size/\(∀ j (hj:j<ys.length),aku[j]?=some (.int .i64 ys[j]))/\ (∀ g',g'≠g->(Sort.putRow (Value.int .i64) (Sort.ahead w q) g 0 ys.toArray).heap[g']?=w.heap[g']?)/\(Sort.putRow (Value.int .i64) (Sort.ahead w q) g 0 ys.toArray).heap.size=w.heap.size:=by
 refine⟨Sort.putCells (Value.int .i64) 0 ys.toArray cur,?_,by simp[Sort.putCells],λj hj=>?_,λg' hg=>?_,by simp[Sort.putRow,Sort.mapBlock,Sort.ahead]⟩
 ·simp only[Sort.putRow,Sort.mapBlock,Sort.ahead,Array.getElem?_modify,hw,dy,aP,Sort.onCells]
 ·have h1:j<cur.size:=(by omega);simp only[Sort.putCells,Array.getElem?_mapIdx,db h1,aP];rw[ay ⟨fL _,by simpa using hj⟩,Nat.sub_zero,vW ys.toArray j (by simpa using hj)];simp
 simp only[Sort.putRow,Sort.mapBlock,Sort.ahead,Array.getElem?_modify,ar (pd hg)]
theorem WI:∀ (r:List Int) (x:Int),(((List.range r.length).filter λj=>decide (r[j]! ≠(x::r)[j]!)).map λj=>r[j]!)=mL x r
 |[],x=>rfl
 |y::r,x=>by
  have ih:=WI r y;rw[ak,List.range_succ_eq_map,fv,List.filter_map];have e1:((λj=>decide ((y::r)[j]! ≠(x::y::r)[j]!))∘Nat.succ)=λj=>decide (r[j]! ≠(y::r)[j]!):=(by funext j;simp);rw[e1];simp only[mL];by_cases hxy:y=x
  ·subst hxy;simp only[List.getElem!_cons_zero,ne_eq,vm,zx,Bool.false_eq_true,cT,gh,ab,nZ];rw[←ih];congr 1
  have hb:(y==x)=false:=bw.2 hxy;simp only[List.getElem!_cons_zero,ne_eq,hxy,qk,decide_true,dy,hb,ae,bz,nZ];congr 1
theorem agx (l:List Int):Lib.compact l=oZ l:=by
 cases l with
 |nil=>rfl
 |cons x r=>
 simp only[oZ];rw[←WI r x];unfold Lib.compact Lib.compactUpTo;rw[ak,List.range_succ_eq_map,fv,List.filter_map];have e1:(Lib.keeps (x::r).toArray∘Nat.succ)=λj=>decide (r[j]! ≠(x::r)[j]!):=by funext j;simp[Lib.keeps]
 have e0:Lib.keeps (x::r).toArray 0=true:=by simp[Lib.keeps]
 rw[e1,e0];simp only[dy,bz,nZ];congr 1;simp
theorem Gw:∀ (r:List Int) (x:Int),(mL x r).length<=r.length
 |[],_=>aM _
 |y::r,x=>by
  simp only[mL];cases y==x with
  |true=>have:=Gw r x;simp only[ab,ak];omega
  |false=>have:=Gw r y;simp only[ae,ak];omega
theorem agy (l:List Int):(oZ l).length<=l.length:=by
 cases l with
 |nil=>exact aM _
 |cons x r=>have:=Gw r x;simp only[oZ,ak];omega
theorem anz {Γ:Gl} {B:Nat->Prop} {m:Md} {xs:List Int} {σ:Nat->Option Nat} {fe:List Value} (lT:In Γ B H w σ [.tv ⟨ZK,m,xs⟩] fe):∃ v,fe=[v]/\M w (Av σ B) H ZK m xs [v] (λg=>σ g=some 0) []:=by
 obtain⟨v,hv,AQ⟩:=lT.ok 0 _ rfl
 obtain⟨cs,h1,h2⟩:=AQ
 have xb:cs=[v]:=by simpa[a6,isAgg] using h1
 subst xb
 refine⟨v,?_,h2⟩
 have hl:=lT.len
 match fe,hl,hv with
 |[u],_,hv=>simp at hv;rw[hv]
theorem adM {Γ:Gl} (L:Lays2.n20 P ρ) (e:TypeId):Sound Γ P (ρ.f 20) (c9 [.v ZK (.o e none .k)] λx kf=>kf ⟨[⟨ZK,.o e none .k,oZ x.1⟩],[]⟩):=by
 refine⟨?_,λal=>?_⟩
 rotate_left
 ·unfold c9
  split
  ·exact ja.pure _
  ·exact ja.none
 intro args kf ret w σ fe H B hr lT
 unfold c9 at hr
 split at hr
 case h_2=>cases hr
 rename_i x hx
 have:=uK _ args hx
 subst this
 obtain⟨xs,u⟩:=x
 simp only[jD] at lT hr
 obtain⟨v,rfl,h2⟩:=anz lT
 obtain⟨X,c,rfl,hc,_,tF⟩:=ae5 h2
 have hen:(callFunc (ρ.f 20) [Value.slice X xs.length c].toArray).run P w=.ok (.enter (ρ.f 20) [Value.slice X xs.length c].toArray) w:=oT L.f20 (by kernel_rfl) rfl _ w
 rcases tF with⟨rfl,rfl⟩ |⟨g,cur,rfl,hg,hw,hs,hm,hj⟩
 ·refine .inl ⟨hen,(Any.slices_Compact_int_empty L X 0 w).mono λen w' he=>?_⟩
  obtain⟨rfl,rfl⟩:=he
  refine⟨_,hr,⟨rfl,rfl,rfl,aM _,λ_ _ _=>rfl⟩,λ_=>none,[.slice X 0 0],rfl,rfl,λg i hg=>(by cases hg),λi b hb=>?_,λc hc=>(by cases hc)⟩
  cases i with
  |succ i=>simp at hb
  |zero=>
   simp only[aD,ah] at hb
   subst hb
   refine⟨_,[.slice X 0 0],rfl,by simp[a6,isAgg],?_⟩
   simp only[M]
   exact .inr (.inr ⟨e,none,.k,X,0,rfl,rfl,aM _,λh hh=>(by cases hh),.inl ⟨rfl,rfl⟩⟩)
 ·have hmx:maxLen=9223372036854775807:=rfl
  refine .inl ⟨hen,(Any.slices_Compact_int L g 0 c xs w (acV hw hj) (by omega) hc).mono λen w' he=>?_⟩
  obtain⟨rfl,q,rfl⟩:=he
  have Da:=agy xs
  rw[agx]
  obtain⟨aku,c1,c2,c3,c4,c5⟩:=ajv (q:=q) (ys:=oZ xs++List.replicate (xs.length - (oZ xs).length) 0) hw (by rw[ax,dz];omega)
  refine⟨_,hr,⟨rfl,rfl,rfl,by rw[c5];exact aM _,λg' _ hn=>c4 g' (λe=>hn ⟨0,by rw[e];exact hg⟩)⟩,λg'=>if g'=g then some 0 else none,[.slice (some ⟨g,0,none⟩) (oZ xs).length c],rfl,rfl,λg' i dH=>?_,λi b hb=>?_,λc hc=>(by cases hc)⟩
  ·simp only at dH
   split at dH
   ·rename_i e
    subst e
    exact⟨.inr ⟨0,hg⟩,by rw[c5];exact dh hw⟩
   ·cases dH
  ·cases i with
   |succ i=>simp at hb
   |zero=>
    simp only[aD,ah] at hb
    subst hb
    refine⟨_,[.slice (some ⟨g,0,none⟩) (oZ xs).length c],rfl,by simp[a6,isAgg],?_⟩
    refine ae6 (xs:=oZ xs) (by omega) (λh hh=>(by cases hh)) (by simp) c1 (by omega) hm λj hj1=>?_
    rw[c3 j (by rw[ax];omega),cI (by exact hj1)]
theorem ae7 (l:List Int):(Ae l).length=l.length:=(Nx l).length_eq
theorem alW {Γ:Gl} (L:Lays.n189 P ρ) (e:TypeId):Sound Γ P (ρ.f 189) (c9 [.v ZK (.o e (some 0) .k)] λx kf=>bif Nat.blt x.1.length 4611686018427387904 then kf ⟨[],[⟨ZK,.o e (some 0) .k,Ae x.1⟩]⟩ else none):=by
 refine⟨?_,λal=>?_⟩
 rotate_left
 ·unfold c9
  split
  ·exact ja.bif _ (ja.pure _) ja.none
  ·exact ja.none
 intro args kf ret w σ fe H B hr lT
 unfold c9 at hr
 split at hr
 case h_2=>cases hr
 rename_i x hx
 have:=uK _ args hx
 subst this
 obtain⟨xs,u⟩:=x
 simp only[jD] at lT hr
 cases gC:Nat.blt xs.length 4611686018427387904 with
 |false=>rw[gC] at hr;cases hr
 |true=>
 rw[gC] at hr
 simp only[ab] at hr
 have gC:xs.length<4611686018427387904:=jC (bJ gC)
 obtain⟨v,rfl,h2⟩:=anz lT
 obtain⟨X,c,rfl,hc,ht,tF⟩:=ae5 h2
 have hen:(callFunc (ρ.f 189) [Value.slice X xs.length c].toArray).run P w=.ok (.enter (ρ.f 189) [Value.slice X xs.length c].toArray) w:=oT L.f189 (by kernel_rfl) rfl _ w
 rcases tF with⟨rfl,rfl⟩ |⟨g,cur,rfl,hg,hw,hs,hm,hj⟩
 ·refine .inl ⟨hen,(Any.slices_Sort_int_none L X 0 w).mono λen w' he=>?_⟩
  obtain⟨rfl,rfl⟩:=he
  refine⟨_,hr,⟨rfl,rfl,rfl,aM _,λ_ _ _=>rfl⟩,λ_=>none,[],rfl,rfl,λg i hg=>(by cases hg),λi b hb=>by simp at hb,λd hd=>?_⟩
  injection hd with hd _
  subst hd
  have e0:Ae []=[]:=dQ (ae7 [])
  rw[e0]
  refine⟨[.slice X 0 0],?_⟩
  simp only[M]
  exact .inr (.inr ⟨e,some 0,.k,X,0,rfl,rfl,aM _,ht,.inl (by simp)⟩)
 ·refine .inl ⟨hen,(Any.slices_Sort_int L g 0 c xs w (acV hw hj) (dh hw) gC).mono λen w' he=>?_⟩
  rw[ah3] at he
  obtain⟨rfl,q,os,rfl⟩:=he
  have hl:(Ae xs).length=xs.length:=ae7 xs
  obtain⟨aku,c1,c2,c3,c4,c5⟩:=ajv (q:=q) (ys:=Ae xs) hw (by rw[hl];omega)
  have Zh:=dh hw
  have old:∀ g',g'<w.heap.size->(Sort.grow (Sort.putRow (Value.int .i64) (Sort.ahead w q) g 0 (Ae xs).toArray) os).heap[g']?=(Sort.putRow (Value.int .i64) (Sort.ahead w q) g 0 (Ae xs).toArray).heap[g']?:=λg' h=>Sort.heap_grow_old _ _ (by rw[c5];exact h)
  have rz:w.heap.size<=(Sort.grow (Sort.putRow (Value.int .i64) (Sort.ahead w q) g 0 (Ae xs).toArray) os).heap.size:=by rw[Sort.size_grow,c5];omega
  refine⟨_,hr,⟨rfl,rfl,rfl,rz,λg' dH hn=>(old g' dH).trans (c4 g' (λe=>hn ⟨0,by rw[e];exact hg⟩))⟩,λg'=>if g'=g then some 0 else none,[],rfl,rfl,λg' i dH=>?_,λi b hb=>by simp at hb,λd hd=>?_⟩
  ·simp only at dH
   split at dH
   ·rename_i e
    subst e
    exact⟨.inr ⟨0,hg⟩,oY Zh rz⟩
   ·cases dH
  ·injection hd with hd _
   subst hd
   refine⟨[.slice (some ⟨g,0,none⟩) (Ae xs).length c],?_⟩
   refine ae6 (xs:=Ae xs) (by omega) (λh hh=>by rw[ht h hh,hl]) (by simp) ((old g Zh).trans c1) (by omega) hm λj hj1=>c3 j hj1
end Go.Pv
