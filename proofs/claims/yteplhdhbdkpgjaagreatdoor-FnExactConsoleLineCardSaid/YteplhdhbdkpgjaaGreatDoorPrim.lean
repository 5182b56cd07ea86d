/- Functions of the library (Prim): what is told of them holds. -/
import Derived.Test.YteplhdhbdkpgjaaGreatDoorJoi
import Derived.Shelf.Sort.Plain
import Derived.Shelf.Slices.In.SortNone
import Derived.Shelf.Slices.CompactI
set_option linter.unusedSimpArgs false
set_option linter.unusedVariables false
namespace Go.Pv
open List Int IntKind
abbrev vU:= @getElem!_pos
open Go.Shelf Go.Proofs
variable {P:Program} {w w':World} {A A':Nat->Prop} {H:Nat->Value} {ρ:Ren}
abbrev Zy:Ty:=.sl (.int .i64)
theorem afz {e:TypeId} {tag:Option Nat} {xs:List Int} {v:Value} {ow:Nat->Prop} (h:M w A H Zy (.o e tag .k) xs [v] ow []): ∃ X c,v=.slice X xs.length c/\xs.length<=c/\(∀ h,tag=some h->H h=.slice X xs.length c)/\ ((xs=[]/\c=0)∨∃ g cur,X=some ⟨g,0,none⟩/\ow g/\w.heap[g]?=some (.cells cur e (0,0))/\cur.size=c/\c<=maxLen/\∀ j (hj:j<xs.length),cur[j]?=some (.int .i64 xs[j])):=by
 simp only[M] at h;rcases h with⟨hn,_⟩ |⟨hk,_⟩ |⟨T,aqy,me,X,c,e1,e2,hc,ht,h⟩
 ·simp at hn
 ·simp[Md.fu] at hk
 injection e1 with e1 Uf LB;subst e1 Uf LB;injection e2 with e2 _;refine⟨X,c,e2,hc,ht,?_⟩;rcases h with h |⟨g,cur,τ,h1,h2,h3,h4,h5,h6⟩
 ·exact .inl h
 refine .inr ⟨g,cur,h1,h2,h3,by rw[h4];simp[Ty.size],h5,λj hj=>?_⟩;have h7:=h6 j hj;simp only[M,K] at h7;have h8:=h7.2;simp only[Ty.size,nm] at h8;have h9:(cur.toList.drop j).head?=some (.int .i64 xs[j]):=by
  cases hd:cur.toList.drop j with
  |nil=>rw[hd] at h8;simp at h8
  |cons y r=>rw[hd] at h8;simp at h8;simp[h8]
 rw[xF] at h9;simpa using h9
theorem afA {e:TypeId} {tag:Option Nat} {xs:List Int} {ow:Nat->Prop} {g c:Nat} {cur:Array Value} (hc:xs.length<=c) (ht:∀ h,tag=some h->H h=.slice (some ⟨g,0,none⟩) xs.length c) (hg:ow g) (hw:w.heap[g]?=some (.cells cur e (0,0))) (hs:cur.size=c) (hm:c<=maxLen) (hj:∀ j (hj:j<xs.length),cur[j]?=some (.int .i64 xs[j])):M w A H Zy (.o e tag .k) xs [.slice (some ⟨g,0,none⟩) xs.length c] ow []:=by
 simp only[M];refine .inr (.inr ⟨e,tag,.k,some ⟨g,0,none⟩,c,rfl,rfl,hc,ht,.inr ⟨g,cur,λj=>j,rfl,hg,hw,by rw[hs];simp[Ty.size],hm,λj hj1=>?_⟩⟩);simp only[M,K];refine⟨rfl,?_⟩;simp only[Ty.size,nm];have h1:=hj j hj1;have h2:j<cur.toList.length:=by rw[bT];exact dz h1
 rw[aY h2];rw[←bK,aU h2] at h1;injection h1 with h1;simp[h1]
theorem adf {e:TypeId} {xs:List Int} {g:Nat} {cur:Array Value} (hw:w.heap[g]?=some (.cells cur e (0,0))) (hj:∀ j (hj:j<xs.length),cur[j]?=some (.int .i64 xs[j])):Sort.Holds (Value.int .i64) w g 0 xs.toArray:=by
 intro j h1;have h2:j<xs.length:=by simpa using h1
 refine⟨?_,by simp[World.frozen?,hw]⟩;simp only[World.cell?,hw,aW];rw[hj j h2,vU xs.toArray j h1];simp
theorem akc {e:TypeId} {ys:List Int} {g:Nat} {cur:Array Value} {q:Nat} (hw:w.heap[g]?=some (.cells cur e (0,0))) (hl:ys.length<=cur.size): ∃ ak8,(Sort.putRow (Value.int .i64) (Sort.ahead w q) g 0 ys.toArray).heap[g]?=some (.cells ak8 e (0,0))/\ak8.size=cur.size/\(∀ j (hj:j<ys.length),ak8[j]?=some (.int .i64 ys[j]))/\ (∀ g',g'≠g->(Sort.putRow (Value.int .i64) (Sort.ahead w q) g 0 ys.toArray).heap[g']?=w.heap[g']?)/\(Sort.putRow (Value.int .i64) (Sort.ahead w q) g 0 ys.toArray).heap.size=w.heap.size:=by
 refine⟨Sort.putCells (Value.int .i64) 0 ys.toArray cur,?_,by simp[Sort.putCells],λj hj=>?_,λg' hg=>?_,by simp[Sort.putRow,Sort.mapBlock,Sort.ahead]⟩
 ·simp only[Sort.putRow,Sort.mapBlock,Sort.ahead,Array.getElem?_modify,hw,dF,aS,Sort.onCells]
 ·have h1:j<cur.size:=(by omega);simp only[Sort.putCells,Array.getElem?_mapIdx,dw h1,aS];rw[aA ⟨fY _,by simpa using hj⟩,Nat.sub_zero,vU ys.toArray j (by simpa using hj)];simp
 simp only[Sort.putRow,Sort.mapBlock,Sort.ahead,Array.getElem?_modify,aq (pz hg)]
theorem V8:∀ (r:List Int) (x:Int),(((List.range r.length).filter λj=>decide (r[j]! ≠(x::r)[j]!)).map λj=>r[j]!)=mL x r
 |[],x=>rfl
 |y::r,x=>by
  have ih:=V8 r y;rw[an,List.range_succ_eq_map,fO,List.filter_map];have e1:((λj=>decide ((y::r)[j]! ≠(x::y::r)[j]!))∘Nat.succ)=λj=>decide (r[j]! ≠(y::r)[j]!):=(by funext j;simp);rw[e1];simp only[mL];by_cases hxy:y=x
  ·subst hxy;simp only[List.getElem!_cons_zero,ne_eq,vn,zf,Bool.false_eq_true,c9,ld,ab,oa];rw[←ih];congr 1
  have hb:(y==x)=false:=bP.2 hxy;simp only[List.getElem!_cons_zero,ne_eq,hxy,qy,decide_true,dF,hb,ae,bq,oa];congr 1
theorem ahg (l:List Int):Lib.compact l=po l:=by
 cases l with
 |nil=>rfl
 |cons x r=>
 simp only[po];rw[←V8 r x];unfold Lib.compact Lib.compactUpTo;rw[an,List.range_succ_eq_map,fO,List.filter_map];have e1:(Lib.keeps (x::r).toArray∘Nat.succ)=λj=>decide (r[j]! ≠(x::r)[j]!):=by funext j;simp[Lib.keeps]
 have e0:Lib.keeps (x::r).toArray 0=true:=by simp[Lib.keeps]
 rw[e1,e0];simp only[dF,bq,oa];congr 1;simp
theorem GQ:∀ (r:List Int) (x:Int),(mL x r).length<=r.length
 |[],_=>aR _
 |y::r,x=>by
  simp only[mL];cases y==x with
  |true=>have:=GQ r x;simp only[ab,an];omega
  |false=>have:=GQ r y;simp only[ae,an];omega
theorem ahh (l:List Int):(po l).length<=l.length:=by
 cases l with
 |nil=>exact aR _
 |cons x r=>have:=GQ r x;simp only[po,an];omega
theorem aoj {Γ:Gl} {B:Nat->Prop} {m:Md} {xs:List Int} {σ:Nat->Option Nat} {fC:List Value} (mI:In Γ B H w σ [.tv ⟨Zy,m,xs⟩] fC):∃ v,fC=[v]/\M w (Av σ B) H Zy m xs [v] (λg=>σ g=some 0) []:=by
 obtain⟨v,hv,AI⟩:=mI.ok 0 _ rfl
 obtain⟨cs,h1,h2⟩:=AI
 have wS:cs=[v]:=by simpa[a7,isAgg] using h1
 subst wS
 refine⟨v,?_,h2⟩
 have hl:=mI.len
 match fC,hl,hv with
 |[u],_,hv=>simp at hv;rw[hv]
theorem aei {Γ:Gl} (L:Lays2.n20 P ρ) (e:TypeId):Sound Γ P (ρ.f 20) (cX [.v Zy (.o e none .k)] λx kf=>kf ⟨[⟨Zy,.o e none .k,po x.1⟩],[]⟩):=by
 refine⟨?_,λal=>?_⟩
 rotate_left
 ·unfold cX
  split
  ·exact jk.pure _
  ·exact jk.none
 intro args kf ret w σ fC H B hr mI
 unfold cX at hr
 split at hr
 case h_2=>cases hr
 rename_i x hx
 have:=uM _ args hx
 subst this
 obtain⟨xs,u⟩:=x
 simp only[iS] at mI hr
 obtain⟨v,rfl,h2⟩:=aoj mI
 obtain⟨X,c,rfl,hc,_,tL⟩:=afz h2
 have hen:(callFunc (ρ.f 20) [Value.slice X xs.length c].toArray).run P w=.ok (.enter (ρ.f 20) [Value.slice X xs.length c].toArray) w:=pj L.f20 (by kernel_rfl) rfl _ w
 rcases tL with⟨rfl,rfl⟩ |⟨g,cur,rfl,hg,hw,hs,hm,hj⟩
 ·refine .inl ⟨hen,(Any.slices_Compact_int_empty L X 0 w).mono λen w' he=>?_⟩
  obtain⟨rfl,rfl⟩:=he
  refine⟨_,hr,⟨rfl,rfl,rfl,aR _,λ_ _ _=>rfl⟩,λ_=>none,[.slice X 0 0],rfl,rfl,λg i hg=>(by cases hg),λi b hb=>?_,λc hc=>(by cases hc)⟩
  cases i with
  |succ i=>simp at hb
  |zero=>
   simp only[aE,ah] at hb
   subst hb
   refine⟨_,[.slice X 0 0],rfl,by simp[a7,isAgg],?_⟩
   simp only[M]
   exact .inr (.inr ⟨e,none,.k,X,0,rfl,rfl,aR _,λh hh=>(by cases hh),.inl ⟨rfl,rfl⟩⟩)
 ·have hmx:maxLen=9223372036854775807:=rfl
  refine .inl ⟨hen,(Any.slices_Compact_int L g 0 c xs w (adf hw hj) (by omega) hc).mono λen w' he=>?_⟩
  obtain⟨rfl,q,rfl⟩:=he
  have C1:=ahh xs
  rw[ahg]
  obtain⟨ak8,c1,c2,c3,c4,c5⟩:=akc (q:=q) (ys:=po xs++List.replicate (xs.length - (po xs).length) 0) hw (by rw[au,dO];omega)
  refine⟨_,hr,⟨rfl,rfl,rfl,by rw[c5];exact aR _,λg' _ hn=>c4 g' (λe=>hn ⟨0,by rw[e];exact hg⟩)⟩,λg'=>if g'=g then some 0 else none,[.slice (some ⟨g,0,none⟩) (po xs).length c],rfl,rfl,λg' i dU=>?_,λi b hb=>?_,λc hc=>(by cases hc)⟩
  ·simp only at dU
   split at dU
   ·rename_i e
    subst e
    exact⟨.inr ⟨0,hg⟩,by rw[c5];exact dz hw⟩
   ·cases dU
  ·cases i with
   |succ i=>simp at hb
   |zero=>
    simp only[aE,ah] at hb
    subst hb
    refine⟨_,[.slice (some ⟨g,0,none⟩) (po xs).length c],rfl,by simp[a7,isAgg],?_⟩
    refine afA (xs:=po xs) (by omega) (λh hh=>(by cases hh)) (by simp) c1 (by omega) hm λj hj1=>?_
    rw[c3 j (by rw[au];omega),cN (by exact hj1)]
theorem afB (l:List Int):(zT l).length=l.length:=(MR l).length_eq
theorem amI {Γ:Gl} (L:Lays.n189 P ρ) (e:TypeId):Sound Γ P (ρ.f 189) (cX [.v Zy (.o e (some 0) .k)] λx kf=>bif Nat.blt x.1.length 4611686018427387904 then kf ⟨[],[⟨Zy,.o e (some 0) .k,zT x.1⟩]⟩ else none):=by
 refine⟨?_,λal=>?_⟩
 rotate_left
 ·unfold cX
  split
  ·exact jk.bif _ (jk.pure _) jk.none
  ·exact jk.none
 intro args kf ret w σ fC H B hr mI
 unfold cX at hr
 split at hr
 case h_2=>cases hr
 rename_i x hx
 have:=uM _ args hx
 subst this
 obtain⟨xs,u⟩:=x
 simp only[iS] at mI hr
 cases gU:Nat.blt xs.length 4611686018427387904 with
 |false=>rw[gU] at hr;cases hr
 |true=>
 rw[gU] at hr
 simp only[ab] at hr
 have gU:xs.length<4611686018427387904:=jE (bH gU)
 obtain⟨v,rfl,h2⟩:=aoj mI
 obtain⟨X,c,rfl,hc,ht,tL⟩:=afz h2
 have hen:(callFunc (ρ.f 189) [Value.slice X xs.length c].toArray).run P w=.ok (.enter (ρ.f 189) [Value.slice X xs.length c].toArray) w:=pj L.f189 (by kernel_rfl) rfl _ w
 rcases tL with⟨rfl,rfl⟩ |⟨g,cur,rfl,hg,hw,hs,hm,hj⟩
 ·refine .inl ⟨hen,(Any.slices_Sort_int_none L X 0 w).mono λen w' he=>?_⟩
  obtain⟨rfl,rfl⟩:=he
  refine⟨_,hr,⟨rfl,rfl,rfl,aR _,λ_ _ _=>rfl⟩,λ_=>none,[],rfl,rfl,λg i hg=>(by cases hg),λi b hb=>by simp at hb,λd hd=>?_⟩
  injection hd with hd _
  subst hd
  have e0:zT []=[]:=ek (afB [])
  rw[e0]
  refine⟨[.slice X 0 0],?_⟩
  simp only[M]
  exact .inr (.inr ⟨e,some 0,.k,X,0,rfl,rfl,aR _,ht,.inl (by simp)⟩)
 ·refine .inl ⟨hen,(Any.slices_Sort_int L g 0 c xs w (adf hw hj) (dz hw) gU).mono λen w' he=>?_⟩
  rw[aiG] at he
  obtain⟨rfl,q,os,rfl⟩:=he
  have hl:(zT xs).length=xs.length:=afB xs
  obtain⟨ak8,c1,c2,c3,c4,c5⟩:=akc (q:=q) (ys:=zT xs) hw (by rw[hl];omega)
  have Y5:=dz hw
  have old:∀ g',g'<w.heap.size->(Sort.grow (Sort.putRow (Value.int .i64) (Sort.ahead w q) g 0 (zT xs).toArray) os).heap[g']?=(Sort.putRow (Value.int .i64) (Sort.ahead w q) g 0 (zT xs).toArray).heap[g']?:=λg' h=>Sort.heap_grow_old _ _ (by rw[c5];exact h)
  have sW:w.heap.size<=(Sort.grow (Sort.putRow (Value.int .i64) (Sort.ahead w q) g 0 (zT xs).toArray) os).heap.size:=by rw[Sort.size_grow,c5];omega
  refine⟨_,hr,⟨rfl,rfl,rfl,sW,λg' dU hn=>(old g' dU).trans (c4 g' (λe=>hn ⟨0,by rw[e];exact hg⟩))⟩,λg'=>if g'=g then some 0 else none,[],rfl,rfl,λg' i dU=>?_,λi b hb=>by simp at hb,λd hd=>?_⟩
  ·simp only at dU
   split at dU
   ·rename_i e
    subst e
    exact⟨.inr ⟨0,hg⟩,pn Y5 sW⟩
   ·cases dU
  ·injection hd with hd _
   subst hd
   refine⟨[.slice (some ⟨g,0,none⟩) (zT xs).length c],?_⟩
   refine afA (xs:=zT xs) (by omega) (λh hh=>by rw[ht h hh,hl]) (by simp) ((old g Y5).trans c1) (by omega) hm λj hj1=>c3 j hj1
end Go.Pv
