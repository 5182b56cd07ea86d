/- Functions of the library (Prim): what is told of them holds. -/
import Derived.Test.YtafpcididdbipaaGreatDoorJoi
import Derived.Shelf.Sort.Plain
import Derived.Shelf.Slices.In.SortNone
import Derived.Shelf.Slices.CompactI
set_option linter.unusedSimpArgs false
set_option linter.unusedVariables false
namespace Go.Pv
open List Int IntKind
open Go.Shelf Go.Proofs
variable {P:Program} {w w':World} {A A':Nat->Prop} {H:Nat->Value} {ρ:Ren}
abbrev Qd:Ty:=.sl (.int .i64)
theorem VX {e:TypeId} {tag:Option Nat} {xs:List Int} {v:Value} {ow:Nat->Prop} (h:M w A H Qd (.o e tag .k) xs [v] ow []): ∃ X c,v=.slice X xs.length c/\xs.length<=c/\(∀ h,tag=some h->H h=.slice X xs.length c)/\ ((xs=[]/\c=0)∨∃ g cur,X=some ⟨g,0,none⟩/\ow g/\w.heap[g]?=some (.cells cur e (0,0))/\cur.size=c/\c<=maxLen/\∀ j (hj:j<xs.length),cur[j]?=some (.int .i64 xs[j])):=by
 simp only[M] at h;rcases h with⟨hn,_⟩ |⟨hk,_⟩ |⟨T,agJ,me,X,c,e1,e2,hc,ht,h⟩
 ·simp at hn
 ·simp[Md.b5] at hk
 injection e1 with e1 L8 Di;subst e1 L8 Di;injection e2 with e2 _;refine⟨X,c,e2,hc,ht,?_⟩;rcases h with h |⟨g,cur,τ,h1,h2,h3,h4,h5,h6⟩
 ·exact .inl h
 refine .inr ⟨g,cur,h1,h2,h3,by rw[h4];simp[Ty.size],h5,λj hj=>?_⟩;have h7:=h6 j hj;simp only[M,K] at h7;have h8:=h7.2;simp only[Ty.size,Nat.mul_one] at h8;have h9:(cur.toList.drop j).head?=some (.int .i64 xs[j]):=by
  cases hd:cur.toList.drop j with
  |nil=>rw[hd] at h8;simp at h8
  |cons y r=>rw[hd] at h8;simp at h8;simp[h8]
 rw[List.head?_drop] at h9;simpa using h9
theorem VY {e:TypeId} {tag:Option Nat} {xs:List Int} {ow:Nat->Prop} {g c:Nat} {cur:Array Value} (hc:xs.length<=c) (ht:∀ h,tag=some h->H h=.slice (some ⟨g,0,none⟩) xs.length c) (hg:ow g) (hw:w.heap[g]?=some (.cells cur e (0,0))) (hs:cur.size=c) (hm:c<=maxLen) (hj:∀ j (hj:j<xs.length),cur[j]?=some (.int .i64 xs[j])):M w A H Qd (.o e tag .k) xs [.slice (some ⟨g,0,none⟩) xs.length c] ow []:=by
 simp only[M];refine .inr (.inr ⟨e,tag,.k,some ⟨g,0,none⟩,c,rfl,rfl,hc,ht,.inr ⟨g,cur,λj=>j,rfl,hg,hw,by rw[hs];simp[Ty.size],hm,λj Ub=>?_⟩⟩);simp only[M,K];refine⟨rfl,?_⟩;simp only[Ty.size,Nat.mul_one];have h1:=hj j Ub;have h2:j<cur.toList.length:=by rw[Array.length_toList];exact bh h1
 rw[List.drop_eq_getElem_cons h2];rw[←Array.getElem?_toList,List.getElem?_eq_getElem h2] at h1;injection h1 with h1;simp[h1]
theorem TJ {e:TypeId} {xs:List Int} {g:Nat} {cur:Array Value} (hw:w.heap[g]?=some (.cells cur e (0,0))) (hj:∀ j (hj:j<xs.length),cur[j]?=some (.int .i64 xs[j])):Sort.Holds (Value.int .i64) w g 0 xs.toArray:=by
 intro j h1;have h2:j<xs.length:=by simpa using h1
 refine⟨?_,by simp[World.frozen?,hw]⟩;simp only[World.cell?,hw,Nat.zero_add];rw[hj j h2,getElem!_pos xs.toArray j h1];simp
theorem aau {e:TypeId} {ys:List Int} {g:Nat} {cur:Array Value} {q:Nat} (hw:w.heap[g]?=some (.cells cur e (0,0))) (hl:ys.length<=cur.size): ∃ abp,(Sort.putRow (Value.int .i64) (Sort.ahead w q) g 0 ys.toArray).heap[g]?=some (.cells abp e (0,0))/\abp.size=cur.size/\(∀ j (hj:j<ys.length),abp[j]?=some (.int .i64 ys[j]))/\ (∀ g',g'≠g->(Sort.putRow (Value.int .i64) (Sort.ahead w q) g 0 ys.toArray).heap[g']?=w.heap[g']?)/\(Sort.putRow (Value.int .i64) (Sort.ahead w q) g 0 ys.toArray).heap.size=w.heap.size:=by
 refine⟨Sort.putCells (Value.int .i64) 0 ys.toArray cur,?_,by simp[Sort.putCells],λj hj=>?_,λg' hg=>?_,by simp[Sort.putRow,Sort.mapBlock,Sort.ahead]⟩
 ·simp only[Sort.putRow,Sort.mapBlock,Sort.ahead,Array.getElem?_modify,hw,if_true,Option.map_some,Sort.onCells]
 ·have h1:j<cur.size:=(by omega);simp only[Sort.putCells,Array.getElem?_mapIdx,Array.getElem?_eq_getElem h1,Option.map_some];rw[if_pos ⟨Nat.zero_le _,by simpa using hj⟩,Nat.sub_zero,getElem!_pos ys.toArray j (by simpa using hj)];simp
 simp only[Sort.putRow,Sort.mapBlock,Sort.ahead,Array.getElem?_modify,if_neg (Ne.symm hg)]
theorem Nq:∀ (r:List Int) (x:Int),(((List.range r.length).filter λj=>decide (r[j]! ≠(x::r)[j]!)).map λj=>r[j]!)=ia x r
 |[],x=>rfl
 |y::r,x=>by
  have ih:=Nq r y;rw[List.length_cons,List.range_succ_eq_map,List.filter_cons,List.filter_map];have e1:((λj=>decide ((y::r)[j]! ≠(x::y::r)[j]!))∘Nat.succ)=λj=>decide (r[j]! ≠(y::r)[j]!):=(by funext j;simp);rw[e1];simp only[ia];by_cases Of:y=x
  ·subst Of;simp only[List.getElem!_cons_zero,ne_eq,not_true_eq_false,decide_false,Bool.false_eq_true,if_false,beq_self_eq_true,cond_true,List.map_map];rw[←ih];congr 1
  have hb:(y==x)=false:=beq_eq_false_iff_ne.2 Of;simp only[List.getElem!_cons_zero,ne_eq,Of,not_false_eq_true,decide_true,if_true,hb,cond_false,List.map_cons,List.map_map];congr 1
theorem Xu (l:List Int):Lib.compact l=jM l:=by
 cases l with
 |nil=>rfl
 |cons x r=>
 simp only[jM];rw[←Nq r x];unfold Lib.compact Lib.compactUpTo;rw[List.length_cons,List.range_succ_eq_map,List.filter_cons,List.filter_map];have e1:(Lib.keeps (x::r).toArray∘Nat.succ)=λj=>decide (r[j]! ≠(x::r)[j]!):=by funext j;simp[Lib.keeps]
 have e0:Lib.keeps (x::r).toArray 0=true:=by simp[Lib.keeps]
 rw[e1,e0];simp only[if_true,List.map_cons,List.map_map];congr 1;simp
theorem yR:∀ (r:List Int) (x:Int),(ia x r).length<=r.length
 |[],_=>Nat.le_refl _
 |y::r,x=>by
  simp only[ia];cases y==x with
  |true=>have:=yR r x;simp only[cond_true,List.length_cons];omega
  |false=>have:=yR r y;simp only[cond_false,List.length_cons];omega
theorem Xv (l:List Int):(jM l).length<=l.length:=by
 cases l with
 |nil=>exact Nat.le_refl _
 |cons x r=>have:=yR r x;simp only[jM,List.length_cons];omega
theorem aeu {Γ:Gl} {B:Nat->Prop} {m:Md} {xs:List Int} {σ:Nat->Option Nat} {bT:List Value} (gl:In Γ B H w σ [.tv ⟨Qd,m,xs⟩] bT):∃ v,bT=[v]/\M w (Av σ B) H Qd m xs [v] (λg=>σ g=some 0) []:=by
 obtain⟨v,hv,tM⟩:=gl.ok 0 _ rfl
 obtain⟨cs,h1,h2⟩:=tM
 have qk:cs=[v]:=by simpa[ah,isAgg] using h1
 subst qk
 refine⟨v,?_,h2⟩
 have hl:=gl.len
 match bT,hl,hv with
 |[u],_,hv=>simp at hv;rw[hv]
theorem UF {Γ:Gl} (L:Lays2.n20 P ρ) (e:TypeId):Sound Γ P (ρ.f 20) (aV [.v Qd (.o e none .k)] λx kf=>kf ⟨[⟨Qd,.o e none .k,jM x.1⟩],[]⟩):=by
 refine⟨?_,λal=>?_⟩
 rotate_left
 ·unfold aV
  split
  ·exact dk.pure _
  ·exact dk.none
 intro args kf ret w σ bT H B hr gl
 unfold aV at hr
 split at hr
 case h_2=>cases hr
 rename_i x hx
 have:=ly _ args hx
 subst this
 obtain⟨xs,u⟩:=x
 simp only[dF] at gl hr
 obtain⟨v,rfl,h2⟩:=aeu gl
 obtain⟨X,c,rfl,hc,_,nm⟩:=VX h2
 have hen:(callFunc (ρ.f 20) [Value.slice X xs.length c].toArray).run P w=.ok (.enter (ρ.f 20) [Value.slice X xs.length c].toArray) w:=enters_of L.f20 (by kernel_rfl) rfl _ w
 rcases nm with⟨rfl,rfl⟩ |⟨g,cur,rfl,hg,hw,hs,hm,hj⟩
 ·refine .inl ⟨hen,(Any.slices_Compact_int_empty L X 0 w).mono λen w' he=>?_⟩
  obtain⟨rfl,rfl⟩:=he
  refine⟨_,hr,⟨rfl,rfl,rfl,Nat.le_refl _,λ_ _ _=>rfl⟩,λ_=>none,[.slice X 0 0],rfl,rfl,λg i hg=>(by cases hg),λi b hb=>?_,λc hc=>(by cases hc)⟩
  cases i with
  |succ i=>simp at hb
  |zero=>
   simp only[List.getElem?_cons_zero,Option.some.injEq] at hb
   subst hb
   refine⟨_,[.slice X 0 0],rfl,by simp[ah,isAgg],?_⟩
   simp only[M]
   exact .inr (.inr ⟨e,none,.k,X,0,rfl,rfl,Nat.le_refl _,λh hh=>(by cases hh),.inl ⟨rfl,rfl⟩⟩)
 ·have hmx:maxLen=9223372036854775807:=rfl
  refine .inl ⟨hen,(Any.slices_Compact_int L g 0 c xs w (TJ hw hj) (by omega) hc).mono λen w' he=>?_⟩
  obtain⟨rfl,q,rfl⟩:=he
  have rX:=Xv xs
  rw[Xu]
  obtain⟨abp,c1,c2,c3,c4,c5⟩:=aau (q:=q) (ys:=jM xs++List.replicate (xs.length - (jM xs).length) 0) hw (by rw[List.length_append,List.length_replicate];omega)
  refine⟨_,hr,⟨rfl,rfl,rfl,by rw[c5];exact Nat.le_refl _,λg' _ hn=>c4 g' (λe=>hn ⟨0,by rw[e];exact hg⟩)⟩,λg'=>if g'=g then some 0 else none,[.slice (some ⟨g,0,none⟩) (jM xs).length c],rfl,rfl,λg' i bq=>?_,λi b hb=>?_,λc hc=>(by cases hc)⟩
  ·simp only at bq
   split at bq
   ·rename_i e
    subst e
    exact⟨.inr ⟨0,hg⟩,by rw[c5];exact bh hw⟩
   ·cases bq
  ·cases i with
   |succ i=>simp at hb
   |zero=>
    simp only[List.getElem?_cons_zero,Option.some.injEq] at hb
    subst hb
    refine⟨_,[.slice (some ⟨g,0,none⟩) (jM xs).length c],rfl,by simp[ah,isAgg],?_⟩
    refine VY (xs:=jM xs) (by omega) (λh hh=>(by cases hh)) (by simp) c1 (by omega) hm λj Ub=>?_
    rw[c3 j (by rw[List.length_append];omega),List.getElem_append_left (by exact Ub)]
theorem VZ (l:List Int):(tc l).length=l.length:=(EX l).length_eq
theorem acT {Γ:Gl} (L:Lays.n189 P ρ) (e:TypeId):Sound Γ P (ρ.f 189) (aV [.v Qd (.o e (some 0) .k)] λx kf=>bif Nat.blt x.1.length 4611686018427387904 then kf ⟨[],[⟨Qd,.o e (some 0) .k,tc x.1⟩]⟩ else none):=by
 refine⟨?_,λal=>?_⟩
 rotate_left
 ·unfold aV
  split
  ·exact dk.bif _ (dk.pure _) dk.none
  ·exact dk.none
 intro args kf ret w σ bT H B hr gl
 unfold aV at hr
 split at hr
 case h_2=>cases hr
 rename_i x hx
 have:=ly _ args hx
 subst this
 obtain⟨xs,u⟩:=x
 simp only[dF] at gl hr
 cases du:Nat.blt xs.length 4611686018427387904 with
 |false=>rw[du] at hr;cases hr
 |true=>
 rw[du] at hr
 simp only[cond_true] at hr
 have du:xs.length<4611686018427387904:=Nat.lt_of_succ_le (Nat.le_of_ble_eq_true du)
 obtain⟨v,rfl,h2⟩:=aeu gl
 obtain⟨X,c,rfl,hc,ht,nm⟩:=VX h2
 have hen:(callFunc (ρ.f 189) [Value.slice X xs.length c].toArray).run P w=.ok (.enter (ρ.f 189) [Value.slice X xs.length c].toArray) w:=enters_of L.f189 (by kernel_rfl) rfl _ w
 rcases nm with⟨rfl,rfl⟩ |⟨g,cur,rfl,hg,hw,hs,hm,hj⟩
 ·refine .inl ⟨hen,(Any.slices_Sort_int_none L X 0 w).mono λen w' he=>?_⟩
  obtain⟨rfl,rfl⟩:=he
  refine⟨_,hr,⟨rfl,rfl,rfl,Nat.le_refl _,λ_ _ _=>rfl⟩,λ_=>none,[],rfl,rfl,λg i hg=>(by cases hg),λi b hb=>by simp at hb,λd hd=>?_⟩
  injection hd with hd _
  subst hd
  have e0:tc []=[]:=List.eq_nil_of_length_eq_zero (VZ [])
  rw[e0]
  refine⟨[.slice X 0 0],?_⟩
  simp only[M]
  exact .inr (.inr ⟨e,some 0,.k,X,0,rfl,rfl,Nat.le_refl _,ht,.inl (by simp)⟩)
 ·refine .inl ⟨hen,(Any.slices_Sort_int L g 0 c xs w (TJ hw hj) (bh hw) du).mono λen w' he=>?_⟩
  rw[Y5] at he
  obtain⟨rfl,q,os,rfl⟩:=he
  have hl:(tc xs).length=xs.length:=VZ xs
  obtain⟨abp,c1,c2,c3,c4,c5⟩:=aau (q:=q) (ys:=tc xs) hw (by rw[hl];omega)
  have PJ:=bh hw
  have old:∀ g',g'<w.heap.size->(Sort.grow (Sort.putRow (Value.int .i64) (Sort.ahead w q) g 0 (tc xs).toArray) os).heap[g']?=(Sort.putRow (Value.int .i64) (Sort.ahead w q) g 0 (tc xs).toArray).heap[g']?:=λg' h=>Sort.heap_grow_old _ _ (by rw[c5];exact h)
  have pL:w.heap.size<=(Sort.grow (Sort.putRow (Value.int .i64) (Sort.ahead w q) g 0 (tc xs).toArray) os).heap.size:=by rw[Sort.size_grow,c5];omega
  refine⟨_,hr,⟨rfl,rfl,rfl,pL,λg' bq hn=>(old g' bq).trans (c4 g' (λe=>hn ⟨0,by rw[e];exact hg⟩))⟩,λg'=>if g'=g then some 0 else none,[],rfl,rfl,λg' i bq=>?_,λi b hb=>by simp at hb,λd hd=>?_⟩
  ·simp only at bq
   split at bq
   ·rename_i e
    subst e
    exact⟨.inr ⟨0,hg⟩,Nat.lt_of_lt_of_le PJ pL⟩
   ·cases bq
  ·injection hd with hd _
   subst hd
   refine⟨[.slice (some ⟨g,0,none⟩) (tc xs).length c],?_⟩
   refine VY (xs:=tc xs) (by omega) (λh hh=>by rw[ht h hh,hl]) (by simp) ((old g PJ).trans c1) (by omega) hm λj Ub=>c3 j Ub
theorem apt {Γ : Gl} {f : FuncId} {fn : Func} {c : Code} (hf : P.funcs[f]? = some fn) (hn : (fn.name == "runtime.NumGoroutine") = false) (hb : fn.body = some c) {g : Int → ByteArray}
  (h:∀ (k:Int) (w:World),Calls P f #[.int .i64 k] w λen w'=>en=.returned (.string (g k))/\∃ o,w'=w.alloc o):Sound Γ P f (aV [.v (.int .i64) .k] λx kf=>kf ⟨[⟨.str,.k,g x.1⟩],[]⟩):=by
 refine⟨?_,λal=>?_⟩
 rotate_left
 ·unfold aV
  split
  ·exact dk.pure _
  ·exact dk.none
 intro args kf ret w σ bT H B hr gl
 unfold aV at hr
 split at hr
 case h_2=>cases hr
 rename_i x hx
 have:=ly _ args hx
 subst this
 rcases x with⟨(k:Int),u⟩
 simp only[dF] at gl hr
 obtain⟨v,hv,cs,h1,h2⟩:=gl.ok 0 _ rfl
 simp only[M] at h2
 have e1:=e9 h1 h2.2
 subst e1
 have asw:bT=[.int .i64 k]:=by
  have hl:=gl.len
  match bT,hl,hv with
  |[a],_,hv=>simp at hv;rw[hv]
 subst asw
 refine .inl ⟨enters_of hf hn hb _ w,(h k w).mono λen w' he=>?_⟩
 obtain⟨rfl,o,rfl⟩:=he
 refine⟨_,hr,⟨rfl,rfl,rfl,by simp,λg' bq _=>heap_alloc_old w o bq⟩,λ_=>none,[.string (g k)],rfl,rfl,λg' i hg=>(by cases hg),λi b hb=>?_,λd hd=>(by cases hd)⟩
 cases i with
 |succ i=>simp at hb
 |zero=>
  simp only[List.getElem?_cons_zero,Option.some.injEq] at hb
  subst hb
  refine⟨_,[.string (g k)],rfl,by simp[ah,isAgg],?_⟩
  simp[M,K,Md.b5]
end Go.Pv
