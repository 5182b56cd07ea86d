/- A verified evaluator of the program's form over pure values, part 5: what it tells of a function holds. -/
import Derived.Test.YteplhdhbdkpgjaaGreatDoorPv4
set_option linter.unusedSimpArgs false
set_option linter.unusedVariables false
set_option autoImplicit true
set_option relaxedAutoImplicit true
namespace Go.Pv
open List Int IntKind
abbrev oo:= @Int.le_trans
abbrev ao:= @List.length_nil
abbrev b9:= @Bool.eq_iff_iff
abbrev fO:= @List.filter_cons
abbrev lT:= @List.getElem_drop
abbrev dV:= @List.mem_of_mem_drop
abbrev kh:= @List.take_length
abbrev pF:= @Nat.add_sub_cancel
abbrev qQ:= @Nat.ble_eq
abbrev bP:= @beq_eq_false_iff_ne
abbrev ld:= @beq_self_eq_true
abbrev vn:= @not_true_eq_false
def cq {α:Type} (f:α->Int->α×Int):List α->Int->List α×Int
 |[],k=>([],k)
 |x::r,k=>((f x k).1::(cq f r (f x k).2).1,(cq f r (f x k).2).2)
def bS:(t:Ty)->t.I->Int->t.I×Int
 | .int kd,_,k=>(kd.wrap k,k+1)
 | .pair a b,x,k=>(((bS a x.1 k).1,(bS b x.2 (bS a x.1 k).2).1),(bS b x.2 (bS a x.1 k).2).2)
 | .sl t,xs,k=>cq (bS t) xs k
 | .bool,x,k=>(x,k)
 | .str,x,k=>(x,k)
 | .unit,x,k=>(x,k)
 | .ptr _,x,k=>(x,k)
 | .arr _ _,x,k=>(x,k)
 | .mp,x,k=>(x,k)
def Gu:(t:Ty)->t.I->Nat
 | .int _,_=>1
 | .pair a b,x=>Gu a x.1+Gu b x.2
 | .sl t,xs=>((xs:List t.I).map (Gu t)).sum
 |_,_=>0
def nfV:Ty->Nat
 | .int _=>1 | .pair a b=>nfV a+nfV b |_=>0
def agm:Ty->Bool
 | .sl t=>Nat.ble (nfV t) 8&&agm t | .pair a b=>agm a&&agm b |_=>true
theorem fI {kd:IntKind} {x:Int} {k:Int}:bS (.int kd) x k=(kd.wrap k,k+1):=rfl
theorem eL {a b:Ty} {x:a.I×b.I} {k:Int}:bS (.pair a b) x k=(((bS a x.1 k).1,(bS b x.2 (bS a x.1 k).2).1),(bS b x.2 (bS a x.1 k).2).2):=rfl
theorem iy {t:Ty} {xs:List t.I} {k:Int}:bS (.sl t) xs k=cq (bS t) xs k:=rfl
theorem Ea {α:Type} (f:α->Int->α×Int):∀ (l:List α) (k:Int),(cq f l k).1.length=l.length
 |[],_=>rfl
 |x::r,k=>by simp[cq,Ea f r]
theorem LJ:∀ (t:Ty) (x:t.I) (k:Int),(bS t x k).2=k+Gu t x
 | .int _,_,_=>by simp[bS,Gu]
 | .bool,_,_=>by simp[bS,Gu]
 | .str,_,_=>by simp[bS,Gu]
 | .unit,_,_=>by simp[bS,Gu]
 | .ptr _,_,_=>by simp[bS,Gu]
 | .arr _ _,_,_=>by simp[bS,Gu]
 | .mp,_,_=>by simp[bS,Gu]
 | .pair a b,x,k=>by simp only[bS,Gu,LJ a,LJ b];omega
 | .sl t,xs,k=>by
  have:∀ (l:List t.I) (k:Int),(cq (bS t) l k).2=k+((l.map (Gu t)).sum:Nat):=by
   intro l;induction l with
   |nil=>intro k;simp[cq]
   |cons y r ih=>intro k;simp only[cq,ih,LJ t,bq,fF];omega
  simp only[bS,Gu];exact this xs k
theorem aaD:∀ (t:Ty) (x:t.I),agm t=true->Gu t x<=nfV t+8*aQ t x
 | .int _,_,_=>by simp[Gu,nfV]
 | .bool,_,_=>by simp[Gu]
 | .str,_,_=>by simp[Gu]
 | .unit,_,_=>by simp[Gu]
 | .ptr _,_,_=>by simp[Gu]
 | .arr _ _,_,_=>by simp[Gu]
 | .mp,_,_=>by simp[Gu]
 | .pair a b,x,h=>by simp only[agm,ai] at h;have h1:=aaD a x.1 h.1;have h2:=aaD b x.2 h.2;simp only[Gu,nfV,aQ];omega
 | .sl t,xs,h=>by
  simp only[agm,ai] at h;have hn:=bH h.1;have:∀ (l:List t.I),(l.map (Gu t)).sum<=8*(l.length+(l.map (aQ t)).sum):=by
   intro l;induction l with
   |nil=>simp
   |cons y r ih=>have:=aaD t y h.2;simp only[bq,fF,an];omega
  simp only[Gu,nfV,aQ];have:=this xs;omega
theorem avo (h:agm (.sl t)=true) (xs:List t.I) (k:Int):k<=(cq (bS t) xs k).2/\(cq (bS t) xs k).2<=k+8*aQ (.sl t) xs:=by have h1:=LJ (.sl t) xs k;have h2:=aaD (.sl t) xs h;simp only[bS] at h1;simp only[nfV] at h2;omega
theorem s6 (t:Ty) (x:t.I) (k:Int):k<=(bS t x k).2:=by rw[LJ];omega
theorem pr (xs:List t.I) (k:Int):k<=(cq (bS t) xs k).2:=s6 (.sl t) xs k
theorem set_set {α:Type} (l:List α) (i:Nat) (a b:α):(l.set i a).set i b=l.set i b:=by simp
theorem LK {α:Type} (l:List α) (i:Nat) (h:i<l.length) (a z:α):(l.set i a).getD i z=a:=by simp[aF,gw,h]
theorem avp {α:Type} (p:List α) (x:α) (r:List α) (y:α):(p++x::r).set p.length y=(p++[y])++r:=by simp[List.set_append]
theorem zi {α:Type} {f:α->Int->α×Int} {Q:α->Prop} {L:Nat->List α->Int->Int->aa} {du:List α->Int->aa} (hf:∀ y k,k<=(f y k).2) (hs:∀ (n:Nat) (xs:List α) (k:Int) (i:Nat) (h:i<xs.length),xs.length=m0->Q xs[i]->0<=k->(f xs[i] k).2<=B->L (n+1) xs k (i:Int)=L n (xs.set i (f xs[i] k).1) (f xs[i] k).2 ((i+1:Nat):Int)) (he:∀ (n:Nat) (xs:List α) (k:Int),L (n+1) xs k (xs.length:Int)=du xs k): ∀ (rest pre:List α) (n:Nat) (k:Int),(pre++rest).length=m0->(∀ y∈rest,Q y)->rest.length<n->0<=k->(cq f rest k).2<=B->L n (pre++rest) k (pre.length:Int)=du (pre++(cq f rest k).1) (cq f rest k).2
 |[],pre,n,k,_,_,hn,_,_=>by obtain⟨m,rfl⟩:∃ m,n=m+1:=⟨n - 1,by simp at hn;omega⟩;have:=he m (pre++[]) k;simpa[cq] using this
 |x::r,pre,n,k,hm,hQ,hn,h0,hB=>by
  obtain⟨m,rfl⟩:∃ m,n=m+1:=⟨n - 1,by simp at hn;omega⟩;have hge:∀ (l:List α) (k:Int),k<=(cq f l k).2:=by
   intro l;induction l with
   |nil=>intro k;simp[cq]
   |cons y s ih=>intro k;simp only[cq];exact oo (hf y k) (ih _)
  have hx:(pre++x::r)[pre.length]'(by simp)=x:=(by simp);simp only[cq] at hB;have h1:=hs m (pre++x::r) k pre.length (by simp) hm (by rw[hx];exact hQ x (by simp)) h0 (by rw[hx];exact oo (hge r _) hB);rw[hx,avp] at h1;rw[h1];have h2:=zi hf hs he r (pre++[(f x k).1]) m (f x k).2 (by rw[←hm];simp) (λy hy=>hQ y (by simp[hy])) (by simp at hn;omega) (oo h0 (hf x k)) hB;simp only[au,an,ao,aW] at h2;rw[h2];simp[cq]
theorem zj {α:Type} {f:α->Int->α×Int} {B:Int} {Q:α->Prop} {xs':List α} {L:Nat->Int->Int->aa} {du:Int->aa} (hf:∀ y k,k<=(f y k).2) (hs:∀ (n:Nat) (k:Int) (i:Nat) (h:i<xs'.length) (y:α),Q y->xs'[i]=(f y k).1->0<=k->(f y k).2<=B->L (n+1) k (i:Int)=L n (f y k).2 ((i+1:Nat):Int)) (he:∀ (n:Nat) (k:Int),L (n+1) k (xs'.length:Int)=du k): ∀ (rest:List α) (pre:List α) (n:Nat) (k:Int),xs'=pre++(cq f rest k).1->(∀ y∈rest,Q y)->rest.length<n->0<=k->(cq f rest k).2<=B->L n k (pre.length:Int)=du (cq f rest k).2
 |[],pre,n,k,hx,_,hn,_,_=>by obtain⟨m,rfl⟩:∃ m,n=m+1:=⟨n - 1,by simp at hn;omega⟩;have:=he m k;simp only[cq,b6] at hx;rw[hx] at this;simpa[cq] using this
 |x::r,pre,n,k,hx,hQ,hn,h0,hB=>by
  obtain⟨m,rfl⟩:∃ m,n=m+1:=⟨n - 1,by simp at hn;omega⟩;have hge:∀ (l:List α) (k:Int),k<=(cq f l k).2:=by
   intro l;induction l with
   |nil=>intro k;simp[cq]
   |cons y s ih=>intro k;simp only[cq];exact oo (hf y k) (ih _)
  simp only[cq] at hB hx ⊢;have hi:pre.length<xs'.length:=by rw[hx];simp
  have h1:=hs m k pre.length hi x (hQ x (by simp)) (by simp[hx]) h0 (oo (hge r _) hB);rw[h1];have h2:=zj hf hs he r (pre++[(f x k).1]) m (f x k).2 (by rw[hx];simp) (λy hy=>hQ y (by simp[hy])) (by simp at hn;omega) (oo h0 (hf x k)) hB;simp only[au,an,ao,aW] at h2;exact h2
def lU:(t:Ty)->t.I->Int->t.I×Int
 | .pair a b,x,k=>(((lU a x.1 k).1,(lU b x.2 (lU a x.1 k).2).1),(lU b x.2 (lU a x.1 k).2).2)
 | .sl t,xs,k=>cq (bS t) xs k
 | .int _,x,k=>(x,k)
 | .bool,x,k=>(x,k)
 | .str,x,k=>(x,k)
 | .unit,x,k=>(x,k)
 | .ptr _,x,k=>(x,k)
 | .arr _ _,x,k=>(x,k)
 | .mp,x,k=>(x,k)
theorem Ut:∀ (t:Ty) (x:t.I) (k:Int),agm t=true->k<=(lU t x k).2/\(lU t x k).2<=k+8*aQ t x
 | .int _,_,_,_=>by simp only[lU];omega
 | .bool,_,_,_=>by simp only[lU];omega
 | .str,_,_,_=>by simp only[lU];omega
 | .unit,_,_,_=>by simp only[lU];omega
 | .ptr _,_,_,_=>by simp only[lU];omega
 | .arr _ _,_,_,_=>by simp only[lU];omega
 | .mp,_,_,_=>by simp only[lU];omega
 | .sl t,xs,k,h=>avo h xs k
 | .pair a b,x,k,h=>by simp only[agm,ai] at h;have h1:=Ut a x.1 k h.1;have h2:=Ut b x.2 (lU a x.1 k).2 h.2;simp only[lU,aQ];omega
end Go.Pv
