/- A verified evaluator of the program's form over pure values, part 1: what it tells of a function holds. -/
import Derived.Test.YtdacecahpdgooaaGreatDoorPv0
namespace Go.Pv
set_option linter.unusedVariables false
set_option linter.unusedSimpArgs false
variable {h:Hint} {O:bE} {ops:Array Oper} {Θ:cK}
structure oV where
 bS:List Nat
 d:Nat
 v:AV
def bJ:List Nat→St→St
 |[],S=>S
 |x::r,S=>bJ r (S.put (some x) .dead)
def oV.app (E:oV) (S:St):St:=(bJ E.bS S).put (some E.d) E.v
def mM (a:AV):Prop:=∀ d,a.refs d=false
theorem pC {S:St} {x:Operand} (hx:gu S x=true) (T:TypeId):(∃ i a,x=.tmp i∧S.at i=.v a []∧S.dn Θ T x=some (.v a []))∨∃ c,x=.const c:=by
 cases x with
 |tmp i=>
  simp only[gu] at hx
  split at hx
  ·rename_i a ha
   exact .inl ⟨i,a,rfl,ha,by simp[St.dn,ha]⟩
  ·cases hx
 |const c=>exact .inr ⟨c,rfl⟩
 |func f=>simp[gu] at hx
 |global g=>simp[gu] at hx
def nn (S S':St) (l:List Nat):Prop:=∀ r∈l,S'.at r=S.at r
theorem xI {S S':St} {x:Operand} (ha:nn S S' (aS x)) (T:TypeId):S'.dn Θ T x=S.dn Θ T x:=by
 cases x with
 |tmp i=>simp only[St.dn];rw[ha i (by simp[aS])]
 |const c=>rfl
 |func f=>rfl
 |global g=>rfl
theorem Ds {S S':St} {x:Operand} (hx:gu S x=true) (ha:nn S S' (aS x)) (T:TypeId):S'.rd Θ T x=S.rd Θ T x:=by
 unfold St.rd
 rw[xI ha]
 rcases pC (Θ:=Θ) hx T with⟨i,a,rfl,h1,h2⟩ |⟨c,rfl⟩
 ·rw[h2];rfl
 ·simp only[St.dn]
  cases mj Θ T c<;>rfl
theorem ky {S S':St}:∀ (xs:List Operand) (Ts:List TypeId) (l:List (Option TV)),(∀ x∈xs,gu S x=true)→nn S S' (xs.flatMap aS)→reads Θ S' xs Ts l=reads Θ S xs Ts l
 |[],_,_,_,_=>rfl
 |x::xs,[],l,_,_=>rfl
 |x::xs,T::Ts,[],_,_=>rfl
 |x::xs,T::Ts,p::ps,hx,ha=>by
  have ih:=ky xs Ts ps (fun y hy=>hx y (by simp[hy])) (fun r hr=>ha r (by simp[hr]))
  have ho:=xI (Θ:=Θ) (x:=x) (fun r hr=>ha r (by simp[hr])) T
  simp only[reads,ih,ho]
  cases p with
  |some a=>rfl
  |none=>
   simp only
   rcases pC (Θ:=Θ) (hx x (by simp)) T with⟨i,a,rfl,h1,h2⟩ |⟨c,rfl⟩
   ·rw[h2];rfl
   ·simp only[St.dn]
    cases mj Θ T c<;>rfl
theorem uQ {S S':St}:∀ (xs:List Operand) (l:List (Option TV)) (as:List Arg),nn S S' (xs.flatMap aS)→gq S' xs l as=gq S xs l as
 |[],_,_,_=>rfl
 |x::xs,[],_,_=>rfl
 |x::xs,p::ps,[],_=>rfl
 |x::xs,p::ps,r::rs,ha=>by
  have ih:=uQ xs ps rs (fun r hr=>ha r (by simp[hr]))
  have hf:rk S' x=rk S x:=by
   cases x with
   |tmp i=>simp only[rk];rw[ha i (by simp[aS])]
   |const c=>rfl
   |func f=>rfl
   |global g=>rfl
  simp only[gq,ih,hf]
theorem Ce:∀ (xs:List Operand) (Ts:List TypeId) (ps:List Pass),(ps.all fun p=>match p with
   | .val=>true
   |_=>false)=true→(∀ S,fv Θ S xs Ts ps=none)∨∃ l,∀ S,fv Θ S xs Ts ps=some (l,S)
 |[],_,_,_=>.inr ⟨[],fun S=>by simp[fv]⟩
 |x::xs,[],_,_=>.inl fun S=>by simp[fv]
 |x::xs,T::Ts,[],_=>.inl fun S=>by simp[fv]
 |x::xs,T::Ts,p::ps,h=>by
  simp only[List.all_cons,Bool.and_eq_true] at h
  cases p with
  |take=>cases h.1
  |dA=>cases h.1
  |val=>
   rcases Ce xs Ts ps h.2 with h1 |⟨l,h1⟩
   ·exact .inl fun S=>by simp only[fv,h1]
   ·exact .inr ⟨none::l,fun S=>by simp only[fv,h1]⟩
theorem vK:∀ (l:List Pass) (n:Nat),(l.all fun p=>match p with
   | .val=>true
   |_=>false)=true→rR l n=none
 |[],_,_=>rfl
 | .val::r,n,h=>by simp only[rR];exact vK r (n+1) (by simpa using h)
 | .take::r,n,h=>by simp at h
 | .dA::r,n,h=>by simp at h
theorem yw (l:List TV):mM (B' l):=by
 intro d
 unfold B'
 split<;>rfl
theorem Qg (hO:nj O) {i:Nat} {o:Oper} (ho:ops[i]? =some o) (hg:o.guard=none) {d:Nat} (hd:o.dst=some d) {f:FuncId} {as:Array Operand} {ts:Array TypeId} (bP:o.op=.call { callee:=.value (.func f),args:=as,argTypes:=ts })
  (hv:P9 O f=true) {S:St} (hx:∀ x∈as.toList,gu S x=true):
  ∃ oE:Option oV,(∀ E,oE=some E→E.d=d∧E.bS=[]∧mM E.v)∧∀ S',nn S S' (as.toList.flatMap aS)→∀ K,aY h O ops i S' K=oE.bind fun E=>K (E.app S'):=by
 have iB:∀ S' K,aY h O ops i S' K=gg h O o f none as.toList ts.toList S' K:=by
  intro S' K
  unfold aY
  rw[ho]
  simp only[hg]
  unfold fW
  rw[bP]
  simp only[vK _ 0 hv]
 rcases Ce (Θ:=h.bA) as.toList ts.toList (O.sig f) hv with ht |⟨l,ht⟩
 ·exact⟨none,fun E hE=>(by cases hE),fun S' _ K=>by rw[iB];unfold gg;simp only[ht];rfl⟩
 ·cases hr:reads h.bA S as.toList ts.toList l with
  |none=>exact⟨none,fun E hE=>(by cases hE),fun S' ha K=>by rw[iB];unfold gg;simp only[ht,ky _ _ _ hx ha,hr];rfl⟩
  |some args=>
   obtain⟨oR,hR⟩:=hO f (args++([]:List TV).map .tv)
   cases oR with
   |none=>
    refine⟨none,fun E hE=>(by cases hE),fun S' ha K=> ?_⟩
    rw[iB];unfold gg
    simp only[ht,ky _ _ _ hx ha,hr,pw,hR]
    rfl
   |some ret=>
    cases hrefs:ret.refs with
    |nil=>
     cases hc:(ret.res.all (fun d=>fG d.t d.m)||(([]:List TV).isEmpty&&gq S as.toList l args)) with
     |false=>
      refine⟨none,fun E hE=>(by cases hE),fun S' ha K=> ?_⟩
      rw[iB];unfold gg
      simp only[ht,ky _ _ _ hx ha,uQ _ _ _ ha,hr,pw,hR,Option.bind_some,hrefs,hc]
      rfl
     |true=>
      refine⟨some ⟨[],d,B' ret.res⟩,fun E hE=> ?_,fun S' ha K=> ?_⟩
      ·injection hE with hE
       subst hE
       exact⟨rfl,rfl,yw _⟩
      ·rw[iB];unfold gg
       simp only[ht,ky _ _ _ hx ha,uQ _ _ _ ha,hr,pw,hR,Option.bind_some,hrefs,hd,hc]
       rfl
    |cons _ _=>
     refine⟨none,fun E hE=>(by cases hE),fun S' ha K=> ?_⟩
     rw[iB];unfold gg
     simp only[ht,ky _ _ _ hx ha,hr,pw,hR,Option.bind_some,hrefs]
     rfl
def VD (a:AV):Prop:=(∃ b,a=.v b [])∨a=.dead
def OR (S:St):Operand→Prop
 | .tmp i=>VD (S.at i)
 | .const _=>True
 |_=>False
theorem Mi {S:St} {x:Operand} (h:gu S x=true):OR S x:=by
 cases x with
 |tmp i=>
  simp only[gu] at h
  split at h
  ·rename_i a ha;exact .inl ⟨a,ha⟩
  ·cases h
 |const c=>trivial
 |func f=>simp[gu] at h
 |global g=>simp[gu] at h
theorem Cf {S:St} {x:Operand} (hx:OR S x) (T:TypeId):∃ oB:Option (TV×List Nat),(∀ b ks,oB=some (b,ks)→ks.Nodup∧∀ r∈ks,r∈aS x∧∃ a,S.at r=.v a [])∧∀ S',nn S S' (aS x)→S'.take Θ T x=oB.map fun q=>(q.1,bJ q.2 S'):=by
 cases x with
 |tmp i=>
  rcases hx with⟨a,ha⟩ |ha
  ·cases hk:a.m.bQ with
   |true=>
    refine⟨some (a,[]),fun b ks e=> ?_,fun S' hs=> ?_⟩
    ·injection e with e
     injection e with _ e
     subst e
     exact⟨List.nodup_nil,fun r hr=>by cases hr⟩
    ·have h2:=(hs i (by simp[aS])).trans ha
     unfold St.take
     simp[St.dn,h2,St.db,hk,bJ]
   |false=>
    refine⟨some (a,[i]),fun b ks e=> ?_,fun S' hs=> ?_⟩
    ·injection e with e
     injection e with _ e
     subst e
     refine⟨by simp,fun r hr=> ?_⟩
     simp only[List.mem_singleton] at hr
     subst hr
     exact⟨by simp[aS],a,ha⟩
    ·have h2:=(hs i (by simp[aS])).trans ha
     unfold St.take
     simp[St.dn,h2,St.db,hk,bJ]
  ·refine⟨none,fun b ks e=>(by cases e),fun S' hs=> ?_⟩
   have h2:=(hs i (by simp[aS])).trans ha
   unfold St.take
   simp[St.dn,h2,St.db]
 |const c=>
  cases hc:mj Θ T c with
  |none=>exact⟨none,fun b ks e=>(by cases e),fun S' ha=>(by unfold St.take;simp[St.dn,hc])⟩
  |some a=>
   refine⟨some (a,[]),fun b ks e=> ?_,fun S' ha=> ?_⟩
   ·injection e with e
    injection e with _ e
    subst e
    exact⟨List.nodup_nil,fun r hr=>by cases hr⟩
   ·unfold St.take
    simp only[St.dn,hc,St.db]
    cases a.m.bQ<;>simp[bJ]
 |func f=>exact hx.elim
 |global g=>exact hx.elim
theorem Gh {S:St} {x:Operand} (hx:gu S x=true) (T:TypeId):∃ oB:Option (TV×List Nat),(∀ b ks,oB=some (b,ks)→ks.Nodup∧∀ r∈ks,r∈aS x)∧∀ S',nn S S' (aS x)→S'.take Θ T x=oB.map fun q=>(q.1,bJ q.2 S'):=by
 obtain⟨oB,h1,h2⟩:=Cf (Θ:=Θ) (Mi hx) T
 exact⟨oB,fun b ks e=>⟨(h1 b ks e).1,fun r hr=>((h1 b ks e).2 r hr).1⟩,h2⟩
theorem uR {S:St} {i j:Nat} {a:TV} (h:S.at j=.v a []) (xz:j≠i):(S.put (some i) .dead).at j=.v a []:=by
 rw[cU,if_neg (fun e=>xz e.1),h]
 simp[AV.refs]
theorem Cg {S:St} {i:Nat} {a:TV} (h:S.at i=.v a []):(S.put (some i) .dead).at i=.dead:=by
 have hl:i<S.length:=by
  rcases Nat.lt_or_ge i S.length with hl |hl
  ·exact hl
  ·unfold St.at at h
   rw[List.getD_eq_getElem?_getD,List.getElem?_eq_none hl] at h
   cases h
 rw[cU,if_pos ⟨rfl,hl⟩]
 simp[AV.refs]
theorem J9 {ks:List Nat} {S:St} {j:Nat} {a:TV} (h:S.at j=.v a []) (hj:j∉ks):(bJ ks S).at j=.v a []:=by
 induction ks generalizing S with
 |nil=>exact h
 |cons x r ih=>exact ih (uR h (fun e=>hj (by simp[e]))) (fun e=>hj (by simp[e]))
theorem OS {ks:List Nat} {S S':St} {y:Operand} (hy:gu S y=true) (ha:nn S S' (aS y)) (hn:∀ r∈aS y,r∉ks):nn S (bJ ks S') (aS y):=by
 intro r hr
 cases y with
 |tmp j=>
  simp only[aS,List.mem_singleton] at hr
  subst hr
  rcases pC (Θ:=[]) hy 0 with⟨i,a,e,h1,_⟩ |⟨c,e⟩
  ·injection e with e
   subst e
   rw[h1]
   exact J9 ((ha r (by simp[aS])).trans h1) (hn r (by simp[aS]))
  ·cases e
 |const c=>simp[aS] at hr
 |func f=>simp[aS] at hr
 |global g=>simp[aS] at hr
theorem J' {ks:List Nat} {S:St} {j:Nat} {a:TV} (h:S.at j=.v a []) (hj:j∈ks):(bJ ks S).at j=.dead:=by
 have dead:∀ (ks:List Nat) (S:St),S.at j=.dead→(bJ ks S).at j=.dead:=by
  intro ks
  induction ks with
  |nil=>intro S h;exact h
  |cons x r ih=>
   intro S h
   refine ih _ ?_
   rw[cU]
   split
   ·simp[AV.refs]
   ·rw[h];simp[AV.refs]
 induction ks generalizing S with
 |nil=>cases hj
 |cons x r ih=>
  by_cases hx:j=x
  ·subst hx
   exact dead r _ (Cg h)
  ·exact ih (uR h hx) (by rcases List.mem_cons.1 hj with e |e;exact absurd e hx;exact e)
theorem vL (a b:List Nat) (S:St):bJ (a++b) S=bJ b (bJ a S):=by
 induction a generalizing S with
 |nil=>rfl
 |cons x r ih=>exact ih _
theorem Ka {S:St} {d:Nat} {x y:Operand} {T T':TypeId} (hx:gu S x=true) (hy:gu S y=true):
  ∃ oG:Option (Bool×oV),(∀ g E,oG=some (g,E)→E.d=d∧mM E.v∧E.bS.Nodup∧∀ r∈E.bS,r∈aS x++aS y)∧∀ S',nn S S' (aS x++aS y)→b7 Θ S' (some d) [T,T'] [x,y]=oG.map fun q=>(q.1,q.2.app S'):=by
 obtain⟨oB,hB1,hB2⟩:=Gh (Θ:=Θ) hx T
 have Mj:∀ {S':St},nn S S' (aS x++aS y)→nn S S' (aS x):=fun ha r hr=>ha r (by simp[hr])
 have hay:∀ {S':St},nn S S' (aS x++aS y)→nn S S' (aS y):=fun ha r hr=>ha r (by simp[hr])
 cases oB with
 |none=>exact⟨none,fun g E e=>(by cases e),fun S' ha=>by unfold b7;simp only[hB2 S' (Mj ha)];rfl⟩
 |some q=>
  obtain⟨b,ks⟩:=q
  obtain⟨Ch,vJ⟩:=hB1 b ks rfl
  -- is the second gone?
  by_cases X8:∃ r∈aS y,r∈ks
  ·obtain⟨r,hr,hrk⟩:=X8
   cases y with
   |const c=>simp[aS] at hr
   |func f=>simp[aS] at hr
   |global g=>simp[aS] at hr
   |tmp j=>
    simp only[aS,List.mem_singleton] at hr
    subst hr
    refine⟨none,fun g E e=>(by cases e),fun S' ha=> ?_⟩
    rcases pC (Θ:=Θ) hy 0 with⟨i,a,e,h1,_⟩ |⟨c,e⟩
    ·injection e with e
     subst e
     have oU:=J' (ks:=ks) ((ha r (by simp[aS])).trans h1) hrk
     unfold b7
     simp only[hB2 S' (Mj ha),Option.map_some]
     have Mk:(bJ ks S').rd Θ T' (.tmp r)=none:=by unfold St.rd;simp only[St.dn,oU,St.qF]
     have Gi:(bJ ks S').take Θ T' (.tmp r)=none:=by unfold St.take;simp only[St.dn,oU,St.db]
     split
     ·rename_i t e1 tg me xs S1 i heq hf
      simp only[Option.some.injEq,Prod.mk.injEq] at heq
      obtain⟨rfl,rfl⟩:=heq
      simp only[Mk,Gi,cond_false]
      cases me.bQ<;>cases (decide (i.ty=t.sl)&&Nat.beq i.e e1&&Θ.is T' t.sl)<;>rfl
     ·rfl
    ·cases e
  ·have hn:∀ r∈aS y,r∉ks:=fun r hr hk=>X8 ⟨r,hr,hk⟩
   obtain⟨oC,hC1,hC2⟩:=Gh (Θ:=Θ) hy T'
   cases hf:Θ.find T with
   |none=>exact⟨none,fun g E e=>(by cases e),fun S' ha=>by unfold b7;simp only[hB2 S' (Mj ha),hf];split<;>simp_all⟩
   |some ti=>
   by_cases vM:∃ (t:Ty) (e1:TypeId) (tg:Option Nat) (me:Md) (xs:List t.I),b=⟨.sl t,.o e1 tg me,xs⟩
   rotate_left
   ·refine⟨none,fun g E e=>(by cases e),fun S' ha=> ?_⟩
    unfold b7
    simp only[hB2 S' (Mj ha),hf,Option.map_some]
    split
    ·rename_i t e1 tg me xs S1 i heq ajU
     simp only[Option.some.injEq,Prod.mk.injEq] at heq
     exact absurd ⟨t,e1,tg,me,xs,heq.1⟩ vM
    ·rfl
   obtain⟨t,e1,tg,me,xs,rfl⟩:=vM
   have hS:∀ S',nn S S' (aS x++aS y)→nn S (bJ ks S') (aS y):=fun S' ha=>OS hy (hay ha) hn
   cases hc:(decide (ti.ty=.sl t)&&Nat.beq ti.e e1&&Θ.is T' (.sl t)) with
   |false=>exact⟨none,fun g E e=>(by cases e),fun S' ha=>by unfold b7;simp only[hB2 S' (Mj ha),hf,Option.map_some,hc,cond_false];rfl⟩
   |true=>
   cases hk:me.bQ with
   |true=>
    have xJ:∀ S',nn S S' (aS x++aS y)→b7 Θ S' (some d) [T,T'] [x,y]=(match S.rd Θ T' y with
     |some ⟨.sl t',m',ys⟩=>bif m'.B8.bQ then(if h:t'=t then
       some (decide ((xs.length+ys.length)*t.size≤4398046511104),(bJ ks S').put (some d) (.v ⟨.sl t,.o e1 none me,xs++(h▸ys)⟩ [])) else none) else none
     |_=>none):=fun S' ha=>by
     unfold b7
     simp only[hB2 S' (Mj ha),hf,Option.map_some,hc,cond_true,hk,Ds hy (hS S' ha)]
     rfl
    cases hr:S.rd Θ T' y with
    |none=>exact⟨none,fun g E e=>(by cases e),fun S' ha=>by rw[xJ S' ha,hr];rfl⟩
    |some c=>
     by_cases Wt:∃ (m':Md) (ys:List t.I),c=⟨.sl t,m',ys⟩∧m'.B8.bQ=true
     ·obtain⟨m',ys,rfl,hm⟩:=Wt
      refine⟨some (decide ((List.length xs+List.length ys)*t.size≤4398046511104),⟨ks,d,.v ⟨.sl t,.o e1 none me,xs++ys⟩ []⟩),fun g E e=> ?_,fun S' ha=> ?_⟩
      rotate_left
      ·rw[xJ S' ha,hr]
       simp only[hm,cond_true,dite_true,Option.map_some,oV.app]
      ·injection e with e
       injection e with _ e
       subst e
       exact⟨rfl,fun _=>rfl,Ch,fun r hr=>by simp[vJ r hr]⟩
     ·refine⟨none,fun g E e=>(by cases e),fun S' ha=> ?_⟩
      rw[xJ S' ha,hr]
      split
      ·rename_i t' m' ys heq
       injection heq with heq
       subst heq
       cases hm:m'.B8.bQ with
       |false=>rfl
       |true=>
        simp only[cond_true]
        by_cases ht:t'=t
        ·subst ht
         exact absurd ⟨m',ys,rfl,hm⟩ Wt
        ·rw[dif_neg ht];rfl
      ·rfl
   |false=>
    have xJ:∀ S',nn S S' (aS x++aS y)→b7 Θ S' (some d) [T,T'] [x,y]=(match oC.map (fun q=>(q.1,bJ q.2 (bJ ks S'))) with
     |some (⟨.sl t',m',ys⟩,S2)=>if h:t'=t then
       (if m'.B8=me then some (decide ((xs.length+ys.length)*t.size≤4398046511104),S2.put (some d) (.v ⟨.sl t,.o e1 none me,xs++(h▸ys)⟩ [])) else none) else none
     |_=>none):=fun S' ha=>by
     unfold b7
     simp only[hB2 S' (Mj ha),hf,Option.map_some,hc,cond_true,cond_false,hk,hC2 _ (hS S' ha)]
     rfl
    cases oC with
    |none=>exact⟨none,fun g E e=>(by cases e),fun S' ha=>by rw[xJ S' ha];rfl⟩
    |some c=>
     obtain⟨c,X9⟩:=c
     obtain⟨Qh,Qi⟩:=hC1 c X9 rfl
     by_cases Wt:∃ (m':Md) (ys:List t.I),c=⟨.sl t,m',ys⟩∧m'.B8=me
     ·obtain⟨m',ys,rfl,hm⟩:=Wt
      refine⟨some (decide ((List.length xs+List.length ys)*t.size≤4398046511104),⟨ks++X9,d,.v ⟨.sl t,.o e1 none me,xs++ys⟩ []⟩),fun g E e=> ?_,fun S' ha=> ?_⟩
      rotate_left
      ·rw[xJ S' ha]
       simp only[Option.map_some,dite_true,hm,if_true,oV.app,vL]
      ·injection e with e
       injection e with _ e
       subst e
       refine⟨rfl,fun _=>rfl,List.nodup_append.2 ⟨Ch,Qh,fun a ha b hb e=>by subst e;exact hn a (Qi a hb) ha⟩,fun r hr=> ?_⟩
       rcases List.mem_append.1 hr with hr |hr
       ·simp[vJ r hr]
       ·simp[Qi r hr]
     ·refine⟨none,fun g E e=>(by cases e),fun S' ha=> ?_⟩
      rw[xJ S' ha]
      simp only[Option.map_some]
      split
      ·rename_i t' m' ys S2 heq
       injection heq with heq
       injection heq with heq _
       by_cases ht:t'=t
       ·subst ht
        by_cases hm:m'.B8=me
        ·exact absurd ⟨m',ys,heq,hm⟩ Wt
        ·rw[dif_pos rfl,if_neg hm];rfl
       ·rw[dif_neg ht];rfl
      ·rfl
theorem vN (ks:List Nat) (S:St):(bJ ks S).length=S.length:=by
 induction ks generalizing S with
 |nil=>rfl
 |cons x r ih=>simp only[bJ,ih,bB]
theorem rV:∀ (ks:List Nat) (S:St),ks.Nodup→(∀ x∈ks,∃ a,S.at x=.v a [])→∀ i,(bJ ks S).at i=if i∈ks then .dead else bif ks.any (S.at i).refs then .dead else S.at i
 |[],S,_,_,i=>by simp[bJ]
 |x::r,S,hn,hv,i=>by
  obtain⟨a,ha⟩:=hv x (by simp)
  simp only[List.nodup_cons] at hn
  have hv':∀ y∈r,∃ b,(S.put (some x) .dead).at y=.v b []:=fun y hy=>by
   obtain⟨b,hb⟩:=hv y (by simp[hy])
   exact⟨b,uR hb (fun e=>hn.1 (by rw[←e];exact hy))⟩
  simp only[bJ]
  rw[rV r _ hn.2 hv' i]
  by_cases hir:i∈r
  ·simp[hir]
  ·by_cases hix:i=x
   ·subst hix
    simp only[hir,if_false,Cg ha,List.mem_cons,true_or,if_true]
    simp[AV.refs]
   ·simp only[hir,if_false,List.mem_cons,hix,or_self]
    rw[cU,if_neg (fun e=>hix e.1),ha]
    simp only[AV.sY,Bool.and_true,List.any_cons]
    cases hr:(S.at i).refs x<;>simp[AV.refs]
structure oV.In (E:oV) (S:St):Prop where
 nd:E.bS.Nodup
 cy:∀ x∈E.bS,∃ a,S.at x=.v a []
 slot:(S.at E.d).sY=false
 lt:E.d<S.length
 refs:mM E.v
 out:E.d∉E.bS
theorem oV.Dt (E:oV) (S:St):(E.app S).length=S.length:=by unfold oV.app;rw[bB,vN]
theorem oV.pD {E:oV} {S:St} (h:E.In S) (i:Nat):(E.app S).at i=if i=E.d then E.v else if i∈E.bS then .dead else bif E.bS.any (S.at i).refs then .dead else S.at i:=by
 unfold oV.app
 have hd:((bJ E.bS S).at E.d).sY=false:=by
  rw[rV _ _ h.nd h.cy]
  split
  ·rfl
  ·cases E.bS.any (S.at E.d).refs with
   |true=>rfl
   |false=>exact h.slot
 rw[cU,vN,hd]
 by_cases hi:i=E.d
 ·rw[if_pos ⟨hi,h.lt⟩,if_pos hi,h.refs]
  rfl
 ·rw[if_neg (fun e=>hi e.1),if_neg hi]
  simp only[Bool.and_false,cond_false]
  exact rV _ _ h.nd h.cy i
theorem jH {S S':St} (hl:S.length=S'.length) (h:∀ i,S.at i=S'.at i):S=S':=by
 apply List.ext_getElem hl
 intro i h1 h2
 have:=h i
 unfold St.at at this
 rw[List.getD_eq_getElem?_getD,List.getD_eq_getElem?_getD,List.getElem?_eq_getElem h1,List.getElem?_eq_getElem h2] at this
 exact this
theorem oV.comm {E F:oV} {S:St} (hE:E.In S) (hF:F.In S) (hd:E.d≠F.d) (h1:E.d∉F.bS) (h2:F.d∉E.bS) (hEF:E.In (F.app S)) (hFE:F.In (E.app S)):E.app (F.app S)=F.app (E.app S):=by
 refine jH (by simp[oV.Dt]) fun i=> ?_
 rw[oV.pD hEF,oV.pD hFE,oV.pD hF,oV.pD hE]
 by_cases hiE:i=E.d
 ·subst hiE
  have hv:F.bS.any E.v.refs=false:=List.any_eq_false.2 fun x _=>by rw[hE.refs];simp
  simp[hd,h1,hv]
 ·by_cases hiF:i=F.d
  ·subst hiF
   have hv:E.bS.any F.v.refs=false:=List.any_eq_false.2 fun x _=>by rw[hF.refs];simp
   simp[hiE,h2,hv]
  ·simp only[hiE,hiF,if_false]
   by_cases hkE:i∈E.bS
   ·by_cases hkF:i∈F.bS
    ·simp[hkE,hkF]
    ·have hv:F.bS.any AV.dead.refs=false:=List.any_eq_false.2 fun x _=>by simp[AV.refs]
     simp[hkE,hkF,hv]
   ·by_cases hkF:i∈F.bS
    ·have hv:E.bS.any AV.dead.refs=false:=List.any_eq_false.2 fun x _=>by simp[AV.refs]
     simp[hkE,hkF,hv]
    ·have hvE:E.bS.any AV.dead.refs=false:=List.any_eq_false.2 fun x _=>by simp[AV.refs]
     have hvF:F.bS.any AV.dead.refs=false:=List.any_eq_false.2 fun x _=>by simp[AV.refs]
     simp only[hkE,hkF,if_false]
     cases hE':E.bS.any (S.at i).refs<;>cases hF':F.bS.any (S.at i).refs<;>simp[hE',hF',hvE,hvF]
theorem Gj {S:St} {r x:Nat} (h:VD (S.at r)):(S.put (some x) .dead).at r=if r=x then .dead else S.at r:=by
 have hr:(S.at r).refs x=false:=by rcases h with⟨a,h⟩ |h<;>rw[h]<;>rfl
 rw[cU,hr]
 by_cases hx:r=x
 ·subst hx
  by_cases hl:r<S.length
  ·simp[hl,AV.refs]
  ·have:S.at r=.dead:=by unfold St.at;rw[List.getD_eq_getElem?_getD,List.getElem?_eq_none (by omega)];rfl
   simp[hl,this]
 ·simp[hx]
theorem pE:∀ (ks:List Nat) {S:St} {r:Nat},VD (S.at r)→(bJ ks S).at r=if r∈ks then .dead else S.at r
 |[],S,r,h=>by simp[bJ]
 |x::l,S,r,h=>by
  have h1:=Gj (x:=x) h
  have hv:VD ((S.put (some x) .dead).at r):=by rw[h1];split;exact .inr rfl;exact h
  simp only[bJ]
  rw[pE l hv,h1]
  by_cases hx:r=x<;>by_cases hl:r∈l<;>simp[hx,hl]
theorem Kb {S:St} {ks:List Nat} {x:Operand} (h:OR S x):OR (bJ ks S) x:=by
 cases x with
 |tmp i=>
  simp only[OR] at h ⊢
  rw[pE ks h]
  split
  ·exact .inr rfl
  ·exact h
 |const c=>trivial
 |func f=>exact h
 |global g=>exact h
theorem uS {ps:List (Nat×Operand)}:∀ (r:List TypeId) (j:Nat) {S:St},(∀ q∈ps,OR S q.2)→∃ oL:Option (List TV×List Nat),(∀ l ks,oL=some (l,ks)→ks.Nodup∧∀ x∈ks,x∈ps.flatMap (fun q=>aS q.2)∧∃ a,S.at x=.v a [])∧
  ∀ S',nn S S' (ps.flatMap fun q=>aS q.2)→S'.parts Θ ps r j=oL.map fun q=>(q.1,bJ q.2 S')
 |[],j,S,hx=>⟨some ([],[]),fun l ks e=>by
   injection e with e
   injection e with _ e
   subst e
   exact⟨List.nodup_nil,fun x hx=>by cases hx⟩,fun S' ha=>rfl⟩
 |T::r,j,S,hx=>by
  cases hf:ps.find? (fun q=>Nat.beq q.1 j) with
  |none=>
   cases hz:pj Θ T with
   |none=>exact⟨none,fun l ks e=>(by cases e),fun S' ha=>by simp only[St.parts,hf,hz];rfl⟩
   |some a=>
    obtain⟨oL,h1,h2⟩:=uS r (j+1) hx
    cases oL with
    |none=>exact⟨none,fun l ks e=>(by cases e),fun S' ha=>by simp only[St.parts,hf,hz,h2 S' ha];rfl⟩
    |some q=>
     refine⟨some (a::q.1,q.2),fun l ks e=> ?_,fun S' ha=>by simp only[St.parts,hf,hz,h2 S' ha];rfl⟩
     injection e with e
     injection e with _ e
     subst e
     exact h1 q.1 q.2 rfl
  |some q=>
   have hq:q∈ps:=List.mem_of_find?_eq_some hf
   have BM:∀ r∈aS q.2,r∈ps.flatMap fun q=>aS q.2:=fun r hr=>List.mem_flatMap.2 ⟨q,hq,hr⟩
   obtain⟨oB,b1,b2⟩:=Cf (Θ:=Θ) (hx q hq) T
   cases oB with
   |none=>exact⟨none,fun l ks e=>(by cases e),fun S' ha=>by simp only[St.parts,hf,b2 S' fun r hr=>ha r (BM r hr)];rfl⟩
   |some bk=>
    obtain⟨b,ks⟩:=bk
    obtain⟨Ch,vJ⟩:=b1 b ks rfl
    obtain⟨oL,h1,h2⟩:=uS r (j+1) (S:=bJ ks S) (fun q hq=>Kb (hx q hq))
    have Kc:∀ S',nn S S' (ps.flatMap fun q=>aS q.2)→nn (bJ ks S) (bJ ks S') (ps.flatMap fun q=>aS q.2):=fun S' ha r hr=>by
     obtain⟨q',q8,uT⟩:=List.mem_flatMap.1 hr
     have hv:VD (S.at r):=by
      have:=hx q' q8
      cases Ci:q'.2 with
      |tmp i=>
       rw[Ci] at this uT
       simp only[aS,List.mem_singleton] at uT
       subst uT
       exact this
      |const c=>rw[Ci] at uT;simp[aS] at uT
      |func f=>rw[Ci] at uT;simp[aS] at uT
      |global g=>rw[Ci] at uT;simp[aS] at uT
     rw[pE ks hv,pE ks (by rw[ha r hr];exact hv),ha r hr]
    cases oL with
    |none=>exact⟨none,fun l ks e=>(by cases e),fun S' ha=>by simp only[St.parts,hf,b2 S' fun r hr=>ha r (BM r hr),Option.map_some,h2 _ (Kc S' ha)];rfl⟩
    |some lk=>
     obtain⟨l,X9⟩:=lk
     obtain⟨Qh,Qi⟩:=h1 l X9 rfl
     refine⟨some (b::l,ks++X9),fun l' ks' e=> ?_,fun S' ha=>by simp only[St.parts,hf,b2 S' fun r hr=>ha r (BM r hr),Option.map_some,h2 _ (Kc S' ha),vL]⟩
     injection e with e
     injection e with _ e
     subst e
     have Wc:∀ x∈X9,x∉ks∧∃ a,S.at x=.v a []:=fun x nf=>by
      obtain⟨m1,a,m2⟩:=Qi x nf
      have hv:VD (S.at x):=by
       obtain⟨q',q8,uT⟩:=List.mem_flatMap.1 m1
       have:=hx q' q8
       cases Ci:q'.2 with
       |tmp i=>
        rw[Ci] at this uT
        simp only[aS,List.mem_singleton] at uT
        subst uT
        exact this
       |const c=>rw[Ci] at uT;simp[aS] at uT
       |func f=>rw[Ci] at uT;simp[aS] at uT
       |global g=>rw[Ci] at uT;simp[aS] at uT
      rw[pE ks hv] at m2
      by_cases hk:x∈ks
      ·rw[if_pos hk] at m2;cases m2
      ·rw[if_neg hk] at m2;exact⟨hk,a,m2⟩
     refine⟨List.nodup_append.2 ⟨Ch,Qh,fun a ha b hb e=>by subst e;exact(Wc a hb).1 ha⟩,fun x nf=> ?_⟩
     rcases List.mem_append.1 nf with nf |nf
     ·exact⟨BM x (vJ x nf).1,(vJ x nf).2⟩
     ·exact⟨(Qi x nf).1,(Wc x nf).2⟩
theorem OU {S:St} {d:Nat} {T:TypeId} {n:Nat} {hn:Hn} {ps:List (Nat×Operand)} (hx:∀ q∈ps,gu S q.2=true):
  ∃ oG:Option (Bool×oV),(∀ g E,oG=some (g,E)→E.d=d∧mM E.v∧E.bS.Nodup∧∀ r∈E.bS,r∈ps.flatMap fun q=>aS q.2)∧∀ S',nn S S' (ps.flatMap fun q=>aS q.2)→bF Θ hn S' (some d) T n ps=oG.map fun q=>(q.1,q.2.app S'):=by
 cases hf:Θ.find T with
 |none=>exact⟨none,fun g E e=>(by cases e),fun S' ha=>by unfold bF;simp only[hf];rfl⟩
 |some i=>
  by_cases vM:∃ t,i.ty=.sl t
  rotate_left
  ·refine⟨none,fun g E e=>(by cases e),fun S' ha=> ?_⟩
   unfold bF
   simp only[hf]
   split
   ·rename_i heq
    injection heq with heq
    subst heq
    exact absurd ⟨_,rfl⟩ vM
   ·rfl
  obtain⟨t,ht⟩:=vM
  obtain⟨q1,ty,e,q4⟩:=i
  simp only at ht
  subst ht
  obtain⟨oL,l1,l2⟩:=uS (Θ:=Θ) (List.replicate n e) 0 (fun q hq=>Mi (hx q hq))
  cases hc:(ja n ps&&Nat.ble n 1800) with
  |false=>exact⟨none,fun g E e=>(by cases e),fun S' ha=>by unfold bF;simp only[hf,hc,cond_false];rfl⟩
  |true=>
   cases oL with
   |none=>exact⟨none,fun g E e=>(by cases e),fun S' ha=>by unfold bF;simp only[hf,hc,cond_true,l2 S' ha];rfl⟩
   |some q=>
    obtain⟨l,ks⟩:=q
    obtain⟨Ch,vJ⟩:=l1 l ks rfl
    cases l with
    |nil=>
     refine⟨some (true,⟨ks,d,.v ⟨.sl t,bif hn.OM (some d) then .k else .o e none (hn.find (some d) .k),[]⟩ []⟩),fun g E e=> ?_,fun S' ha=>by unfold bF;simp only[hf,hc,cond_true,l2 S' ha];rfl⟩
     injection e with e
     injection e with _ e
     subst e
     exact⟨rfl,fun _=>rfl,Ch,fun r hr=>(vJ r hr).1⟩
    |cons a l=>
     cases hl:pk t a.m (a::l) with
     |none=>exact⟨none,fun g E e=>(by cases e),fun S' ha=>by unfold bF;simp only[hf,hc,cond_true,l2 S' ha,Option.map_some,hl];rfl⟩
     |some xs=>
      refine⟨some (true,⟨ks,d,.v ⟨.sl t,bif hn.OM (some d)&&a.m.bQ then .k else .o e none a.m,xs⟩ []⟩),fun g E e=> ?_,fun S' ha=>by unfold bF;simp only[hf,hc,cond_true,l2 S' ha,Option.map_some,hl];rfl⟩
      injection e with e
      injection e with _ e
      subst e
      exact⟨rfl,fun _=>rfl,Ch,fun r hr=>(vJ r hr).1⟩
theorem Ke {S:St} {x:Operand} (h:J0 S x=true):gu S x=true:=by
 cases x with
 |tmp i=>
  simp only[J0] at h
  simp only[gu]
  split at h
  ·rename_i ha;rw[ha]
  ·cases h
 |const c=>rfl
 |func f=>exact h
 |global g=>exact h
theorem yx {S S':St} {d:Int} {x:Option Operand} (h:vI S x=true) (ha:nn S S' (eI x)):gf Θ S' d x=gf Θ S d x:=by
 cases x with
 |none=>rfl
 |some x=>
  simp only[gf,St.jP,Ds h ha]
theorem Wu {S:St} {d:Nat} {T:TypeId} {x:Operand} {lo hi:Option Operand} (hx:J0 S x=true) (Qj:vI S lo=true) (BN:vI S hi=true):
  ∃ o:Option (Bool×TV),∀ S',nn S S' (aS x++(eI lo++eI hi))→dM Θ S' (some d) T x lo hi none=o.map fun q=>(q.1,S'.put (some d) (.v q.2 [])):=by
 have ag:∀ {S':St},nn S S' (aS x++(eI lo++eI hi))→S'.dn Θ 0 x=S.dn Θ 0 x∧S'.rd Θ 0 x=S.rd Θ 0 x∧gf Θ S' 0 lo=gf Θ S 0 lo∧∀ n,gf Θ S' n hi=gf Θ S n hi:=fun ha=>
  ⟨xI (fun r hr=>ha r (by simp[hr])) 0,Ds (Ke hx) (fun r hr=>ha r (by simp[hr])) 0,yx Qj fun r hr=>ha r (by simp[hr]),fun n=>yx BN fun r hr=>ha r (by simp[hr])⟩
 have dh:(∃ t y,S.dn Θ 0 x=some (.v ⟨t,.k,y⟩ [])∧S.rd Θ 0 x=some ⟨t,.k,y⟩)∨∃ c,x=.const c:=by
  cases x with
  |tmp i=>
   simp only[J0] at hx
   split at hx
   ·rename_i t y ha
    exact .inl ⟨t,y,by simp[St.dn,ha],by simp[St.rd,St.dn,ha,St.qF]⟩
   ·cases hx
  |const c=>exact .inr ⟨c,rfl⟩
  |func f=>simp[J0] at hx
  |global g=>simp[J0] at hx
 have gY:(∃ a,S.dn Θ 0 x=some (.v a [])∧S.rd Θ 0 x=some a∧(a.m=.k∨∃ c,x=.const c))∨S.dn Θ 0 x=none:=by
  rcases dh with⟨t,y,h1,h2⟩ |⟨c,rfl⟩
  ·exact .inl ⟨_,h1,h2,.inl rfl⟩
  ·simp only[St.rd,St.dn]
   cases mj Θ 0 c with
   |none=>exact .inr rfl
   |some a=>exact .inl ⟨a,rfl,rfl,.inr ⟨c,rfl⟩⟩
 rcases gY with⟨a,h1,h2,hm⟩ |h1
 rotate_left
 ·exact⟨none,fun S' ha=>by unfold dM;rw[(ag ha).1,h1];rfl⟩
 cases hl:gf Θ S 0 lo with
 |none=>
  refine⟨none,fun S' ha=> ?_⟩
  obtain⟨e1,e2,e3,e4⟩:=ag ha
  unfold dM
  rw[e1,e2,e3,h1,h2,hl]
  obtain⟨t,m,y⟩:=a
  cases t<;>rfl
 |some l=>
  obtain⟨t,m,y⟩:=a
  have ajR:(∀ S',dM Θ S' (some d) T x lo hi none=none)→∃ o:Option (Bool×TV),∀ S',nn S S' (aS x++(eI lo++eI hi))→dM Θ S' (some d) T x lo hi none=o.map fun q=>(q.1,S'.put (some d) (.v q.2 [])):=fun h=>⟨none,fun S' _=>h S'⟩
  cases t with
  |str=>
   cases hh:gf Θ S (ByteArray.size y:Int) hi with
   |none=>
    refine⟨none,fun S' ha=> ?_⟩
    obtain⟨e1,e2,e3,e4⟩:=ag ha
    unfold dM
    rw[e1,e2,e3,h1,h2,hl]
    simp only[e4,hh]
    rfl
   |some h'=>
    cases hT:Θ.is T .str with
    |false=>
     refine⟨none,fun S' ha=> ?_⟩
     obtain⟨e1,e2,e3,e4⟩:=ag ha
     unfold dM
     rw[e1,e2,e3,h1,h2,hl]
     simp only[e4,hh,hT]
     rfl
    |true=>
     refine⟨some (decide (0≤l)&&decide (l≤h')&&decide (h'≤(ByteArray.size y:Int)),⟨.str,.k,ByteArray.extract y l.toNat h'.toNat⟩),fun S' ha=> ?_⟩
     obtain⟨e1,e2,e3,e4⟩:=ag ha
     unfold dM
     rw[e1,e2,e3,h1,h2,hl]
     simp only[e4,hh,hT]
     rfl
  |sl t=>
   cases hT:Θ.is T (.sl t) with
   |false=>
    refine⟨none,fun S' ha=> ?_⟩
    obtain⟨e1,e2,e3,e4⟩:=ag ha
    unfold dM
    rw[e1,e2,e3,h1,h2,hl]
    simp only[hT]
    rfl
   |true=>
    cases hh:gf Θ S (List.length y:Int) hi with
    |none=>
     refine⟨none,fun S' ha=> ?_⟩
     obtain⟨e1,e2,e3,e4⟩:=ag ha
     unfold dM
     rw[e1,e2,e3,h1,h2,hl]
     simp only[hT,e4,hh]
     rfl
    |some h'=>
     by_cases hk:m=.k
     ·subst hk
      refine⟨some (decide (0≤l)&&decide (l≤h')&&decide (h'≤(List.length y:Int)),⟨.sl t,.k,(List.take h'.toNat y).drop l.toNat⟩),fun S' ha=> ?_⟩
      obtain⟨e1,e2,e3,e4⟩:=ag ha
      unfold dM
      rw[e1,e2,e3,h1,h2,hl]
      simp only[hT,e4,hh]
      rfl
     ·obtain⟨c,rfl⟩:=hm.resolve_left hk
      refine⟨none,fun S' ha=> ?_⟩
      obtain⟨e1,e2,e3,e4⟩:=ag ha
      unfold dM
      rw[e1,e2,e3,h1,h2,hl]
      simp only[hT,e4,hh,cond_true]
      cases m<;>first |exact absurd rfl hk |rfl
  |_=>
   refine⟨none,fun S' ha=> ?_⟩
   obtain⟨e1,e2,e3,e4⟩:=ag ha
   unfold dM
   rw[e1,e2,e3,h1,h2,hl]
   rfl
theorem OV {S:St} {d:Nat} {T:TypeId} {x ix:Operand} (hx:J0 S x=true) (hix:gu S ix=true):
  ∃ o:Option (Bool×TV),∀ S',nn S S' (aS x++aS ix)→b6 Θ S' (some d) T x ix=o.map fun q=>(q.1,S'.put (some d) (.v q.2 [])):=by
 have ag:∀ {S':St},nn S S' (aS x++aS ix)→S'.dn Θ 0 x=S.dn Θ 0 x∧S'.jP Θ ix=S.jP Θ ix:=fun ha=>
  ⟨xI (fun r hr=>ha r (by simp[hr])) 0,by unfold St.jP;rw[Ds hix (fun r hr=>ha r (by simp[hr])) 0]⟩
 have gY:(∃ a,S.dn Θ 0 x=some (.v a [])∧(a.m=.k∨∃ c,x=.const c))∨S.dn Θ 0 x=none:=by
  cases x with
  |tmp i=>
   simp only[J0] at hx
   split at hx
   ·rename_i t y ha
    exact .inl ⟨⟨t,.k,y⟩,by simp[St.dn,ha],.inl rfl⟩
   ·cases hx
  |const c=>
   simp only[St.dn]
   cases mj Θ 0 c with
   |none=>exact .inr rfl
   |some a=>exact .inl ⟨a,rfl,.inr ⟨c,rfl⟩⟩
  |func f=>simp[J0] at hx
  |global g=>simp[J0] at hx
 rcases gY with⟨a,h1,hm⟩ |h1
 rotate_left
 ·exact⟨none,fun S' ha=>by unfold b6;rw[(ag ha).1,h1];rfl⟩
 cases hn:S.jP Θ ix with
 |none=>
  refine⟨none,fun S' ha=> ?_⟩
  obtain⟨e1,e2⟩:=ag ha
  unfold b6
  rw[e1,e2,h1,hn]
  obtain⟨t,m,y⟩:=a
  cases t<;>rfl
 |some n=>
  obtain⟨t,m,y⟩:=a
  cases t with
  |sl t=>
   cases hT:Θ.is T (.sl t) with
   |false=>
    refine⟨none,fun S' ha=> ?_⟩
    obtain⟨e1,e2⟩:=ag ha
    unfold b6
    rw[e1,e2,h1,hn]
    simp only[hT]
    rfl
   |true=>
    by_cases hk:m=.k
    ·subst hk
     refine⟨some (bw n (List.length y),⟨.ptr t,.k,List.getD y n.toNat t.z⟩),fun S' ha=> ?_⟩
     obtain⟨e1,e2⟩:=ag ha
     unfold b6
     rw[e1,e2,h1,hn]
     simp only[hT]
     rfl
    ·obtain⟨c,rfl⟩:=hm.resolve_left hk
     refine⟨none,fun S' ha=> ?_⟩
     obtain⟨e1,e2⟩:=ag ha
     unfold b6
     rw[e1,e2,h1,hn]
     simp only[hT,cond_true]
     cases m<;>first |exact absurd rfl hk |rfl
  |_=>
   refine⟨none,fun S' ha=> ?_⟩
   obtain⟨e1,e2⟩:=ag ha
   unfold b6
   rw[e1,e2,h1,hn]
   rfl
theorem tc {S:St} {o:Oper} (hg:iz O ops S o=true):o.guard=none∧∃ d,o.dst=some d∧(S.at d).sY=false∧d<S.length:=by
 unfold iz at hg
 simp only[Bool.and_eq_true] at hg
 obtain⟨⟨h1,h2⟩,_⟩:=hg
 refine⟨?_, ?_⟩
 ·split at h1
  ·assumption
  ·cases h1
 ·split at h2
  ·rename_i d hd
   simp only[Bool.and_eq_true,Bool.not_eq_true'] at h2
   exact⟨d,hd,h2.1,Nat.lt_of_lt_of_le (Nat.lt_succ_self _) (Nat.le_of_ble_eq_true h2.2)⟩
  ·cases h2
theorem gJ {S:St} {x:Operand} (h:gu S x=true):∀ r∈aS x,∃ a,S.at r=.v a []:=by
 intro r hr
 rcases pC (Θ:=[]) h 0 with⟨i,a,rfl,h1,_⟩ |⟨c,rfl⟩
 ·simp only[aS,List.mem_singleton] at hr
  subst hr
  exact⟨a,h1⟩
 ·simp[aS] at hr
theorem Du {S S':St} {Θ:cK} {dst:Option Nat}:∀ {as:List Operand} {ts:List TypeId},(∀ x∈as,gu S x=true)→nn S S' (as.flatMap aS)→fk Θ S' dst ts as=none:=by
 intro as ts bP ha
 unfold fk
 split
 ·rename_i x y T T'
  split
  ·rename_i tt s st pp dh
   exfalso
   have h1:=bP x (by simp)
   cases x with
   |tmp i=>
    have h2:=ha i (by simp[aS])
    simp only[St.dn,Option.some.injEq] at dh
    rw[h2] at dh
    simp only[gu,dh] at h1
    cases h1
   |const c=>
    simp only[St.dn] at dh
    split at dh<;>cases dh
   |func f=>simp[gu] at h1
   |global g=>simp[gu] at h1
  ·rfl
 ·rfl
theorem Ml (hO:nj O) {i:Nat} {o:Oper} (ho:ops[i]? =some o) {S:St} (hg:iz O ops S o=true) {d:Nat} (hd:o.dst=some d):
  ∃ oE:Option oV,(∀ E,oE=some E→E.d=d∧mM E.v∧E.bS.Nodup∧(∀ r∈E.bS,r∈aZ ops o)∧(iA o=true→E.bS=[]))∧∀ S',nn S S' (aZ ops o)→∀ K,aY h O ops i S' K=oE.bind fun E=>K (E.app S'):=by
 have Ya:=(tc hg).1
 have val:∀ {o':Option (Bool×TV)} {BF:St→uH},iA o=true→(∀ S' K,aY h O ops i S' K=match BF S' with
    |some (g,S1)=>bif g then K S1 else none
    |none=>none)→(∀ S',nn S S' (aZ ops o)→BF S'=o'.map fun q=>(q.1,S'.put (some d) (.v q.2 [])))→
   ∃ oE:Option oV,(∀ E,oE=some E→E.d=d∧mM E.v∧E.bS.Nodup∧(∀ r∈E.bS,r∈aZ ops o)∧(iA o=true→E.bS=[]))∧∀ S',nn S S' (aZ ops o)→∀ K,aY h O ops i S' K=oE.bind fun E=>K (E.app S'):=by
  intro o' BF hc cc xJ
  cases o' with
  |none=>exact⟨none,fun E e=>(by cases e),fun S' ha K=>by rw[cc,xJ S' ha];rfl⟩
  |some q=>
   obtain⟨g,r⟩:=q
   cases g with
   |false=>exact⟨none,fun E e=>(by cases e),fun S' ha K=>by rw[cc,xJ S' ha];rfl⟩
   |true=>
    refine⟨some ⟨[],d,.v r []⟩,fun E e=> ?_,fun S' ha K=>by rw[cc,xJ S' ha];rfl⟩
    injection e with e
    subst e
    exact⟨rfl,fun _=>rfl,List.nodup_nil,fun r hr=>(by cases hr),fun _=>rfl⟩
 unfold iz at hg
 simp only[Bool.and_eq_true] at hg
 have bP:=hg.2
 split at bP
 ·rename_i f as ts cD
  simp only[Bool.and_eq_true,List.all_eq_true] at bP
  obtain⟨oE,h1,h2⟩:=Qg (h:=h) hO ho Ya hd cD bP.1 bP.2
  have hl:aZ ops o=as.toList.flatMap aS:=by unfold aZ;rw[cD]
  refine⟨oE,fun E hE=> ?_,fun S' ha=>h2 S' (by rw[hl] at ha;exact ha)⟩
  obtain⟨e1,e2,e3⟩:=h1 E hE
  exact⟨e1,e3,by rw[e2];exact List.nodup_nil,fun r hr=>by rw[e2] at hr;(cases hr),fun _=>e2⟩
 ·rename_i as ts cD
  simp only[List.all_eq_true] at bP
  have hl:aZ ops o=as.toList.flatMap aS:=by unfold aZ;rw[cD]
  have hcb:iA o=false:=by unfold iA;rw[cD]
  have iB:∀ S' K,nn S S' (as.toList.flatMap aS)→aY h O ops i S' K=match b7 h.bA S' (some d) ts.toList as.toList with
    |some (g,S1)=>bif g then K S1 else none
    |none=>none:=by
   intro S' K ha
   unfold aY
   rw[ho]
   simp only[Ya]
   unfold fW
   rw[cD]
   simp only[ev,cD,hd]
   rcases b7 h.bA S' (some d) ts.toList as.toList with _ |⟨g,S1⟩
   ·simp only[Du bP ha]
   ·rfl
  have fin:∀ oG:Option (Bool×oV),(∀ g E,oG=some (g,E)→E.d=d∧mM E.v∧E.bS.Nodup∧∀ r∈E.bS,r∈as.toList.flatMap aS)→(∀ S',nn S S' (as.toList.flatMap aS)→b7 h.bA S' (some d) ts.toList as.toList=oG.map fun q=>(q.1,q.2.app S'))→
    ∃ oE:Option oV,(∀ E,oE=some E→E.d=d∧mM E.v∧E.bS.Nodup∧(∀ r∈E.bS,r∈aZ ops o)∧(iA o=true→E.bS=[]))∧∀ S',nn S S' (aZ ops o)→∀ K,aY h O ops i S' K=oE.bind fun E=>K (E.app S'):=by
   intro oG h1 h2
   cases oG with
   |none=>exact⟨none,fun E e=>(by cases e),fun S' ha K=>by rw[iB S' K (by rw[hl] at ha;exact ha),h2 S' (by rw[hl] at ha;exact ha)];rfl⟩
   |some q=>
    obtain⟨g,E⟩:=q
    cases g with
    |false=>exact⟨none,fun E e=>(by cases e),fun S' ha K=>by rw[iB S' K (by rw[hl] at ha;exact ha),h2 S' (by rw[hl] at ha;exact ha)];rfl⟩
    |true=>
     refine⟨some E,fun E' e=> ?_,fun S' ha K=>by rw[iB S' K (by rw[hl] at ha;exact ha),h2 S' (by rw[hl] at ha;exact ha)];rfl⟩
     injection e with e
     subst e
     obtain⟨e1,e2,e3,e4⟩:=h1 true E rfl
     exact⟨e1,e2,e3,by rw[hl];exact e4,fun hc=>by rw[hcb] at hc;cases hc⟩
  by_cases vM:∃ x y T T',as.toList=[x,y]∧ts.toList=[T,T']
  ·obtain⟨x,y,T,T',ha,ht⟩:=vM
   rw[ha] at bP
   obtain⟨oG,h1,h2⟩:=Ka (Θ:=h.bA) (d:=d) (T:=T) (T':=T') (bP x (by simp)) (bP y (by simp))
   refine fin oG ?_ ?_
   ·intro g E e
    obtain⟨e1,e2,e3,e4⟩:=h1 g E e
    exact⟨e1,e2,e3,fun r hr=>by rw[ha];simpa using e4 r hr⟩
   ·intro S' hs
    rw[ha,ht]
    exact h2 S' (by rw[ha] at hs;simpa using hs)
  ·refine fin none (fun g E e=>(by cases e)) fun S' hs=> ?_
   unfold b7
   split
   ·rename_i x y T T' ha ht
    exact absurd ⟨x,y,T,T',ha,ht⟩ vM
   ·rfl
 ·rename_i T n ps cD
  simp only[List.all_eq_true] at bP
  have hl:aZ ops o=ps.toList.flatMap fun q=>aS q.2:=by unfold aZ;rw[cD]
  have hcb:iA o=false:=by unfold iA;rw[cD]
  have iB:∀ S' K,aY h O ops i S' K=match bF h.bA h.hn S' (some d) T n ps.toList with
    |some (g,S1)=>bif g then K S1 else none
    |none=>none:=by
   intro S' K
   unfold aY
   rw[ho]
   simp only[Ya]
   unfold fW
   rw[cD]
   simp only[ev,cD,hd]
   rcases bF h.bA h.hn S' (some d) T n ps.toList with _ |⟨g,S1⟩<;>rfl
  obtain⟨oG,h1,h2⟩:=OU (Θ:=h.bA) (d:=d) (T:=T) (n:=n) (hn:=h.hn) bP
  cases oG with
  |none=>exact⟨none,fun E e=>(by cases e),fun S' ha K=>by rw[iB,h2 S' (by rw[hl] at ha;exact ha)];rfl⟩
  |some q=>
   obtain⟨g,E⟩:=q
   cases g with
   |false=>exact⟨none,fun E e=>(by cases e),fun S' ha K=>by rw[iB,h2 S' (by rw[hl] at ha;exact ha)];rfl⟩
   |true=>
    refine⟨some E,fun E' e=> ?_,fun S' ha K=>by rw[iB,h2 S' (by rw[hl] at ha;exact ha)];rfl⟩
    injection e with e
    subst e
    obtain⟨e1,e2,e3,e4⟩:=h1 true E rfl
    exact⟨e1,e2,e3,by rw[hl];exact e4,fun hc=>by rw[hcb] at hc;cases hc⟩
 ·rename_i T x cD
  split at bP
  case h_4=>cases bP
  case h_2=>
   rename_i t y hb hx
   have hl:aZ ops o=[x]:=by unfold aZ;rw[cD];simp only[hb]
   refine val (BF:=fun S'=>eW h.bA S' (some d) T (.tmp x)) (o':=(bif h.bA.is T t then some (true,⟨t,.k,y⟩) else none)) (by unfold iA;rw[cD]) (fun S' K=>by unfold aY;rw[ho];simp only[Ya];unfold fW;rw[cD];simp only[ev,cD,hd];rcases eW h.bA S' (some d) T (.tmp x) with _ |⟨g,S1⟩<;>rfl) fun S' ha=> ?_
   rw[hl] at ha
   have h1:S'.at x=.v ⟨.ptr t,.k,y⟩ []:=(ha x (by simp)).trans hx
   unfold eW
   simp only[St.dn,h1,St.rh,St.loadAt,OL.ty,JV]
   cases h.bA.is T t<;>rfl
  case h_3=>
   rename_i t T1 tg me y hb hx
   have hl:aZ ops o=[x]:=by unfold aZ;rw[cD];simp only[hb]
   split at bP
   case h_2=>cases bP
   rename_i b yy
   refine val (BF:=fun S'=>eW h.bA S' (some d) T (.tmp x)) (o':=match S.place x [.deref] with
    |some c=>bif h.bA.is T t then some (true,JV c) else none
    |none=>none) (by unfold iA;rw[cD]) (fun S' K=>by unfold aY;rw[ho];simp only[Ya];unfold fW;rw[cD];simp only[ev,cD,hd];rcases eW h.bA S' (some d) T (.tmp x) with _ |⟨g,S1⟩<;>rfl) fun S' ha=> ?_
   rw[hl] at ha
   have h1:S'.at x=.v ⟨.ptr t,.o T1 tg me,y⟩ []:=(ha x (by simp)).trans hx
   have h2:S'.ca x [.deref]=some b:=by rw[←yy];unfold St.ca;rw[ha x (by simp)]
   have h3:S'.place x [.deref]=S.place x [.deref]:=by unfold St.place;rw[ha x (by simp)]
   unfold eW
   simp only[St.dn,h1,St.rh,St.loadAt,h2,bP,cond_true,h3,OL.ty]
   cases S.place x [.deref] with
   |none=>rfl
   |some c=>simp only;cases h.bA.is T t<;>rfl
  rename_i s t s' p hb hx
  simp only[Bool.and_eq_true] at bP
  obtain⟨hs,hk⟩:=bP
  have:=Nat.eq_of_beq_eq_true hs
  subst this
  have hl:aZ ops o=[x,s']:=by unfold aZ;rw[cD];simp only[hb]
  have iB:∀ S' K,aY h O ops i S' K=match eW h.bA S' (some d) T (.tmp x) with
    |some (g,S1)=>bif g then K S1 else none
    |none=>none:=by
   intro S' K
   unfold aY
   rw[ho]
   simp only[Ya]
   unfold fW
   rw[cD]
   simp only[ev,cD,hd]
   rcases eW h.bA S' (some d) T (.tmp x) with _ |⟨g,S1⟩<;>rfl
  split at hk
  case h_2=>cases hk
  rename_i b yy
  have xJ:∀ S',nn S S' [x,s']→eW h.bA S' (some d) T (.tmp x)=match S.place s' p with
    |some c=>bif h.bA.is T t then some (true,S'.put (some d) (.v (JV c) [])) else none
    |none=>none:=by
   intro S' ha
   have h1:S'.at x=.ad t s' p:=(ha x (by simp)).trans hx
   have h2:S'.ca s' p=some b:=by rw[←yy];unfold St.ca;rw[ha s' (by simp)]
   have h3:S'.place s' p=S.place s' p:=by unfold St.place;rw[ha s' (by simp)]
   unfold eW
   simp only[St.dn,h1,St.rh,St.loadAt,h2,hk,cond_true,h3]
   cases S.place s' p<;>rfl
  cases hp:S.place s' p with
  |none=>exact⟨none,fun E e=>(by cases e),fun S' ha K=>by rw[iB,xJ S' (by rw[hl] at ha;exact ha),hp];rfl⟩
  |some c=>
   cases hT:h.bA.is T t with
   |false=>exact⟨none,fun E e=>(by cases e),fun S' ha K=>by rw[iB,xJ S' (by rw[hl] at ha;exact ha),hp];simp only[hT];rfl⟩
   |true=>
    refine⟨some ⟨[],d,.v (JV c) []⟩,fun E e=> ?_,fun S' ha K=>by rw[iB,xJ S' (by rw[hl] at ha;exact ha),hp];simp only[hT];rfl⟩
    injection e with e
    subst e
    exact⟨rfl,fun _=>rfl,List.nodup_nil,fun r hr=>(by cases hr),fun _=>rfl⟩
 ·rename_i T x lo hi cD
  simp only[Bool.and_eq_true] at bP
  obtain⟨o',h1⟩:=Wu (Θ:=h.bA) (d:=d) (T:=T) bP.1 bP.2.1 bP.2.2
  have hl:aZ ops o=aS x++(eI lo++eI hi):=by unfold aZ;rw[cD]
  exact val (o':=o') (by unfold iA;rw[cD]) (fun S' K=>by unfold aY;rw[ho];simp only[Ya];unfold fW;rw[cD];simp only[ev,cD,hd];rcases dM h.bA S' (some d) T x lo hi none with _ |⟨g,S1⟩<;>rfl) fun S' ha=>h1 S' (by rw[hl] at ha;exact ha)
 ·rename_i T x ix cD
  simp only[Bool.and_eq_true] at bP
  obtain⟨o',h1⟩:=OV (Θ:=h.bA) (d:=d) (T:=T) bP.1 bP.2
  have hl:aZ ops o=aS x++aS ix:=by unfold aZ;rw[cD]
  exact val (o':=o') (by unfold iA;rw[cD]) (fun S' K=>by unfold aY;rw[ho];simp only[Ya];unfold fW;rw[cD];simp only[ev,cD,hd];rcases b6 h.bA S' (some d) T x ix with _ |⟨g,S1⟩<;>rfl) fun S' ha=>h1 S' (by rw[hl] at ha;exact ha)
 ·cases bP
theorem uU {S:St} {o:Oper} (hg:iz O ops S o=true):(iA o=true∨∀ r∈aZ ops o,∃ a,S.at r=.v a [])∧∀ r∈aZ ops o,S.at r≠ .dead∧∀ x,(S.at r).refs x=true→x∈aZ ops o:=by
 have key:(∀ r∈aZ ops o,∃ a,S.at r=.v a [])→(iA o=true∨∀ r∈aZ ops o,∃ a,S.at r=.v a [])∧∀ r∈aZ ops o,S.at r≠ .dead∧∀ x,(S.at r).refs x=true→x∈aZ ops o:=fun h=>by
  refine⟨.inr h,fun r hr=> ?_⟩
  obtain⟨a,ha⟩:=h r hr
  rw[ha]
  exact⟨fun e=>(by cases e),fun x hx=>by simp[AV.refs] at hx⟩
 unfold iz at hg
 simp only[Bool.and_eq_true] at hg
 have bP:=hg.2
 split at bP
 ·rename_i f as ts cD
  simp only[Bool.and_eq_true,List.all_eq_true] at bP
  refine key fun r hr=> ?_
  unfold aZ at hr
  rw[cD] at hr
  obtain⟨x,hx,hr⟩:=List.mem_flatMap.1 hr
  exact gJ (bP.2 x hx) r hr
 ·rename_i as ts cD
  simp only[List.all_eq_true] at bP
  refine key fun r hr=> ?_
  unfold aZ at hr
  rw[cD] at hr
  obtain⟨x,hx,hr⟩:=List.mem_flatMap.1 hr
  exact gJ (bP x hx) r hr
 ·rename_i T n ps cD
  simp only[List.all_eq_true] at bP
  refine key fun r hr=> ?_
  unfold aZ at hr
  rw[cD] at hr
  obtain⟨x,hx,hr⟩:=List.mem_flatMap.1 hr
  exact gJ (bP x hx) r hr
 ·rename_i T x cD
  split at bP
  case h_4=>cases bP
  case h_2=>
   rename_i t y hb hx
   have hl:aZ ops o=[x]:=by unfold aZ;rw[cD];simp only[hb]
   refine key fun r hr=> ?_
   rw[hl] at hr
   simp only[List.mem_singleton] at hr
   subst hr
   exact⟨_,hx⟩
  case h_3=>
   rename_i t T1 tg me y hb hx
   have hl:aZ ops o=[x]:=by unfold aZ;rw[cD];simp only[hb]
   refine key fun r hr=> ?_
   rw[hl] at hr
   simp only[List.mem_singleton] at hr
   subst hr
   exact⟨_,hx⟩
  rename_i s t s' p hb hx
  simp only[Bool.and_eq_true] at bP
  obtain⟨hs,hk⟩:=bP
  have:=Nat.eq_of_beq_eq_true hs
  subst this
  have hl:aZ ops o=[x,s']:=by unfold aZ;rw[cD];simp only[hb]
  refine⟨.inl (by unfold iA;rw[cD]),fun r hr=> ?_⟩
  rw[hl] at hr ⊢
  simp only[List.mem_cons,List.not_mem_nil,or_false] at hr
  rcases hr with rfl |rfl
  ·rw[hx]
   refine⟨fun e=>(by cases e),fun y hy=> ?_⟩
   simp only[AV.refs] at hy
   have:=Nat.eq_of_beq_eq_true hy
   simp[this]
  ·split at hk
   case h_2=>cases hk
   rename_i b yy
   unfold St.ca at yy
   split at yy
   ·rename_i a ex ha
    rw[ha]
    exact⟨fun e=>(by cases e),fun y hy=>by simp[AV.refs] at hy⟩
   ·cases yy
 ·rename_i T x lo hi cD
  simp only[Bool.and_eq_true] at bP
  have hl:aZ ops o=aS x++(eI lo++eI hi):=by unfold aZ;rw[cD]
  refine key fun r hr=> ?_
  rw[hl] at hr
  have Qk:∀ {y:Option Operand},vI S y=true→r∈eI y→∃ a,S.at r=.v a []:=fun {y} h hr=>by
   cases y with
   |none=>simp[eI] at hr
   |some y=>exact gJ h r hr
  rcases List.mem_append.1 hr with hr |hr
  ·exact gJ (Ke bP.1) r hr
  ·rcases List.mem_append.1 hr with hr |hr
   ·exact Qk bP.2.1 hr
   ·exact Qk bP.2.2 hr
 ·rename_i T x ix cD
  simp only[Bool.and_eq_true] at bP
  have hl:aZ ops o=aS x++aS ix:=by unfold aZ;rw[cD]
  refine key fun r hr=> ?_
  rw[hl] at hr
  rcases List.mem_append.1 hr with hr |hr
  ·exact gJ (Ke bP.1) r hr
  ·exact gJ bP.2 r hr
 ·cases bP
theorem pF {S S':St} {x:Operand} (h:gu S x=true) (ha:nn S S' (aS x)):gu S' x=true:=by
 cases x with
 |tmp i=>simp only[gu,ha i (by simp[aS])] at h ⊢;exact h
 |const c=>rfl
 |func f=>exact h
 |global g=>exact h
theorem Mm {S S':St} {x:Operand} (h:J0 S x=true) (ha:nn S S' (aS x)):J0 S' x=true:=by
 cases x with
 |tmp i=>simp only[J0,ha i (by simp[aS])] at h ⊢;exact h
 |const c=>rfl
 |func f=>exact h
 |global g=>exact h
theorem Cj {S S':St} {o:Oper} (hg:iz O ops S o=true) (ha:nn S S' (aZ ops o)) (hl:S'.length=S.length) (hd:∀ d,o.dst=some d→(S'.at d).sY=false):iz O ops S' o=true:=by
 obtain⟨h1,d,h2,h3,h4⟩:=tc hg
 unfold iz at hg ⊢
 simp only[Bool.and_eq_true] at hg ⊢
 refine⟨⟨hg.1.1, ?_⟩, ?_⟩
 ·rw[h2]
  simp only[hd d h2,Bool.not_false,Bool.true_and]
  rw[hl]
  exact Nat.ble_eq_true_of_le h4
 ·have bP:=hg.2
  split at bP
  ·rename_i f as ts cD
   have Kf:aZ ops o=as.toList.flatMap aS:=by unfold aZ;rw[cD]
   rw[Kf] at ha
   simp only[Bool.and_eq_true,List.all_eq_true] at bP
   simp only[Bool.and_eq_true,List.all_eq_true]
   exact⟨bP.1,fun x hx=>pF (bP.2 x hx) fun r hr=>ha r (List.mem_flatMap.2 ⟨x,hx,hr⟩)⟩
  ·rename_i as ts cD
   have Kf:aZ ops o=as.toList.flatMap aS:=by unfold aZ;rw[cD]
   rw[Kf] at ha
   simp only[List.all_eq_true] at bP
   simp only[List.all_eq_true]
   exact fun x hx=>pF (bP x hx) fun r hr=>ha r (List.mem_flatMap.2 ⟨x,hx,hr⟩)
  ·rename_i T n ps cD
   have Kf:aZ ops o=ps.toList.flatMap fun q=>aS q.2:=by unfold aZ;rw[cD]
   rw[Kf] at ha
   simp only[List.all_eq_true] at bP
   simp only[List.all_eq_true]
   exact fun x hx=>pF (bP x hx) fun r hr=>ha r (List.mem_flatMap.2 ⟨x,hx,hr⟩)
  ·rename_i T x cD
   split at bP
   case h_4=>cases bP
   case h_2=>
    rename_i t y hb hx
    have Kf:aZ ops o=[x]:=by unfold aZ;rw[cD];simp only[hb]
    rw[Kf] at ha
    rw[hb,(ha x (by simp)).trans hx]
   case h_3=>
    rename_i t T1 tg me y hb hx
    have Kf:aZ ops o=[x]:=by unfold aZ;rw[cD];simp only[hb]
    rw[Kf] at ha
    have h2:S'.ca x [.deref]=S.ca x [.deref]:=by unfold St.ca;rw[ha x (by simp)]
    rw[hb,(ha x (by simp)).trans hx]
    simp only[h2]
    exact bP
   rename_i s t s' p hb hx
   simp only[Bool.and_eq_true] at bP
   obtain⟨hs,hk⟩:=bP
   have:=Nat.eq_of_beq_eq_true hs
   subst this
   have Kf:aZ ops o=[x,s']:=by unfold aZ;rw[cD];simp only[hb]
   rw[Kf] at ha
   have h1:S'.at x=.ad t s' p:=(ha x (by simp)).trans hx
   have h2:S'.ca s' p=S.ca s' p:=by unfold St.ca;rw[ha s' (by simp)]
   rw[hb,h1]
   simp only[Bool.and_eq_true,h2]
   exact⟨Nat.beq_refl _,hk⟩
  ·rename_i T x lo hi cD
   simp only[Bool.and_eq_true] at bP
   have Kf:aZ ops o=aS x++(eI lo++eI hi):=by unfold aZ;rw[cD]
   rw[Kf] at ha
   simp only[Bool.and_eq_true]
   have Qk:∀ {y:Option Operand},vI S y=true→(∀ r∈eI y,r∈aS x++(eI lo++eI hi))→vI S' y=true:=fun {y} h hs=>by
    cases y with
    |none=>rfl
    |some y=>exact pF h fun r hr=>ha r (hs r hr)
   exact⟨Mm bP.1 fun r hr=>ha r (by simp[hr]),Qk bP.2.1 fun r hr=>by simp[hr],Qk bP.2.2 fun r hr=>by simp[hr]⟩
  ·rename_i T x ix cD
   simp only[Bool.and_eq_true] at bP
   have Kf:aZ ops o=aS x++aS ix:=by unfold aZ;rw[cD]
   rw[Kf] at ha
   simp only[Bool.and_eq_true]
   exact⟨Mm bP.1 fun r hr=>ha r (by simp[hr]),pF bP.2 fun r hr=>ha r (by simp[hr])⟩
  ·cases bP
theorem Dv {S:St} {o:Oper} (hg:iz O ops S o=true) {d:Nat} (hd:o.dst=some d) {E:oV} (he:E.d=d∧mM E.v∧E.bS.Nodup∧(∀ r∈E.bS,r∈aZ ops o)∧(iA o=true→E.bS=[])):E.In S:=by
 obtain⟨_,d',h2,h3,h4⟩:=tc hg
 rw[hd] at h2
 injection h2 with h2
 subst h2
 obtain⟨e1,e2,e3,e4,e5⟩:=he
 have hv:∀ r∈E.bS,∃ a,S.at r=.v a []:=fun r hr=>by
  rcases(uU hg).1 with hc |hv
  ·rw[e5 hc] at hr;cases hr
  ·exact hv r (e4 r hr)
 refine⟨e3,hv,by rw[e1];exact h3,by rw[e1];exact h4,e2,fun hk=> ?_⟩
 obtain⟨a,ha⟩:=hv _ hk
 rw[e1] at ha
 rw[ha] at h3
 cases h3
theorem OW {a:AV} {x:Nat} (h:a.refs x=true):a.sY=false:=by cases a<;>first |rfl |(simp[AV.refs] at h)
theorem Wv {E:oV} {S:St} (h:E.In S) {i:Nat} (hi:i≠E.d) (hv:(S.at i).sY=false):((E.app S).at i).sY=false:=by
 rw[oV.pD h,if_neg hi]
 split
 ·rfl
 ·cases E.bS.any (S.at i).refs with
  |true=>rfl
  |false=>exact hv
theorem Ql {E:oV} {S:St} (h:E.In S) {i:Nat} (hi:i≠E.d) (hk:i∉E.bS) (hv:((E.app S).at i).sY=false):(S.at i).sY=false:=by
 rw[oV.pD h,if_neg hi,if_neg hk] at hv
 cases ha:E.bS.any (S.at i).refs with
 |true=>
  obtain⟨x,_,hx⟩:=List.any_eq_true.1 ha
  exact OW hx
 |false=>rw[ha] at hv;exact hv
theorem agq {E:oV} {S:St} (h:E.In S) {i:Nat} (hi:i≠E.d) (hv:(E.app S).at i≠ .dead):S.at i=(E.app S).at i:=by
 rw[oV.pD h,if_neg hi] at hv ⊢
 split at hv
 ·exact absurd rfl hv
 ·rename_i hk
  rw[if_neg hk]
  cases ha:E.bS.any (S.at i).refs with
  |true=>rw[ha] at hv;exact absurd rfl hv
  |false=>rfl
theorem agr {E:oV} {S:St} (h:E.In S) {i:Nat} (hi:i≠E.d) (hk:i∉E.bS) (hr:∀ x,(S.at i).refs x=true→x∉E.bS):(E.app S).at i=S.at i:=by
 rw[oV.pD h,if_neg hi,if_neg hk]
 have:E.bS.any (S.at i).refs=false:=List.any_eq_false.2 fun x hx nf=>hr x nf hx
 rw[this]
 rfl
theorem Qm (hO:nj O) {i j:Nat} {oi oj:Oper} (hi:ops[i]? =some oi) (hj:ops[j]? =some oj) (hd:Ca ops oi oj=true) {r:List Nat} {S:St} {K:St→Option af} {ret:af} (e:mu h O ops (i::j::r) S K=some ret):mu h O ops (j::i::r) S K=some ret:=by
 simp only[mu,hi,hj] at e ⊢
 cases gi:iz O ops S oi with
 |false=>rw[gi] at e;cases e
 |true=>
 rw[gi] at e
 simp only[cond_true] at e
 obtain⟨_,di,Kg,hvi,_⟩:=tc gi
 obtain⟨oE,E1,E2⟩:=Ml (h:=h) hO hi gi Kg
 rw[E2 S (fun _ _=>rfl)] at e
 cases oE with
 |none=>cases e
 |some E=>
 simp only[Option.bind_some] at e
 have EI:=Dv gi Kg (E1 E rfl)
 obtain⟨Ed,Er,En,Ek,Ec⟩:=E1 E rfl
 cases gj:iz O ops (E.app S) oj with
 |false=>rw[gj] at e;cases e
 |true=>
 rw[gj] at e
 simp only[cond_true] at e
 obtain⟨_,dj,hdj,hvj,_⟩:=tc gj
 obtain⟨oF,F1,F2⟩:=Ml (h:=h) hO hj gj hdj
 rw[F2 _ (fun _ _=>rfl)] at e
 cases oF with
 |none=>cases e
 |some F=>
 simp only[Option.bind_some] at e
 have FI1:=Dv gj hdj (F1 F rfl)
 obtain⟨Fd,Fr,Fn,Fk,Fc⟩:=F1 F rfl
 unfold Ca at hd
 rw[Kg,hdj] at hd
 simp only[Bool.and_eq_true,Bool.not_eq_true',Bool.or_eq_true] at hd
 obtain⟨⟨⟨d1,d2⟩,d3⟩,d4⟩:=hd
 have d1:di≠dj:=fun e=>by subst e;rw[Nat.beq_refl] at d1;cases d1
 have d2:di∉aZ ops oj:=fun hm=>by
  have:=List.any_eq_false.1 d2 di hm
  rw[Nat.beq_refl] at this
  exact this rfl
 have d3:dj∉aZ ops oi:=fun hm=>by
  have:=List.any_eq_false.1 d3 dj hm
  rw[Nat.beq_refl] at this
  exact this rfl
 have d5:∀ r∈aZ ops oi,r∉F.bS:=fun r hr hk=>by
  rcases d4 with d4 |d4
  ·rw[Fc d4.2] at hk;cases hk
  ·have h1:=List.any_eq_false.1 d4 r hr
   have h2:(aZ ops oj).any (Nat.beq r)=true:=List.any_eq_true.2 ⟨r,Fk r hk,Nat.beq_refl r⟩
   exact h1 h2
 have ag1:nn (E.app S) S (aZ ops oj):=fun r hr=>by
  exact agq EI (fun e=>d2 (by rw[←Ed, ←e];exact hr)) ((uU gj).2 r hr).1
 have ai':dj∉E.bS:=fun hk=>d3 (Ek dj hk)
 have gj0:iz O ops S oj=true:=Cj gj ag1 (oV.Dt E S).symm (fun d hd=>by
  rw[hdj] at hd
  injection hd with hd
  subst hd
  exact Ql EI (fun e=>d1 (by rw[←Ed, ←e])) ai' hvj)
 have FI:=Dv gj0 hdj (F1 F rfl)
 have ag2:nn S (F.app S) (aZ ops oi):=fun r hr=>by
  exact agr FI (fun e=>d3 (by rw[←Fd, ←e];exact hr)) (d5 r hr) fun x hx=>d5 x (((uU gi).2 r hr).2 x hx)
 have gi1:iz O ops (F.app S) oi=true:=Cj gi ag2 (oV.Dt F S) (fun d hd=>by
  rw[Kg] at hd
  injection hd with hd
  subst hd
  exact Wv FI (fun e=>d1 (by rw[←Fd, ←e])) hvi)
 have EI1:=Dv gi1 Kg (E1 E rfl)
 rw[gj0]
 simp only[cond_true]
 rw[F2 S ag1]
 simp only[Option.bind_some]
 rw[gi1]
 simp only[cond_true]
 rw[E2 _ ag2]
 simp only[Option.bind_some]
 rw[oV.comm EI FI (by rw[Ed,Fd];exact d1) (fun hk=>by rw[Ed] at hk;exact d2 (Fk _ hk)) (fun hk=>by rw[Fd] at hk;exact d3 (Ek _ hk)) EI1 FI1]
 exact e
theorem Ck (hO:nj O) {j:Nat} {oj:Oper} (hj:ops[j]? =some oj):∀ (p r:List Nat) {S:St} {K:St→Option af} {ret:af},(∀ x∈p,∃ ox,ops[x]? =some ox∧Ca ops ox oj=true)→mu h O ops (p++j::r) S K=some ret→mu h O ops (j::(p++r)) S K=some ret
 |[],r,S,K,ret,_,e=>e
 |x::p,r,S,K,ret,hp,e=>by
  obtain⟨ox,hox,hdx⟩:=hp x (by simp)
  refine Qm hO hox hj hdx ?_
  simp only[List.cons_append] at e
  unfold mu at e ⊢
  rw[hox] at e ⊢
  simp only at e ⊢
  cases gx:iz O ops S ox with
  |false=>rw[gx] at e;cases e
  |true=>
   rw[gx] at e
   simp only[cond_true] at e ⊢
   obtain⟨o,ho⟩:=gI (h:=h) (ops:=ops) hO x (fun o' BK=>by
    rw[hox] at BK
    injection BK with BK
    subst BK
    unfold iz at gx
    simp only[Bool.and_eq_true] at gx
    have g2:=gx.2
    split at g2<;>first |(rename_i bP;rw[bP];rfl) |cases g2) S
   rw[ho] at e ⊢
   cases o with
   |none=>cases e
   |some S1=>
    simp only[Option.bind_some] at e ⊢
    exact Ck hO hj p r (fun y hy=>hp y (by simp[hy])) e
end Go.Pv
namespace Go.Pv
set_option linter.unusedVariables false
set_option linter.unusedSimpArgs false
variable {h:Hint} {O:bE} {Θ:cK} {ops:Array Oper} {ret:af}
theorem yz {a:AV} {s:Nat}:a.refs s=true↔s∈slotsOf a:=by
 cases a with
 |al t s' p=>simp only[AV.refs,slotsOf,List.mem_singleton,Nat.beq_eq];exact eq_comm
 |ad t s' p=>simp only[AV.refs,slotsOf,List.mem_singleton,Nat.beq_eq];exact eq_comm
 |cut t s' p lo hi=>simp only[AV.refs,slotsOf,List.mem_singleton,Nat.beq_eq];exact eq_comm
 |nc f cq=>
  simp only[AV.refs,slotsOf,List.any_eq_true,List.mem_filterMap]
  constructor
  ·rintro⟨c,hc,h⟩
   refine⟨c,hc, ?_⟩
   cases c with
   |kv b=>cases h
   |pl t s' p=>simp at h;simp[h]
  ·rintro⟨c,hc,h⟩
   refine⟨c,hc, ?_⟩
   cases c with
   |kv b=>cases h
   |pl t s' p=>simp at h;simp[h]
 |_=>simp[AV.refs,slotsOf]
def aR (Δ:Nat→Bool) (S:St):Prop:=∀ i s,(S.at i).refs s=true→Δ i=Δ s
theorem n0 {Δ:Nat→Bool}:∀ {S:St} {k:Nat},fw Δ S k=true↔∀ i s,(S.at i).refs s=true→Δ (k+i)=Δ s
 |[],k=>by simp[fw,St.at,AV.refs]
 |a::r,k=>by
  simp only[fw,Bool.and_eq_true,List.all_eq_true,beq_iff_eq]
  constructor
  ·rintro⟨h1,h2⟩ i s hs
   cases i with
   |zero=>exact h1 s (yz.1 (by simpa[St.at] using hs))
   |succ i=>
    have:=(n0.1 h2) i s (by simpa[St.at] using hs)
    rw[←this];congr 1;omega
  ·intro hh
   refine⟨fun s hs=>by simpa using hh 0 s (by simpa[St.at] using yz.2 hs),n0.2 fun i s hs=> ?_⟩
   have:=hh (i+1) s (by simpa[St.at] using hs)
   rw[←this];congr 1;omega
theorem gP {Δ:Nat→Bool} {S:St}:fw Δ S 0=true↔aR Δ S:=by
 rw[n0]
 simp only[Nat.zero_add,aR]
def mix (Δ:Nat→Bool) (A B:St):St:=(List.range A.length).map fun i=>bif Δ i then A.at i else B.at i
theorem oW {S:St} {i:Nat} (h:S.length≤i):S.at i=.dead:=by
 unfold St.at
 rw[List.getD_eq_getElem?_getD,List.getElem?_eq_none h];rfl
theorem dP (Δ:Nat→Bool) (A B:St):(mix Δ A B).length=A.length:=by simp[mix]
theorem gk {Δ:Nat→Bool} {A B:St} (hl:B.length=A.length) (i:Nat):(mix Δ A B).at i=bif Δ i then A.at i else B.at i:=by
 by_cases hi:i<A.length
 ·unfold mix
  conv=>lhs;unfold St.at
  rw[List.getD_eq_getElem?_getD,List.getElem?_map,List.getElem?_range hi]
  rfl
 ·rw[oW (by rw[dP];omega),oW (S:=A) (by omega),oW (S:=B) (by omega)]
  cases Δ i<;>rfl
theorem iK {Δ:Nat→Bool} {A B:St} (hl:B.length=A.length) {i:Nat} (hi:Δ i=true):(mix Δ A B).at i=A.at i:=by rw[gk hl,hi];rfl
theorem yA (Δ:Nat→Bool) (S:St):mix Δ S S=S:=jH (dP _ _ _) fun i=>by rw[gk rfl];cases Δ i<;>rfl
theorem Dw {Δ:Nat→Bool} {A B:St} (hl:B.length=A.length):mix (fun i=> !Δ i) B A=mix Δ A B:=jH (by rw[dP,dP,hl]) fun i=>by
 rw[gk hl,gk hl.symm];cases Δ i<;>rfl
theorem aR.not {Δ:Nat→Bool} {S:St} (h:aR Δ S):aR (fun i=> !Δ i) S:=fun i s hs=>by simp only[h i s hs]
section
variable {Δ:Nat→Bool} {A B:St}
theorem uV (hB:aR Δ B) {i d:Nat} (hi:Δ i=false) (hd:Δ d=true):(B.at i).refs d=false:=by
 cases hr:(B.at i).refs d with
 |false=>rfl
 |true=>have:=hB i d hr;rw[hi,hd] at this;cases this
theorem qI (hl:B.length=A.length) (hB:aR Δ B) {d:Nat} (hd:Δ d=true) (a:AV):(mix Δ A B).put (some d) a=mix Δ (A.put (some d) a) B:=by
 refine jH (by rw[bB,dP,dP,bB]) fun i=> ?_
 rw[gk (by rw[bB,hl]),cU,cU,dP,gk hl,iK hl hd]
 cases hi:Δ i with
 |true=>rfl
 |false=>
  have hid: ¬(i=d∧d<A.length):=fun e=>by rw[e.1,hd] at hi;cases hi
  rw[if_neg hid]
  simp only[cond_false]
  rw[uV hB hi hd];rfl
theorem td (hl:B.length=A.length) {d:Nat} (hd:Δ d=true) (a:AV):(mix Δ A B).set d a=mix Δ (A.set d a) B:=by
 refine jH (by rw[List.length_set,dP,dP,List.length_set]) fun i=> ?_
 rw[gk (by rw[List.length_set,hl]),cr,cr,dP,gk hl]
 cases hi:Δ i with
 |true=>rfl
 |false=>
  have hid: ¬(i=d∧d<A.length):=fun e=>by rw[e.1,hd] at hi;cases hi
  rw[if_neg hid]
  rfl
theorem Kh {a:AV} {d:Nat} (h:a.refs d=false):a.eG d=false:=by
 cases a with
 |al t s p=>simp only[AV.refs] at h;simp only[AV.eG,h];rfl
 |ad t s p=>simp only[AV.refs] at h;simp only[AV.eG,h];rfl
 |cut t s p lo hi=>simpa only[AV.refs,AV.eG] using h
 |nc f cq=>
  simp only[AV.refs,AV.eG,List.any_eq_false] at h ⊢
  intro c hc
  have:=h c hc
  cases c with
  |kv b=>simp
  |pl t s p=>cases p<;>simp_all
 |_=>rfl
theorem rW (hl:B.length=A.length) (hB:aR Δ B) {d:Nat} (hd:Δ d=true):(mix Δ A B).weaken d=mix Δ (A.weaken d) B:=by
 refine jH (by simp[St.weaken,dP]) fun i=> ?_
 rw[gk (by simp[St.weaken,hl]),iJ,iJ,gk hl]
 cases hi:Δ i with
 |true=>rfl
 |false=>simp only[cond_false];rw[Kh (uV hB hi hd)];rfl
theorem uW (S:St) (d:Nat) (p:Path) (i:Nat):(S.cover d p).at i=match S.at i with
  | .ad t s q=>bif Nat.beq s d&&under p q then .dead else .ad t s q
  |a=>a:=yv S _ rfl i
theorem Cl (hl:B.length=A.length) (hB:aR Δ B) {d:Nat} (hd:Δ d=true) (p:Path):(mix Δ A B).cover d p=mix Δ (A.cover d p) B:=by
 refine jH (by simp[St.cover,dP]) fun i=> ?_
 rw[gk (by simp[St.cover,hl]),uW,uW,gk hl]
 cases hi:Δ i with
 |true=>rfl
 |false=>
  simp only[cond_false]
  have:=uV hB hi hd
  cases hb:B.at i with
  |ad t s q=>rw[hb] at this;simp only[AV.refs] at this;simp only[this];rfl
  |_=>rfl
theorem th {c:Bool} {a:AV} {s:Nat} (h:(bif c then AV.dead else a).refs s=true):a.refs s=true:=by
 cases c with
 |true=>simp[AV.refs] at h
 |false=>exact h
theorem iL (hA:aR Δ A) {d:Nat} (hd:Δ d=true) {a:AV} (ha:∀ s,a.refs s=true→Δ s=true):aR Δ (A.put (some d) a):=fun i s hs=>by
 rw[cU] at hs
 split at hs
 ·rename_i hi
  rw[hi.1,hd]
  exact(ha s (th hs)).symm
 ·exact hA i s (th hs)
theorem lK (hA:aR Δ A) {d:Nat} (hd:Δ d=true) {a:AV} (ha:∀ s,a.refs s=true→Δ s=true):aR Δ (A.set d a):=fun i s hs=>by
 rw[cr] at hs
 split at hs
 ·rename_i hi
  rw[hi.1,hd]
  exact(ha s hs).symm
 ·exact hA i s hs
theorem mO (hA:aR Δ A) (d:Nat):aR Δ (A.weaken d):=fun i s hs=>by
 rw[iJ] at hs
 exact hA i s (th hs)
theorem tk (hA:aR Δ A) (d:Nat) (p:Path):aR Δ (A.cover d p):=fun i s hs=>by
 rw[uW] at hs
 refine hA i s ?_
 cases hb:A.at i with
 |ad t s' q=>rw[hb] at hs;exact th hs
 |_=>rw[hb] at hs;exact hs
theorem gZ (hl:B.length=A.length) {x:Operand} (hx:kx Δ x=true) (T:TypeId):(mix Δ A B).dn Θ T x=A.dn Θ T x:=by
 cases x with
 |tmp i=>simp only[St.dn];rw[iK hl hx]
 |_=>rfl
theorem fI (hA:aR Δ A) {x:Operand} (hx:kx Δ x=true) {T:TypeId} {a:AV} (e:A.dn Θ T x=some a):∀ s,a.refs s=true→Δ s=true:=fun s hs=>by
 cases x with
 |tmp i=>
  simp only[St.dn,Option.some.injEq] at e
  subst e
  rw[←hA i s hs];exact hx
 |const c=>
  simp only[St.dn] at e
  split at e
  ·injection e with e;subst e;simp[AV.refs] at hs
  ·cases e
 |func f=>
  simp only[St.dn,Option.some.injEq] at e
  subst e
  simp[AV.refs] at hs
 |global g=>cases e
theorem kA (hl:B.length=A.length) {s:Nat} (hs:Δ s=true) (p:Path):(mix Δ A B).place s p=A.place s p:=by unfold St.place;rw[iK hl hs]
theorem iM (hl:B.length=A.length) {s:Nat} (hs:Δ s=true) (p:Path):(mix Δ A B).ca s p=A.ca s p:=by unfold St.ca;rw[iK hl hs]
theorem mv {t:Ty} {s:Nat} {p:Path}:(AV.al t s p).refs s=true:=by simp[AV.refs]
theorem Ww {t:Ty} {s:Nat} {p:Path}:(AV.ad t s p).refs s=true:=by simp[AV.refs]
theorem Gk {t:Ty} {s:Nat} {p:Path} {lo hi:Nat}:(AV.cut t s p lo hi).refs s=true:=by simp[AV.refs]
theorem Mn (hl:B.length=A.length) {a:AV} (ha:∀ s,a.refs s=true→Δ s=true):(mix Δ A B).qF a=A.qF a:=by
 cases a with
 |al t s p=>simp only[St.qF];exact kA hl (ha s mv) p
 |cut t s p lo hi=>simp only[St.qF];rw[kA hl (ha s Gk) p]
 |v b ex=>cases ex<;>rfl
 |_=>rfl
theorem uX (hl:B.length=A.length) (hA:aR Δ A) {x:Operand} (hx:kx Δ x=true) (T:TypeId):(mix Δ A B).rd Θ T x=A.rd Θ T x:=by
 unfold St.rd
 rw[gZ hl hx]
 cases e:A.dn Θ T x with
 |none=>rfl
 |some a=>exact Mn hl (fI hA hx e)
theorem uY (hl:B.length=A.length) (hA:aR Δ A) {x:Operand} (hx:kx Δ x=true):(mix Δ A B).jP Θ x=A.jP Θ x:=by
 unfold St.jP
 rw[uX hl hA hx]
theorem cu {b:TV} {ex:List Path}:∀ s,(AV.v b ex).refs s=true→Δ s=true:=fun s hs=>by simp[AV.refs] at hs
def Mx (Δ:Nat→Bool) (A B:St) {α:Type} (X Y:Option (α×St)):Prop:=Y=X.map (fun q=>(q.1,mix Δ q.2 B))∧∀ q,X=some q→aR Δ q.2∧q.2.length=A.length
theorem ax {α:Type}:Mx Δ A B (α:=α) none none:=⟨rfl,fun _ h=>by cases h⟩
theorem fz {α:Type} {c:α} {A1 S1:St} (h:S1=mix Δ A1 B) (hc:aR Δ A1) (hl:A1.length=A.length):Mx Δ A B (some (c,A1)) (some (c,S1)):=⟨by rw[h];rfl,fun q hq=>by injection hq with hq;subst hq;exact⟨hc,hl⟩⟩
theorem dk {α:Type} {c:α} {d:Nat} {a:AV} (hl:B.length=A.length) (hB:aR Δ B) {A1:St} (hA:aR Δ A1) (xK:A1.length=A.length) (hd:Δ d=true) (ha:∀ s,a.refs s=true→Δ s=true):
  Mx Δ A B (some (c,A1.put (some d) a)) (some (c,(mix Δ A1 B).put (some d) a)):=fz (qI (by rw[hl,xK]) hB hd a) (iL hA hd ha) (by rw[bB,xK])
theorem Cm (hl:B.length=A.length) (hA:aR Δ A) (hB:aR Δ B) {x:Operand} (hx:kx Δ x=true) {a:AV} (ha:∀ s,a.refs s=true→Δ s=true):Mx Δ A B (A.db x a) ((mix Δ A B).db x a):=by
 have oU:∀ s,AV.dead.refs s=true→Δ s=true:=fun s hs=>by simp[AV.refs] at hs
 cases a with
 |v b ex=>
  simp only[St.db]
  cases b.m.bQ with
  |true=>exact fz rfl hA rfl
  |false=>
   simp only[cond_false]
   cases ex with
   |nil=>
    cases x with
    |tmp i=>exact dk hl hB hA rfl hx oU
    |const c=>exact fz rfl hA rfl
    |func f=>exact fz rfl hA rfl
    |global g=>exact fz rfl hA rfl
   |cons _ _=>cases x<;>exact ax
 |al t s p=>
  have hs:=ha s mv
  simp only[St.db]
  rw[kA hl hs]
  cases hp:A.place s p with
  |none=>exact ax
  |some b=>
   simp only
   cases b.m.bQ with
   |true=>exact fz rfl hA rfl
   |false=>
    simp only[cond_false]
    cases p with
    |nil=>exact dk hl hB hA rfl hs oU
    |cons st pp=>
     rw[iK hl hs]
     cases A.at s with
     |v r ex=>
      have h1:=tk (mO hA s) s (st::pp)
      have l1:B.length=(A.weaken s).length:=by simp[St.weaken,hl]
      have l2:B.length=((A.weaken s).cover s (st::pp)).length:=by simp[St.weaken,St.cover,hl]
      refine fz ?_ (lK h1 hs cu) (by simp[St.weaken,St.cover])
      rw[rW hl hB hs,Cl l1 hB hs,td l2 hs]
     |_=>exact ax
 |cut t s p lo hi=>
  have hs:=ha s Gk
  cases p with
  |cons _ _=>exact ax
  |nil=>
   simp only[St.db]
   rw[kA hl hs]
   split
   ·cases Nat.beq lo 0 with
    |true=>exact dk hl hB hA rfl hs oU
    |false=>exact ax
   ·exact ax
 |_=>exact ax
theorem pG (hl:B.length=A.length) (hA:aR Δ A) (hB:aR Δ B) {x:Operand} (hx:kx Δ x=true) (T:TypeId):Mx Δ A B (A.take Θ T x) ((mix Δ A B).take Θ T x):=by
 unfold St.take
 rw[gZ hl hx]
 cases e:A.dn Θ T x with
 |none=>exact ax
 |some a=>exact Cm hl hA hB hx (fI hA hx e)
theorem uZ (hB:aR Δ B) {ps:List (Nat×Operand)} (hx:∀ q∈ps,kx Δ q.2=true):∀ (r:List TypeId) (j:Nat) {A:St},B.length=A.length→aR Δ A→Mx Δ A B (A.parts Θ ps r j) ((mix Δ A B).parts Θ ps r j)
 |[],j,A,hl,hA=>fz rfl hA rfl
 |T::r,j,A,hl,hA=>by
  simp only[St.parts]
  cases hf:ps.find? (fun q=>Nat.beq q.1 j) with
  |some q=>
   simp only
   obtain⟨h1,h2⟩:=pG (Θ:=Θ) hl hA hB (hx q (List.mem_of_find?_eq_some hf)) T
   rw[h1]
   cases ht:A.take Θ T q.2 with
   |none=>exact ax
   |some b=>
    obtain⟨b,A1⟩:=b
    obtain⟨c1,c2⟩:=h2 _ ht
    simp only[Option.map_some]
    obtain⟨k1,k2⟩:=uZ hB hx r (j+1) (by rw[c2,hl]) c1
    rw[k1]
    cases hp:St.parts Θ A1 ps r (j+1) with
    |none=>exact ax
    |some l=>
     obtain⟨d1,d2⟩:=k2 _ hp
     exact fz rfl d1 (by rw[d2,c2])
  |none=>
   simp only
   cases pj Θ T with
   |none=>exact ax
   |some z=>
    simp only
    obtain⟨k1,k2⟩:=uZ hB hx r (j+1) hl hA
    rw[k1]
    cases hp:St.parts Θ A ps r (j+1) with
    |none=>exact ax
    |some l=>
     obtain⟨d1,d2⟩:=k2 _ hp
     exact fz rfl d1 d2
end
end Go.Pv
namespace Go.Pv
set_option linter.unusedVariables false
set_option linter.unusedSimpArgs false
variable {h:Hint} {O:bE} {Θ:cK} {hn:Hn} {ops:Array Oper} {ret:af} {Δ:Nat→Bool} {A B:St}
theorem OX (S S':St) (x:Operand) (a:AV):S.copy x a=S'.copy x a:=by cases a<;>rfl
theorem OY {x:Operand} (hx:kx Δ x=true) {a a':AV} (ha:∀ s,a.refs s=true→Δ s=true) (e:A.copy x a=some a'):∀ s,a'.refs s=true→Δ s=true:=fun s hs=>by
 cases a with
 |v b ex=>
  simp only[St.copy] at e
  cases hk:b.m.bQ with
  |true=>rw[hk] at e;simp only[cond_true,Option.some.injEq] at e;subst e;simp[AV.refs] at hs
  |false=>
   rw[hk] at e
   simp only[cond_false] at e
   cases x with
   |tmp i=>
    simp only[Option.some.injEq] at e
    subst e
    simp only[AV.refs,Nat.beq_eq] at hs
    subst hs
    exact hx
   |_=>
    simp only at e
    split at e
    ·injection e with e;subst e;simp[AV.refs] at hs
    ·cases e
 |qZ l=>cases e
 |dead=>cases e
 |_=>simp only[St.copy,Option.some.injEq] at e;subst e;exact ha s hs
theorem Dx (hl:B.length=A.length) {x:Operand} {a:AV} (ha:∀ s,a.refs s=true→Δ s=true):(mix Δ A B).rh x a=A.rh x a:=by
 cases a with
 |v b ex=>
  obtain⟨t,m,y⟩:=b
  cases t<;>cases m<;>cases ex<;>rfl
 |al t s p=>
  cases t with
  |ptr t=>simp only[St.rh];rw[iM hl (ha s mv)]
  |_=>rfl
 |_=>rfl
theorem yB {x:Operand} (hx:kx Δ x=true) {a:AV} (ha:∀ s,a.refs s=true→Δ s=true) {t:Ty} {s:Nat} {p:Path} (e:A.rh x a=some (.pl t s p)):Δ s=true:=by
 cases a with
 |v b ex=>
  obtain⟨t',m,y⟩:=b
  simp only[St.rh] at e
  split at e
  ·rename_i heq
   injection heq with h1 h2
   split at e
   ·cases e
   ·injection e with e;injection e with _ e _;subst e;exact hx
   ·cases e
  ·split at e
   ·injection e with e;injection e with _ e _;subst e;exact hx
   ·cases e
  all_goals first |(rename_i heq;cases heq;done) |(cases e;done)
 |al t' s' p'=>
  simp only[St.rh] at e
  split at e
  ·rename_i heq;cases heq
  ·rename_i heq;cases heq
  ·rename_i heq
   injection heq with h1 h2 h3
   subst h2
   split at e
   ·cases e
   ·injection e with e;injection e with _ e _;subst e;exact ha _ mv
   ·cases e
  ·rename_i heq;cases heq
  ·cases e
 |ad t' s' p'=>
  simp only[St.rh,Option.some.injEq,OL.pl.injEq] at e
  rw[←e.2.1];exact ha _ Ww
 |_=>simp[St.rh] at e
theorem Ki (hl:B.length=A.length) {g:OL} (hg:∀ t s p,g=.pl t s p→Δ s=true):(mix Δ A B).loadAt g=A.loadAt g:=by
 cases g with
 |k a=>rfl
 |pl t s p=>simp only[St.loadAt];rw[iM hl (hg t s p rfl),kA hl (hg t s p rfl)]
theorem Gm {g:OL} (hg:∀ t s p,g=.pl t s p→Δ s=true) {a:AV} (e:A.loadAt g=some a):∀ s,a.refs s=true→Δ s=true:=fun s hs=>by
 cases g with
 |k b=>simp only[St.loadAt,Option.some.injEq] at e;subst e;simp[AV.refs] at hs
 |pl t s' p=>
  simp only[St.loadAt] at e
  split at e
  case h_2=>cases e
  rename_i b hb
  cases hk:b.m.bQ with
  |true=>
   rw[hk] at e
   simp only[cond_true] at e
   split at e
   ·injection e with e;subst e;simp[AV.refs] at hs
   ·cases e
  |false=>
   rw[hk] at e
   simp only[cond_false,Option.some.injEq] at e
   subst e
   simp only[AV.refs,Nat.beq_eq] at hs
   subst hs
   exact hg _ _ _ rfl
section
variable (hl:B.length=A.length) (hA:aR Δ A) (hB:aR Δ B) {d:Nat} (hd:Δ d=true)
include hl hA hB hd
theorem OZ (T:TypeId):Mx Δ A B (nR Θ hn A (some d) T) (nR Θ hn (mix Δ A B) (some d) T):=by
 unfold nR
 cases pj Θ T with
 |none=>exact ax
 |some z=>
  simp only
  cases rO z.t (hn.find (some d) z.m) with
  |true=>exact dk hl hB hA rfl hd cu
  |false=>exact ax
theorem Qn (T:TypeId) {x:Operand} (hx:kx Δ x=true):Mx Δ A B (eW Θ A (some d) T x) (eW Θ (mix Δ A B) (some d) T x):=by
 unfold eW
 rw[gZ hl hx]
 cases e:A.dn Θ 0 x with
 |none=>exact ax
 |some a=>
  simp only
  have ha:=fI hA hx e
  rw[Dx hl ha]
  cases et:A.rh x a with
  |none=>exact ax
  |some g=>
   simp only
   have hg:∀ t s p,g=.pl t s p→Δ s=true:=fun t s p eg=>by subst eg;exact yB hx ha et
   rw[Ki hl hg]
   cases el:A.loadAt g with
   |none=>exact ax
   |some r=>
    simp only
    cases (Gb g.ty r&&Θ.is T g.ty) with
    |true=>exact dk hl hB hA rfl hd (Gm hg el)
    |false=>exact ax
theorem Qo (T:TypeId) {x:Operand} (hx:kx Δ x=true):Mx Δ A B (nQ Θ A (some d) T x) (nQ Θ (mix Δ A B) (some d) T x):=by
 unfold nQ
 rw[gZ hl hx,dP]
 have oU:∀ s,AV.dead.refs s=true→Δ s=true:=fun s hs=>by simp[AV.refs] at hs
 cases e:A.dn Θ T x with
 |none=>exact ax
 |some a=>
  have ha:=fI hA hx e
  cases a with
  |qZ l=>
   cases x with
   |tmp i=>
    simp only
    cases (Nat.beq d i|| !Nat.blt d A.length) with
    |true=>exact ax
    |false=>
     simp only[cond_false]
     have h1:(mix Δ A B).put (some i) .dead=mix Δ (A.put (some i) .dead) B:=qI hl hB hx .dead
     rw[h1]
     exact dk hl hB (iL hA hx oU) (bB _ _ _) hd (fun s hs=>by simp[AV.refs] at hs)
   |_=>exact ax
  |_=>
   simp only
   rw[OX (mix Δ A B) A]
   split
   ·rename_i a' hc
    exact dk hl hB hA rfl hd (OY hx ha hc)
   ·exact ax
theorem Gn {x:Operand} (hx:kx Δ x=true) (j:Nat):Mx Δ A B (fj A (some d) x j) (fj (mix Δ A B) (some d) x j):=by
 unfold fj
 cases x with
 |tmp i=>
  simp only
  rw[iK hl hx]
  split
  ·rename_i l hi
   split
   ·rename_i a ha
    cases a.m.bQ with
    |true=>exact dk hl hB hA rfl hd cu
    |false=>
     simp only[cond_false]
     cases Nat.beq d i with
     |true=>exact ax
     |false=>
      simp only[cond_false]
      have h1:(mix Δ A B).set i (.qZ (l.set j none))=mix Δ (A.set i (.qZ (l.set j none))) B:=td hl hx _
      rw[h1]
      exact dk hl hB (lK hA hx (fun s hs=>by simp[AV.refs] at hs)) (by simp) hd cu
   ·exact ax
  ·exact ax
 |_=>exact ax
theorem yC (T:TypeId) (n:Nat) {ps:List (Nat×Operand)} (hx:∀ q∈ps,kx Δ q.2=true):Mx Δ A B (bF Θ hn A (some d) T n ps) (bF Θ hn (mix Δ A B) (some d) T n ps):=by
 unfold bF
 split
 ·cases (ja n ps&&Nat.ble n 1800) with
  |false=>exact ax
  |true=>
   simp only[cond_true]
   rename_i t e fs _
   obtain⟨k1,k2⟩:=uZ (Θ:=Θ) hB hx (List.replicate n e) 0 hl hA
   rw[k1]
   cases hp:St.parts Θ A ps (List.replicate n e) 0 with
   |none=>exact ax
   |some q=>
    obtain⟨l,A1⟩:=q
    obtain⟨c1,c2⟩:=k2 _ hp
    simp only[Option.map_some]
    cases l with
    |nil=>exact dk hl hB c1 c2 hd cu
    |cons a l=>
     simp only
     cases pk t a.m (a::l) with
     |none=>exact ax
     |some xs=>exact dk hl hB c1 c2 hd cu
 ·exact ax
theorem Kj {ts:List TypeId} {as:List Operand} (hx:∀ x∈as,kx Δ x=true):Mx Δ A B (b7 Θ A (some d) ts as) (b7 Θ (mix Δ A B) (some d) ts as):=by
 unfold b7
 split
 ·rename_i x y T T'
  obtain⟨k1,k2⟩:=pG (Θ:=Θ) hl hA hB (hx x (by simp)) T
  rw[k1]
  cases ht:A.take Θ T x with
  |none=>exact ax
  |some q=>
   obtain⟨⟨t,m,xs⟩,A1⟩:=q
   obtain⟨c1,c2⟩:=k2 _ ht
   have xK:B.length=A1.length:=by rw[c2,hl]
   simp only[Option.map_some]
   cases t with
   |sl t=>
    cases m with
    |o e tag me=>
     cases hf:Θ.find T with
     |none=>exact ax
     |some i=>
      simp only
      cases (decide (i.ty=.sl t)&&Nat.beq i.e e&&Θ.is T' (.sl t)) with
      |false=>exact ax
      |true=>
       simp only[cond_true]
       cases me.bQ with
       |true=>
        simp only[cond_true]
        rw[uX xK c1 (hx y (by simp))]
        split
        ·rename_i t' m' ys _
         cases m'.B8.bQ with
         |false=>exact ax
         |true=>
          simp only[cond_true]
          split
          ·exact dk hl hB c1 c2 hd cu
          ·exact ax
        ·exact ax
       |false=>
        simp only[cond_false]
        obtain⟨j1,j2⟩:=pG (Θ:=Θ) xK c1 hB (hx y (by simp)) T'
        rw[j1]
        cases hy:A1.take Θ T' y with
        |none=>exact ax
        |some q=>
         obtain⟨⟨t',m',ys⟩,A2⟩:=q
         obtain⟨d1,d2⟩:=j2 _ hy
         simp only[Option.map_some]
         cases t' with
         |sl t'=>
          simp only
          split
          ·split
           ·exact dk hl hB d1 (by rw[d2,c2]) hd cu
           ·exact ax
          ·exact ax
         |_=>exact ax
    |_=>exact ax
   |_=>exact ax
 ·exact ax
theorem Gp {ts:List TypeId} {as:List Operand} (hx:∀ x∈as,kx Δ x=true):Mx Δ A B (fk Θ A (some d) ts as) (fk Θ (mix Δ A B) (some d) ts as):=by
 unfold fk
 split
 ·rename_i x y T T'
  rw[gZ hl (hx x (by simp))]
  split
  ·rename_i t s st pp dh
   have hs:=fI hA (hx x (by simp)) dh s mv
   rw[iK hl hs]
   split
   ·rename_i r ex dG
    split
    ·rename_i t e tag me xs i _ _
     cases (decide (i.ty=.sl t)&&Nat.beq i.e e&&Θ.is T' (.sl t)&&me.bQ) with
     |false=>exact ax
     |true=>
      simp only[cond_true]
      have l1:B.length=(A.weaken s).length:=by simp[St.weaken,hl]
      have l2:B.length=((A.weaken s).cover s (st::pp)).length:=by simp[St.weaken,St.cover,hl]
      have l3:B.length=(((A.weaken s).cover s (st::pp)).set s (.v r (ex++[st::pp]))).length:=by simp[St.weaken,St.cover,hl]
      have e1:List.set (((mix Δ A B).weaken s).cover s (st::pp)) s (.v r (ex++[st::pp]))=mix Δ (((A.weaken s).cover s (st::pp)).set s (.v r (ex++[st::pp]))) B:=by
       rw[rW hl hB hs,Cl l1 hB hs,td l2 hs]
      have c1:aR Δ (((A.weaken s).cover s (st::pp)).set s (.v r (ex++[st::pp]))):=lK (tk (mO hA s) s _) hs cu
      rw[e1,uX l3 c1 (hx y (by simp))]
      split
      ·rename_i t' m' ys _
       cases m'.B8.bQ with
       |false=>exact ax
       |true=>
        simp only[cond_true]
        split
        ·exact dk hl hB c1 (by simp[St.weaken,St.cover]) hd cu
        ·exact ax
      ·exact ax
    ·exact ax
   ·exact ax
  ·exact ax
 ·exact ax
theorem Wx (op:BinOp) (T:TypeId) {x y:Operand} (hx:kx Δ x=true) (hy:kx Δ y=true):Mx Δ A B (yg Θ A (some d) op T x y) (yg Θ (mix Δ A B) (some d) op T x y):=by
 unfold yg
 rw[uX hl hA hx,uX hl hA hy]
 have fin:∀ a b:TV,Mx Δ A B (match fZ op a b with
   |some (g,r)=>some (g,A.put (some d) (.v r []))
   |none=>none) (match fZ op a b with
   |some (g,r)=>some (g,(mix Δ A B).put (some d) (.v r []))
   |none=>none):=fun a b=>by
  cases fZ op a b with
  |none=>exact ax
  |some q=>exact dk hl hB hA rfl hd cu
 cases A.rd Θ T x with
 |none=>exact ax
 |some a=>
  cases A.rd Θ T y with
  |none=>exact ax
  |some b=>
   simp only
   split
   ·cases Θ.is T .bool with
    |true=>exact fin a b
    |false=>exact ax
   ·cases Θ.is T a.t with
    |true=>exact fin a b
    |false=>exact ax
   ·exact fin a b
theorem BO (T:TypeId) {x:Operand} (hx:kx Δ x=true) (f:Nat):Mx Δ A B (fE Θ A (some d) T x f) (fE Θ (mix Δ A B) (some d) T x f):=by
 unfold fE
 rw[gZ hl hx]
 cases e:A.dn Θ 0 x with
 |none=>exact ax
 |some a=>
  have ha:=fI hA hx e
  cases Θ.find T with
  |none=>exact ax
  |some i=>
   simp only
   cases Nat.blt f i.fs.length with
   |false=>exact ax
   |true=>
    simp only[cond_true]
    rw[Dx hl ha]
    cases et:A.rh x a with
    |none=>exact ax
    |some g=>
     cases g with
     |k b=>
      obtain⟨t,m,y⟩:=b
      simp only
      cases decide (i.ty=t) with
      |false=>exact ax
      |true=>
       simp only[cond_true]
       split
       ·exact dk hl hB hA rfl hd cu
       ·exact ax
     |pl t s p=>
      have hs:=yB hx ha et
      simp only
      cases decide (i.ty=t) with
      |false=>exact ax
      |true=>
       simp only[cond_true]
       rw[iM hl hs]
       split
       ·exact dk hl hB hA rfl hd (fun s' h'=>by simp only[AV.refs,Nat.beq_eq] at h';rw[←h'];exact hs)
       ·exact ax
theorem BP (T:TypeId) {x ix:Operand} (hx:kx Δ x=true) (hi:kx Δ ix=true):Mx Δ A B (b6 Θ A (some d) T x ix) (b6 Θ (mix Δ A B) (some d) T x ix):=by
 unfold b6
 rw[gZ hl hx,uY hl hA hi]
 have hr:∀ {t:Ty} {s:Nat} {p:Path},Δ s=true→∀ s',(AV.ad t s p).refs s'=true→Δ s'=true:=fun hs s' h'=>by simp only[AV.refs,Nat.beq_eq] at h';rw[←h'];exact hs
 split
 ·rename_i t m xs ex n dh _
  cases Θ.is T (.sl t) with
  |false=>exact ax
  |true=>
   simp only[cond_true]
   split
   ·exact dk hl hB hA rfl hd cu
   ·rename_i j
    rw[iM hl hx]
    split
    ·exact dk hl hB hA rfl hd (hr hx)
    ·exact ax
   ·exact ax
 ·rename_i t s p n dh _
  have hs:=fI hA hx dh s mv
  cases Θ.is T (.sl t) with
  |false=>exact ax
  |true=>
   simp only[cond_true]
   rw[iM hl hs,iM hl hs]
   split
   ·exact dk hl hB hA rfl hd cu
   ·split
    ·exact dk hl hB hA rfl hd (hr hs)
    ·exact ax
   ·exact ax
 ·exact ax
theorem BQ (T:TypeId) {l c:Operand} (hx:kx Δ l=true) (hc:kx Δ c=true):Mx Δ A B (fF Θ A (some d) T l c) (fF Θ (mix Δ A B) (some d) T l c):=by
 unfold fF
 rw[uY hl hA hx,uY hl hA hc]
 split
 ·split
  ·split
   ·exact dk hl hB hA rfl hd cu
   ·exact ax
  ·exact ax
 ·exact ax
theorem Gq (T T':TypeId) {x:Operand} (hx:kx Δ x=true):Mx Δ A B (fS Θ A (some d) T T' x) (fS Θ (mix Δ A B) (some d) T T' x):=by
 unfold fS
 rw[uX hl hA hx]
 split
 ·exact dk hl hB hA rfl hd cu
 ·exact dk hl hB hA rfl hd cu
 ·exact ax
end
theorem O0 (hl:B.length=A.length) (hA:aR Δ A) (hB:aR Δ B) (T:TypeId) {x y:Operand} (hx:kx Δ x=true) (hy:kx Δ y=true):Mx Δ A B (gX Θ A T x y) (gX Θ (mix Δ A B) T x y):=by
 unfold gX
 rw[gZ hl hx]
 cases e:A.dn Θ 0 x with
 |none=>exact ax
 |some a=>
  have ha:=fI hA hx e
  simp only
  rw[Dx hl ha]
  cases et:A.rh x a with
  |none=>exact ax
  |some g=>
   cases g with
   |k b=>exact ax
   |pl t s p=>
    have hs:=yB hx ha et
    simp only
    obtain⟨k1,k2⟩:=pG (Θ:=Θ) hl hA hB hy T
    rw[k1]
    cases ht:A.take Θ T y with
    |none=>exact ax
    |some q=>
     obtain⟨b,A1⟩:=q
     obtain⟨c1,c2⟩:=k2 _ ht
     have xK:B.length=A1.length:=by rw[c2,hl]
     simp only[Option.map_some]
     cases Θ.is T b.t with
     |false=>exact ax
     |true=>
      simp only[cond_true]
      rw[iK xK hs]
      cases A1.at s with
      |v r ex=>
       simp only
       cases fD b p r.t r.m r.x with
       |none=>exact ax
       |some mz=>
        simp only
        cases ex.all (fun h=> !under h p) with
        |false=>exact ax
        |true=>
         simp only[cond_true]
         have l2:B.length=(A1.weaken s).length:=by simp[St.weaken,xK]
         refine fz ?_ (lK (mO c1 s) hs cu) (by simp[St.weaken,c2])
         rw[rW xK hB hs,td l2 hs]
      |_=>exact ax
theorem Kk (hl:B.length=A.length) (hA:aR Δ A) (hB:aR Δ B) (T:TypeId) {y:Operand} (hy:kx Δ y=true) {A1:St} (xK:A1.length=A.length) (hA1:aR Δ A1):
  nS Θ (mix Δ A B) (mix Δ A1 B) T y=mix Δ (nS Θ A A1 T y) B∧aR Δ (nS Θ A A1 T y)∧(nS Θ A A1 T y).length=A.length:=by
 unfold nS
 rw[gZ hl hy]
 split
 ·rename_i t s dh
  have hs:=fI hA hy dh s mv
  rw[iK hl hs,iK (by rw[hl,xK]) hs]
  split
  ·rename_i t m xs _ _
   cases m.bQ with
   |true=>exact⟨rfl,hA1,xK⟩
   |false=>exact⟨td (by rw[hl,xK]) hs _,lK hA1 hs cu,by simp[xK]⟩
  ·exact⟨rfl,hA1,xK⟩
 ·exact⟨rfl,hA1,xK⟩
end Go.Pv
namespace Go.Pv
set_option linter.unusedVariables false
set_option linter.unusedSimpArgs false
variable {h:Hint} {O:bE} {Θ:cK} {hn:Hn} {ops:Array Oper} {ret:af} {Δ:Nat→Bool} {A B:St}
theorem u4 (hB:aR Δ B):∀ (xs:List Operand) (Ts:List TypeId) (ps:List Pass) {A:St},B.length=A.length→aR Δ A→(∀ x∈xs,kx Δ x=true)→Mx Δ A B (fv Θ A xs Ts ps) (fv Θ (mix Δ A B) xs Ts ps)
 |[],_,_,A,hl,hA,_=>by simp only[fv];exact fz rfl hA rfl
 |x::xs,[],_,A,hl,hA,_=>by simp only[fv];exact ax
 |x::xs,T::Ts,[],A,hl,hA,_=>by simp only[fv];exact ax
 |x::xs,T::Ts,p::ps,A,hl,hA,hx=>by
  simp only[fv]
  cases p with
  |val=>
   simp only
   obtain⟨k1,k2⟩:=u4 hB xs Ts ps hl hA (fun y hy=>hx y (by simp[hy]))
   rw[k1]
   cases ht:fv Θ A xs Ts ps with
   |none=>exact ax
   |some q=>obtain⟨c1,c2⟩:=k2 _ ht;exact fz rfl c1 c2
  |take=>
   simp only
   obtain⟨j1,j2⟩:=pG (Θ:=Θ) hl hA hB (hx x (by simp)) T
   rw[j1]
   cases hk:A.take Θ T x with
   |none=>exact ax
   |some q=>
    obtain⟨a,A1⟩:=q
    obtain⟨d1,d2⟩:=j2 _ hk
    simp only[Option.map_some]
    obtain⟨k1,k2⟩:=u4 hB xs Ts ps (by rw[d2,hl]) d1 (fun y hy=>hx y (by simp[hy]))
    rw[k1]
    cases ht:fv Θ A1 xs Ts ps with
    |none=>exact ax
    |some q=>obtain⟨c1,c2⟩:=k2 _ ht;exact fz rfl c1 (by rw[c2,d2])
  |dA=>exact ax
theorem yD (hl:B.length=A.length):∀ {cq:List Dj},(∀ c∈cq,∀ t s p,c=.pl t s p→Δ s=true)→nX (mix Δ A B) cq=nX A cq
 |[],_=>rfl
 |c::r,hc=>by
  simp only[nX]
  rw[yD hl (fun c' h'=>hc c' (by simp[h']))]
  have:B9 (mix Δ A B) c=B9 A c:=by
   cases c with
   |pl t s p=>simp only[B9];rw[kA hl (hc _ (by simp) t s p rfl)]
   |kv a=>rfl
  rw[this]
theorem u5 (hl:B.length=A.length) (hA:aR Δ A):∀ (xs:List Operand) (Ts:List TypeId) (l:List (Option TV)),(∀ x∈xs,kx Δ x=true)→reads Θ (mix Δ A B) xs Ts l=reads Θ A xs Ts l
 |[],_,_,_=>by simp[reads]
 |x::xs,[],_,_=>by simp[reads]
 |x::xs,T::Ts,[],_=>by simp[reads]
 |x::xs,T::Ts,p::ps,hx=>by
  simp only[reads]
  rw[u5 hl hA xs Ts ps (fun y hy=>hx y (by simp[hy])),gZ hl (hx x (by simp))]
  cases p with
  |some a=>rfl
  |none=>
   simp only
   cases e:A.dn Θ T x with
   |none=>rfl
   |some a=>
    have ha:=fI hA (hx x (by simp)) e
    cases a with
    |nc f cq=>
     simp only
     rw[yD hl (fun c hc t s p ec=>ha s (by
      simp only[AV.refs,List.any_eq_true]
      exact⟨c,hc,by rw[ec];simp⟩))]
    |_=>simp only;rw[Mn hl ha]
theorem O1 (hl:B.length=A.length) {x:Operand} (hx:kx Δ x=true):rk (mix Δ A B) x=rk A x:=by
 cases x with
 |tmp i=>simp only[rk];rw[iK hl hx]
 |_=>rfl
theorem u6 (hl:B.length=A.length):∀ (xs:List Operand) (l:List (Option TV)) (as:List Arg),(∀ x∈xs,kx Δ x=true)→gq (mix Δ A B) xs l as=gq A xs l as
 |[],_,_,_=>rfl
 |x::xs,[],_,_=>rfl
 |x::xs,p::ps,[],_=>rfl
 |x::xs,p::ps,r::rs,hx=>by simp only[gq,u6 hl xs ps rs (fun y hy=>hx y (by simp[hy])),O1 hl (hx x (by simp))]
def Qp (Δ:Nat→Bool) (A B:St) (K K':St→Option af):Prop:=∀ A1,aR Δ A1→A1.length=A.length→K' (mix Δ A1 B)=K A1
theorem tp (l:List TV):∀ s,(B' l).refs s=true→Δ s=true:=fun s hs=>by rw[yw] at hs;cases hs
theorem Qq (hl:B.length=A.length) (hA:aR Δ A) (hB:aR Δ B) {o:Oper} {d:Nat} (ke:o.dst=some d) (hd:Δ d=true) {f:FuncId} {as:List Operand} {ts:List TypeId} (hx:∀ x∈as,kx Δ x=true) {K K':St→Option af} (hK:Qp Δ A B K K'):
  gg h O o f none as ts (mix Δ A B) K'=gg h O o f none as ts A K:=by
 unfold gg
 obtain⟨k1,k2⟩:=u4 (Θ:=h.bA) hB as ts (O.sig f) hl hA hx
 rw[k1]
 cases ht:fv h.bA A as ts (O.sig f) with
 |none=>rfl
 |some q=>
  obtain⟨l,A1⟩:=q
  obtain⟨c1,c2⟩:=k2 _ ht
  have xK:B.length=A1.length:=by rw[c2,hl]
  simp only[Option.map_some,pw]
  rw[u5 xK c1 as ts l hx]
  cases reads h.bA A1 as ts l with
  |none=>rfl
  |some args=>
   simp only
   congr 1
   funext rt
   cases rt.refs with
   |cons _ _=>rfl
   |nil=>
    simp only
    rw[u6 xK as l args hx,ke,qI xK hB hd]
    rw[hK _ (iL c1 hd (tp _)) (by rw[bB,c2])]
theorem Kl (hl:B.length=A.length) (hA:aR Δ A) (hB:aR Δ B) {s:Nat} (hs:Δ s=true) (b:TV) (p:Path):(mix Δ A B).nY s b p=(A.nY s b p).map (fun S=>mix Δ S B)∧∀ S,A.nY s b p=some S→aR Δ S∧S.length=A.length:=by
 cases p with
 |nil=>
  simp only[St.nY]
  refine⟨by rw[qI hl hB hs];rfl,fun S e=> ?_⟩
  injection e with e
  subst e
  exact⟨iL hA hs cu,bB _ _ _⟩
 |cons st pp=>
  simp only[St.nY]
  rw[iK hl hs]
  cases A.at s with
  |v r ex=>
   simp only
   cases fD b (st::pp) r.t r.m r.x with
   |none=>exact⟨rfl,fun _ e=>by cases e⟩
   |some q=>
    simp only
    refine⟨by rw[qI hl hB hs];rfl,fun S e=> ?_⟩
    injection e with e
    subst e
    exact⟨iL hA hs cu,bB _ _ _⟩
  |_=>exact⟨rfl,fun _ e=>by cases e⟩
theorem Qr {S S2:St} (hl:S2.length=S.length) {f:AV→AV→AV} (hf:f .dead .dead=.dead) (i:Nat):St.at (List.zipWith f S S2) i=f (S.at i) (S2.at i):=by
 by_cases hi:i<S.length
 ·unfold St.at
  rw[List.getD_eq_getElem?_getD,List.getD_eq_getElem?_getD,List.getD_eq_getElem?_getD,List.getElem?_zipWith,List.getElem?_eq_getElem hi,List.getElem?_eq_getElem (by omega:i<S2.length)]
  rfl
 ·rw[oW (S:=S) (by omega),oW (S:=S2) (by omega),oW (by rw[List.length_zipWith];omega),hf]
theorem Cn {S S2:St} {s:Nat} (hl:S2.length=S.length):(S.again S2 s).length=S.length:=by
 unfold St.again
 split
 ·rw[List.length_zipWith];omega
 ·exact hl
theorem Dy {S S2:St} {s:Nat} (hl:S2.length=S.length) (hS:aR Δ S) (h2:aR Δ S2):aR Δ (S.again S2 s):=fun i k hk=>by
 rcases again_at (s:=s) hl i with hx |⟨t,r,ex,ha,_,_,_,hx⟩
 ·rw[hx] at hk;exact h2 i k hk
 ·rw[hx] at hk;exact hS i k (by rw[ha];exact hk)
theorem O2 {A2:St} (hl:B.length=A.length) (Yb:A2.length=A.length) {s:Nat} (hs:Δ s=true):(mix Δ A B).again (mix Δ A2 B) s=mix Δ (A.again A2 s) B:=by
 unfold St.again
 rw[iK (by omega) hs]
 cases hA2:A2.at s with
 |v r ex=>
  simp only
  refine jH (by simp only[List.length_zipWith,dP]) fun i=> ?_
  rw[Qr (by rw[dP,dP,Yb]) rfl,gk hl,gk (A:=A2) (by omega),gk (A:=List.zipWith (uK s r.t) A A2) (by rw[List.length_zipWith];omega)]
  cases Δ i with
  |true=>simp only[cond_true];rw[Qr Yb rfl]
  |false=>simp only[cond_false];unfold uK;split<;>first |rfl |(rename_i h1 h2;rw[h1] at h2;cases h2)
 |_=>rfl
theorem Qs (hl:B.length=A.length) (hA:aR Δ A) (hB:aR Δ B) {o:Oper} {d:Nat} (ke:o.dst=some d) (hd:Δ d=true) {f:FuncId} {j:Nat} {as:List Operand} {ts:List TypeId} (hx:∀ x∈as,kx Δ x=true) {K K':St→Option af} (hK:Qp Δ A B K K'):
  pz h O o f j as ts (mix Δ A B) K'=pz h O o f j as ts A K:=by
 unfold pz
 split
 case h_2=>rfl
 rename_i x T hxj _
 have hxx:=hx x (List.mem_of_getElem? hxj)
 rw[gZ hl hxx]
 cases e:A.dn h.bA T x with
 |none=>rfl
 |some av=>
  simp only
  have ha:=fI hA hxx e
  obtain⟨k1,k2⟩:=Cm hl hA hB hxx ha
  rw[k1]
  cases hp:iH x av with
  |none=>cases A.db x av<;>rfl
  |some sp=>
   obtain⟨s,p⟩:=sp
   have hs:Δ s=true:=by
    cases av with
    |v b ex=>
     cases x with
     |tmp i=>simp only[iH,Option.some.injEq,Prod.mk.injEq] at hp;rw[←hp.1];exact hxx
     |_=>simp[iH] at hp
    |al t s' p'=>simp only[iH,Option.some.injEq,Prod.mk.injEq] at hp;rw[←hp.1];exact ha _ mv
    |_=>simp[iH] at hp
   cases ht:A.db x av with
   |none=>rfl
   |some q=>
    obtain⟨b,A1⟩:=q
    obtain⟨c1,c2⟩:=k2 _ ht
    have xK:B.length=A1.length:=by rw[c2,hl]
    simp only[Option.map_some]
    cases (!b.m.bQ&&eH b.t b.m) with
    |false=>rfl
    |true=>
     simp only[cond_true]
     rw[u5 xK c1 as ts _ hx]
     cases reads h.bA A1 as ts ((List.replicate as.length none).set j (some ⟨b.t,gH b.t b.m 0,b.x⟩)) with
     |none=>rfl
     |some args=>
      simp only
      rw[u6 xK as _ args hx]
      cases (py b.t b.m||gq A1 as ((List.replicate as.length none).set j (some ⟨b.t,gH b.t b.m 0,b.x⟩)) args) with
      |false=>rfl
      |true=>
       simp only[cond_true]
       congr 1
       funext rt
       split
       case h_2=>rfl
       rename_i c _
       cases (rt.res.all fun d=>oT d.m&&(fG d.t d.m||gq A1 as ((List.replicate as.length none).set j (some ⟨b.t,gH b.t b.m 0,b.x⟩)) args)) with
       |false=>rfl
       |true=>
        simp only[cond_true]
        split
        case isFalse=>rfl
        split
        case isFalse=>rfl
        obtain⟨r1,r2⟩:=Kl xK c1 hB hs ⟨b.t,b.m,eZ b.t b.m b.x (‹c.t=b.t›▸c.x)⟩ p
        rw[r1]
        cases hr:A1.nY s ⟨b.t,b.m,eZ b.t b.m b.x (‹c.t=b.t›▸c.x)⟩ p with
        |none=>rfl
        |some A2=>
         obtain⟨d1,d2⟩:=r2 _ hr
         simp only[Option.map_some]
         rw[O2 hl (by rw[d2,c2]) hs,ke,qI (by rw[Cn (by rw[d2,c2]),hl]) hB hd]
         exact hK _ (iL (Dy (by rw[d2,c2]) hA d1) hd (tp _)) (by rw[bB,Cn (by rw[d2,c2])])
theorem np (hl:B.length=A.length) (hA:aR Δ A) (hB:aR Δ B) {i:Nat} {o:Oper} (ho:ops[i]? =some o) (ht:eE Δ o=true) {K K':St→Option af} (hK:Qp Δ A B K K'):
  aY h O ops i (mix Δ A B) K'=aY h O ops i A K:=by
 unfold eE at ht
 simp only[Bool.and_eq_true] at ht
 obtain⟨⟨hg,hd⟩,hx⟩:=ht
 have hg:o.guard=none:=by
  cases hq:o.guard with
  |none=>rfl
  |some _=>rw[hq] at hg;cases hg
 by_cases cc:∃ T x y,o.op=.store T x y
 ·obtain⟨T,x,y,bP⟩:=cc
  have hdn:o.dst=none:=by
   cases hq:o.dst with
   |none=>rfl
   |some d=>unfold Wo at hd;rw[hq,bP] at hd;cases hd
  rw[bP] at hx
  simp only[Bool.and_eq_true] at hx
  have e1:∀ S K,aY h O ops i S K=match gX h.bA S T x y with
    |some (g,S1)=>bif g then K (nS h.bA S S1 T y) else none
    |none=>none:=fun S K=>by
   unfold aY
   rw[ho]
   simp only[hg]
   unfold fW
   rw[bP]
   simp only[ev,bP,hdn]
   cases gX h.bA S T x y with
   |none=>rfl
   |some q=>rfl
  have hm:=O0 (Θ:=h.bA) hl hA hB T hx.1 hx.2
  rw[e1,e1,hm.1]
  cases he:gX h.bA A T x y with
  |none=>rfl
  |some q=>
   obtain⟨g,A1⟩:=q
   obtain⟨c1,c2⟩:=hm.2 _ he
   simp only[Option.map_some]
   obtain⟨s1,s2,s3⟩:=Kk (Θ:=h.bA) (A1:=A1) hl hA hB T hx.2 c2 c1
   rw[s1,hK _ s2 s3]
 obtain⟨d,ke⟩:∃ d,o.dst=some d:=by
  cases hq:o.dst with
  |none=>
   exfalso
   cases bP:o.op with
   |store T x y=>exact cc ⟨T,x,y,bP⟩
   |_=>simp[Wo,hq,bP] at hd
  |some d=>exact⟨d,rfl⟩
 have hd:Δ d=true:=by
  cases bP:o.op with
  |store T x y=>exact absurd ⟨T,x,y,bP⟩ cc
  |_=>simpa[Wo,ke,bP] using hd
 have key:∀ {BF:St→uH},Mx Δ A B (BF A) (BF (mix Δ A B))→(∀ S K,aY h O ops i S K=match BF S with
   |some (g,S1)=>bif g then K S1 else none
   |none=>none)→aY h O ops i (mix Δ A B) K'=aY h O ops i A K:=by
  intro BF hm hs
  rw[hs,hs,hm.1]
  cases he:BF A with
  |none=>rfl
  |some q=>
   obtain⟨g,A1⟩:=q
   obtain⟨c1,c2⟩:=hm.2 _ he
   simp only[Option.map_some]
   rw[hK A1 c1 c2]
 have Dz:∀ S K,aY h O ops i S K=fW h O o S K:=fun S K=>by
  unfold aY
  rw[ho]
  simp only[hg]
 split at hx
 ·rename_i T x y bP;exact absurd ⟨T,x,y,bP⟩ cc
 ·rename_i T l c bP
  simp only[Bool.and_eq_true] at hx
  refine key (BF:=fun S=>fF h.bA S (some d) T l c) (BQ hl hA hB hd T hx.1 hx.2) fun S K=> ?_
  rw[Dz];unfold fW;rw[bP];simp only[ev,bP,ke];try rfl
 ·rename_i T bP
  refine key (BF:=fun S=>nR h.bA h.hn S (some d) T) (OZ hl hA hB hd T) fun S K=> ?_
  rw[Dz];unfold fW;rw[bP];simp only[ev,bP,ke];try rfl
 ·rename_i T n ps bP
  refine key (BF:=fun S=>bF h.bA h.hn S (some d) T n ps.toList) (yC hl hA hB hd T n (List.all_eq_true.1 hx)) fun S K=> ?_
  rw[Dz];unfold fW;rw[bP];simp only[ev,bP,ke];try rfl
 ·rename_i T x bP
  refine key (BF:=fun S=>eW h.bA S (some d) T x) (Qn hl hA hB hd T hx) fun S K=> ?_
  rw[Dz];unfold fW;rw[bP];simp only[ev,bP,ke];try rfl
 ·rename_i x bP
  refine key (BF:=fun S=>nQ h.bA S (some d) o.type x) (Qo hl hA hB hd _ hx) fun S K=> ?_
  rw[Dz];unfold fW;rw[bP];simp only[ev,bP,ke];try rfl
 ·rename_i x j bP
  refine key (BF:=fun S=>fj S (some d) x j) (Gn hl hA hB hd hx j) fun S K=> ?_
  rw[Dz];unfold fW;rw[bP];simp only[ev,bP,ke];try rfl
 ·rename_i op T x y T' bP
  simp only[Bool.and_eq_true,Bool.not_eq_true'] at hx
  obtain⟨h1,h2,h3⟩:=hx
  refine key (BF:=fun S=>yg h.bA S (some d) op T x y) (Wx hl hA hB hd op T h1 h2) fun S K=> ?_
  rw[Dz]
  unfold fW
  split
  ·rename_i e;rw[bP] at e;cases e
  ·rename_i e;rw[bP] at e;cases e
  ·rename_i e;rw[bP] at e;rw[bP] at h3;injection e with e1 e2 e3 e4 e5;subst e4;simp[nZ] at h3
  ·rename_i e;rw[bP] at e;rw[bP] at h3;injection e with e1 e2 e3 e4 e5;subst e4;simp[nZ] at h3
  ·simp only[ev,bP,ke];try rfl
 ·rename_i T x f bP
  refine key (BF:=fun S=>fE h.bA S (some d) T x f) (BO hl hA hB hd T hx f) fun S K=> ?_
  rw[Dz];unfold fW;rw[bP];simp only[ev,bP,ke];try rfl
 ·rename_i T x ix bP
  simp only[Bool.and_eq_true] at hx
  refine key (BF:=fun S=>b6 h.bA S (some d) T x ix) (BP hl hA hB hd T hx.1 hx.2) fun S K=> ?_
  rw[Dz];unfold fW;rw[bP];simp only[ev,bP,ke];try rfl
 ·rename_i T T' x bP
  refine key (BF:=fun S=>fS h.bA S (some d) T T' x) (Gq hl hA hB hd T T' hx) fun S K=> ?_
  rw[Dz];unfold fW;rw[bP];simp only[ev,bP,ke];try rfl
 ·rename_i as ts bP
  have vO:=List.all_eq_true.1 hx
  refine key (BF:=fun S=>match b7 h.bA S (some d) ts.toList as.toList with
   |some r=>some r
   |none=>fk h.bA S (some d) ts.toList as.toList) ?_ fun S K=> ?_
  ·have h1:=Kj (Θ:=h.bA) (ts:=ts.toList) hl hA hB hd vO
   have h2:=Gp (Θ:=h.bA) (ts:=ts.toList) hl hA hB hd vO
   refine⟨?_,fun q hq=> ?_⟩
   ·show(match b7 h.bA (mix Δ A B) (some d) ts.toList as.toList with
     |some r=>some r
     |none=>fk h.bA (mix Δ A B) (some d) ts.toList as.toList)=_
    rw[h1.1]
    cases b7 h.bA A (some d) ts.toList as.toList with
    |none=>exact h2.1
    |some r=>rfl
   ·split at hq
    ·rename_i r hr
     injection hq with hq
     subst hq
     exact h1.2 _ hr
    ·exact h2.2 _ hq
  ·rw[Dz];unfold fW;rw[bP];simp only[ev,bP,ke];try rfl
 ·rename_i f as ts bP
  have vO:=List.all_eq_true.1 hx
  rw[Dz,Dz]
  unfold fW
  rw[bP]
  simp only
  cases rR (O.sig f) 0 with
  |none=>exact Qq hl hA hB ke hd vO hK
  |some j=>exact Qs hl hA hB ke hd vO hK
 ·cases hx
end Go.Pv
namespace Go.Pv
set_option linter.unusedVariables false
set_option linter.unusedSimpArgs false
variable {h:Hint} {O:bE} {Θ:cK} {ops:Array Oper} {ret:af} {Δ:Nat→Bool} {A B S:St} {K:St→Option af}
theorem Co {o:Oper} (ht:eE Δ o=true):nZ o.op=false:=by
 unfold eE at ht
 simp only[Bool.and_eq_true] at ht
 have hx:=ht.2
 split at hx
 all_goals first |(rename_i bP;rw[bP];rfl) |(simp only[Bool.and_eq_true,Bool.not_eq_true'] at hx;exact hx.2.2) |cases hx
theorem Km (hl:B.length=A.length) (hA:aR Δ A) (hB:aR Δ B):aR Δ (mix Δ A B):=fun i s hs=>by
 rw[gk hl] at hs
 cases hi:Δ i with
 |true=>rw[hi] at hs;rw[←hi];exact hA i s hs
 |false=>rw[hi] at hs;rw[←hi];exact hB i s hs
theorem Gr (d:List Nat):(fun i=> !OP d i)=rS d:=by funext i;simp[OP]
theorem rX {d:List Nat}:aR (OP d) S↔aR (rS d) S:=
 ⟨fun h=>by have:=h.not;rwa [Gr] at this,fun h=>h.not⟩
theorem yE (hS:aR Δ S) {i:Nat} {o:Oper} (ho:ops[i]? =some o) (ht:eE Δ o=true) (c:St→Bool) (hc:∀ X,aR Δ X→c X=true):
  aY h O ops i S K=aY h O ops i S (fun X=>bif c X then K X else none):=by
 have h1:=np (h:=h) (O:=O) (A:=S) (B:=S) rfl hS hS ho ht (K:=fun A1=>open Classical in if aR Δ A1 then K (mix Δ A1 S) else none) (K':=K) (fun A1 hA hl=>(if_pos hA).symm)
 have h2:=np (h:=h) (O:=O) (A:=S) (B:=S) rfl hS hS ho ht (K:=fun A1=>open Classical in if aR Δ A1 then K (mix Δ A1 S) else none) (K':=fun X=>bif c X then K X else none) (fun A1 hA hl=>by
  show(bif c (mix Δ A1 S) then K (mix Δ A1 S) else none)=open Classical in if aR Δ A1 then K (mix Δ A1 S) else none
  rw[if_pos hA,hc _ (Km (by rw[hl]) hA hS)];rfl)
 rw[yA] at h1 h2
 rw[h1,h2]
theorem Gs (hS:aR Δ S) {i:Nat} {o:Oper} (ho:ops[i]? =some o) (ht:eE Δ o=true):
  aY h O ops i S K=aY h O ops i S (fun X=>bif Nat.beq X.length S.length then K X else none):=by
 have h1:=np (h:=h) (O:=O) (A:=S) (B:=S) rfl hS hS ho ht (K:=fun A1=>K (mix Δ A1 S)) (K':=K) (fun A1 hA hl=>rfl)
 have h2:=np (h:=h) (O:=O) (A:=S) (B:=S) rfl hS hS ho ht (K:=fun A1=>K (mix Δ A1 S)) (K':=fun X=>bif Nat.beq X.length S.length then K X else none) (fun A1 hA hl=>by
  show(bif Nat.beq (mix Δ A1 S).length S.length then K (mix Δ A1 S) else none)=K (mix Δ A1 S)
  rw[dP,hl,Nat.beq_refl];rfl)
 rw[yA] at h1 h2
 rw[h1,h2]
theorem Cp (hS:aR Δ S) {i j:Nat} {oi oj:Oper} (hi:ops[i]? =some oi) (hj:ops[j]? =some oj) (ti:eE Δ oi=true) (tj:eE (fun i=> !Δ i) oj=true):
  aY h O ops i S (fun S1=>aY h O ops j S1 K)=aY h O ops i S (fun A1=>aY h O ops j S (fun B1=>K (mix Δ A1 B1))):=by
 have h1:=np (h:=h) (O:=O) (A:=S) (B:=S) rfl hS hS hi ti (K':=fun S1=>aY h O ops j S1 K) (K:=fun A1=>aY h O ops j S (fun B1=>K (mix Δ A1 B1))) (fun A1 hA hl=>by
  have h2:=np (h:=h) (O:=O) (Δ:=fun i=> !Δ i) (A:=S) (B:=A1) hl hS.not hA.not hj tj (K':=K) (K:=fun B1=>K (mix Δ A1 B1)) (fun B1 hB hlB=>by rw[Dw (by rw[hl,hlB])])
  rw[Dw (by rw[hl])] at h2
  exact h2)
 rw[yA] at h1
 exact h1
theorem yF (hO:nj O) (hS:aR Δ S) {i j:Nat} {oi oj:Oper} (hi:ops[i]? =some oi) (hj:ops[j]? =some oj) (ti:eE Δ oi=true) (tj:eE (fun i=> !Δ i) oj=true):
  aY h O ops i S (fun S1=>aY h O ops j S1 K)=aY h O ops j S (fun S1=>aY h O ops i S1 K):=by
 have tn:(fun i=> !(!Δ i))=Δ:=by funext i;simp
 rw[Cp hS hi hj ti tj,Cp (Δ:=fun i=> !Δ i) hS.not hj hi tj (by rw[tn];exact ti)]
 obtain⟨ri,h1⟩:=gI (h:=h) (O:=O) (ops:=ops) hO i (fun o ho=>by rw[hi] at ho;injection ho with ho;subst ho;exact Co ti) S
 obtain⟨rj,h2⟩:=gI (h:=h) (O:=O) (ops:=ops) hO j (fun o ho=>by rw[hj] at ho;injection ho with ho;subst ho;exact Co tj) S
 -- the lengths are the same
 have l1:=fun K=>Gs (h:=h) (O:=O) (K:=K) hS hi ti
 have l2:=fun K=>Gs (h:=h) (O:=O) (K:=K) hS.not hj tj
 cases ri with
 |none=>simp only[h1,h2,Option.bind_none];cases rj<;>rfl
 |some A1=>
  cases rj with
  |none=>simp only[h1,h2,Option.bind_none,Option.bind_some]
  |some B1=>
   simp only[h1,h2,Option.bind_some] at l1 l2 ⊢
   have hA:A1.length=S.length:=by
    have:=l1 (fun _=>some ⟨[],[]⟩)
    cases hq:Nat.beq A1.length S.length with
    |true=>exact Nat.eq_of_beq_eq_true hq
    |false=>rw[hq] at this;cases this
   have hB:B1.length=S.length:=by
    have:=l2 (fun _=>some ⟨[],[]⟩)
    cases hq:Nat.beq B1.length S.length with
    |true=>exact Nat.eq_of_beq_eq_true hq
    |false=>rw[hq] at this;cases this
   rw[Dw (by rw[hA,hB])]
theorem O3 {S:St} {d:Nat} {a:AV} (h:S.at d=a) (hd:a≠ .dead):S.set d a=S:=by
 refine jH (List.length_set) fun i=> ?_
 rw[cr]
 split
 ·rename_i hi
  rw[hi.1,h]
 ·rfl
theorem put_comm {S:St} {a b:Nat} {u v:AV} (uI:a≠b) (hu:∀ d,u.refs d=false) (hv:∀ d,v.refs d=false):(S.put (some a) u).put (some b) v=(S.put (some b) v).put (some a) u:=by
 refine jH (by simp only[bB]) fun i=> ?_
 have hV:∀ (S:St) (a b:Nat) (u:AV),a≠b→((S.put (some a) u).at b).sY=(S.at b).sY:=fun S a b u uI=>by
  rw[cU,if_neg (fun e=>uI e.1.symm)]
  cases hr:(S.at b).refs a with
  |false=>rfl
  |true=>
   have:(S.at b).sY=false:=by cases hx:S.at b<;>first |rfl |(rw[hx] at hr;simp[AV.refs] at hr)
   rw[this]
   cases (S.at a).sY with
   |true=>rfl
   |false=>exact this
 simp only[cU,bB,hu,hv,cond_false]
 have hVa:=hV S b a v (Ne.symm uI)
 have hVb:=hV S a b u uI
 simp only[cU,hu,hv,cond_false] at hVa hVb
 rw[hVa,hVb]
 by_cases h1:i=a
 ·subst h1
  by_cases hl:i<S.length
  ·rw[if_neg (fun e=>uI e.1),if_pos ⟨rfl,hl⟩,if_pos ⟨rfl,hl⟩,hu];rfl
  ·rw[if_neg (fun e=>uI e.1),if_neg (fun e=>hl e.2),if_neg (fun e=>hl e.2),if_neg (fun e=>uI e.1),oW (S:=S) (i:=i) (by omega)]
   simp[AV.refs]
 ·by_cases h2:i=b
  ·subst h2
   by_cases hl:i<S.length
   ·rw[if_pos ⟨rfl,hl⟩,if_neg (fun e=>h1 e.1),if_pos ⟨rfl,hl⟩,hv];rfl
   ·rw[if_neg (fun e=>hl e.2),if_neg (fun e=>h1 e.1),if_neg (fun e=>h1 e.1),if_neg (fun e=>hl e.2),oW (S:=S) (i:=i) (by omega)]
    simp[AV.refs]
  ·rw[if_neg (fun e=>h2 e.1),if_neg (fun e=>h1 e.1),if_neg (fun e=>h1 e.1),if_neg (fun e=>h2 e.1)]
   have dr:∀ d,AV.dead.refs d=false:=fun _=>rfl
   cases hra:(S.at i).refs a<;>cases hrb:(S.at i).refs b<;>cases (S.at a).sY<;>cases (S.at b).sY<;>simp only[hra,hrb,dr,Bool.and_true,Bool.and_false,Bool.true_and,Bool.false_and,cond_true,cond_false]
theorem tq {S:St} {a x:Nat} {u t:AV} (Mj:a≠x) (ht:∀ d,t.refs d=false) (hx:∀ d,(S.at x).refs d=false):List.set (S.put (some a) u) x t=St.put (S.set x t) (some a) u:=by
 refine jH (by simp only[bB,List.length_set]) fun i=> ?_
 have h1:(St.at (S.set x t) a).sY=(S.at a).sY:=by rw[cr,if_neg (fun e=>Mj e.1)]
 rw[cr,bB,cU,cU,List.length_set,h1]
 by_cases hi:i=x∧x<S.length
 ·rw[if_pos hi,if_neg (fun e=>Mj (e.1.symm.trans hi.1)),cr,if_pos hi,ht];rfl
 ·rw[if_neg hi,cr,if_neg hi]
theorem Mo {i:Nat} {o:Oper} {a x p:Nat} (ho:ops[i]? =some o) (hg:o.guard=none) (hd:o.dst=some a) (bP:o.op=.extract (.tmp x) p) (S:St) (K:St→Option af):aY h O ops i S K=match fj S (some a) (.tmp x) p with
  |some (g,S1)=>bif g then K S1 else none
  |none=>none:=by
 unfold aY
 rw[ho]
 simp only[hg]
 unfold fW
 rw[bP]
 simp only[ev,bP,hd]
 try rfl
theorem Wy {i j:Nat} {oi oj:Oper} (hi:ops[i]? =some oi) (hj:ops[j]? =some oj) (hx:exB oi oj=true) (S:St) (K:St→Option af):
  aY h O ops i S (fun S1=>aY h O ops j S1 K)=aY h O ops j S (fun S1=>aY h O ops i S1 K):=by
 unfold exB at hx
 split at hx
 case h_2=>cases hx
 rename_i a b x p y q g1 g2 d1 d2 o1 o2
 simp only[Bool.and_eq_true,Bool.not_eq_true'] at hx
 obtain⟨e1,e2,e3,e4,e5⟩:=hx
 have e1:=Nat.eq_of_beq_eq_true e1
 subst e1
 have e2:p≠q:=fun e=>by rw[e,Nat.beq_refl] at e2;cases e2
 have e3:a≠b:=fun e=>by rw[e,Nat.beq_refl] at e3;cases e3
 have e4:a≠x:=fun e=>by rw[e,Nat.beq_refl] at e4;cases e4
 have e5:b≠x:=fun e=>by rw[e,Nat.beq_refl] at e5;cases e5
 have bf:∀ {a x:Nat},a≠x→Nat.beq a x=false:=fun {a x} mo=>by
  cases hq:Nat.beq a x with
  |false=>rfl
  |true=>exact absurd (Nat.eq_of_beq_eq_true hq) mo
 -- one extraction, on its own
 have one:∀ (S:St) (a p:Nat),a≠x→fj S (some a) (.tmp x) p=match S.at x with
   | .qZ l=>(match l.getD p none with
    |some u=>some (true,St.put (S.set x (.qZ (bif u.m.bQ then l else l.set p none))) (some a) (.v u []))
    |none=>none)
   |_=>none:=fun S a p Mj=>by
  unfold fj
  simp only
  cases dG:S.at x with
  |qZ l=>
   simp only
   cases l.getD p none with
   |none=>rfl
   |some u=>
    simp only
    cases u.m.bQ with
    |true=>simp only[cond_true];rw[O3 dG (fun e=>by cases e)]
    |false=>simp only[cond_false,bf Mj]
  |_=>rfl
 simp only[Mo hi g1 d1 o1,Mo hj g2 d2 o2,one _ _ _ e4,one _ _ _ e5]
 cases dG:S.at x with
 |qZ l=>
  simp only
  have hxl:x<S.length:=by
   refine Classical.byContradiction fun hl=> ?_
   rw[oW (S:=S) (i:=x) (Nat.le_of_not_lt hl)] at dG
   cases dG
  -- the tuple, behind the first
  have after:∀ (t:AV) (u:TV) (a:Nat),(∀ d,t.refs d=false)→a≠x→(St.put (S.set x t) (some a) (.v u [])).at x=t:=fun t u a ht Mj=>by
   rw[cU,if_neg (fun e=>Mj e.1.symm),cr,if_pos ⟨rfl,hxl⟩,ht];rfl
  have mP:∀ (l:List (Option TV)) (p q:Nat) (c:Bool),p≠q→(bif c then l else l.set p none).getD q none=l.getD q none:=fun l p q c hpq=>by
   cases c with
   |true=>rfl
   |false=>simp only[cond_false,List.getD_eq_getElem?_getD];rw[List.getElem?_set_ne hpq]
  have Gt:∀ (l:List (Option TV)) (d:Nat),(AV.qZ l).refs d=false:=fun _ _=>rfl
  have nv:∀ (b:TV) (d:Nat),(AV.v b []).refs d=false:=fun _ _=>rfl
  cases hp:l.getD p none with
  |none=>
   cases hq:l.getD q none with
   |none=>rfl
   |some w=>
    simp only[cond_true,after _ _ _ (Gt _) e5,mP _ _ _ _ (Ne.symm e2),hp]
  |some u=>
   cases hq:l.getD q none with
   |none=>simp only[cond_true,after _ _ _ (Gt _) e4,mP _ _ _ _ e2,hq]
   |some w=>
    simp only[cond_true,after _ _ _ (Gt _) e4,after _ _ _ (Gt _) e5,mP _ _ _ _ e2,mP _ _ _ _ (Ne.symm e2),hp,hq]
    congr 1
    rw[tq e4 (Gt _) (by rw[cr,if_pos ⟨rfl,hxl⟩];exact Gt _),tq e5 (Gt _) (by rw[cr,if_pos ⟨rfl,hxl⟩];exact Gt _),List.set_set,List.set_set,put_comm e3 (nv _) (nv _)]
    congr 3
    cases u.m.bQ<;>cases w.m.bQ<;>simp only[cond_true,cond_false]
    rw[List.set_comm _ _ e2]
 |_=>rfl
theorem lL {ds:List (List Nat)}:lH ds S=true↔∀ d∈ds,aR (rS d) S:=by
 unfold lH
 rw[List.all_eq_true]
 exact⟨fun h d hd=>gP.1 (h d hd),fun h d hd=>gP.2 (h d hd)⟩
end Go.Pv
namespace Go.Pv
set_option linter.unusedVariables false
set_option linter.unusedSimpArgs false
variable {h:Hint} {O:bE} {Θ:cK} {ops:Array Oper} {ret:af} {Δ:Nat→Bool} {A B S S':St} {K:St→Option af}
def Cq (Θ:cK) (S:St) (T:TypeId) (x:Nat):Option AV:=match S.rh (.tmp x) (S.at x) with
 |some g=>match S.loadAt g with
  |some r=>bif Gb g.ty r&&Θ.is T g.ty then some r else none
  |none=>none
 |none=>none
theorem ags (S:St) (dst:Option Nat) (T:TypeId) (x:Nat):eW Θ S dst T (.tmp x)=(Cq Θ S T x).map fun r=>(true,S.put dst r):=by
 unfold eW Cq
 simp only[St.dn]
 cases S.rh (.tmp x) (S.at x) with
 |none=>rfl
 |some g=>
  simp only
  cases S.loadAt g with
  |none=>rfl
  |some r=>
   simp only
   cases (Gb g.ty r&&Θ.is T g.ty)<;>rfl
def rootOf (x:Nat):AV→Nat
 | .al _ s _=>s
 | .ad _ s _=>s
 |_=>x
theorem Cr {s:Nat} (hs:S'.at s=S.at s) (p:Path):S'.ca s p=S.ca s p:=by unfold St.ca;rw[hs]
theorem Qt {s:Nat} (hs:S'.at s=S.at s) (p:Path):S'.place s p=S.place s p:=by unfold St.place;rw[hs]
theorem Gu {x:Nat} {a:AV} {g:OL} (e:S.rh (.tmp x) a=some g):(∀ t s p,g=.pl t s p→s=rootOf x a):=by
 intro t s p hg
 subst hg
 unfold St.rh at e
 split at e
 ·split at e
  ·cases e<;>rfl
  ·rename_i h1
   injection h1 with h1
   injection e with e
   injection e with _ e _
   rw[←e, ←h1];rfl
  ·cases e<;>rfl
 ·split at e
  ·rename_i h1
   injection h1 with h1
   injection e with e
   injection e with _ e _
   rw[←e, ←h1];rfl
  ·cases e<;>rfl
 ·split at e
  ·cases e<;>rfl
  ·injection e with e
   injection e with _ e _
   rw[←e];rfl
  ·cases e<;>rfl
 ·injection e with e
  injection e with _ e _
  rw[←e];rfl
 ·cases e
theorem O4 {x:Nat} {a:AV} (hs:S'.at (rootOf x a)=S.at (rootOf x a)):S'.rh (.tmp x) a=S.rh (.tmp x) a:=by
 unfold St.rh
 split<;>first |rfl |(rename_i t s p;rw[show S'.ca s p=S.ca s p from Cr hs p])
theorem Cs {T:TypeId} {x:Nat} (hx:S'.at x=S.at x) (hs:S'.at (rootOf x (S.at x))=S.at (rootOf x (S.at x))):Cq Θ S' T x=Cq Θ S T x:=by
 unfold Cq
 rw[hx,O4 hs]
 cases hg:S.rh (.tmp x) (S.at x) with
 |none=>rfl
 |some g=>
  simp only
  have:S'.loadAt g=S.loadAt g:=by
   unfold St.loadAt
   cases g with
   |k a=>rfl
   |pl t s p=>
    have:=Gu hg t s p rfl
    subst this
    simp only[Cr hs,Qt hs]
  rw[this]
theorem Qu {T:TypeId} {x:Nat} {r:AV} (e:Cq Θ S T x=some r) (k:Nat) (hk:r.refs k=true):k=rootOf x (S.at x):=by
 unfold Cq at e
 cases hg:S.rh (.tmp x) (S.at x) with
 |none=>rw[hg] at e;cases e
 |some g=>
  rw[hg] at e
  simp only at e
  cases hl:S.loadAt g with
  |none=>rw[hl] at e;cases e
  |some r'=>
   rw[hl] at e
   simp only at e
   cases hT:(Gb g.ty r'&&Θ.is T g.ty) with
   |false=>rw[hT] at e;cases e
   |true=>
    rw[hT] at e
    simp only[cond_true,Option.some.injEq] at e
    subst e
    unfold St.loadAt at hl
    split at hl
    ·injection hl with hl;rw[←hl] at hk;cases hk
    ·rename_i t s p
     have hr:=Gu hg t s p rfl
     split at hl
     case h_2=>cases hl
     rename_i a _
     cases ha:a.m.bQ with
     |true=>
      rw[ha] at hl
      simp only[cond_true] at hl
      split at hl
      ·injection hl with hl;rw[←hl] at hk;cases hk
      ·cases hl
     |false=>
      rw[ha] at hl
      simp only[cond_false,Option.some.injEq] at hl
      rw[←hl] at hk
      have:s=k:=Nat.eq_of_beq_eq_true hk
      rw[←this];exact hr
theorem O5 {x:Nat} {a:AV}:rootOf x a=x∨a.refs (rootOf x a)=true:=by
 cases a<;>first |exact .inl rfl |exact .inr (Nat.beq_refl _)
def Lone (a:Nat) (S:St):Prop:=∀ i,(S.at i).refs a=true→i=a
theorem Mp {a:Nat} (h:aR (rS [a]) S):Lone a S:=fun i hi=>by
 have:=h i a hi
 have ha:rS [a] a=true:=by simp[rS]
 rw[ha] at this
 unfold rS at this
 simp only[List.any_cons,List.any_nil,Bool.or_false] at this
 exact Nat.eq_of_beq_eq_true this
theorem n5 {c:Nat} {u:AV} (lc:Lone c S) {k:Nat} (hk:k≠c):(S.put (some c) u).at k=S.at k:=by
 rw[cU,if_neg (fun e=>hk e.1)]
 cases hq:(S.at k).refs c with
 |false=>rfl
 |true=>exact absurd (lc k hq) hk
theorem tr {c:Nat} {u:AV} (hu:u.refs c=false) (hc:c<S.length):(S.put (some c) u).at c=u:=by
 rw[cU,if_pos ⟨rfl,hc⟩,hu];rfl
theorem Gv {a b:Nat} {u:AV} (la:Lone a S) (lb:Lone b S) (hua:u.refs a=false) (hub:u.refs b=false):Lone b (S.put (some a) u):=fun i hi=>by
 by_cases h1:i=a
 ·subst h1
  by_cases hl:i<S.length
  ·rw[tr hua hl,hub] at hi;cases hi
  ·rw[oW (by rw[bB];omega)] at hi;cases hi
 ·rw[n5 la h1] at hi
  exact lb i hi
theorem O6 {S:St} {a b:Nat} {u v:AV} (uI:a≠b) (hua:u.refs a=false) (hub:u.refs b=false) (hva:v.refs a=false) (hvb:v.refs b=false) (la:Lone a S) (lb:Lone b S):(S.put (some a) u).put (some b) v=(S.put (some b) v).put (some a) u:=by
 have lb1:=Gv la lb hua hub
 have la1:=Gv lb la hvb hva
 refine jH (by simp only[bB]) fun i=> ?_
 by_cases hl:i<S.length
 rotate_left
 ·rw[oW (by rw[bB,bB];omega),oW (by rw[bB,bB];omega)]
 by_cases h1:i=a
 ·subst h1
  rw[n5 lb1 uI,tr hua hl,tr hua (by rw[bB];exact hl)]
 ·by_cases h2:i=b
  ·subst h2
   rw[tr hvb (by rw[bB];exact hl),n5 la1 h1,tr hvb hl]
  ·rw[n5 lb1 h2,n5 la h1,n5 la1 h1,n5 lb h2]
theorem DA {i:Nat} {o:Oper} {T:TypeId} {a x:Nat} (ho:ops[i]? =some o) (hg:o.guard=none) (hd:o.dst=some a) (bP:o.op=.load T (.tmp x)) (S:St) (K:St→Option af):aY h O ops i S K=(Cq h.bA S T x).bind fun r=>K (S.put (some a) r):=by
 unfold aY
 rw[ho]
 simp only[hg]
 unfold fW
 rw[bP]
 simp only[ev,bP,hd,ags]
 cases Cq h.bA S T x<;>rfl
theorem Wz {i j:Nat} {oi oj:Oper} (hi:ops[i]? =some oi) (hj:ops[j]? =some oj) (hx:ldB oi oj=true) {S:St} (hSi:aR (rS (Qa oi)) S) (hSj:aR (rS (Qa oj)) S) (K:St→Option af):
  aY h O ops i S (fun S1=>aY h O ops j S1 K)=aY h O ops j S (fun S1=>aY h O ops i S1 K):=by
 unfold ldB at hx
 split at hx
 case h_2=>cases hx
 rename_i a b T x T' y g1 g2 d1 d2 o1 o2
 simp only[Bool.and_eq_true,Bool.not_eq_true'] at hx
 obtain⟨e1,e2,e3,e4,e5⟩:=hx
 have ne:∀ {p q:Nat},Nat.beq p q=false→p≠q:=fun e h=>by rw[h,Nat.beq_refl] at e;cases e
 have e1:=ne e1
 have e2:=ne e2
 have e3:=ne e3
 have e4:=ne e4
 have e5:=ne e5
 unfold Qa at hSi hSj
 rw[d1] at hSi
 rw[d2] at hSj
 have la:=Mp hSi
 have lb:=Mp hSj
 simp only[DA hi g1 d1 o1,DA hj g2 d2 o2]
 -- what stands elsewhere stays
 have yl:∀ {c:Nat} {u:AV},Lone c S→∀ k,k≠c→(S.put (some c) u).at k=S.at k:=fun {c u} lc k hk=>by
  rw[cU,if_neg (fun e=>hk e.1)]
  cases hq:(S.at k).refs c with
  |false=>rfl
  |true=>exact absurd (lc k hq) hk
 have root:∀ {c z:Nat},Lone c S→c≠z→rootOf z (S.at z)≠c:=fun {c z} lc hz e=>by
  rcases O5 (x:=z) (a:=S.at z) with h1 |h1
  ·exact hz (by rw[←e,h1])
  ·rw[e] at h1;exact hz (lc z h1).symm
 have ey:∀ u,Cq h.bA (S.put (some a) u) T' y=Cq h.bA S T' y:=fun u=>Cs (yl la y (Ne.symm e3)) (yl la _ (root la e3))
 have ex:∀ u,Cq h.bA (S.put (some b) u) T x=Cq h.bA S T x:=fun u=>Cs (yl lb x (Ne.symm e4)) (yl lb _ (root lb e4))
 simp only[ey,ex]
 cases hu:Cq h.bA S T x with
 |none=>cases Cq h.bA S T' y<;>rfl
 |some u=>
  cases hv:Cq h.bA S T' y with
  |none=>rfl
  |some v=>
   simp only[Option.bind_some]
   have rf:∀ {c z:Nat} {T:TypeId} {r:AV},Cq h.bA S T z=some r→Lone c S→c≠z→r.refs c=false:=fun {c z T r} hr lc hz=>by
    cases hq:r.refs c with
    |false=>rfl
    |true=>exact absurd (Qu hr c hq).symm (root lc hz)
   rw[O6 e1 (rf hu la e2) (rf hu lb e4) (rf hv la e3) (rf hv lb e5) la lb]
theorem yG:∀ (a b:List Nat),eqN a b=true→a=b
 |[],[],_=>rfl
 |x::r,y::s,h=>by
  simp only[eqN,Bool.and_eq_true] at h
  rw[Nat.eq_of_beq_eq_true h.1,yG r s h.2]
theorem Kn {T:TypeId} {x d:Nat} {r:AV} {i:TI} (hT:Θ.find T=some i) (hf:i.ty.flat=true) (e:Cq Θ S T x=some r) (hS:aR Δ S):aR Δ (S.put (some d) r):=by
 have hr:∀ s,r.refs s=false:=by
  unfold Cq at e
  cases hg:S.rh (.tmp x) (S.at x) with
  |none=>rw[hg] at e;cases e
  |some g=>
   rw[hg] at e
   simp only at e
   cases hl:S.loadAt g with
   |none=>rw[hl] at e;cases e
   |some r'=>
    rw[hl] at e
    simp only at e
    cases hq:(Gb g.ty r'&&Θ.is T g.ty) with
    |false=>rw[hq] at e;cases e
    |true=>
     rw[hq] at e
     simp only[cond_true,Option.some.injEq] at e
     subst e
     simp only[Bool.and_eq_true] at hq
     obtain⟨h1,h2⟩:=hq
     have eQ:i.ty=g.ty:=by
      unfold cK.is at h2
      rw[hT] at h2
      simpa using h2
     unfold St.loadAt at hl
     split at hl
     ·injection hl with hl;rw[←hl];intro s;rfl
     ·split at hl
      case h_2=>cases hl
      rename_i a _
      cases ha:a.m.bQ with
      |true=>
       rw[ha] at hl
       simp only[cond_true] at hl
       split at hl
       ·injection hl with hl;rw[←hl];intro s;rfl
       ·cases hl
      |false=>
       rw[ha] at hl
       simp only[cond_false,Option.some.injEq] at hl
       rw[←hl] at h1
       unfold Gb at h1
       rw[←eQ,hf] at h1
       cases h1
 intro k s hs
 rw[cU] at hs
 split at hs
 ·cases hq:r.refs d with
  |true=>rw[hr] at hq;cases hq
  |false=>rw[hq,cond_false,hr] at hs;cases hs
 ·revert hs
  cases (S.at k).refs d&&(S.at d).sY with
  |true=>intro hs;cases hs
  |false=>intro hs;exact hS k s hs
theorem yH (hO:nj O) {i:Nat} {o:Oper} (ho:ops[i]? =some o) (hn:nZ o.op=false) (e:aY h O ops i S K=some ret):∃ X,(∀ K,aY h O ops i S K=K X)∧K X=some ret∧∀ d,pA h.bA d o=true→aR (rS d) S→aR (rS d) X:=by
 obtain⟨ro,h1⟩:=gI (h:=h) (O:=O) (ops:=ops) hO i (fun o' BK=>by rw[ho] at BK;injection BK with BK;subst BK;exact hn) S
 cases ro with
 |none=>rw[h1] at e;cases e
 |some X=>
  refine⟨X,fun K=>h1 K,by rw[h1] at e;exact e,fun d hk hS=> ?_⟩
  unfold pA at hk
  simp only[Bool.or_eq_true] at hk
  rcases hk with ht |ht |ht
  ·have:=yE (h:=h) (O:=O) (K:=fun _=>some ⟨[],[]⟩) hS ho ht (fun X=>fw (rS d) X 0) (fun X hX=>gP.2 hX)
   simp only[h1,Option.bind_some] at this
   cases hc:fw (rS d) X 0 with
   |true=>exact gP.1 hc
   |false=>rw[hc] at this;cases this
  ·have:=yE (h:=h) (O:=O) (K:=fun _=>some ⟨[],[]⟩) (rX.2 hS) ho ht (fun X=>fw (rS d) X 0) (fun X hX=>gP.2 (rX.1 hX))
   simp only[h1,Option.bind_some] at this
   cases hc:fw (rS d) X 0 with
   |true=>exact gP.1 hc
   |false=>rw[hc] at this;cases this
  ·unfold Qb at ht
   split at ht
   case h_2=>cases ht
   rename_i d' T x g1 g2 g3
   split at ht
   case h_2=>cases ht
   rename_i ti hti
   have h2:=fun K=>(DA (h:=h) (O:=O) ho g1 g2 g3 S K).symm.trans (h1 K)
   cases hv:Cq h.bA S T x with
   |none=>have:=h2 (fun _=>some ⟨[],[]⟩);rw[hv] at this;cases this
   |some r=>
    have hX:S.put (some d') r=X:=by
     refine Classical.byContradiction fun mo=> ?_
     have:=h2 (fun Y=>open Classical in if Y=X then some ⟨[],[]⟩ else none)
     rw[hv] at this
     simp only[Option.bind_some,if_neg mo,if_true] at this
     cases this
    rw[←hX]
    exact Kn hti ht hv hS
theorem WA (hO:nj O) {us:List (List Nat)} (hw:∀ d∈us,aR (rS d) S) {i j:Nat} {oi oj:Oper} (hi:ops[i]? =some oi) (hj:ops[j]? =some oj) (hp:s8 us oi oj=true):
  aY h O ops i S (fun S1=>aY h O ops j S1 K)=aY h O ops j S (fun S1=>aY h O ops i S1 K):=by
 unfold s8 at hp
 simp only[Bool.or_eq_true,Bool.and_eq_true] at hp
 rcases hp with hp |⟨h1,h2,h3⟩ |hp
 ·exact Wy hi hj hp S K
 ·have mem:∀ d,Mg us d=true→d∈us:=fun d hd=>by
   unfold Mg at hd
   obtain⟨e,he,hq⟩:=List.any_eq_true.1 hd
   rw[yG _ _ hq];exact he
  exact Wz hi hj h1 (hw _ (mem _ h2)) (hw _ (mem _ h3)) K
 ·unfold ago at hp
  obtain⟨d,hd,hp⟩:=List.any_eq_true.1 hp
  simp only[Bool.or_eq_true,Bool.and_eq_true] at hp
  rcases hp with⟨h1,h2⟩ |⟨h1,h2⟩
  ·exact yF hO (hw d hd) hi hj h1 h2
  ·exact yF hO (rX.2 (hw d hd)) hi hj h1 (by rw[Gr];exact h2)
theorem yI (hO:nj O) {U:Nat→List (List Nat)} {j:Nat} {oj:Oper} (hj:ops[j]? =some oj):∀ (p r:List Nat) {S:St} {K:St→Option af} {ret:af},(∀ x∈p,∃ ox,ops[x]? =some ox∧nZ ox.op=false∧s8 (U x) ox oj=true∧∀ d∈U x,aR (rS d) S)→
  p.Pairwise (fun y x=>∀ d∈U x,∀ oy,ops[y]? =some oy→pA h.bA d oy=true)→
  mr h O ops (p++j::r) S K=some ret→aY h O ops j S (fun S1=>mr h O ops (p++r) S1 K)=some ret
 |[],r,S,K,ret,hp,_,e=>e
 |x::p,r,S,K,ret,hp,hk,e=>by
  obtain⟨ox,hx,hn,hc,hw⟩:=hp x (by simp)
  simp only[List.cons_append,mr] at e ⊢
  obtain⟨X,h1,h3,h2⟩:=yH hO hx hn e
  rw[List.pairwise_cons] at hk
  have h4:=yI hO hj p r (fun y hy=>by
   obtain⟨oy,y1,y2,y3,y4⟩:=hp y (by simp[hy])
   exact⟨oy,y1,y2,y3,fun d hd=>h2 d (hk.1 y hy d hd ox hx) (y4 d hd)⟩) hk.2 h3
  rw[←WA hO hw hx hj hc,h1]
  exact h4
def Qv (Θ:cK) (ops:Array Oper) (as:List Nat) (ds:List (List Nat)) (l:List Nat) (i j:Nat):Prop:=∃ oi oj,ops[i]? =some oi∧ops[j]? =some oj∧i≠j∧Nat.testBit (bc j as 0 0) i=false∧(Nat.testBit (bc i as 0 0) j=true∨s8 (ds.filter (Dp Θ ops as l i j)) oi oj=true)
theorem mQ {as:List Nat} {ds:List (List Nat)} {q:List Nat}:∀ {l:List Nat},nh Θ ops as ds q l=true↔l.Pairwise (Qv Θ ops as ds q)
 |[]=>by simp[nh]
 |i::r=>by
  simp only[nh,Bool.and_eq_true,List.all_eq_true,List.pairwise_cons]
  rw[mQ]
  refine and_congr ?_ Iff.rfl
  refine forall_congr' fun j=> ?_
  refine imp_congr Iff.rfl ?_
  unfold Qv
  cases hi:ops[i]? with
  |none=>simp
  |some oi=>
   cases hj:ops[j]? with
   |none=>simp
   |some oj=>
    simp only[Bool.and_eq_true,Bool.not_eq_true',Bool.or_eq_true,Option.some.injEq]
    constructor
    ·rintro⟨h1,h2⟩
     exact⟨oi,oj,rfl,rfl,(fun e=>by rw[e,Nat.beq_refl] at h1;cases h1),h2⟩
    ·rintro⟨_,_,rfl,rfl,h1,h2⟩
     refine⟨?_,h2⟩
     cases hq:Nat.beq i j with
     |false=>rfl
     |true=>exact absurd (Nat.eq_of_beq_eq_true hq) h1
theorem Ct {as l:List Nat} {i j z:Nat} {d:List Nat} (h:Dp Θ ops as l i j d=true) (hz:z∈l) (h1:z≠i) (h2:z≠j) (h3:Nat.testBit (bc i as 0 0) z=false) (h4:Nat.testBit (bc j as 0 0) z=false) {oz:Oper} (ho:ops[z]? =some oz):pA Θ d oz=true:=by
 unfold Dp at h
 have h5:=List.all_eq_true.1 h z hz
 rw[h3,h4,ho] at h5
 simp only[Bool.or_eq_true,Bool.false_or] at h5
 rcases h5 with h5 |h5 |h5
 ·exact absurd (Nat.eq_of_beq_eq_true h5) h1
 ·exact absurd (Nat.eq_of_beq_eq_true h5) h2
 ·exact h5
theorem Qw {as l l':List Nat} {i j:Nat} {d:List Nat} (hl:∀ z∈l',z∈l) (h:Dp Θ ops as l i j d=true):Dp Θ ops as l' i j d=true:=List.all_eq_true.2 fun z hz=>List.all_eq_true.1 h z (hl z hz)
theorem Ko {us us':List (List Nat)} (hu:∀ d∈us,d∈us') {oi oj:Oper} (h:s8 us oi oj=true):s8 us' oi oj=true:=by
 have any:∀ f:List Nat→Bool,us.any f=true→us'.any f=true:=fun f hf=>by
  obtain⟨d,hd,hq⟩:=List.any_eq_true.1 hf
  exact List.any_eq_true.2 ⟨d,hu d hd,hq⟩
 unfold s8 at h ⊢
 simp only[Bool.or_eq_true,Bool.and_eq_true] at h ⊢
 rcases h with h |⟨h1,h2,h3⟩ |h
 ·exact .inl h
 ·exact .inr (.inl ⟨h1,any _ h2,any _ h3⟩)
 ·exact .inr (.inr (any _ h))
end Go.Pv
namespace Go.Pv
set_option linter.unusedVariables false
set_option linter.unusedSimpArgs false
def zc:Ty→List Value
 | .int k=>[.int k 0] | .bool=>[.bool false] | .str=>[.string ByteArray.empty] | .sl _=>[.slice none 0 0] | .ptr _=>[.pointer none]
 | .pair a b=>zc a++zc b | .unit=>[] | .arr n t=>(List.replicate n (zc t)).flatten
def fB:Path→Ty→Option Ty
 |[],t=>some t
 | .fst::p,.pair a _=>fB p a
 | .snd::p,.pair _ b=>fB p b
 |_,_=>none
def veq:Value→Value→Bool
 | .int k n,.int k' n'=>decide (k=k')&&decide (n=n')
 | .bool a,.bool b=>a==b
 | .string a,.string b=>a.data.toList==b.data.toList
 | .slice none a b,.slice none c d=>Nat.beq a c&&Nat.beq b d
 | .pointer none,.pointer none=>true
 |_,_=>false
def Kp:List Value→List Value→Bool
 |[],[]=>true
 |a::r,b::s=>veq a b&&Kp r s
 |_,_=>false
theorem aaU {a b:Value} (h:veq a b=true):a=b:=by
 unfold veq at h
 split at h<;>simp at h
 ·obtain⟨rfl,rfl⟩:=h;rfl
 ·subst h;rfl
 ·rename_i a b
  cases a;cases b
  simp at h
  rw[h]
 ·obtain⟨rfl,rfl⟩:=h;rfl
 ·rfl
theorem DB:∀ {a b:List Value},Kp a b=true→a=b
 |[],[],_=>rfl
 |a::r,b::s,h=>by
  simp only[Kp,Bool.and_eq_true] at h
  rw[aaU h.1,DB h.2]
 |[],_::_,h=>by simp[Kp] at h
 |_::_,[],h=>by simp[Kp] at h
def zOK (t:Ty) (z:Value):Bool:=match isAgg t,z with
 |true,.agg cs=>Kp cs.toList (zc t)
 |true,_=>false
 |false,z=>Kp [z] (zc t)
theorem O7 {t:Ty} {z:Value} (h:zOK t z=true):an t z (zc t):=by
 unfold zOK at h
 unfold an
 split at h
 ·rename_i ha
  rw[if_pos ha, ←DB h]
 ·cases h
 ·rename_i ha
  rw[if_neg (by simp[ha]), ←DB h]
def jq (Θ:cK) (ty:Ty) (n:Nat):List Field→Nat→Bool
 |[],_=>true
 |f::r,k=>(match fB (mm k n) ty with
  |some t=>Θ.is f.type t&&Nat.beq f.offset (aE (mm k n) ty)&&Nat.blt 0 t.size
  |none=>false)&&jq Θ ty n r (k+1)
def lM (P:Program) (Θ:cK) (i:TI):Bool:=match i.ty,P.underlying i.T with
 | .int k,some (.int k')=>decide (k=k')
 | .bool,some .bool=>true
 | .str,some .string=>true
 | .sl t,some (.slice e)=>Nat.beq e i.e&&Θ.is e t&&Nat.blt 0 t.size
 | .pair _ _, some (.struct fs) => decide (fs.toList.map (·.type) = i.fs) && jq Θ i.ty fs.size fs.toList 0 && !P.eqGuardType P.depth i.T && !P.stoodInHeld i.T && fs.toList.all (fun f => f.name != "_")
 |_,_=>false
def Yc (i:TI) (inf:TypeInfo):Bool:=Nat.beq inf.size i.ty.size&&Nat.ble i.ty.size 9000&&Nat.ble inf.bytes (32*i.ty.size)&&Nat.ble inf.bytes 256&&Nat.blt 0 inf.bytes&&match inf.zero with
 |some z=>zOK i.ty z
 |none=>false
def Ty.ht:Ty→Nat
 | .pair a b=>max a.ht b.ht+1
 |_=>0
def uOK (i:TI):Bool:=Nat.ble i.ty.ht 9000&&match i.fs,i.ty with
 |[_],.pair _ .unit=>true
 |[_],_=>false
 |[],.pair _ _=>false
 |_,_=>true
def aaV (P:Program) (Θ:cK) (i:TI):Bool:=((match P.info? i.T with
 |some inf=>Yc i inf
 |none=>false)&&lM P Θ i)&&uOK i
def cM (P:Program) (Θ:cK):Bool:=Θ.all (aaV P Θ)
structure agt (P:Program) (i:TI):Prop where
 small:i.ty.size≤9000
 out:∃ inf z,P.info? i.T=some inf∧inf.size=i.ty.size∧inf.bytes≤32*i.ty.size∧inf.bytes≤256∧0<inf.bytes∧inf.zero=some z∧an i.ty z (zc i.ty)
theorem tu {Θ:cK} {T:TypeId} {i:TI} (h:Θ.find T=some i):i∈Θ∧i.T=T:=by
 induction Θ with
 |nil=>simp[cK.find] at h
 |cons j r ih=>
  simp only[cK.find] at h
  cases hb:Nat.beq j.T T with
  |true=>
   rw[hb] at h
   simp only[cond_true,Option.some.injEq] at h
   subst h
   exact⟨by simp,Nat.eq_of_beq_eq_true hb⟩
  |false=>
   rw[hb] at h
   simp only[cond_false] at h
   exact⟨List.mem_cons_of_mem _ (ih h).1,(ih h).2⟩
theorem cO {P:Program} {Θ:cK} (hT:cM P Θ=true) {T:TypeId} {i:TI} (h:Θ.find T=some i):agt P i∧lM P Θ i=true∧i.T=T:=by
 have h1:=List.all_eq_true.1 hT i (tu h).1
 simp only[aaV,Bool.and_eq_true] at h1
 refine⟨?_,h1.1.2,(tu h).2⟩
 have h2:=h1.1.1
 split at h2
 ·rename_i inf hi
  simp only[Yc,Bool.and_eq_true] at h2
  obtain⟨⟨⟨⟨⟨a,sm⟩,b⟩,b'⟩,b''⟩,c⟩:=h2
  split at c
  ·rename_i z hz
   exact⟨Nat.le_of_ble_eq_true sm,⟨inf,z,hi,Nat.eq_of_beq_eq_true a,Nat.le_of_ble_eq_true b,Nat.le_of_ble_eq_true b',Nat.lt_of_succ_le (Nat.le_of_ble_eq_true b''),hz,O7 c⟩⟩
  ·cases c
 ·cases h2
theorem Yd {P:Program} {Θ:cK} (hT:cM P Θ=true) {T:TypeId} {i:TI} (h:Θ.find T=some i):uOK i=true:=by
 have h1:=List.all_eq_true.1 hT i (tu h).1
 simp only[aaV,Bool.and_eq_true] at h1
 exact h1.2
theorem dz {Θ:cK} {T:TypeId} {t:Ty} (h:Θ.is T t=true):∃ i,Θ.find T=some i∧i.ty=t:=by
 unfold cK.is at h
 split at h
 ·rename_i i hi;exact⟨i,hi,by simpa using h⟩
 ·cases h
theorem jI {P:Program} {Θ:cK} {i:TI} {t:Ty} (h:lM P Θ i=true) (ht:i.ty=.sl t):P.underlying i.T=some (.slice i.e)∧Θ.is i.e t=true∧0<t.size:=by
 unfold lM at h
 rw[ht] at h
 split at h<;>simp_all
 obtain⟨⟨a,b⟩,c⟩:=h
 rw[←a]
 exact b
theorem tx {P:Program} {Θ:cK} {i:TI} {k:IntKind} (h:lM P Θ i=true) (ht:i.ty=.int k):P.underlying i.T=some (.int k):=by
 unfold lM at h
 rw[ht] at h
 split at h<;>simp_all
theorem tz {P:Program} {Θ:cK} {i:TI} (h:lM P Θ i=true) (ht:i.ty=.bool):P.underlying i.T=some .bool:=by
 unfold lM at h
 rw[ht] at h
 split at h<;>simp_all
theorem n6 {P:Program} {Θ:cK} {i:TI} (h:lM P Θ i=true) (ht:i.ty=.str):P.underlying i.T=some .string:=by
 unfold lM at h
 rw[ht] at h
 split at h<;>simp_all
theorem lN {P : Program} {Θ : cK} {i : TI} {a b : Ty} (h : lM P Θ i = true) (ht : i.ty = .pair a b) : ∃ fs, P.underlying i.T = some (.struct fs) ∧ fs.toList.map (·.type) = i.fs ∧ jq Θ i.ty fs.size fs.toList 0 = true ∧ P.eqGuardType P.depth i.T = false ∧ P.stoodInHeld i.T = false ∧ ∀ f ∈ fs, f.name ≠ "_" := by
 unfold lM at h
 rw[ht] at h
 split at h<;>simp_all
 intro f hf
 obtain⟨k,hk,rfl⟩:=Array.mem_iff_getElem.1 hf
 exact h.2 k hk
theorem tA {P:Program} {Θ:cK} {i:TI} (h:lM P Θ i=true):(∃ d,P.underlying i.T=some d)∧(∀ t,i.ty≠ .ptr t)∧(∀ n t,i.ty≠ .arr n t)∧i.ty≠ .unit:=by
 unfold lM at h
 split at h<;>simp_all
theorem gQ {Θ:cK} {ty:Ty} {n:Nat}:∀ {l:List Field} {k0:Nat},jq Θ ty n l k0=true→∀ k f,l[k]? =some f→∃ t,fB (mm (k0+k) n) ty=some t∧Θ.is f.type t=true∧f.offset=aE (mm (k0+k) n) ty∧0<t.size
 |[],_,_,k,f,h=>by simp at h
 |g::r,k0,iN,k,f,h=>by
  simp only[jq,Bool.and_eq_true] at iN
  cases k with
  |zero=>
   simp only[List.getElem?_cons_zero,Option.some.injEq] at h
   subst h
   have:=iN.1
   split at this
   ·rename_i t ht
    simp only[Bool.and_eq_true] at this
    exact⟨t,ht,this.1.1,Nat.eq_of_beq_eq_true this.1.2,Nat.lt_of_succ_le (Nat.le_of_ble_eq_true this.2)⟩
   ·cases this
  |succ k=>
   simp only[List.getElem?_cons_succ] at h
   have:=gQ iN.2 k f h
   rw[show k0+1+k=k0+(k+1) from by omega] at this
   exact this
theorem gD {P:Program} {Θ:cK} (hT:cM P Θ=true) {T:TypeId} {t:Ty} (h:Θ.is T t=true):∃ inf,P.info? T=some inf∧inf.size=t.size∧P.cellsOf T=t.size:=by
 obtain⟨i,hi,rfl⟩:=dz h
 obtain⟨⟨_,inf,z,h1,h2,_⟩,_,rfl⟩:=cO hT hi
 exact⟨inf,h1,h2,by simp[Program.cellsOf,h1,h2]⟩
theorem Kq {P:Program} {Θ:cK} (hT:cM P Θ=true) {T:TypeId} {t:Ty} (h:Θ.is T t=true) (w:World):(Go.isAgg T).run P w=.ok (isAgg t) w:=by
 obtain⟨i,hi,rfl⟩:=dz h
 obtain⟨_,hu,rfl⟩:=cO hT hi
 have hn:=tA hu
 unfold lM at hu
 unfold Go.isAgg
 split at hu<;>simp_all [underlying,program,isAgg,Sem.run]
end Go.Pv
namespace Go.Pv
set_option linter.unusedVariables false
set_option linter.unusedSimpArgs false
variable {w w':World} {A A':Nat→Prop} {H:Nat→Value} {tm o7:Nat→Value} {S S':St} {σ:Nat→Option Nat} {w0:World} {W0 Z:Nat→Prop} {a:Act} {own:Nat→Prop} {v:Value} {Θ:cK}
theorem jr (g off n:Nat):(⟨g,off,none⟩:Addr).add n=⟨g,off+n,none⟩:=by
 unfold Addr.add
 split
 ·rename_i h;subst h;rfl
 ·rfl
theorem Mq {t:Ty} {xs:List t.I} {X:Option Addr} {c lo hi:Nat} (h:K w A (.sl t) xs [.slice X xs.length c]) (h1:lo≤hi) (h2:hi≤xs.length):
  K w A (.sl t) ((xs.take hi).drop lo) [.slice (if c=lo then X else X.map (·.add (lo*t.size))) (hi - lo) (c - lo)]:=by
 simp only[K] at h ⊢
 obtain⟨X',c',e,hc,h⟩:=h
 simp only[List.cons.injEq,Value.slice.injEq,and_true,true_and] at e
 obtain⟨rfl,rfl⟩:=e
 have hl:((xs.take hi).drop lo).length=hi - lo:=by rw[List.length_drop,List.length_take];omega
 refine⟨_,_,by rw[hl],by omega,fun hp=> ?_⟩
 rw[hl] at hp
 obtain⟨g,off,cur,T,fr,rfl,hg,hw,ho,hj⟩:=h (by omega)
 have e1:(lo+(hi - lo))*t.size≤xs.length*t.size:=Nat.mul_le_mul_right _ (by omega)
 rw[Nat.add_mul] at e1
 refine⟨g,off+lo*t.size,cur,T,fr, ?_,hg,hw,by rw[hl];omega,fun j JN=> ?_⟩
 rotate_left
 ·have nO:j<hi - lo:=by rw[←hl];exact JN
  have:=hj (lo+j) (by omega)
  rw[show((xs.take hi).drop lo)[j]=xs[lo+j]'(by omega) from by simp]
  rw[show off+lo*t.size+j*t.size=off+(lo+j)*t.size from by rw[Nat.add_mul];omega]
  exact this
 ·rw[if_neg (by omega)]
  simp only[Option.map_some,jr]
theorem fm (h:bd σ w0 W0 Z H S a w) {t:Ty} {s:Nat} {p:Path} {r:TV} {bY:List Value} (hr:Ref (bM a) S t s p r bY):
  ∃ ex b cL cG,S.at s=.v r ex∧open_ p ex∧a8 p r.t r.m r.x=some b∧b.t=t∧M w (Av σ Z) H r.t r.m r.x bY (fun g=>σ g=some s) ex∧
   aJ w p r.t bY=some cL∧(∀ g,cG g→σ g=some s)∧M w (Av σ Z) H b.t b.m b.x cL cG (s6 p ex):=by
 obtain⟨⟨ex,h1,h2⟩,h3,⟨b,h4,h5⟩,h6⟩:=hr
 have hh:=h.holds s
 rw[h1] at hh
 obtain⟨cs,hm,hM⟩:=hh
 obtain rfl:=cC h6 hm
 obtain⟨cL,cG,k1,k2,k3⟩:=focus p hM h2 h3 h4
 exact⟨ex,b,cL,cG,h1,h2,h4,h5,hM,k1,k2,k3⟩
theorem cP (h:bd σ w0 W0 Z H S a w) {t:Ty} {s:Nat} {p:Path} {r:TV} {bY cs:List Value} {b:TV} (hr:Ref (bM a) S t s p r bY) (hc:aJ w p r.t bY=some cs) (hp:S.place s p=some b):
  b.t=t∧∃ cG,(∀ g,cG g→σ g=some s)∧M w (Av σ Z) H b.t b.m b.x cs cG []:=by
 obtain⟨ex,b',cL,cG,h1,h2,h3,h4,hM,k1,k2,k3⟩:=fm h hr
 unfold St.place at hp
 rw[h1] at hp
 simp only at hp
 cases fq:ex.all fun q=> !c7 q p with
 |false=>rw[fq] at hp;cases hp
 |true=>
  rw[fq] at hp
  simp only[cond_true] at hp
  rw[h3] at hp
  injection hp with hp
  subst hp
  rw[k1] at hc
  injection hc with hc
  subst hc
  rw[rp (fun q hq=>by simpa using List.all_eq_true.1 fq q hq)] at k3
  exact⟨h4,cG,k2,k3⟩
theorem pH (h:bd σ w0 W0 Z H S a w) {av:AV} {b:TV} (hh:Holds w (Av σ Z) H (bM a) S own av v) (e:S.qF av=some b):
  ∃ cs,an b.t v cs∧K w (fun _=>False) b.t b.x cs∧(b.m.bQ=true→K w (Av σ Z) b.t b.x cs):=by
 cases av with
 |v a ex=>
  cases ex with
  |cons _ _=>simp[St.qF] at e
  |nil=>
   simp only[St.qF,Option.some.injEq] at e
   subst e
   obtain⟨cs,h1,h2⟩:=hh
   exact⟨cs,h1,J7 h2,fun hk=>eU _ hk h2⟩
 |al t s p=>
  simp only[St.qF] at e
  obtain⟨r,bY,cs,hr,hc,hm⟩:=hh
  obtain⟨rfl,cG,k2,k3⟩:=cP h hr hc e
  exact⟨cs,hm,J7 k3,fun hk=>eU _ hk k3⟩
 |cut t s p lo hi=>
  simp only[St.qF] at e
  obtain⟨r,bY,t',X,n,c,hr,rfl,hc,Qj,BN,rfl⟩:=hh
  cases hp:S.place s p with
  |none=>rw[hp] at e;cases e
  |some b'=>
   obtain⟨ht,cG,k2,k3⟩:=cP h hr hc hp
   obtain⟨bt,bm,bx⟩:=b'
   simp only at ht
   subst ht
   rw[hp] at e
   simp only[Option.some.injEq] at e
   subst e
   have hK:=J7 k3
   have hn:n=List.length bx:=by
    simp only[K] at hK
    obtain⟨_,_,e,_⟩:=hK
    simp only[List.cons.injEq,Value.slice.injEq,and_true] at e
    exact e.2.1
   subst hn
   exact⟨_,by simp[an,isAgg],Mq hK Qj BN,fun hk=>Mq (eU _ hk k3) Qj BN⟩
 |_=>simp[St.qF] at e
theorem gE (h:bd σ w0 W0 Z H S a w) {T:TypeId} {x:Operand} {b:TV} (e:S.rd Θ T x=some b):
  ∃ cs,an b.t (a.eval x) cs∧K w (fun _=>False) b.t b.x cs∧(b.m.bQ=true→K w (Av σ Z) b.t b.x cs):=by
 unfold St.rd at e
 split at e
 ·rename_i av dh
  exact pH h (bC h dh) e
 ·cases e
theorem eJ {k:IntKind} {v:Value} {cs:List Value} {x:Int} (h:an (.int k) v cs) (hk:K w A (.int k) x cs):v=.int k x:=by
 simp only[K] at hk;simp only[an,isAgg] at h;subst hk;simpa using h.symm
theorem cV {v:Value} {cs:List Value} {x:Bool} (h:an .bool v cs) (hk:K w A .bool x cs):v=.bool x:=by
 simp only[K] at hk;simp only[an,isAgg] at h;subst hk;simpa using h.symm
theorem dI {v:Value} {cs:List Value} {x:ByteArray} (h:an .str v cs) (hk:K w A .str x cs):v=.string x:=by
 simp only[K] at hk;simp only[an,isAgg] at h;subst hk;simpa using h.symm
theorem lO {t:Ty} {v:Value} {cs:List Value} {x:List t.I} (h:an (.sl t) v cs) (hk:K w A (.sl t) x cs):∃ X c,v=.slice X x.length c∧cs=[.slice X x.length c]∧x.length≤c:=by
 have fA:=hk
 simp only[K] at fA
 obtain⟨X,c,rfl,hc,_⟩:=fA
 simp only[an,isAgg] at h
 exact⟨X,c,by simpa using h.symm,rfl,hc⟩
theorem gK (h:bd σ w0 W0 Z H S a w) {x:Operand} {n:Int} (e:S.jP Θ x=some n):∃ k,a.eval x=.int k n:=by
 unfold St.jP at e
 split at e
 ·rename_i k m n' hb
  injection e with e
  subst e
  obtain⟨cs,h1,h2,_⟩:=gE h hb
  exact⟨k,eJ h1 h2⟩
 ·cases e
theorem n7 {t:Ty} {x:t.I} {v:Value} {cs:List Value} (h:an t v cs) (hk:K w A t x cs):Holds w A H tm S (fun _=>False) (.v ⟨t,.k,x⟩ []) v:=⟨cs,h,eX t hk⟩
theorem cS (k:IntKind) (n:Int):Holds w A H tm S (fun _=>False) (.v ⟨.int k,.k,n⟩ []) (.int k n):=n7 (cs:=[.int k n]) (by simp[an,isAgg]) (by simp[K])
theorem cf (b:Bool):Holds w A H tm S (fun _=>False) (.v ⟨.bool,.k,b⟩ []) (.bool b):=n7 (cs:=[.bool b]) (by simp[an,isAgg]) (by simp[K])
theorem Cu (b:ByteArray):Holds w A H tm S (fun _=>False) (.v ⟨.str,.k,b⟩ []) (.string b):=n7 (cs:=[.string b]) (by simp[an,isAgg]) (by simp[K])
end Go.Pv
