/- A verified evaluator of the program's form over pure values, part 1: what it tells of a function holds. -/
import Derived.Test.YtcpakhaogbempaaGreatPv0
import Derived.Laws.BytesString
import Derived.Laws.Entries
import Derived.Laws.Shifts
import Derived.Laws.Strings
import Derived.Laws.StructEq
namespace Go.Pv
set_option linter.unusedVariables false
set_option linter.unusedSimpArgs false
variable {h:Hint} {O:jt} {ops:Array Oper} {Θ:dq}
structure rf where
 bT:List Nat
 d:Nat
 v:AV
def bD:List Nat→St→St
 |[],S=>S
 |x::r,S=>bD r (S.put (some x) .dead)
def rf.app (E:rf) (S:St):St:=(bD E.bT S).put (some E.d) E.v
def n0 (a:AV):Prop:=∀ d,a.refs d=false
theorem rS {S:St} {x:Operand} (hx:ig S x=true) (T:TypeId):(∃ i a,x=.tmp i∧S.at i=.v a []∧S.dX Θ T x=some (.v a []))∨∃ c,x=.const c:=by
 cases x with
 |tmp i=>
  simp only[ig] at hx
  split at hx
  ·rename_i a ha
   exact .inl ⟨i,a,rfl,ha,by simp[St.dX,ha]⟩
  ·cases hx
 |const c=>exact .inr ⟨c,rfl⟩
 |func f=>simp[ig] at hx
 |global g=>simp[ig] at hx
def oy (S S':St) (l:List Nat):Prop:=∀ r∈l,S'.at r=S.at r
theorem Di {S S':St} {x:Operand} (ha:oy S S' (aM x)) (T:TypeId):S'.dX Θ T x=S.dX Θ T x:=by
 cases x with
 |tmp i=>simp only[St.dX];rw[ha i (by simp[aM])]
 |const c=>rfl
 |func f=>rfl
 |global g=>rfl
theorem IL {S S':St} {x:Operand} (hx:ig S x=true) (ha:oy S S' (aM x)) (T:TypeId):S'.rd Θ T x=S.rd Θ T x:=by
 unfold St.rd
 rw[Di ha]
 rcases rS (Θ:=Θ) hx T with⟨i,a,rfl,h1,h2⟩ |⟨c,rfl⟩
 ·rw[h2];rfl
 ·simp only[St.dX]
  cases nr Θ T c<;>rfl
theorem mm {S S':St}:∀ (xs:List Operand) (Ts:List TypeId) (l:List (Option TV)),(∀ x∈xs,ig S x=true)→oy S S' (xs.flatMap aM)→reads Θ S' xs Ts l=reads Θ S xs Ts l
 |[],_,_,_,_=>rfl
 |x::xs,[],l,_,_=>rfl
 |x::xs,T::Ts,[],_,_=>rfl
 |x::xs,T::Ts,p::ps,hx,ha=>by
  have ih:=mm xs Ts ps (fun y hy=>hx y (by simp[hy])) (fun r hr=>ha r (by simp[hr]))
  have ho:=Di (Θ:=Θ) (x:=x) (fun r hr=>ha r (by simp[hr])) T
  simp only[reads,ih,ho]
  cases p with
  |some a=>rfl
  |none=>
   simp only
   rcases rS (Θ:=Θ) (hx x (by simp)) T with⟨i,a,rfl,h1,h2⟩ |⟨c,rfl⟩
   ·rw[h2];rfl
   ·simp only[St.dX]
    cases nr Θ T c<;>rfl
theorem Aa {S S':St}:∀ (xs:List Operand) (l:List (Option TV)) (as:List Arg),oy S S' (xs.flatMap aM)→ju S' xs l as=ju S xs l as
 |[],_,_,_=>rfl
 |x::xs,[],_,_=>rfl
 |x::xs,p::ps,[],_=>rfl
 |x::xs,p::ps,r::rs,ha=>by
  have ih:=Aa xs ps rs (fun r hr=>ha r (by simp[hr]))
  have hf:uq S' x=uq S x:=by
   cases x with
   |tmp i=>simp only[uq];rw[ha i (by simp[aM])]
   |const c=>rfl
   |func f=>rfl
   |global g=>rfl
  simp only[ju,ih,hf]
theorem Hv:∀ (xs:List Operand) (Ts:List TypeId) (ps:List Pass),(ps.all fun p=>match p with
   | .val=>true
   |_=>false)=true→(∀ S,gh Θ S xs Ts ps=none)∨∃ l,∀ S,gh Θ S xs Ts ps=some (l,S)
 |[],_,_,_=>.inr ⟨[],fun S=>by simp[gh]⟩
 |x::xs,[],_,_=>.inl fun S=>by simp[gh]
 |x::xs,T::Ts,[],_=>.inl fun S=>by simp[gh]
 |x::xs,T::Ts,p::ps,h=>by
  simp only[List.all_cons,Bool.and_eq_true] at h
  cases p with
  |take=>cases h.1
  |kZ=>cases h.1
  |val=>
   rcases Hv xs Ts ps h.2 with h1 |⟨l,h1⟩
   ·exact .inl fun S=>by simp only[gh,h1]
   ·exact .inr ⟨none::l,fun S=>by simp only[gh,h1]⟩
theorem B8:∀ (l:List Pass) (n:Nat),(l.all fun p=>match p with
   | .val=>true
   |_=>false)=true→uW l n=none
 |[],_,_=>rfl
 | .val::r,n,h=>by simp only[uW];exact B8 r (n+1) (by simpa using h)
 | .take::r,n,h=>by simp at h
 | .kZ::r,n,h=>by simp at h
theorem D9 (l:List TV):n0 (Hq l):=by
 intro d
 unfold Hq
 split<;>rfl
theorem abG (hO:ot O) {i:Nat} {o:Oper} (ho:ops[i]?=some o) (hg:o.guard=none) {d:Nat} (hd:o.dst=some d) {f:FuncId} {as:Array Operand} {ts:Array TypeId} (bI:o.op=.call { callee:=.value (.func f),args:=as,argTypes:=ts })
  (hv:abz O f=true) {S:St} (hx:∀ x∈as.toList,ig S x=true):
  ∃ oE:Option rf,(∀ E,oE=some E→E.d=d∧E.bT=[]∧n0 E.v)∧∀ S',oy S S' (as.toList.flatMap aM)→∀ K,aT h O ops i S' K=oE.bind fun E=>K (E.app S'):=by
 have j0:∀ S' K,aT h O ops i S' K=hJ h O o f none as.toList ts.toList S' K:=by
  intro S' K
  unfold aT
  rw[ho]
  simp only[hg]
  unfold hY
  rw[bI]
  simp only[B8 _ 0 hv]
 rcases Hv (Θ:=h.tab) as.toList ts.toList (O.sig f) hv with ht |⟨l,ht⟩
 ·exact⟨none,fun E hE=>(by cases hE),fun S' _ K=>by rw[j0];unfold hJ;simp only[ht];rfl⟩
 ·cases hr:reads h.tab S as.toList ts.toList l with
  |none=>exact⟨none,fun E hE=>(by cases hE),fun S' ha K=>by rw[j0];unfold hJ;simp only[ht,mm _ _ _ hx ha,hr];rfl⟩
  |some args=>
   obtain⟨oR,hR⟩:=hO f (args++([]:List TV).map .tv)
   cases oR with
   |none=>
    refine⟨none,fun E hE=>(by cases hE),fun S' ha K=>?_⟩
    rw[j0];unfold hJ
    simp only[ht,mm _ _ _ hx ha,hr,rO,hR]
    rfl
   |some ret=>
    cases hrefs:ret.refs with
    |nil=>
     cases hc:(ret.res.all (fun d=>fQ d.t d.m)||(([]:List TV).isEmpty&&ju S as.toList l args)) with
     |false=>
      refine⟨none,fun E hE=>(by cases hE),fun S' ha K=>?_⟩
      rw[j0];unfold hJ
      simp only[ht,mm _ _ _ hx ha,Aa _ _ _ ha,hr,rO,hR,Option.bind_some,hrefs,hc]
      rfl
     |true=>
      refine⟨some ⟨[],d,Hq ret.res⟩,fun E hE=>?_,fun S' ha K=>?_⟩
      ·injection hE with hE
       subst hE
       exact⟨rfl,rfl,D9 _⟩
      ·rw[j0];unfold hJ
       simp only[ht,mm _ _ _ hx ha,Aa _ _ _ ha,hr,rO,hR,Option.bind_some,hrefs,hd,hc]
       rfl
    |cons _ _=>
     refine⟨none,fun E hE=>(by cases hE),fun S' ha K=>?_⟩
     rw[j0];unfold hJ
     simp only[ht,mm _ _ _ hx ha,hr,rO,hR,Option.bind_some,hrefs]
     rfl
def VD (a:AV):Prop:=(∃ b,a=.v b [])∨a=.dead
def YH (S:St):Operand→Prop
 | .tmp i=>VD (S.at i)
 | .const _=>True
 |_=>False
theorem Vp {S:St} {x:Operand} (h:ig S x=true):YH S x:=by
 cases x with
 |tmp i=>
  simp only[ig] at h
  split at h
  ·rename_i a ha;exact .inl ⟨a,ha⟩
  ·cases h
 |const c=>trivial
 |func f=>simp[ig] at h
 |global g=>simp[ig] at h
theorem Hw {S:St} {x:Operand} (hx:YH S x) (T:TypeId):∃ oB:Option (TV×List Nat),(∀ b ks,oB=some (b,ks)→ks.Nodup∧∀ r∈ks,r∈aM x∧∃ a,S.at r=.v a [])∧∀ S',oy S S' (aM x)→S'.take Θ T x=oB.map fun q=>(q.1,bD q.2 S'):=by
 cases x with
 |tmp i=>
  rcases hx with⟨a,ha⟩ |ha
  ·cases hk:a.m.bG with
   |true=>
    refine⟨some (a,[]),fun b ks e=>?_,fun S' hs=>?_⟩
    ·injection e with e
     injection e with _ e
     subst e
     exact⟨List.nodup_nil,fun r hr=>by cases hr⟩
    ·have h2:=(hs i (by simp[aM])).trans ha
     unfold St.take
     simp[St.dX,h2,St.dN,hk,bD]
   |false=>
    refine⟨some (a,[i]),fun b ks e=>?_,fun S' hs=>?_⟩
    ·injection e with e
     injection e with _ e
     subst e
     refine⟨by simp,fun r hr=>?_⟩
     simp only[List.mem_singleton] at hr
     subst hr
     exact⟨by simp[aM],a,ha⟩
    ·have h2:=(hs i (by simp[aM])).trans ha
     unfold St.take
     simp[St.dX,h2,St.dN,hk,bD]
  ·refine⟨none,fun b ks e=>(by cases e),fun S' hs=>?_⟩
   have h2:=(hs i (by simp[aM])).trans ha
   unfold St.take
   simp[St.dX,h2,St.dN]
 |const c=>
  cases hc:nr Θ T c with
  |none=>exact⟨none,fun b ks e=>(by cases e),fun S' ha=>(by unfold St.take;simp[St.dX,hc])⟩
  |some a=>
   refine⟨some (a,[]),fun b ks e=>?_,fun S' ha=>?_⟩
   ·injection e with e
    injection e with _ e
    subst e
    exact⟨List.nodup_nil,fun r hr=>by cases hr⟩
   ·unfold St.take
    simp only[St.dX,hc,St.dN]
    cases a.m.bG<;>simp[bD]
 |func f=>exact hx.elim
 |global g=>exact hx.elim
theorem MN {S:St} {x:Operand} (hx:ig S x=true) (T:TypeId):∃ oB:Option (TV×List Nat),(∀ b ks,oB=some (b,ks)→ks.Nodup∧∀ r∈ks,r∈aM x)∧∀ S',oy S S' (aM x)→S'.take Θ T x=oB.map fun q=>(q.1,bD q.2 S'):=by
 obtain⟨oB,h1,h2⟩:=Hw (Θ:=Θ) (Vp hx) T
 exact⟨oB,fun b ks e=>⟨(h1 b ks e).1,fun r hr=>((h1 b ks e).2 r hr).1⟩,h2⟩
theorem Ab {S:St} {i j:Nat} {a:TV} (h:S.at j=.v a []) (n5:j≠i):(S.put (some i) .dead).at j=.v a []:=by
 rw[dP,if_neg (fun e=>n5 e.1),h]
 simp[AV.refs]
theorem Hy {S:St} {i:Nat} {a:TV} (h:S.at i=.v a []):(S.put (some i) .dead).at i=.dead:=by
 have hl:i<S.length:=by
  rcases Nat.lt_or_ge i S.length with hl |hl
  ·exact hl
  ·unfold St.at at h
   rw[List.getD_eq_getElem?_getD,List.getElem?_eq_none hl] at h
   cases h
 rw[dP,if_pos ⟨rfl,hl⟩]
 simp[AV.refs]
theorem Rj {ks:List Nat} {S:St} {j:Nat} {a:TV} (h:S.at j=.v a []) (hj:j∉ks):(bD ks S).at j=.v a []:=by
 induction ks generalizing S with
 |nil=>exact h
 |cons x r ih=>exact ih (Ab h (fun e=>hj (by simp[e]))) (fun e=>hj (by simp[e]))
theorem YI {ks:List Nat} {S S':St} {y:Operand} (hy:ig S y=true) (ha:oy S S' (aM y)) (hn:∀ r∈aM y,r∉ks):oy S (bD ks S') (aM y):=by
 intro r hr
 cases y with
 |tmp j=>
  simp only[aM,List.mem_singleton] at hr
  subst hr
  rcases rS (Θ:=[]) hy 0 with⟨i,a,e,h1,_⟩ |⟨c,e⟩
  ·injection e with e
   subst e
   rw[h1]
   exact Rj ((ha r (by simp[aM])).trans h1) (hn r (by simp[aM]))
  ·cases e
 |const c=>simp[aM] at hr
 |func f=>simp[aM] at hr
 |global g=>simp[aM] at hr
theorem Rk {ks:List Nat} {S:St} {j:Nat} {a:TV} (h:S.at j=.v a []) (hj:j∈ks):(bD ks S).at j=.dead:=by
 have dead:∀ (ks:List Nat) (S:St),S.at j=.dead→(bD ks S).at j=.dead:=by
  intro ks
  induction ks with
  |nil=>intro S h;exact h
  |cons x r ih=>
   intro S h
   refine ih _ ?_
   rw[dP]
   split
   ·simp[AV.refs]
   ·rw[h];simp[AV.refs]
 induction ks generalizing S with
 |nil=>cases hj
 |cons x r ih=>
  by_cases hx:j=x
  ·subst hx
   exact dead r _ (Hy h)
  ·exact ih (Ab h hx) (by rcases List.mem_cons.1 hj with e |e;exact absurd e hx;exact e)
theorem B9 (a b:List Nat) (S:St):bD (a++b) S=bD b (bD a S):=by
 induction a generalizing S with
 |nil=>rfl
 |cons x r ih=>exact ih _
theorem Rl {S:St} {d:Nat} {x y:Operand} {T T':TypeId} (hx:ig S x=true) (hy:ig S y=true):
  ∃ oG:Option (Bool×rf),(∀ g E,oG=some (g,E)→E.d=d∧n0 E.v∧E.bT.Nodup∧∀ r∈E.bT,r∈aM x++aM y)∧∀ S',oy S S' (aM x++aM y)→cf Θ S' (some d) [T,T'] [x,y]=oG.map fun q=>(q.1,q.2.app S'):=by
 obtain⟨oB,hB1,hB2⟩:=MN (Θ:=Θ) hx T
 have Vq:∀ {S':St},oy S S' (aM x++aM y)→oy S S' (aM x):=fun ha r hr=>ha r (by simp[hr])
 have hay:∀ {S':St},oy S S' (aM x++aM y)→oy S S' (aM y):=fun ha r hr=>ha r (by simp[hr])
 cases oB with
 |none=>exact⟨none,fun g E e=>(by cases e),fun S' ha=>by unfold cf;simp only[hB2 S' (Vq ha)];rfl⟩
 |some q=>
  obtain⟨b,ks⟩:=q
  obtain⟨MO,zQ⟩:=hB1 b ks rfl
  -- is the second gone?
  by_cases ao9:∃ r∈aM y,r∈ks
  ·obtain⟨r,hr,hrk⟩:=ao9
   cases y with
   |const c=>simp[aM] at hr
   |func f=>simp[aM] at hr
   |global g=>simp[aM] at hr
   |tmp j=>
    simp only[aM,List.mem_singleton] at hr
    subst hr
    refine⟨none,fun g E e=>(by cases e),fun S' ha=>?_⟩
    rcases rS (Θ:=Θ) hy 0 with⟨i,a,e,h1,_⟩ |⟨c,e⟩
    ·injection e with e
     subst e
     have rb:=Rk (ks:=ks) ((ha r (by simp[aM])).trans h1) hrk
     unfold cf
     simp only[hB2 S' (Vq ha),Option.map_some]
     have Vr:(bD ks S').rd Θ T' (.tmp r)=none:=by unfold St.rd;simp only[St.dX,rb,St.tp]
     have htk:(bD ks S').take Θ T' (.tmp r)=none:=by unfold St.take;simp only[St.dX,rb,St.dN]
     split
     ·rename_i t e1 tg me xs S1 i heq hf
      simp only[Option.some.injEq,Prod.mk.injEq] at heq
      obtain⟨rfl,rfl⟩:=heq
      simp only[Vr,htk,cond_false]
      cases me.bG<;>cases (decide (i.ty=t.sl)&&Nat.beq i.e e1&&Θ.is T' t.sl)<;>rfl
     ·rfl
    ·cases e
  ·have hn:∀ r∈aM y,r∉ks:=fun r hr hk=>ao9 ⟨r,hr,hk⟩
   obtain⟨oC,hC1,hC2⟩:=MN (Θ:=Θ) hy T'
   cases hf:Θ.find T with
   |none=>exact⟨none,fun g E e=>(by cases e),fun S' ha=>by unfold cf;simp only[hB2 S' (Vq ha),hf];split<;>simp_all⟩
   |some ti=>
   by_cases B':∃ (t:Ty) (e1:TypeId) (tg:Option Nat) (me:Md) (xs:List t.I),b=⟨.sl t,.o e1 tg me,xs⟩
   rotate_left
   ·refine⟨none,fun g E e=>(by cases e),fun S' ha=>?_⟩
    unfold cf
    simp only[hB2 S' (Vq ha),hf,Option.map_some]
    split
    ·rename_i t e1 tg me xs S1 i heq axN
     simp only[Option.some.injEq,Prod.mk.injEq] at heq
     exact absurd ⟨t,e1,tg,me,xs,heq.1⟩ B'
    ·rfl
   obtain⟨t,e1,tg,me,xs,rfl⟩:=B'
   have hS:∀ S',oy S S' (aM x++aM y)→oy S (bD ks S') (aM y):=fun S' ha=>YI hy (hay ha) hn
   cases hc:(decide (ti.ty=.sl t)&&Nat.beq ti.e e1&&Θ.is T' (.sl t)) with
   |false=>exact⟨none,fun g E e=>(by cases e),fun S' ha=>by unfold cf;simp only[hB2 S' (Vq ha),hf,Option.map_some,hc,cond_false];rfl⟩
   |true=>
   cases hk:me.bG with
   |true=>
    have GZ:∀ S',oy S S' (aM x++aM y)→cf Θ S' (some d) [T,T'] [x,y]=(match S.rd Θ T' y with
     |some ⟨.sl t',m',ys⟩=>bif m'.Hm.bG then(if h:t'=t then
       some (decide ((xs.length+ys.length)*t.size≤4398046511104),(bD ks S').put (some d) (.v ⟨.sl t,.o e1 none me,xs++(h▸ys)⟩ [])) else none) else none
     |_=>none):=fun S' ha=>by
     unfold cf
     simp only[hB2 S' (Vq ha),hf,Option.map_some,hc,cond_true,hk,IL hy (hS S' ha)]
     rfl
    cases hr:S.rd Θ T' y with
    |none=>exact⟨none,fun g E e=>(by cases e),fun S' ha=>by rw[GZ S' ha,hr];rfl⟩
    |some c=>
     by_cases hf2:∃ (m':Md) (ys:List t.I),c=⟨.sl t,m',ys⟩∧m'.Hm.bG=true
     ·obtain⟨m',ys,rfl,hm⟩:=hf2
      refine⟨some (decide ((List.length xs+List.length ys)*t.size≤4398046511104),⟨ks,d,.v ⟨.sl t,.o e1 none me,xs++ys⟩ []⟩),fun g E e=>?_,fun S' ha=>?_⟩
      rotate_left
      ·rw[GZ S' ha,hr]
       simp only[hm,cond_true,dite_true,Option.map_some,rf.app]
      ·injection e with e
       injection e with _ e
       subst e
       exact⟨rfl,fun _=>rfl,MO,fun r hr=>by simp[zQ r hr]⟩
     ·refine⟨none,fun g E e=>(by cases e),fun S' ha=>?_⟩
      rw[GZ S' ha,hr]
      split
      ·rename_i t' m' ys heq
       injection heq with heq
       subst heq
       cases hm:m'.Hm.bG with
       |false=>rfl
       |true=>
        simp only[cond_true]
        by_cases ht:t'=t
        ·subst ht
         exact absurd ⟨m',ys,rfl,hm⟩ hf2
        ·rw[dif_neg ht];rfl
      ·rfl
   |false=>
    have GZ:∀ S',oy S S' (aM x++aM y)→cf Θ S' (some d) [T,T'] [x,y]=(match oC.map (fun q=>(q.1,bD q.2 (bD ks S'))) with
     |some (⟨.sl t',m',ys⟩,S2)=>if h:t'=t then
       (if m'.Hm=me then some (decide ((xs.length+ys.length)*t.size≤4398046511104),S2.put (some d) (.v ⟨.sl t,.o e1 none me,xs++(h▸ys)⟩ [])) else none) else none
     |_=>none):=fun S' ha=>by
     unfold cf
     simp only[hB2 S' (Vq ha),hf,Option.map_some,hc,cond_true,cond_false,hk,hC2 _ (hS S' ha)]
     rfl
    cases oC with
    |none=>exact⟨none,fun g E e=>(by cases e),fun S' ha=>by rw[GZ S' ha];rfl⟩
    |some c=>
     obtain⟨c,ks2⟩:=c
     obtain⟨abH,abI⟩:=hC1 c ks2 rfl
     by_cases hf2:∃ (m':Md) (ys:List t.I),c=⟨.sl t,m',ys⟩∧m'.Hm=me
     ·obtain⟨m',ys,rfl,hm⟩:=hf2
      refine⟨some (decide ((List.length xs+List.length ys)*t.size≤4398046511104),⟨ks++ks2,d,.v ⟨.sl t,.o e1 none me,xs++ys⟩ []⟩),fun g E e=>?_,fun S' ha=>?_⟩
      rotate_left
      ·rw[GZ S' ha]
       simp only[Option.map_some,dite_true,hm,if_true,rf.app,B9]
      ·injection e with e
       injection e with _ e
       subst e
       refine⟨rfl,fun _=>rfl,List.nodup_append.2 ⟨MO,abH,fun a ha b hb e=>by subst e;exact hn a (abI a hb) ha⟩,fun r hr=>?_⟩
       rcases List.mem_append.1 hr with hr |hr
       ·simp[zQ r hr]
       ·simp[abI r hr]
     ·refine⟨none,fun g E e=>(by cases e),fun S' ha=>?_⟩
      rw[GZ S' ha]
      simp only[Option.map_some]
      split
      ·rename_i t' m' ys S2 heq
       injection heq with heq
       injection heq with heq _
       by_cases ht:t'=t
       ·subst ht
        by_cases hm:m'.Hm=me
        ·exact absurd ⟨m',ys,heq,hm⟩ hf2
        ·rw[dif_pos rfl,if_neg hm];rfl
       ·rw[dif_neg ht];rfl
      ·rfl
theorem Ca (ks:List Nat) (S:St):(bD ks S).length=S.length:=by
 induction ks generalizing S with
 |nil=>rfl
 |cons x r ih=>simp only[bD,ih,bW]
theorem uZ:∀ (ks:List Nat) (S:St),ks.Nodup→(∀ x∈ks,∃ a,S.at x=.v a [])→∀ i,(bD ks S).at i=if i∈ks then .dead else bif ks.any (S.at i).refs then .dead else S.at i
 |[],S,_,_,i=>by simp[bD]
 |x::r,S,hn,hv,i=>by
  obtain⟨a,ha⟩:=hv x (by simp)
  simp only[List.nodup_cons] at hn
  have hv':∀ y∈r,∃ b,(S.put (some x) .dead).at y=.v b []:=fun y hy=>by
   obtain⟨b,hb⟩:=hv y (by simp[hy])
   exact⟨b,Ab hb (fun e=>hn.1 (by rw[←e];exact hy))⟩
  simp only[bD]
  rw[uZ r _ hn.2 hv' i]
  by_cases hir:i∈r
  ·simp[hir]
  ·by_cases hix:i=x
   ·subst hix
    simp only[hir,if_false,Hy ha,List.mem_cons,true_or,if_true]
    simp[AV.refs]
   ·simp only[hir,if_false,List.mem_cons,hix,or_self]
    rw[dP,if_neg (fun e=>hix e.1),ha]
    simp only[AV.zU,Bool.and_true,List.any_cons]
    cases hr:(S.at i).refs x<;>simp[AV.refs]
structure rf.In (E:rf) (S:St):Prop where
 nd:E.bT.Nodup
 cp:∀ x∈E.bT,∃ a,S.at x=.v a []
 slot:(S.at E.d).zU=false
 lt:E.d<S.length
 refs:n0 E.v
 out:E.d∉E.bT
theorem rf.IM (E:rf) (S:St):(E.app S).length=S.length:=by unfold rf.app;rw[bW,Ca]
theorem rf.rT {E:rf} {S:St} (h:E.In S) (i:Nat):(E.app S).at i=if i=E.d then E.v else if i∈E.bT then .dead else bif E.bT.any (S.at i).refs then .dead else S.at i:=by
 unfold rf.app
 have hd:((bD E.bT S).at E.d).zU=false:=by
  rw[uZ _ _ h.nd h.cp]
  split
  ·rfl
  ·cases E.bT.any (S.at E.d).refs with
   |true=>rfl
   |false=>exact h.slot
 rw[dP,Ca,hd]
 by_cases hi:i=E.d
 ·rw[if_pos ⟨hi,h.lt⟩,if_pos hi,h.refs]
  rfl
 ·rw[if_neg (fun e=>hi e.1),if_neg hi]
  simp only[Bool.and_false,cond_false]
  exact uZ _ _ h.nd h.cp i
theorem n6 {S S':St} (hl:S.length=S'.length) (h:∀ i,S.at i=S'.at i):S=S':=by
 apply List.ext_getElem hl
 intro i h1 h2
 have:=h i
 unfold St.at at this
 rw[List.getD_eq_getElem?_getD,List.getD_eq_getElem?_getD,List.getElem?_eq_getElem h1,List.getElem?_eq_getElem h2] at this
 exact this
theorem rf.comm {E F:rf} {S:St} (hE:E.In S) (hF:F.In S) (hd:E.d≠F.d) (h1:E.d∉F.bT) (h2:F.d∉E.bT) (hEF:E.In (F.app S)) (hFE:F.In (E.app S)):E.app (F.app S)=F.app (E.app S):=by
 refine n6 (by simp[rf.IM]) fun i=>?_
 rw[rf.rT hEF,rf.rT hFE,rf.rT hF,rf.rT hE]
 by_cases hiE:i=E.d
 ·subst hiE
  have hv:F.bT.any E.v.refs=false:=List.any_eq_false.2 fun x _=>by rw[hE.refs];simp
  simp[hd,h1,hv]
 ·by_cases hiF:i=F.d
  ·subst hiF
   have hv:E.bT.any F.v.refs=false:=List.any_eq_false.2 fun x _=>by rw[hF.refs];simp
   simp[hiE,h2,hv]
  ·simp only[hiE,hiF,if_false]
   by_cases hkE:i∈E.bT
   ·by_cases hkF:i∈F.bT
    ·simp[hkE,hkF]
    ·have hv:F.bT.any AV.dead.refs=false:=List.any_eq_false.2 fun x _=>by simp[AV.refs]
     simp[hkE,hkF,hv]
   ·by_cases hkF:i∈F.bT
    ·have hv:E.bT.any AV.dead.refs=false:=List.any_eq_false.2 fun x _=>by simp[AV.refs]
     simp[hkE,hkF,hv]
    ·have hvE:E.bT.any AV.dead.refs=false:=List.any_eq_false.2 fun x _=>by simp[AV.refs]
     have hvF:F.bT.any AV.dead.refs=false:=List.any_eq_false.2 fun x _=>by simp[AV.refs]
     simp only[hkE,hkF,if_false]
     cases hE':E.bT.any (S.at i).refs<;>cases hF':F.bT.any (S.at i).refs<;>simp[hE',hF',hvE,hvF]
theorem MP {S:St} {r x:Nat} (h:VD (S.at r)):(S.put (some x) .dead).at r=if r=x then .dead else S.at r:=by
 have hr:(S.at r).refs x=false:=by rcases h with⟨a,h⟩ |h<;>rw[h]<;>rfl
 rw[dP,hr]
 by_cases hx:r=x
 ·subst hx
  by_cases hl:r<S.length
  ·simp[hl,AV.refs]
  ·have:S.at r=.dead:=by unfold St.at;rw[List.getD_eq_getElem?_getD,List.getElem?_eq_none (by omega)];rfl
   simp[hl,this]
 ·simp[hx]
theorem rU:∀ (ks:List Nat) {S:St} {r:Nat},VD (S.at r)→(bD ks S).at r=if r∈ks then .dead else S.at r
 |[],S,r,h=>by simp[bD]
 |x::l,S,r,h=>by
  have h1:=MP (x:=x) h
  have hv:VD ((S.put (some x) .dead).at r):=by rw[h1];split;exact .inr rfl;exact h
  simp only[bD]
  rw[rU l hv,h1]
  by_cases hx:r=x<;>by_cases hl:r∈l<;>simp[hx,hl]
theorem Rm {S:St} {ks:List Nat} {x:Operand} (h:YH S x):YH (bD ks S) x:=by
 cases x with
 |tmp i=>
  simp only[YH] at h ⊢
  rw[rU ks h]
  split
  ·exact .inr rfl
  ·exact h
 |const c=>trivial
 |func f=>exact h
 |global g=>exact h
theorem Ac {ps:List (Nat×Operand)}:∀ (r:List TypeId) (j:Nat) {S:St},(∀ q∈ps,YH S q.2)→∃ oL:Option (List TV×List Nat),(∀ l ks,oL=some (l,ks)→ks.Nodup∧∀ x∈ks,x∈ps.flatMap (fun q=>aM q.2)∧∃ a,S.at x=.v a [])∧
  ∀ S',oy S S' (ps.flatMap fun q=>aM q.2)→S'.parts Θ ps r j=oL.map fun q=>(q.1,bD q.2 S')
 |[],j,S,hx=>⟨some ([],[]),fun l ks e=>by
   injection e with e
   injection e with _ e
   subst e
   exact⟨List.nodup_nil,fun x hx=>by cases hx⟩,fun S' ha=>rfl⟩
 |T::r,j,S,hx=>by
  cases hf:ps.find? (fun q=>Nat.beq q.1 j) with
  |none=>
   cases hz:rJ Θ T with
   |none=>exact⟨none,fun l ks e=>(by cases e),fun S' ha=>by simp only[St.parts,hf,hz];rfl⟩
   |some a=>
    obtain⟨oL,h1,h2⟩:=Ac r (j+1) hx
    cases oL with
    |none=>exact⟨none,fun l ks e=>(by cases e),fun S' ha=>by simp only[St.parts,hf,hz,h2 S' ha];rfl⟩
    |some q=>
     refine⟨some (a::q.1,q.2),fun l ks e=>?_,fun S' ha=>by simp only[St.parts,hf,hz,h2 S' ha];rfl⟩
     injection e with e
     injection e with _ e
     subst e
     exact h1 q.1 q.2 rfl
  |some q=>
   have hq:q∈ps:=List.mem_of_find?_eq_some hf
   have G5:∀ r∈aM q.2,r∈ps.flatMap fun q=>aM q.2:=fun r hr=>List.mem_flatMap.2 ⟨q,hq,hr⟩
   obtain⟨oB,b1,b2⟩:=Hw (Θ:=Θ) (hx q hq) T
   cases oB with
   |none=>exact⟨none,fun l ks e=>(by cases e),fun S' ha=>by simp only[St.parts,hf,b2 S' fun r hr=>ha r (G5 r hr)];rfl⟩
   |some bk=>
    obtain⟨b,ks⟩:=bk
    obtain⟨MO,zQ⟩:=b1 b ks rfl
    obtain⟨oL,h1,h2⟩:=Ac r (j+1) (S:=bD ks S) (fun q hq=>Rm (hx q hq))
    have Rn:∀ S',oy S S' (ps.flatMap fun q=>aM q.2)→oy (bD ks S) (bD ks S') (ps.flatMap fun q=>aM q.2):=fun S' ha r hr=>by
     obtain⟨q',rE,Ad⟩:=List.mem_flatMap.1 hr
     have hv:VD (S.at r):=by
      have:=hx q' rE
      cases Hz:q'.2 with
      |tmp i=>
       rw[Hz] at this Ad
       simp only[aM,List.mem_singleton] at Ad
       subst Ad
       exact this
      |const c=>rw[Hz] at Ad;simp[aM] at Ad
      |func f=>rw[Hz] at Ad;simp[aM] at Ad
      |global g=>rw[Hz] at Ad;simp[aM] at Ad
     rw[rU ks hv,rU ks (by rw[ha r hr];exact hv),ha r hr]
    cases oL with
    |none=>exact⟨none,fun l ks e=>(by cases e),fun S' ha=>by simp only[St.parts,hf,b2 S' fun r hr=>ha r (G5 r hr),Option.map_some,h2 _ (Rn S' ha)];rfl⟩
    |some lk=>
     obtain⟨l,ks2⟩:=lk
     obtain⟨abH,abI⟩:=h1 l ks2 rfl
     refine⟨some (b::l,ks++ks2),fun l' ks' e=>?_,fun S' ha=>by simp only[St.parts,hf,b2 S' fun r hr=>ha r (G5 r hr),Option.map_some,h2 _ (Rn S' ha),B9]⟩
     injection e with e
     injection e with _ e
     subst e
     have MG:∀ x∈ks2,x∉ks∧∃ a,S.at x=.v a []:=fun x nx=>by
      obtain⟨m1,a,m2⟩:=abI x nx
      have hv:VD (S.at x):=by
       obtain⟨q',rE,Ad⟩:=List.mem_flatMap.1 m1
       have:=hx q' rE
       cases Hz:q'.2 with
       |tmp i=>
        rw[Hz] at this Ad
        simp only[aM,List.mem_singleton] at Ad
        subst Ad
        exact this
       |const c=>rw[Hz] at Ad;simp[aM] at Ad
       |func f=>rw[Hz] at Ad;simp[aM] at Ad
       |global g=>rw[Hz] at Ad;simp[aM] at Ad
      rw[rU ks hv] at m2
      by_cases hk:x∈ks
      ·rw[if_pos hk] at m2;cases m2
      ·rw[if_neg hk] at m2;exact⟨hk,a,m2⟩
     refine⟨List.nodup_append.2 ⟨MO,abH,fun a ha b hb e=>by subst e;exact(MG a hb).1 ha⟩,fun x nx=>?_⟩
     rcases List.mem_append.1 nx with nx |nx
     ·exact⟨G5 x (zQ x nx).1,(zQ x nx).2⟩
     ·exact⟨(abI x nx).1,(MG x nx).2⟩
theorem YJ {S:St} {d:Nat} {T:TypeId} {n:Nat} {hn:Hn} {ps:List (Nat×Operand)} (hx:∀ q∈ps,ig S q.2=true):
  ∃ oG:Option (Bool×rf),(∀ g E,oG=some (g,E)→E.d=d∧n0 E.v∧E.bT.Nodup∧∀ r∈E.bT,r∈ps.flatMap fun q=>aM q.2)∧∀ S',oy S S' (ps.flatMap fun q=>aM q.2)→bw Θ hn S' (some d) T n ps=oG.map fun q=>(q.1,q.2.app S'):=by
 cases hf:Θ.find T with
 |none=>exact⟨none,fun g E e=>(by cases e),fun S' ha=>by unfold bw;simp only[hf];rfl⟩
 |some i=>
  by_cases B':∃ t,i.ty=.sl t
  rotate_left
  ·refine⟨none,fun g E e=>(by cases e),fun S' ha=>?_⟩
   unfold bw
   simp only[hf]
   split
   ·rename_i heq
    injection heq with heq
    subst heq
    exact absurd ⟨_,rfl⟩ B'
   ·rfl
  obtain⟨t,ht⟩:=B'
  obtain⟨q1,ty,e,q4⟩:=i
  simp only at ht
  subst ht
  obtain⟨oL,l1,l2⟩:=Ac (Θ:=Θ) (List.replicate n e) 0 (fun q hq=>Vp (hx q hq))
  cases hc:(kJ n ps&&Nat.ble n 1800) with
  |false=>exact⟨none,fun g E e=>(by cases e),fun S' ha=>by unfold bw;simp only[hf,hc,cond_false];rfl⟩
  |true=>
   cases oL with
   |none=>exact⟨none,fun g E e=>(by cases e),fun S' ha=>by unfold bw;simp only[hf,hc,cond_true,l2 S' ha];rfl⟩
   |some q=>
    obtain⟨l,ks⟩:=q
    obtain⟨MO,zQ⟩:=l1 l ks rfl
    cases l with
    |nil=>
     refine⟨some (true,⟨ks,d,.v ⟨.sl t,bif hn.Yz (some d) then .k else .o e none (hn.find (some d) .k),[]⟩ []⟩),fun g E e=>?_,fun S' ha=>by unfold bw;simp only[hf,hc,cond_true,l2 S' ha];rfl⟩
     injection e with e
     injection e with _ e
     subst e
     exact⟨rfl,fun _=>rfl,MO,fun r hr=>(zQ r hr).1⟩
    |cons a l=>
     cases hl:rK t a.m (a::l) with
     |none=>exact⟨none,fun g E e=>(by cases e),fun S' ha=>by unfold bw;simp only[hf,hc,cond_true,l2 S' ha,Option.map_some,hl];rfl⟩
     |some xs=>
      refine⟨some (true,⟨ks,d,.v ⟨.sl t,bif hn.Yz (some d)&&a.m.bG then .k else .o e none a.m,xs⟩ []⟩),fun g E e=>?_,fun S' ha=>by unfold bw;simp only[hf,hc,cond_true,l2 S' ha,Option.map_some,hl];rfl⟩
      injection e with e
      injection e with _ e
      subst e
      exact⟨rfl,fun _=>rfl,MO,fun r hr=>(zQ r hr).1⟩
theorem Ro {S:St} {x:Operand} (h:Re S x=true):ig S x=true:=by
 cases x with
 |tmp i=>
  simp only[Re] at h
  simp only[ig]
  split at h
  ·rename_i ha;rw[ha]
  ·cases h
 |const c=>rfl
 |func f=>exact h
 |global g=>exact h
theorem D' {S S':St} {d:Int} {x:Option Operand} (h:B6 S x=true) (ha:oy S S' (fc x)):gY Θ S' d x=gY Θ S d x:=by
 cases x with
 |none=>rfl
 |some x=>
  simp only[gY,St.lM,IL h ha]
theorem ah8 {S:St} {d:Nat} {T:TypeId} {x:Operand} {lo hi:Option Operand} (hx:Re S x=true) (YK:B6 S lo=true) (Ea:B6 S hi=true):
  ∃ o:Option (Bool×TV),∀ S',oy S S' (aM x++(fc lo++fc hi))→eE Θ S' (some d) T x lo hi none=o.map fun q=>(q.1,S'.put (some d) (.v q.2 [])):=by
 have ag:∀ {S':St},oy S S' (aM x++(fc lo++fc hi))→S'.dX Θ 0 x=S.dX Θ 0 x∧S'.rd Θ 0 x=S.rd Θ 0 x∧gY Θ S' 0 lo=gY Θ S 0 lo∧∀ n,gY Θ S' n hi=gY Θ S n hi:=fun ha=>
  ⟨Di (fun r hr=>ha r (by simp[hr])) 0,IL (Ro hx) (fun r hr=>ha r (by simp[hr])) 0,D' YK fun r hr=>ha r (by simp[hr]),fun n=>D' Ea fun r hr=>ha r (by simp[hr])⟩
 have dL:(∃ t y,S.dX Θ 0 x=some (.v ⟨t,.k,y⟩ [])∧S.rd Θ 0 x=some ⟨t,.k,y⟩)∨∃ c,x=.const c:=by
  cases x with
  |tmp i=>
   simp only[Re] at hx
   split at hx
   ·rename_i t y ha
    exact .inl ⟨t,y,by simp[St.dX,ha],by simp[St.rd,St.dX,ha,St.tp]⟩
   ·cases hx
  |const c=>exact .inr ⟨c,rfl⟩
  |func f=>simp[Re] at hx
  |global g=>simp[Re] at hx
 have jw:(∃ a,S.dX Θ 0 x=some (.v a [])∧S.rd Θ 0 x=some a∧(a.m=.k∨∃ c,x=.const c))∨S.dX Θ 0 x=none:=by
  rcases dL with⟨t,y,h1,h2⟩ |⟨c,rfl⟩
  ·exact .inl ⟨_,h1,h2,.inl rfl⟩
  ·simp only[St.rd,St.dX]
   cases nr Θ 0 c with
   |none=>exact .inr rfl
   |some a=>exact .inl ⟨a,rfl,rfl,.inr ⟨c,rfl⟩⟩
 rcases jw with⟨a,h1,h2,hm⟩ |h1
 rotate_left
 ·exact⟨none,fun S' ha=>by unfold eE;rw[(ag ha).1,h1];rfl⟩
 cases hl:gY Θ S 0 lo with
 |none=>
  refine⟨none,fun S' ha=>?_⟩
  obtain⟨e1,e2,e3,e4⟩:=ag ha
  unfold eE
  rw[e1,e2,e3,h1,h2,hl]
  obtain⟨t,m,y⟩:=a
  cases t<;>rfl
 |some l=>
  obtain⟨t,m,y⟩:=a
  have axI:(∀ S',eE Θ S' (some d) T x lo hi none=none)→∃ o:Option (Bool×TV),∀ S',oy S S' (aM x++(fc lo++fc hi))→eE Θ S' (some d) T x lo hi none=o.map fun q=>(q.1,S'.put (some d) (.v q.2 [])):=fun h=>⟨none,fun S' _=>h S'⟩
  cases t with
  |str=>
   cases hh:gY Θ S (ByteArray.size y:Int) hi with
   |none=>
    refine⟨none,fun S' ha=>?_⟩
    obtain⟨e1,e2,e3,e4⟩:=ag ha
    unfold eE
    rw[e1,e2,e3,h1,h2,hl]
    simp only[e4,hh]
    rfl
   |some h'=>
    cases hT:Θ.is T .str with
    |false=>
     refine⟨none,fun S' ha=>?_⟩
     obtain⟨e1,e2,e3,e4⟩:=ag ha
     unfold eE
     rw[e1,e2,e3,h1,h2,hl]
     simp only[e4,hh,hT]
     rfl
    |true=>
     refine⟨some (decide (0≤l)&&decide (l≤h')&&decide (h'≤(ByteArray.size y:Int)),⟨.str,.k,ByteArray.extract y l.toNat h'.toNat⟩),fun S' ha=>?_⟩
     obtain⟨e1,e2,e3,e4⟩:=ag ha
     unfold eE
     rw[e1,e2,e3,h1,h2,hl]
     simp only[e4,hh,hT]
     rfl
  |sl t=>
   cases hT:Θ.is T (.sl t) with
   |false=>
    refine⟨none,fun S' ha=>?_⟩
    obtain⟨e1,e2,e3,e4⟩:=ag ha
    unfold eE
    rw[e1,e2,e3,h1,h2,hl]
    simp only[hT]
    rfl
   |true=>
    cases hh:gY Θ S (List.length y:Int) hi with
    |none=>
     refine⟨none,fun S' ha=>?_⟩
     obtain⟨e1,e2,e3,e4⟩:=ag ha
     unfold eE
     rw[e1,e2,e3,h1,h2,hl]
     simp only[hT,e4,hh]
     rfl
    |some h'=>
     by_cases hk:m=.k
     ·subst hk
      refine⟨some (decide (0≤l)&&decide (l≤h')&&decide (h'≤(List.length y:Int)),⟨.sl t,.k,(List.take h'.toNat y).drop l.toNat⟩),fun S' ha=>?_⟩
      obtain⟨e1,e2,e3,e4⟩:=ag ha
      unfold eE
      rw[e1,e2,e3,h1,h2,hl]
      simp only[hT,e4,hh]
      rfl
     ·obtain⟨c,rfl⟩:=hm.resolve_left hk
      refine⟨none,fun S' ha=>?_⟩
      obtain⟨e1,e2,e3,e4⟩:=ag ha
      unfold eE
      rw[e1,e2,e3,h1,h2,hl]
      simp only[hT,e4,hh,cond_true]
      cases m<;>first |exact absurd rfl hk |rfl
  |_=>
   refine⟨none,fun S' ha=>?_⟩
   obtain⟨e1,e2,e3,e4⟩:=ag ha
   unfold eE
   rw[e1,e2,e3,h1,h2,hl]
   rfl
theorem YL {S:St} {d:Nat} {T:TypeId} {x ix:Operand} (hx:Re S x=true) (hix:ig S ix=true):
  ∃ o:Option (Bool×TV),∀ S',oy S S' (aM x++aM ix)→cd Θ S' (some d) T x ix=o.map fun q=>(q.1,S'.put (some d) (.v q.2 [])):=by
 have ag:∀ {S':St},oy S S' (aM x++aM ix)→S'.dX Θ 0 x=S.dX Θ 0 x∧S'.lM Θ ix=S.lM Θ ix:=fun ha=>
  ⟨Di (fun r hr=>ha r (by simp[hr])) 0,by unfold St.lM;rw[IL hix (fun r hr=>ha r (by simp[hr])) 0]⟩
 have jw:(∃ a,S.dX Θ 0 x=some (.v a [])∧(a.m=.k∨∃ c,x=.const c))∨S.dX Θ 0 x=none:=by
  cases x with
  |tmp i=>
   simp only[Re] at hx
   split at hx
   ·rename_i t y ha
    exact .inl ⟨⟨t,.k,y⟩,by simp[St.dX,ha],.inl rfl⟩
   ·cases hx
  |const c=>
   simp only[St.dX]
   cases nr Θ 0 c with
   |none=>exact .inr rfl
   |some a=>exact .inl ⟨a,rfl,.inr ⟨c,rfl⟩⟩
  |func f=>simp[Re] at hx
  |global g=>simp[Re] at hx
 rcases jw with⟨a,h1,hm⟩ |h1
 rotate_left
 ·exact⟨none,fun S' ha=>by unfold cd;rw[(ag ha).1,h1];rfl⟩
 cases hn:S.lM Θ ix with
 |none=>
  refine⟨none,fun S' ha=>?_⟩
  obtain⟨e1,e2⟩:=ag ha
  unfold cd
  rw[e1,e2,h1,hn]
  obtain⟨t,m,y⟩:=a
  cases t<;>rfl
 |some n=>
  obtain⟨t,m,y⟩:=a
  cases t with
  |sl t=>
   cases hT:Θ.is T (.sl t) with
   |false=>
    refine⟨none,fun S' ha=>?_⟩
    obtain⟨e1,e2⟩:=ag ha
    unfold cd
    rw[e1,e2,h1,hn]
    simp only[hT]
    rfl
   |true=>
    by_cases hk:m=.k
    ·subst hk
     refine⟨some (aO n (List.length y),⟨.ptr t,.k,List.getD y n.toNat t.z⟩),fun S' ha=>?_⟩
     obtain⟨e1,e2⟩:=ag ha
     unfold cd
     rw[e1,e2,h1,hn]
     simp only[hT]
     rfl
    ·obtain⟨c,rfl⟩:=hm.resolve_left hk
     refine⟨none,fun S' ha=>?_⟩
     obtain⟨e1,e2⟩:=ag ha
     unfold cd
     rw[e1,e2,h1,hn]
     simp only[hT,cond_true]
     cases m<;>first |exact absurd rfl hk |rfl
  |_=>
   refine⟨none,fun S' ha=>?_⟩
   obtain⟨e1,e2⟩:=ag ha
   unfold cd
   rw[e1,e2,h1,hn]
   rfl
theorem xd {S:St} {o:Oper} (hg:jY O ops S o=true):o.guard=none∧∃ d,o.dst=some d∧(S.at d).zU=false∧d<S.length:=by
 unfold jY at hg
 simp only[Bool.and_eq_true] at hg
 obtain⟨⟨h1,h2⟩,_⟩:=hg
 refine⟨?_,?_⟩
 ·split at h1
  ·assumption
  ·cases h1
 ·split at h2
  ·rename_i d hd
   simp only[Bool.and_eq_true,Bool.not_eq_true'] at h2
   exact⟨d,hd,h2.1,Nat.lt_of_lt_of_le (Nat.lt_succ_self _) (Nat.le_of_ble_eq_true h2.2)⟩
  ·cases h2
theorem iJ {S:St} {x:Operand} (h:ig S x=true):∀ r∈aM x,∃ a,S.at r=.v a []:=by
 intro r hr
 rcases rS (Θ:=[]) h 0 with⟨i,a,rfl,h1,_⟩ |⟨c,rfl⟩
 ·simp only[aM,List.mem_singleton] at hr
  subst hr
  exact⟨a,h1⟩
 ·simp[aM] at hr
theorem IN {S S':St} {Θ:dq} {dst:Option Nat}:∀ {as:List Operand} {ts:List TypeId},(∀ x∈as,ig S x=true)→oy S S' (as.flatMap aM)→fW Θ S' dst ts as=none:=by
 intro as ts bI ha
 unfold fW
 split
 ·rename_i x y T T'
  split
  ·rename_i tt s st pp dL
   exfalso
   have h1:=bI x (by simp)
   cases x with
   |tmp i=>
    have h2:=ha i (by simp[aM])
    simp only[St.dX,Option.some.injEq] at dL
    rw[h2] at dL
    simp only[ig,dL] at h1
    cases h1
   |const c=>
    simp only[St.dX] at dL
    split at dL<;>cases dL
   |func f=>simp[ig] at h1
   |global g=>simp[ig] at h1
  ·rfl
 ·rfl
theorem Vs (hO:ot O) {i:Nat} {o:Oper} (ho:ops[i]?=some o) {S:St} (hg:jY O ops S o=true) {d:Nat} (hd:o.dst=some d):
  ∃ oE:Option rf,(∀ E,oE=some E→E.d=d∧n0 E.v∧E.bT.Nodup∧(∀ r∈E.bT,r∈aR ops o)∧(jZ o=true→E.bT=[]))∧∀ S',oy S S' (aR ops o)→∀ K,aT h O ops i S' K=oE.bind fun E=>K (E.app S'):=by
 have hgd:=(xd hg).1
 have val:∀ {o':Option (Bool×TV)} {G0:St→zV},jZ o=true→(∀ S' K,aT h O ops i S' K=match G0 S' with
    |some (g,S1)=>bif g then K S1 else none
    |none=>none)→(∀ S',oy S S' (aR ops o)→G0 S'=o'.map fun q=>(q.1,S'.put (some d) (.v q.2 [])))→
   ∃ oE:Option rf,(∀ E,oE=some E→E.d=d∧n0 E.v∧E.bT.Nodup∧(∀ r∈E.bT,r∈aR ops o)∧(jZ o=true→E.bT=[]))∧∀ S',oy S S' (aR ops o)→∀ K,aT h O ops i S' K=oE.bind fun E=>K (E.app S'):=by
  intro o' G0 hc bQ GZ
  cases o' with
  |none=>exact⟨none,fun E e=>(by cases e),fun S' ha K=>by rw[bQ,GZ S' ha];rfl⟩
  |some q=>
   obtain⟨g,r⟩:=q
   cases g with
   |false=>exact⟨none,fun E e=>(by cases e),fun S' ha K=>by rw[bQ,GZ S' ha];rfl⟩
   |true=>
    refine⟨some ⟨[],d,.v r []⟩,fun E e=>?_,fun S' ha K=>by rw[bQ,GZ S' ha];rfl⟩
    injection e with e
    subst e
    exact⟨rfl,fun _=>rfl,List.nodup_nil,fun r hr=>(by cases hr),fun _=>rfl⟩
 unfold jY at hg
 simp only[Bool.and_eq_true] at hg
 have bI:=hg.2
 split at bI
 ·rename_i f as ts cC
  simp only[Bool.and_eq_true,List.all_eq_true] at bI
  obtain⟨oE,h1,h2⟩:=abG (h:=h) hO ho hgd hd cC bI.1 bI.2
  have hl:aR ops o=as.toList.flatMap aM:=by unfold aR;rw[cC]
  refine⟨oE,fun E hE=>?_,fun S' ha=>h2 S' (by rw[hl] at ha;exact ha)⟩
  obtain⟨e1,e2,e3⟩:=h1 E hE
  exact⟨e1,e3,by rw[e2];exact List.nodup_nil,fun r hr=>by rw[e2] at hr;(cases hr),fun _=>e2⟩
 ·rename_i as ts cC
  simp only[List.all_eq_true] at bI
  have hl:aR ops o=as.toList.flatMap aM:=by unfold aR;rw[cC]
  have hcb:jZ o=false:=by unfold jZ;rw[cC]
  have j0:∀ S' K,oy S S' (as.toList.flatMap aM)→aT h O ops i S' K=match cf h.tab S' (some d) ts.toList as.toList with
    |some (g,S1)=>bif g then K S1 else none
    |none=>none:=by
   intro S' K ha
   unfold aT
   rw[ho]
   simp only[hgd]
   unfold hY
   rw[cC]
   simp only[ev,cC,hd]
   rcases cf h.tab S' (some d) ts.toList as.toList with _ |⟨g,S1⟩
   ·simp only[IN bI ha]
   ·rfl
  have fin:∀ oG:Option (Bool×rf),(∀ g E,oG=some (g,E)→E.d=d∧n0 E.v∧E.bT.Nodup∧∀ r∈E.bT,r∈as.toList.flatMap aM)→(∀ S',oy S S' (as.toList.flatMap aM)→cf h.tab S' (some d) ts.toList as.toList=oG.map fun q=>(q.1,q.2.app S'))→
    ∃ oE:Option rf,(∀ E,oE=some E→E.d=d∧n0 E.v∧E.bT.Nodup∧(∀ r∈E.bT,r∈aR ops o)∧(jZ o=true→E.bT=[]))∧∀ S',oy S S' (aR ops o)→∀ K,aT h O ops i S' K=oE.bind fun E=>K (E.app S'):=by
   intro oG h1 h2
   cases oG with
   |none=>exact⟨none,fun E e=>(by cases e),fun S' ha K=>by rw[j0 S' K (by rw[hl] at ha;exact ha),h2 S' (by rw[hl] at ha;exact ha)];rfl⟩
   |some q=>
    obtain⟨g,E⟩:=q
    cases g with
    |false=>exact⟨none,fun E e=>(by cases e),fun S' ha K=>by rw[j0 S' K (by rw[hl] at ha;exact ha),h2 S' (by rw[hl] at ha;exact ha)];rfl⟩
    |true=>
     refine⟨some E,fun E' e=>?_,fun S' ha K=>by rw[j0 S' K (by rw[hl] at ha;exact ha),h2 S' (by rw[hl] at ha;exact ha)];rfl⟩
     injection e with e
     subst e
     obtain⟨e1,e2,e3,e4⟩:=h1 true E rfl
     exact⟨e1,e2,e3,by rw[hl];exact e4,fun hc=>by rw[hcb] at hc;cases hc⟩
  by_cases B':∃ x y T T',as.toList=[x,y]∧ts.toList=[T,T']
  ·obtain⟨x,y,T,T',ha,ht⟩:=B'
   rw[ha] at bI
   obtain⟨oG,h1,h2⟩:=Rl (Θ:=h.tab) (d:=d) (T:=T) (T':=T') (bI x (by simp)) (bI y (by simp))
   refine fin oG ?_ ?_
   ·intro g E e
    obtain⟨e1,e2,e3,e4⟩:=h1 g E e
    exact⟨e1,e2,e3,fun r hr=>by rw[ha];simpa using e4 r hr⟩
   ·intro S' hs
    rw[ha,ht]
    exact h2 S' (by rw[ha] at hs;simpa using hs)
  ·refine fin none (fun g E e=>(by cases e)) fun S' hs=>?_
   unfold cf
   split
   ·rename_i x y T T' ha ht
    exact absurd ⟨x,y,T,T',ha,ht⟩ B'
   ·rfl
 ·rename_i T n ps cC
  simp only[List.all_eq_true] at bI
  have hl:aR ops o=ps.toList.flatMap fun q=>aM q.2:=by unfold aR;rw[cC]
  have hcb:jZ o=false:=by unfold jZ;rw[cC]
  have j0:∀ S' K,aT h O ops i S' K=match bw h.tab h.hn S' (some d) T n ps.toList with
    |some (g,S1)=>bif g then K S1 else none
    |none=>none:=by
   intro S' K
   unfold aT
   rw[ho]
   simp only[hgd]
   unfold hY
   rw[cC]
   simp only[ev,cC,hd]
   rcases bw h.tab h.hn S' (some d) T n ps.toList with _ |⟨g,S1⟩<;>rfl
  obtain⟨oG,h1,h2⟩:=YJ (Θ:=h.tab) (d:=d) (T:=T) (n:=n) (hn:=h.hn) bI
  cases oG with
  |none=>exact⟨none,fun E e=>(by cases e),fun S' ha K=>by rw[j0,h2 S' (by rw[hl] at ha;exact ha)];rfl⟩
  |some q=>
   obtain⟨g,E⟩:=q
   cases g with
   |false=>exact⟨none,fun E e=>(by cases e),fun S' ha K=>by rw[j0,h2 S' (by rw[hl] at ha;exact ha)];rfl⟩
   |true=>
    refine⟨some E,fun E' e=>?_,fun S' ha K=>by rw[j0,h2 S' (by rw[hl] at ha;exact ha)];rfl⟩
    injection e with e
    subst e
    obtain⟨e1,e2,e3,e4⟩:=h1 true E rfl
    exact⟨e1,e2,e3,by rw[hl];exact e4,fun hc=>by rw[hcb] at hc;cases hc⟩
 ·rename_i T x cC
  split at bI
  case h_4=>cases bI
  case h_2=>
   rename_i t y hb hx
   have hl:aR ops o=[x]:=by unfold aR;rw[cC];simp only[hb]
   refine val (G0:=fun S'=>gz h.tab S' (some d) T (.tmp x)) (o':=(bif h.tab.is T t then some (true,⟨t,.k,y⟩) else none)) (by unfold jZ;rw[cC]) (fun S' K=>by unfold aT;rw[ho];simp only[hgd];unfold hY;rw[cC];simp only[ev,cC,hd];rcases gz h.tab S' (some d) T (.tmp x) with _ |⟨g,S1⟩<;>rfl) fun S' ha=>?_
   rw[hl] at ha
   have h1:S'.at x=.v ⟨.ptr t,.k,y⟩ []:=(ha x (by simp)).trans hx
   unfold gz
   simp only[St.dX,h1,St.Ho,St.loadAt,Tgt.ty,Ra]
   cases h.tab.is T t<;>rfl
  case h_3=>
   rename_i t T1 tg me y hb hx
   have hl:aR ops o=[x]:=by unfold aR;rw[cC];simp only[hb]
   split at bI
   case h_2=>cases bI
   rename_i b Cb
   refine val (G0:=fun S'=>gz h.tab S' (some d) T (.tmp x)) (o':=match S.place x [.deref] with
    |some c=>bif h.tab.is T t then some (true,Ra c) else none
    |none=>none) (by unfold jZ;rw[cC]) (fun S' K=>by unfold aT;rw[ho];simp only[hgd];unfold hY;rw[cC];simp only[ev,cC,hd];rcases gz h.tab S' (some d) T (.tmp x) with _ |⟨g,S1⟩<;>rfl) fun S' ha=>?_
   rw[hl] at ha
   have h1:S'.at x=.v ⟨.ptr t,.o T1 tg me,y⟩ []:=(ha x (by simp)).trans hx
   have h2:S'.da x [.deref]=some b:=by rw[←Cb];unfold St.da;rw[ha x (by simp)]
   have h3:S'.place x [.deref]=S.place x [.deref]:=by unfold St.place;rw[ha x (by simp)]
   unfold gz
   simp only[St.dX,h1,St.Ho,St.loadAt,h2,bI,cond_true,h3,Tgt.ty]
   cases S.place x [.deref] with
   |none=>rfl
   |some c=>simp only;cases h.tab.is T t<;>rfl
  rename_i s t s' p hb hx
  simp only[Bool.and_eq_true] at bI
  obtain⟨hs,hk⟩:=bI
  have:=Nat.eq_of_beq_eq_true hs
  subst this
  have hl:aR ops o=[x,s']:=by unfold aR;rw[cC];simp only[hb]
  have j0:∀ S' K,aT h O ops i S' K=match gz h.tab S' (some d) T (.tmp x) with
    |some (g,S1)=>bif g then K S1 else none
    |none=>none:=by
   intro S' K
   unfold aT
   rw[ho]
   simp only[hgd]
   unfold hY
   rw[cC]
   simp only[ev,cC,hd]
   rcases gz h.tab S' (some d) T (.tmp x) with _ |⟨g,S1⟩<;>rfl
  split at hk
  case h_2=>cases hk
  rename_i b Cb
  have GZ:∀ S',oy S S' [x,s']→gz h.tab S' (some d) T (.tmp x)=match S.place s' p with
    |some c=>bif h.tab.is T t then some (true,S'.put (some d) (.v (Ra c) [])) else none
    |none=>none:=by
   intro S' ha
   have h1:S'.at x=.ad t s' p:=(ha x (by simp)).trans hx
   have h2:S'.da s' p=some b:=by rw[←Cb];unfold St.da;rw[ha s' (by simp)]
   have h3:S'.place s' p=S.place s' p:=by unfold St.place;rw[ha s' (by simp)]
   unfold gz
   simp only[St.dX,h1,St.Ho,St.loadAt,h2,hk,cond_true,h3]
   cases S.place s' p<;>rfl
  cases hp:S.place s' p with
  |none=>exact⟨none,fun E e=>(by cases e),fun S' ha K=>by rw[j0,GZ S' (by rw[hl] at ha;exact ha),hp];rfl⟩
  |some c=>
   cases hT:h.tab.is T t with
   |false=>exact⟨none,fun E e=>(by cases e),fun S' ha K=>by rw[j0,GZ S' (by rw[hl] at ha;exact ha),hp];simp only[hT];rfl⟩
   |true=>
    refine⟨some ⟨[],d,.v (Ra c) []⟩,fun E e=>?_,fun S' ha K=>by rw[j0,GZ S' (by rw[hl] at ha;exact ha),hp];simp only[hT];rfl⟩
    injection e with e
    subst e
    exact⟨rfl,fun _=>rfl,List.nodup_nil,fun r hr=>(by cases hr),fun _=>rfl⟩
 ·rename_i T x lo hi cC
  simp only[Bool.and_eq_true] at bI
  obtain⟨o',h1⟩:=ah8 (Θ:=h.tab) (d:=d) (T:=T) bI.1 bI.2.1 bI.2.2
  have hl:aR ops o=aM x++(fc lo++fc hi):=by unfold aR;rw[cC]
  exact val (o':=o') (by unfold jZ;rw[cC]) (fun S' K=>by unfold aT;rw[ho];simp only[hgd];unfold hY;rw[cC];simp only[ev,cC,hd];rcases eE h.tab S' (some d) T x lo hi none with _ |⟨g,S1⟩<;>rfl) fun S' ha=>h1 S' (by rw[hl] at ha;exact ha)
 ·rename_i T x ix cC
  simp only[Bool.and_eq_true] at bI
  obtain⟨o',h1⟩:=YL (Θ:=h.tab) (d:=d) (T:=T) bI.1 bI.2
  have hl:aR ops o=aM x++aM ix:=by unfold aR;rw[cC]
  exact val (o':=o') (by unfold jZ;rw[cC]) (fun S' K=>by unfold aT;rw[ho];simp only[hgd];unfold hY;rw[cC];simp only[ev,cC,hd];rcases cd h.tab S' (some d) T x ix with _ |⟨g,S1⟩<;>rfl) fun S' ha=>h1 S' (by rw[hl] at ha;exact ha)
 ·cases bI
theorem Ae {S:St} {o:Oper} (hg:jY O ops S o=true):(jZ o=true∨∀ r∈aR ops o,∃ a,S.at r=.v a [])∧∀ r∈aR ops o,S.at r≠ .dead∧∀ x,(S.at r).refs x=true→x∈aR ops o:=by
 have key:(∀ r∈aR ops o,∃ a,S.at r=.v a [])→(jZ o=true∨∀ r∈aR ops o,∃ a,S.at r=.v a [])∧∀ r∈aR ops o,S.at r≠ .dead∧∀ x,(S.at r).refs x=true→x∈aR ops o:=fun h=>by
  refine⟨.inr h,fun r hr=>?_⟩
  obtain⟨a,ha⟩:=h r hr
  rw[ha]
  exact⟨fun e=>(by cases e),fun x hx=>by simp[AV.refs] at hx⟩
 unfold jY at hg
 simp only[Bool.and_eq_true] at hg
 have bI:=hg.2
 split at bI
 ·rename_i f as ts cC
  simp only[Bool.and_eq_true,List.all_eq_true] at bI
  refine key fun r hr=>?_
  unfold aR at hr
  rw[cC] at hr
  obtain⟨x,hx,hr⟩:=List.mem_flatMap.1 hr
  exact iJ (bI.2 x hx) r hr
 ·rename_i as ts cC
  simp only[List.all_eq_true] at bI
  refine key fun r hr=>?_
  unfold aR at hr
  rw[cC] at hr
  obtain⟨x,hx,hr⟩:=List.mem_flatMap.1 hr
  exact iJ (bI x hx) r hr
 ·rename_i T n ps cC
  simp only[List.all_eq_true] at bI
  refine key fun r hr=>?_
  unfold aR at hr
  rw[cC] at hr
  obtain⟨x,hx,hr⟩:=List.mem_flatMap.1 hr
  exact iJ (bI x hx) r hr
 ·rename_i T x cC
  split at bI
  case h_4=>cases bI
  case h_2=>
   rename_i t y hb hx
   have hl:aR ops o=[x]:=by unfold aR;rw[cC];simp only[hb]
   refine key fun r hr=>?_
   rw[hl] at hr
   simp only[List.mem_singleton] at hr
   subst hr
   exact⟨_,hx⟩
  case h_3=>
   rename_i t T1 tg me y hb hx
   have hl:aR ops o=[x]:=by unfold aR;rw[cC];simp only[hb]
   refine key fun r hr=>?_
   rw[hl] at hr
   simp only[List.mem_singleton] at hr
   subst hr
   exact⟨_,hx⟩
  rename_i s t s' p hb hx
  simp only[Bool.and_eq_true] at bI
  obtain⟨hs,hk⟩:=bI
  have:=Nat.eq_of_beq_eq_true hs
  subst this
  have hl:aR ops o=[x,s']:=by unfold aR;rw[cC];simp only[hb]
  refine⟨.inl (by unfold jZ;rw[cC]),fun r hr=>?_⟩
  rw[hl] at hr ⊢
  simp only[List.mem_cons,List.not_mem_nil,or_false] at hr
  rcases hr with rfl |rfl
  ·rw[hx]
   refine⟨fun e=>(by cases e),fun y hy=>?_⟩
   simp only[AV.refs] at hy
   have:=Nat.eq_of_beq_eq_true hy
   simp[this]
  ·split at hk
   case h_2=>cases hk
   rename_i b Cb
   unfold St.da at Cb
   split at Cb
   ·rename_i a ex ha
    rw[ha]
    exact⟨fun e=>(by cases e),fun y hy=>by simp[AV.refs] at hy⟩
   ·cases Cb
 ·rename_i T x lo hi cC
  simp only[Bool.and_eq_true] at bI
  have hl:aR ops o=aM x++(fc lo++fc hi):=by unfold aR;rw[cC]
  refine key fun r hr=>?_
  rw[hl] at hr
  have abJ:∀ {y:Option Operand},B6 S y=true→r∈fc y→∃ a,S.at r=.v a []:=fun {y} h hr=>by
   cases y with
   |none=>simp[fc] at hr
   |some y=>exact iJ h r hr
  rcases List.mem_append.1 hr with hr |hr
  ·exact iJ (Ro bI.1) r hr
  ·rcases List.mem_append.1 hr with hr |hr
   ·exact abJ bI.2.1 hr
   ·exact abJ bI.2.2 hr
 ·rename_i T x ix cC
  simp only[Bool.and_eq_true] at bI
  have hl:aR ops o=aM x++aM ix:=by unfold aR;rw[cC]
  refine key fun r hr=>?_
  rw[hl] at hr
  rcases List.mem_append.1 hr with hr |hr
  ·exact iJ (Ro bI.1) r hr
  ·exact iJ bI.2 r hr
 ·cases bI
theorem rV {S S':St} {x:Operand} (h:ig S x=true) (ha:oy S S' (aM x)):ig S' x=true:=by
 cases x with
 |tmp i=>simp only[ig,ha i (by simp[aM])] at h ⊢;exact h
 |const c=>rfl
 |func f=>exact h
 |global g=>exact h
theorem Vt {S S':St} {x:Operand} (h:Re S x=true) (ha:oy S S' (aM x)):Re S' x=true:=by
 cases x with
 |tmp i=>simp only[Re,ha i (by simp[aM])] at h ⊢;exact h
 |const c=>rfl
 |func f=>exact h
 |global g=>exact h
theorem HA {S S':St} {o:Oper} (hg:jY O ops S o=true) (ha:oy S S' (aR ops o)) (hl:S'.length=S.length) (hd:∀ d,o.dst=some d→(S'.at d).zU=false):jY O ops S' o=true:=by
 obtain⟨h1,d,h2,h3,h4⟩:=xd hg
 unfold jY at hg ⊢
 simp only[Bool.and_eq_true] at hg ⊢
 refine⟨⟨hg.1.1,?_⟩,?_⟩
 ·rw[h2]
  simp only[hd d h2,Bool.not_false,Bool.true_and]
  rw[hl]
  exact Nat.ble_eq_true_of_le h4
 ·have bI:=hg.2
  split at bI
  ·rename_i f as ts cC
   have Rp:aR ops o=as.toList.flatMap aM:=by unfold aR;rw[cC]
   rw[Rp] at ha
   simp only[Bool.and_eq_true,List.all_eq_true] at bI
   simp only[Bool.and_eq_true,List.all_eq_true]
   exact⟨bI.1,fun x hx=>rV (bI.2 x hx) fun r hr=>ha r (List.mem_flatMap.2 ⟨x,hx,hr⟩)⟩
  ·rename_i as ts cC
   have Rp:aR ops o=as.toList.flatMap aM:=by unfold aR;rw[cC]
   rw[Rp] at ha
   simp only[List.all_eq_true] at bI
   simp only[List.all_eq_true]
   exact fun x hx=>rV (bI x hx) fun r hr=>ha r (List.mem_flatMap.2 ⟨x,hx,hr⟩)
  ·rename_i T n ps cC
   have Rp:aR ops o=ps.toList.flatMap fun q=>aM q.2:=by unfold aR;rw[cC]
   rw[Rp] at ha
   simp only[List.all_eq_true] at bI
   simp only[List.all_eq_true]
   exact fun x hx=>rV (bI x hx) fun r hr=>ha r (List.mem_flatMap.2 ⟨x,hx,hr⟩)
  ·rename_i T x cC
   split at bI
   case h_4=>cases bI
   case h_2=>
    rename_i t y hb hx
    have Rp:aR ops o=[x]:=by unfold aR;rw[cC];simp only[hb]
    rw[Rp] at ha
    rw[hb,(ha x (by simp)).trans hx]
   case h_3=>
    rename_i t T1 tg me y hb hx
    have Rp:aR ops o=[x]:=by unfold aR;rw[cC];simp only[hb]
    rw[Rp] at ha
    have h2:S'.da x [.deref]=S.da x [.deref]:=by unfold St.da;rw[ha x (by simp)]
    rw[hb,(ha x (by simp)).trans hx]
    simp only[h2]
    exact bI
   rename_i s t s' p hb hx
   simp only[Bool.and_eq_true] at bI
   obtain⟨hs,hk⟩:=bI
   have:=Nat.eq_of_beq_eq_true hs
   subst this
   have Rp:aR ops o=[x,s']:=by unfold aR;rw[cC];simp only[hb]
   rw[Rp] at ha
   have h1:S'.at x=.ad t s' p:=(ha x (by simp)).trans hx
   have h2:S'.da s' p=S.da s' p:=by unfold St.da;rw[ha s' (by simp)]
   rw[hb,h1]
   simp only[Bool.and_eq_true,h2]
   exact⟨Nat.beq_refl _,hk⟩
  ·rename_i T x lo hi cC
   simp only[Bool.and_eq_true] at bI
   have Rp:aR ops o=aM x++(fc lo++fc hi):=by unfold aR;rw[cC]
   rw[Rp] at ha
   simp only[Bool.and_eq_true]
   have abJ:∀ {y:Option Operand},B6 S y=true→(∀ r∈fc y,r∈aM x++(fc lo++fc hi))→B6 S' y=true:=fun {y} h hs=>by
    cases y with
    |none=>rfl
    |some y=>exact rV h fun r hr=>ha r (hs r hr)
   exact⟨Vt bI.1 fun r hr=>ha r (by simp[hr]),abJ bI.2.1 fun r hr=>by simp[hr],abJ bI.2.2 fun r hr=>by simp[hr]⟩
  ·rename_i T x ix cC
   simp only[Bool.and_eq_true] at bI
   have Rp:aR ops o=aM x++aM ix:=by unfold aR;rw[cC]
   rw[Rp] at ha
   simp only[Bool.and_eq_true]
   exact⟨Vt bI.1 fun r hr=>ha r (by simp[hr]),rV bI.2 fun r hr=>ha r (by simp[hr])⟩
  ·cases bI
theorem IP {S:St} {o:Oper} (hg:jY O ops S o=true) {d:Nat} (hd:o.dst=some d) {E:rf} (he:E.d=d∧n0 E.v∧E.bT.Nodup∧(∀ r∈E.bT,r∈aR ops o)∧(jZ o=true→E.bT=[])):E.In S:=by
 obtain⟨_,d',h2,h3,h4⟩:=xd hg
 rw[hd] at h2
 injection h2 with h2
 subst h2
 obtain⟨e1,e2,e3,e4,e5⟩:=he
 have hv:∀ r∈E.bT,∃ a,S.at r=.v a []:=fun r hr=>by
  rcases(Ae hg).1 with hc |hv
  ·rw[e5 hc] at hr;cases hr
  ·exact hv r (e4 r hr)
 refine⟨e3,hv,by rw[e1];exact h3,by rw[e1];exact h4,e2,fun hk=>?_⟩
 obtain⟨a,ha⟩:=hv _ hk
 rw[e1] at ha
 rw[ha] at h3
 cases h3
theorem YM {a:AV} {x:Nat} (h:a.refs x=true):a.zU=false:=by cases a<;>first |rfl |(simp[AV.refs] at h)
theorem ah9 {E:rf} {S:St} (h:E.In S) {i:Nat} (hi:i≠E.d) (hv:(S.at i).zU=false):((E.app S).at i).zU=false:=by
 rw[rf.rT h,if_neg hi]
 split
 ·rfl
 ·cases E.bT.any (S.at i).refs with
  |true=>rfl
  |false=>exact hv
theorem abK {E:rf} {S:St} (h:E.In S) {i:Nat} (hi:i≠E.d) (hk:i∉E.bT) (hv:((E.app S).at i).zU=false):(S.at i).zU=false:=by
 rw[rf.rT h,if_neg hi,if_neg hk] at hv
 cases ha:E.bT.any (S.at i).refs with
 |true=>
  obtain⟨x,_,hx⟩:=List.any_eq_true.1 ha
  exact YM hx
 |false=>rw[ha] at hv;exact hv
theorem auI {E:rf} {S:St} (h:E.In S) {i:Nat} (hi:i≠E.d) (hv:(E.app S).at i≠ .dead):S.at i=(E.app S).at i:=by
 rw[rf.rT h,if_neg hi] at hv ⊢
 split at hv
 ·exact absurd rfl hv
 ·rename_i hk
  rw[if_neg hk]
  cases ha:E.bT.any (S.at i).refs with
  |true=>rw[ha] at hv;exact absurd rfl hv
  |false=>rfl
theorem auJ {E:rf} {S:St} (h:E.In S) {i:Nat} (hi:i≠E.d) (hk:i∉E.bT) (hr:∀ x,(S.at i).refs x=true→x∉E.bT):(E.app S).at i=S.at i:=by
 rw[rf.rT h,if_neg hi,if_neg hk]
 have:E.bT.any (S.at i).refs=false:=List.any_eq_false.2 fun x hx nx=>hr x nx hx
 rw[this]
 rfl
theorem abL (hO:ot O) {i j:Nat} {oi oj:Oper} (hi:ops[i]?=some oi) (hj:ops[j]?=some oj) (hd:Hr ops oi oj=true) {r:List Nat} {S:St} {K:St→Option aa} {ret:aa} (e:nw h O ops (i::j::r) S K=some ret):nw h O ops (j::i::r) S K=some ret:=by
 simp only[nw,hi,hj] at e ⊢
 cases gi:jY O ops S oi with
 |false=>rw[gi] at e;cases e
 |true=>
 rw[gi] at e
 simp only[cond_true] at e
 obtain⟨_,di,Rq,hvi,_⟩:=xd gi
 obtain⟨oE,E1,E2⟩:=Vs (h:=h) hO hi gi Rq
 rw[E2 S (fun _ _=>rfl)] at e
 cases oE with
 |none=>cases e
 |some E=>
 simp only[Option.bind_some] at e
 have EI:=IP gi Rq (E1 E rfl)
 obtain⟨Ed,Er,En,Ek,Ec⟩:=E1 E rfl
 cases gj:jY O ops (E.app S) oj with
 |false=>rw[gj] at e;cases e
 |true=>
 rw[gj] at e
 simp only[cond_true] at e
 obtain⟨_,dj,hdj,hvj,_⟩:=xd gj
 obtain⟨oF,F1,F2⟩:=Vs (h:=h) hO hj gj hdj
 rw[F2 _ (fun _ _=>rfl)] at e
 cases oF with
 |none=>cases e
 |some F=>
 simp only[Option.bind_some] at e
 have FI1:=IP gj hdj (F1 F rfl)
 obtain⟨Fd,Fr,Fn,Fk,Fc⟩:=F1 F rfl
 unfold Hr at hd
 rw[Rq,hdj] at hd
 simp only[Bool.and_eq_true,Bool.not_eq_true',Bool.or_eq_true] at hd
 obtain⟨⟨⟨d1,d2⟩,d3⟩,d4⟩:=hd
 have d1:di≠dj:=fun e=>by subst e;rw[Nat.beq_refl] at d1;cases d1
 have d2:di∉aR ops oj:=fun hm=>by
  have:=List.any_eq_false.1 d2 di hm
  rw[Nat.beq_refl] at this
  exact this rfl
 have d3:dj∉aR ops oi:=fun hm=>by
  have:=List.any_eq_false.1 d3 dj hm
  rw[Nat.beq_refl] at this
  exact this rfl
 have d5:∀ r∈aR ops oi,r∉F.bT:=fun r hr hk=>by
  rcases d4 with d4 |d4
  ·rw[Fc d4.2] at hk;cases hk
  ·have h1:=List.any_eq_false.1 d4 r hr
   have h2:(aR ops oj).any (Nat.beq r)=true:=List.any_eq_true.2 ⟨r,Fk r hk,Nat.beq_refl r⟩
   exact h1 h2
 have ag1:oy (E.app S) S (aR ops oj):=fun r hr=>by
  exact auI EI (fun e=>d2 (by rw[←Ed,←e];exact hr)) ((Ae gj).2 r hr).1
 have awR:dj∉E.bT:=fun hk=>d3 (Ek dj hk)
 have gj0:jY O ops S oj=true:=HA gj ag1 (rf.IM E S).symm (fun d hd=>by
  rw[hdj] at hd
  injection hd with hd
  subst hd
  exact abK EI (fun e=>d1 (by rw[←Ed,←e])) awR hvj)
 have FI:=IP gj0 hdj (F1 F rfl)
 have ag2:oy S (F.app S) (aR ops oi):=fun r hr=>by
  exact auJ FI (fun e=>d3 (by rw[←Fd,←e];exact hr)) (d5 r hr) fun x hx=>d5 x (((Ae gi).2 r hr).2 x hx)
 have gi1:jY O ops (F.app S) oi=true:=HA gi ag2 (rf.IM F S) (fun d hd=>by
  rw[Rq] at hd
  injection hd with hd
  subst hd
  exact ah9 FI (fun e=>d1 (by rw[←Fd,←e])) hvi)
 have EI1:=IP gi1 Rq (E1 E rfl)
 rw[gj0]
 simp only[cond_true]
 rw[F2 S ag1]
 simp only[Option.bind_some]
 rw[gi1]
 simp only[cond_true]
 rw[E2 _ ag2]
 simp only[Option.bind_some]
 rw[rf.comm EI FI (by rw[Ed,Fd];exact d1) (fun hk=>by rw[Ed] at hk;exact d2 (Fk _ hk)) (fun hk=>by rw[Fd] at hk;exact d3 (Ek _ hk)) EI1 FI1]
 exact e
theorem HB (hO:ot O) {j:Nat} {oj:Oper} (hj:ops[j]?=some oj):∀ (p r:List Nat) {S:St} {K:St→Option aa} {ret:aa},(∀ x∈p,∃ ox,ops[x]?=some ox∧Hr ops ox oj=true)→nw h O ops (p++j::r) S K=some ret→nw h O ops (j::(p++r)) S K=some ret
 |[],r,S,K,ret,_,e=>e
 |x::p,r,S,K,ret,hp,e=>by
  obtain⟨ox,hox,hdx⟩:=hp x (by simp)
  refine abL hO hox hj hdx ?_
  simp only[List.cons_append] at e
  unfold nw at e ⊢
  rw[hox] at e ⊢
  simp only at e ⊢
  cases gx:jY O ops S ox with
  |false=>rw[gx] at e;cases e
  |true=>
   rw[gx] at e
   simp only[cond_true] at e ⊢
   obtain⟨o,ho⟩:=iI (h:=h) (ops:=ops) hO x (fun o' G3=>by
    rw[hox] at G3
    injection G3 with G3
    subst G3
    unfold jY at gx
    simp only[Bool.and_eq_true] at gx
    have g2:=gx.2
    split at g2<;>first |(rename_i bI;rw[bI];rfl) |cases g2) S
   rw[ho] at e ⊢
   cases o with
   |none=>cases e
   |some S1=>
    simp only[Option.bind_some] at e ⊢
    exact HB hO hj p r (fun y hy=>hp y (by simp[hy])) e
end Go.Pv
namespace Go.Pv
set_option linter.unusedVariables false
set_option linter.unusedSimpArgs false
variable {h:Hint} {O:jt} {Θ:dq} {ops:Array Oper} {ret:aa}
theorem Eb {a:AV} {s:Nat}:a.refs s=true↔s∈slotsOf a:=by
 cases a with
 |al t s' p=>simp only[AV.refs,slotsOf,List.mem_singleton,Nat.beq_eq];exact eq_comm
 |ad t s' p=>simp only[AV.refs,slotsOf,List.mem_singleton,Nat.beq_eq];exact eq_comm
 |cut t s' p lo hi=>simp only[AV.refs,slotsOf,List.mem_singleton,Nat.beq_eq];exact eq_comm
 |lu f cu=>
  simp only[AV.refs,slotsOf,List.any_eq_true,List.mem_filterMap]
  constructor
  ·rintro⟨c,hc,h⟩
   refine⟨c,hc,?_⟩
   cases c with
   |kv b=>cases h
   |pl t s' p=>simp at h;simp[h]
  ·rintro⟨c,hc,h⟩
   refine⟨c,hc,?_⟩
   cases c with
   |kv b=>cases h
   |pl t s' p=>simp at h;simp[h]
 |_=>simp[AV.refs,slotsOf]
def aU (Δ:Nat→Bool) (S:St):Prop:=∀ i s,(S.at i).refs s=true→Δ i=Δ s
theorem pN {Δ:Nat→Bool}:∀ {S:St} {k:Nat},kK Δ S k=true↔∀ i s,(S.at i).refs s=true→Δ (k+i)=Δ s
 |[],k=>by simp[kK,St.at,AV.refs]
 |a::r,k=>by
  simp only[kK,Bool.and_eq_true,List.all_eq_true,beq_iff_eq]
  constructor
  ·rintro⟨h1,h2⟩ i s hs
   cases i with
   |zero=>exact h1 s (Eb.1 (by simpa[St.at] using hs))
   |succ i=>
    have:=(pN.1 h2) i s (by simpa[St.at] using hs)
    rw[←this];congr 1;omega
  ·intro hh
   refine⟨fun s hs=>by simpa using hh 0 s (by simpa[St.at] using Eb.2 hs),pN.2 fun i s hs=>?_⟩
   have:=hh (i+1) s (by simpa[St.at] using hs)
   rw[←this];congr 1;omega
theorem iW {Δ:Nat→Bool} {S:St}:kK Δ S 0=true↔aU Δ S:=by
 rw[pN]
 simp only[Nat.zero_add,aU]
def mix (Δ:Nat→Bool) (A B:St):St:=(List.range A.length).map fun i=>bif Δ i then A.at i else B.at i
theorem HC {S:St} {i:Nat} (h:S.length≤i):S.at i=.dead:=by
 unfold St.at
 rw[List.getD_eq_getElem?_getD,List.getElem?_eq_none h];rfl
theorem gk (Δ:Nat→Bool) (A B:St):(mix Δ A B).length=A.length:=by simp[mix]
theorem ko {Δ:Nat→Bool} {A B:St} (hl:B.length=A.length) (i:Nat):(mix Δ A B).at i=bif Δ i then A.at i else B.at i:=by
 by_cases hi:i<A.length
 ·unfold mix
  conv=>lhs;unfold St.at
  rw[List.getD_eq_getElem?_getD,List.getElem?_map,List.getElem?_range hi]
  rfl
 ·rw[HC (by rw[gk];omega),HC (S:=A) (by omega),HC (S:=B) (by omega)]
  cases Δ i<;>rfl
theorem lC {Δ:Nat→Bool} {A B:St} (hl:B.length=A.length) {i:Nat} (hi:Δ i=true):(mix Δ A B).at i=A.at i:=by rw[ko hl,hi];rfl
theorem Ee (Δ:Nat→Bool) (S:St):mix Δ S S=S:=n6 (gk _ _ _) fun i=>by rw[ko rfl];cases Δ i<;>rfl
theorem IQ {Δ:Nat→Bool} {A B:St} (hl:B.length=A.length):mix (fun i=>!Δ i) B A=mix Δ A B:=n6 (by rw[gk,gk,hl]) fun i=>by
 rw[ko hl,ko hl.symm];cases Δ i<;>rfl
theorem aU.not {Δ:Nat→Bool} {S:St} (h:aU Δ S):aU (fun i=>!Δ i) S:=fun i s hs=>by simp only[h i s hs]
section
variable {Δ:Nat→Bool} {A B:St}
theorem Af (hB:aU Δ B) {i d:Nat} (hi:Δ i=false) (hd:Δ d=true):(B.at i).refs d=false:=by
 cases hr:(B.at i).refs d with
 |false=>rfl
 |true=>have:=hB i d hr;rw[hi,hd] at this;cases this
theorem tr (hl:B.length=A.length) (hB:aU Δ B) {d:Nat} (hd:Δ d=true) (a:AV):(mix Δ A B).put (some d) a=mix Δ (A.put (some d) a) B:=by
 refine n6 (by rw[bW,gk,gk,bW]) fun i=>?_
 rw[ko (by rw[bW,hl]),dP,dP,gk,ko hl,lC hl hd]
 cases hi:Δ i with
 |true=>rfl
 |false=>
  have HD: ¬(i=d∧d<A.length):=fun e=>by rw[e.1,hd] at hi;cases hi
  rw[if_neg HD]
  simp only[cond_false]
  rw[Af hB hi hd];rfl
theorem xe (hl:B.length=A.length) {d:Nat} (hd:Δ d=true) (a:AV):(mix Δ A B).set d a=mix Δ (A.set d a) B:=by
 refine n6 (by rw[List.length_set,gk,gk,List.length_set]) fun i=>?_
 rw[ko (by rw[List.length_set,hl]),cQ,cQ,gk,ko hl]
 cases hi:Δ i with
 |true=>rfl
 |false=>
  have HD: ¬(i=d∧d<A.length):=fun e=>by rw[e.1,hd] at hi;cases hi
  rw[if_neg HD]
  rfl
theorem Rr {a:AV} {d:Nat} (h:a.refs d=false):a.e9 d=false:=by
 cases a with
 |al t s p=>simp only[AV.refs] at h;simp only[AV.e9,h];rfl
 |ad t s p=>simp only[AV.refs] at h;simp only[AV.e9,h];rfl
 |cut t s p lo hi=>simpa only[AV.refs,AV.e9] using h
 |lu f cu=>
  simp only[AV.refs,AV.e9,List.any_eq_false] at h ⊢
  intro c hc
  have:=h c hc
  cases c with
  |kv b=>simp
  |pl t s p=>cases p<;>simp_all
 |_=>rfl
theorem u5 (hl:B.length=A.length) (hB:aU Δ B) {d:Nat} (hd:Δ d=true):(mix Δ A B).weaken d=mix Δ (A.weaken d) B:=by
 refine n6 (by simp[St.weaken,gk]) fun i=>?_
 rw[ko (by simp[St.weaken,hl]),kn,kn,ko hl]
 cases hi:Δ i with
 |true=>rfl
 |false=>simp only[cond_false];rw[Rr (Af hB hi hd)];rfl
theorem Ag (S:St) (d:Nat) (p:Path) (i:Nat):(S.cover d p).at i=match S.at i with
  | .ad t s q=>bif Nat.beq s d&&under p q then .dead else .ad t s q
  |a=>a:=D8 S _ rfl i
theorem HE (hl:B.length=A.length) (hB:aU Δ B) {d:Nat} (hd:Δ d=true) (p:Path):(mix Δ A B).cover d p=mix Δ (A.cover d p) B:=by
 refine n6 (by simp[St.cover,gk]) fun i=>?_
 rw[ko (by simp[St.cover,hl]),Ag,Ag,ko hl]
 cases hi:Δ i with
 |true=>rfl
 |false=>
  simp only[cond_false]
  have:=Af hB hi hd
  cases hb:B.at i with
  |ad t s q=>rw[hb] at this;simp only[AV.refs] at this;simp only[this];rfl
  |_=>rfl
theorem xf {c:Bool} {a:AV} {s:Nat} (h:(bif c then AV.dead else a).refs s=true):a.refs s=true:=by
 cases c with
 |true=>simp[AV.refs] at h
 |false=>exact h
theorem kr (hA:aU Δ A) {d:Nat} (hd:Δ d=true) {a:AV} (ha:∀ s,a.refs s=true→Δ s=true):aU Δ (A.put (some d) a):=fun i s hs=>by
 rw[dP] at hs
 split at hs
 ·rename_i hi
  rw[hi.1,hd]
  exact(ha s (xf hs)).symm
 ·exact hA i s (xf hs)
theorem mD (hA:aU Δ A) {d:Nat} (hd:Δ d=true) {a:AV} (ha:∀ s,a.refs s=true→Δ s=true):aU Δ (A.set d a):=fun i s hs=>by
 rw[cQ] at hs
 split at hs
 ·rename_i hi
  rw[hi.1,hd]
  exact(ha s hs).symm
 ·exact hA i s hs
theorem n7 (hA:aU Δ A) (d:Nat):aU Δ (A.weaken d):=fun i s hs=>by
 rw[kn] at hs
 exact hA i s (xf hs)
theorem xg (hA:aU Δ A) (d:Nat) (p:Path):aU Δ (A.cover d p):=fun i s hs=>by
 rw[Ag] at hs
 refine hA i s ?_
 cases hb:A.at i with
 |ad t s' q=>rw[hb] at hs;exact xf hs
 |_=>rw[hb] at hs;exact hs
theorem jx (hl:B.length=A.length) {x:Operand} (hx:mj Δ x=true) (T:TypeId):(mix Δ A B).dX Θ T x=A.dX Θ T x:=by
 cases x with
 |tmp i=>simp only[St.dX];rw[lC hl hx]
 |_=>rfl
theorem gC (hA:aU Δ A) {x:Operand} (hx:mj Δ x=true) {T:TypeId} {a:AV} (e:A.dX Θ T x=some a):∀ s,a.refs s=true→Δ s=true:=fun s hs=>by
 cases x with
 |tmp i=>
  simp only[St.dX,Option.some.injEq] at e
  subst e
  rw[←hA i s hs];exact hx
 |const c=>
  simp only[St.dX] at e
  split at e
  ·injection e with e;subst e;simp[AV.refs] at hs
  ·cases e
 |func f=>
  simp only[St.dX,Option.some.injEq] at e
  subst e
  simp[AV.refs] at hs
 |global g=>cases e
theorem mn (hl:B.length=A.length) {s:Nat} (hs:Δ s=true) (p:Path):(mix Δ A B).place s p=A.place s p:=by unfold St.place;rw[lC hl hs]
theorem ku (hl:B.length=A.length) {s:Nat} (hs:Δ s=true) (p:Path):(mix Δ A B).da s p=A.da s p:=by unfold St.da;rw[lC hl hs]
theorem ny {t:Ty} {s:Nat} {p:Path}:(AV.al t s p).refs s=true:=by simp[AV.refs]
theorem ah' {t:Ty} {s:Nat} {p:Path}:(AV.ad t s p).refs s=true:=by simp[AV.refs]
theorem MQ {t:Ty} {s:Nat} {p:Path} {lo hi:Nat}:(AV.cut t s p lo hi).refs s=true:=by simp[AV.refs]
theorem Vu (hl:B.length=A.length) {a:AV} (ha:∀ s,a.refs s=true→Δ s=true):(mix Δ A B).tp a=A.tp a:=by
 cases a with
 |al t s p=>simp only[St.tp];exact mn hl (ha s ny) p
 |cut t s p lo hi=>simp only[St.tp];rw[mn hl (ha s MQ) p]
 |v b ex=>cases ex<;>rfl
 |_=>rfl
theorem Ah (hl:B.length=A.length) (hA:aU Δ A) {x:Operand} (hx:mj Δ x=true) (T:TypeId):(mix Δ A B).rd Θ T x=A.rd Θ T x:=by
 unfold St.rd
 rw[jx hl hx]
 cases e:A.dX Θ T x with
 |none=>rfl
 |some a=>exact Vu hl (gC hA hx e)
theorem Ai (hl:B.length=A.length) (hA:aU Δ A) {x:Operand} (hx:mj Δ x=true):(mix Δ A B).lM Θ x=A.lM Θ x:=by
 unfold St.lM
 rw[Ah hl hA hx]
theorem cv {b:TV} {ex:List Path}:∀ s,(AV.v b ex).refs s=true→Δ s=true:=fun s hs=>by simp[AV.refs] at hs
def Mx (Δ:Nat→Bool) (A B:St) {α:Type} (X Y:Option (α×St)):Prop:=Y=X.map (fun q=>(q.1,mix Δ q.2 B))∧∀ q,X=some q→aU Δ q.2∧q.2.length=A.length
theorem aD {α:Type}:Mx Δ A B (α:=α) none none:=⟨rfl,fun _ h=>by cases h⟩
theorem gl {α:Type} {c:α} {A1 S1:St} (h:S1=mix Δ A1 B) (hc:aU Δ A1) (hl:A1.length=A.length):Mx Δ A B (some (c,A1)) (some (c,S1)):=⟨by rw[h];rfl,fun q hq=>by injection hq with hq;subst hq;exact⟨hc,hl⟩⟩
theorem dF {α:Type} {c:α} {d:Nat} {a:AV} (hl:B.length=A.length) (hB:aU Δ B) {A1:St} (hA:aU Δ A1) (Aj:A1.length=A.length) (hd:Δ d=true) (ha:∀ s,a.refs s=true→Δ s=true):
  Mx Δ A B (some (c,A1.put (some d) a)) (some (c,(mix Δ A1 B).put (some d) a)):=gl (tr (by rw[hl,Aj]) hB hd a) (kr hA hd ha) (by rw[bW,Aj])
theorem HF (hl:B.length=A.length) (hA:aU Δ A) (hB:aU Δ B) {x:Operand} (hx:mj Δ x=true) {a:AV} (ha:∀ s,a.refs s=true→Δ s=true):Mx Δ A B (A.dN x a) ((mix Δ A B).dN x a):=by
 have rb:∀ s,AV.dead.refs s=true→Δ s=true:=fun s hs=>by simp[AV.refs] at hs
 cases a with
 |v b ex=>
  simp only[St.dN]
  cases b.m.bG with
  |true=>exact gl rfl hA rfl
  |false=>
   simp only[cond_false]
   cases ex with
   |nil=>
    cases x with
    |tmp i=>exact dF hl hB hA rfl hx rb
    |const c=>exact gl rfl hA rfl
    |func f=>exact gl rfl hA rfl
    |global g=>exact gl rfl hA rfl
   |cons _ _=>cases x<;>exact aD
 |al t s p=>
  have hs:=ha s ny
  simp only[St.dN]
  rw[mn hl hs]
  cases hp:A.place s p with
  |none=>exact aD
  |some b=>
   simp only
   cases b.m.bG with
   |true=>exact gl rfl hA rfl
   |false=>
    simp only[cond_false]
    cases p with
    |nil=>exact dF hl hB hA rfl hs rb
    |cons st pp=>
     rw[lC hl hs]
     cases A.at s with
     |v r ex=>
      have h1:=xg (n7 hA s) s (st::pp)
      have l1:B.length=(A.weaken s).length:=by simp[St.weaken,hl]
      have l2:B.length=((A.weaken s).cover s (st::pp)).length:=by simp[St.weaken,St.cover,hl]
      refine gl ?_ (mD h1 hs cv) (by simp[St.weaken,St.cover])
      rw[u5 hl hB hs,HE l1 hB hs,xe l2 hs]
     |_=>exact aD
 |cut t s p lo hi=>
  have hs:=ha s MQ
  cases p with
  |cons _ _=>exact aD
  |nil=>
   simp only[St.dN]
   rw[mn hl hs]
   split
   ·cases Nat.beq lo 0 with
    |true=>exact dF hl hB hA rfl hs rb
    |false=>exact aD
   ·exact aD
 |_=>exact aD
theorem rW (hl:B.length=A.length) (hA:aU Δ A) (hB:aU Δ B) {x:Operand} (hx:mj Δ x=true) (T:TypeId):Mx Δ A B (A.take Θ T x) ((mix Δ A B).take Θ T x):=by
 unfold St.take
 rw[jx hl hx]
 cases e:A.dX Θ T x with
 |none=>exact aD
 |some a=>exact HF hl hA hB hx (gC hA hx e)
theorem Ak (hB:aU Δ B) {ps:List (Nat×Operand)} (hx:∀ q∈ps,mj Δ q.2=true):∀ (r:List TypeId) (j:Nat) {A:St},B.length=A.length→aU Δ A→Mx Δ A B (A.parts Θ ps r j) ((mix Δ A B).parts Θ ps r j)
 |[],j,A,hl,hA=>gl rfl hA rfl
 |T::r,j,A,hl,hA=>by
  simp only[St.parts]
  cases hf:ps.find? (fun q=>Nat.beq q.1 j) with
  |some q=>
   simp only
   obtain⟨h1,h2⟩:=rW (Θ:=Θ) hl hA hB (hx q (List.mem_of_find?_eq_some hf)) T
   rw[h1]
   cases ht:A.take Θ T q.2 with
   |none=>exact aD
   |some b=>
    obtain⟨b,A1⟩:=b
    obtain⟨c1,c2⟩:=h2 _ ht
    simp only[Option.map_some]
    obtain⟨k1,k2⟩:=Ak hB hx r (j+1) (by rw[c2,hl]) c1
    rw[k1]
    cases hp:St.parts Θ A1 ps r (j+1) with
    |none=>exact aD
    |some l=>
     obtain⟨d1,d2⟩:=k2 _ hp
     exact gl rfl d1 (by rw[d2,c2])
  |none=>
   simp only
   cases rJ Θ T with
   |none=>exact aD
   |some z=>
    simp only
    obtain⟨k1,k2⟩:=Ak hB hx r (j+1) hl hA
    rw[k1]
    cases hp:St.parts Θ A ps r (j+1) with
    |none=>exact aD
    |some l=>
     obtain⟨d1,d2⟩:=k2 _ hp
     exact gl rfl d1 d2
end
end Go.Pv
namespace Go.Pv
set_option linter.unusedVariables false
set_option linter.unusedSimpArgs false
variable {h:Hint} {O:jt} {Θ:dq} {hn:Hn} {ops:Array Oper} {ret:aa} {Δ:Nat→Bool} {A B:St}
theorem YN (S S':St) (x:Operand) (a:AV):S.copy x a=S'.copy x a:=by cases a<;>rfl
theorem YO {x:Operand} (hx:mj Δ x=true) {a a':AV} (ha:∀ s,a.refs s=true→Δ s=true) (e:A.copy x a=some a'):∀ s,a'.refs s=true→Δ s=true:=fun s hs=>by
 cases a with
 |v b ex=>
  simp only[St.copy] at e
  cases hk:b.m.bG with
  |true=>rw[hk] at e;simp only[cond_true,Option.some.injEq] at e;subst e;simp[AV.refs] at hs
  |false=>
   rw[hk] at e
   simp only[cond_false] at e
   cases x with
   |tmp i=>
    simp only[Option.some.injEq] at e
    subst e
    simp only[AV.refs,Nat.beq_eq] at hs
    subst hs
    exact hx
   |_=>
    simp only at e
    split at e
    ·injection e with e;subst e;simp[AV.refs] at hs
    ·cases e
 |ud l=>cases e
 |dead=>cases e
 |_=>simp only[St.copy,Option.some.injEq] at e;subst e;exact ha s hs
theorem IS (hl:B.length=A.length) {x:Operand} {a:AV} (ha:∀ s,a.refs s=true→Δ s=true):(mix Δ A B).Ho x a=A.Ho x a:=by
 cases a with
 |v b ex=>
  obtain⟨t,m,y⟩:=b
  cases t<;>cases m<;>cases ex<;>rfl
 |al t s p=>
  cases t with
  |ptr t=>simp only[St.Ho];rw[ku hl (ha s ny)]
  |_=>rfl
 |_=>rfl
theorem Ef {x:Operand} (hx:mj Δ x=true) {a:AV} (ha:∀ s,a.refs s=true→Δ s=true) {t:Ty} {s:Nat} {p:Path} (e:A.Ho x a=some (.pl t s p)):Δ s=true:=by
 cases a with
 |v b ex=>
  obtain⟨t',m,y⟩:=b
  simp only[St.Ho] at e
  split at e
  ·rename_i heq
   injection heq with h1 h2
   split at e
   ·cases e
   ·injection e with e;injection e with _ e _;subst e;exact hx
   ·cases e
  ·split at e
   ·injection e with e;injection e with _ e _;subst e;exact hx
   ·cases e
  all_goals first |(rename_i heq;cases heq;done) |(cases e;done)
 |al t' s' p'=>
  simp only[St.Ho] at e
  split at e
  ·rename_i heq;cases heq
  ·rename_i heq;cases heq
  ·rename_i heq
   injection heq with h1 h2 h3
   subst h2
   split at e
   ·cases e
   ·injection e with e;injection e with _ e _;subst e;exact ha _ ny
   ·cases e
  ·rename_i heq;cases heq
  ·cases e
 |ad t' s' p'=>
  simp only[St.Ho,Option.some.injEq,Tgt.pl.injEq] at e
  rw[←e.2.1];exact ha _ ah'
 |_=>simp[St.Ho] at e
theorem Rs (hl:B.length=A.length) {g:Tgt} (hg:∀ t s p,g=.pl t s p→Δ s=true):(mix Δ A B).loadAt g=A.loadAt g:=by
 cases g with
 |k a=>rfl
 |pl t s p=>simp only[St.loadAt];rw[ku hl (hg t s p rfl),mn hl (hg t s p rfl)]
theorem MR {g:Tgt} (hg:∀ t s p,g=.pl t s p→Δ s=true) {a:AV} (e:A.loadAt g=some a):∀ s,a.refs s=true→Δ s=true:=fun s hs=>by
 cases g with
 |k b=>simp only[St.loadAt,Option.some.injEq] at e;subst e;simp[AV.refs] at hs
 |pl t s' p=>
  simp only[St.loadAt] at e
  split at e
  case h_2=>cases e
  rename_i b hb
  cases hk:b.m.bG with
  |true=>
   rw[hk] at e
   simp only[cond_true] at e
   split at e
   ·injection e with e;subst e;simp[AV.refs] at hs
   ·cases e
  |false=>
   rw[hk] at e
   simp only[cond_false,Option.some.injEq] at e
   subst e
   simp only[AV.refs,Nat.beq_eq] at hs
   subst hs
   exact hg _ _ _ rfl
section
variable (hl:B.length=A.length) (hA:aU Δ A) (hB:aU Δ B) {d:Nat} (hd:Δ d=true)
include hl hA hB hd
theorem YP (T:TypeId):Mx Δ A B (pF Θ hn A (some d) T) (pF Θ hn (mix Δ A B) (some d) T):=by
 unfold pF
 cases rJ Θ T with
 |none=>exact aD
 |some z=>
  simp only
  cases uT z.t (hn.find (some d) z.m) with
  |true=>exact dF hl hB hA rfl hd cv
  |false=>exact aD
theorem abM (T:TypeId) {x:Operand} (hx:mj Δ x=true):Mx Δ A B (gz Θ A (some d) T x) (gz Θ (mix Δ A B) (some d) T x):=by
 unfold gz
 rw[jx hl hx]
 cases e:A.dX Θ 0 x with
 |none=>exact aD
 |some a=>
  simp only
  have ha:=gC hA hx e
  rw[IS hl ha]
  cases et:A.Ho x a with
  |none=>exact aD
  |some g=>
   simp only
   have hg:∀ t s p,g=.pl t s p→Δ s=true:=fun t s p eg=>by subst eg;exact Ef hx ha et
   rw[Rs hl hg]
   cases el:A.loadAt g with
   |none=>exact aD
   |some r=>
    simp only
    cases Θ.is T g.ty with
    |true=>exact dF hl hB hA rfl hd (MR hg el)
    |false=>exact aD
theorem abN (T:TypeId) {x:Operand} (hx:mj Δ x=true):Mx Δ A B (pE Θ A (some d) T x) (pE Θ (mix Δ A B) (some d) T x):=by
 unfold pE
 rw[jx hl hx,gk]
 have rb:∀ s,AV.dead.refs s=true→Δ s=true:=fun s hs=>by simp[AV.refs] at hs
 cases e:A.dX Θ T x with
 |none=>exact aD
 |some a=>
  have ha:=gC hA hx e
  cases a with
  |ud l=>
   cases x with
   |tmp i=>
    simp only
    cases (Nat.beq d i|| !Nat.blt d A.length) with
    |true=>exact aD
    |false=>
     simp only[cond_false]
     have h1:(mix Δ A B).put (some i) .dead=mix Δ (A.put (some i) .dead) B:=tr hl hB hx .dead
     rw[h1]
     exact dF hl hB (kr hA hx rb) (bW _ _ _) hd (fun s hs=>by simp[AV.refs] at hs)
   |_=>exact aD
  |_=>
   simp only
   rw[YN (mix Δ A B) A]
   split
   ·rename_i a' hc
    exact dF hl hB hA rfl hd (YO hx ha hc)
   ·exact aD
theorem MS {x:Operand} (hx:mj Δ x=true) (j:Nat):Mx Δ A B (fV A (some d) x j) (fV (mix Δ A B) (some d) x j):=by
 unfold fV
 cases x with
 |tmp i=>
  simp only
  rw[lC hl hx]
  split
  ·rename_i l hi
   split
   ·rename_i a ha
    cases a.m.bG with
    |true=>exact dF hl hB hA rfl hd cv
    |false=>
     simp only[cond_false]
     cases Nat.beq d i with
     |true=>exact aD
     |false=>
      simp only[cond_false]
      have h1:(mix Δ A B).set i (.ud (l.set j none))=mix Δ (A.set i (.ud (l.set j none))) B:=xe hl hx _
      rw[h1]
      exact dF hl hB (mD hA hx (fun s hs=>by simp[AV.refs] at hs)) (by simp) hd cv
   ·exact aD
  ·exact aD
 |_=>exact aD
theorem Eg (T:TypeId) (n:Nat) {ps:List (Nat×Operand)} (hx:∀ q∈ps,mj Δ q.2=true):Mx Δ A B (bw Θ hn A (some d) T n ps) (bw Θ hn (mix Δ A B) (some d) T n ps):=by
 unfold bw
 split
 ·cases (kJ n ps&&Nat.ble n 1800) with
  |false=>exact aD
  |true=>
   simp only[cond_true]
   rename_i t e fs _
   obtain⟨k1,k2⟩:=Ak (Θ:=Θ) hB hx (List.replicate n e) 0 hl hA
   rw[k1]
   cases hp:St.parts Θ A ps (List.replicate n e) 0 with
   |none=>exact aD
   |some q=>
    obtain⟨l,A1⟩:=q
    obtain⟨c1,c2⟩:=k2 _ hp
    simp only[Option.map_some]
    cases l with
    |nil=>exact dF hl hB c1 c2 hd cv
    |cons a l=>
     simp only
     cases rK t a.m (a::l) with
     |none=>exact aD
     |some xs=>exact dF hl hB c1 c2 hd cv
 ·exact aD
theorem Rt {ts:List TypeId} {as:List Operand} (hx:∀ x∈as,mj Δ x=true):Mx Δ A B (cf Θ A (some d) ts as) (cf Θ (mix Δ A B) (some d) ts as):=by
 unfold cf
 split
 ·rename_i x y T T'
  obtain⟨k1,k2⟩:=rW (Θ:=Θ) hl hA hB (hx x (by simp)) T
  rw[k1]
  cases ht:A.take Θ T x with
  |none=>exact aD
  |some q=>
   obtain⟨⟨t,m,xs⟩,A1⟩:=q
   obtain⟨c1,c2⟩:=k2 _ ht
   have Aj:B.length=A1.length:=by rw[c2,hl]
   simp only[Option.map_some]
   cases t with
   |sl t=>
    cases m with
    |o e tag me=>
     cases hf:Θ.find T with
     |none=>exact aD
     |some i=>
      simp only
      cases (decide (i.ty=.sl t)&&Nat.beq i.e e&&Θ.is T' (.sl t)) with
      |false=>exact aD
      |true=>
       simp only[cond_true]
       cases me.bG with
       |true=>
        simp only[cond_true]
        rw[Ah Aj c1 (hx y (by simp))]
        split
        ·rename_i t' m' ys _
         cases m'.Hm.bG with
         |false=>exact aD
         |true=>
          simp only[cond_true]
          split
          ·exact dF hl hB c1 c2 hd cv
          ·exact aD
        ·exact aD
       |false=>
        simp only[cond_false]
        obtain⟨j1,j2⟩:=rW (Θ:=Θ) Aj c1 hB (hx y (by simp)) T'
        rw[j1]
        cases hy:A1.take Θ T' y with
        |none=>exact aD
        |some q=>
         obtain⟨⟨t',m',ys⟩,A2⟩:=q
         obtain⟨d1,d2⟩:=j2 _ hy
         simp only[Option.map_some]
         cases t' with
         |sl t'=>
          simp only
          split
          ·split
           ·exact dF hl hB d1 (by rw[d2,c2]) hd cv
           ·exact aD
          ·exact aD
         |_=>exact aD
    |_=>exact aD
   |_=>exact aD
 ·exact aD
theorem MT {ts:List TypeId} {as:List Operand} (hx:∀ x∈as,mj Δ x=true):Mx Δ A B (fW Θ A (some d) ts as) (fW Θ (mix Δ A B) (some d) ts as):=by
 unfold fW
 split
 ·rename_i x y T T'
  rw[jx hl (hx x (by simp))]
  split
  ·rename_i t s st pp dL
   have hs:=gC hA (hx x (by simp)) dL s ny
   rw[lC hl hs]
   split
   ·rename_i r ex dE
    split
    ·rename_i t e tag me xs i _ _
     cases (decide (i.ty=.sl t)&&Nat.beq i.e e&&Θ.is T' (.sl t)&&me.bG) with
     |false=>exact aD
     |true=>
      simp only[cond_true]
      have l1:B.length=(A.weaken s).length:=by simp[St.weaken,hl]
      have l2:B.length=((A.weaken s).cover s (st::pp)).length:=by simp[St.weaken,St.cover,hl]
      have l3:B.length=(((A.weaken s).cover s (st::pp)).set s (.v r (ex++[st::pp]))).length:=by simp[St.weaken,St.cover,hl]
      have e1:List.set (((mix Δ A B).weaken s).cover s (st::pp)) s (.v r (ex++[st::pp]))=mix Δ (((A.weaken s).cover s (st::pp)).set s (.v r (ex++[st::pp]))) B:=by
       rw[u5 hl hB hs,HE l1 hB hs,xe l2 hs]
      have c1:aU Δ (((A.weaken s).cover s (st::pp)).set s (.v r (ex++[st::pp]))):=mD (xg (n7 hA s) s _) hs cv
      rw[e1,Ah l3 c1 (hx y (by simp))]
      split
      ·rename_i t' m' ys _
       cases m'.Hm.bG with
       |false=>exact aD
       |true=>
        simp only[cond_true]
        split
        ·exact dF hl hB c1 (by simp[St.weaken,St.cover]) hd cv
        ·exact aD
      ·exact aD
    ·exact aD
   ·exact aD
  ·exact aD
 ·exact aD
theorem aia (op:BinOp) (T:TypeId) {x y:Operand} (hx:mj Δ x=true) (hy:mj Δ y=true):Mx Δ A B (DW Θ A (some d) op T x y) (DW Θ (mix Δ A B) (some d) op T x y):=by
 unfold DW
 rw[Ah hl hA hx,Ah hl hA hy]
 have fin:∀ a b:TV,Mx Δ A B (match gV op a b with
   |some (g,r)=>some (g,A.put (some d) (.v r []))
   |none=>none) (match gV op a b with
   |some (g,r)=>some (g,(mix Δ A B).put (some d) (.v r []))
   |none=>none):=fun a b=>by
  cases gV op a b with
  |none=>exact aD
  |some q=>exact dF hl hB hA rfl hd cv
 cases A.rd Θ T x with
 |none=>exact aD
 |some a=>
  cases A.rd Θ T y with
  |none=>exact aD
  |some b=>
   simp only
   split
   ·cases Θ.is T .bool with
    |true=>exact fin a b
    |false=>exact aD
   ·cases Θ.is T a.t with
    |true=>exact fin a b
    |false=>exact aD
   ·exact fin a b
theorem G6 (T:TypeId) {x:Operand} (hx:mj Δ x=true) (f:Nat):Mx Δ A B (gA Θ A (some d) T x f) (gA Θ (mix Δ A B) (some d) T x f):=by
 unfold gA
 rw[jx hl hx]
 cases e:A.dX Θ 0 x with
 |none=>exact aD
 |some a=>
  have ha:=gC hA hx e
  cases Θ.find T with
  |none=>exact aD
  |some i=>
   simp only
   cases Nat.blt f i.fs.length with
   |false=>exact aD
   |true=>
    simp only[cond_true]
    rw[IS hl ha]
    cases et:A.Ho x a with
    |none=>exact aD
    |some g=>
     cases g with
     |k b=>
      obtain⟨t,m,y⟩:=b
      simp only
      cases decide (i.ty=t) with
      |false=>exact aD
      |true=>
       simp only[cond_true]
       split
       ·exact dF hl hB hA rfl hd cv
       ·exact aD
     |pl t s p=>
      have hs:=Ef hx ha et
      simp only
      cases decide (i.ty=t) with
      |false=>exact aD
      |true=>
       simp only[cond_true]
       rw[ku hl hs]
       split
       ·exact dF hl hB hA rfl hd (fun s' h'=>by simp only[AV.refs,Nat.beq_eq] at h';rw[←h'];exact hs)
       ·exact aD
theorem G7 (T:TypeId) {x ix:Operand} (hx:mj Δ x=true) (hi:mj Δ ix=true):Mx Δ A B (cd Θ A (some d) T x ix) (cd Θ (mix Δ A B) (some d) T x ix):=by
 unfold cd
 rw[jx hl hx,Ai hl hA hi]
 have hr:∀ {t:Ty} {s:Nat} {p:Path},Δ s=true→∀ s',(AV.ad t s p).refs s'=true→Δ s'=true:=fun hs s' h'=>by simp only[AV.refs,Nat.beq_eq] at h';rw[←h'];exact hs
 split
 ·rename_i t m xs ex n dL _
  cases Θ.is T (.sl t) with
  |false=>exact aD
  |true=>
   simp only[cond_true]
   split
   ·exact dF hl hB hA rfl hd cv
   ·rename_i j
    rw[ku hl hx]
    split
    ·exact dF hl hB hA rfl hd (hr hx)
    ·exact aD
   ·exact aD
 ·rename_i t s p n dL _
  have hs:=gC hA hx dL s ny
  cases Θ.is T (.sl t) with
  |false=>exact aD
  |true=>
   simp only[cond_true]
   rw[ku hl hs,ku hl hs]
   split
   ·exact dF hl hB hA rfl hd cv
   ·split
    ·exact dF hl hB hA rfl hd (hr hs)
    ·exact aD
   ·exact aD
 ·exact aD
theorem G8 (T:TypeId) {l c:Operand} (hx:mj Δ l=true) (hc:mj Δ c=true):Mx Δ A B (gB Θ A (some d) T l c) (gB Θ (mix Δ A B) (some d) T l c):=by
 unfold gB
 rw[Ai hl hA hx,Ai hl hA hc]
 split
 ·split
  ·split
   ·exact dF hl hB hA rfl hd cv
   ·exact aD
  ·exact aD
 ·exact aD
theorem MU (T T':TypeId) {x:Operand} (hx:mj Δ x=true):Mx Δ A B (gO Θ A (some d) T T' x) (gO Θ (mix Δ A B) (some d) T T' x):=by
 unfold gO
 rw[Ah hl hA hx]
 split
 ·exact dF hl hB hA rfl hd cv
 ·exact dF hl hB hA rfl hd cv
 ·exact aD
end
theorem YQ (hl:B.length=A.length) (hA:aU Δ A) (hB:aU Δ B) (T:TypeId) {x y:Operand} (hx:mj Δ x=true) (hy:mj Δ y=true):Mx Δ A B (lR Θ A T x y) (lR Θ (mix Δ A B) T x y):=by
 unfold lR
 rw[jx hl hx]
 cases e:A.dX Θ 0 x with
 |none=>exact aD
 |some a=>
  have ha:=gC hA hx e
  simp only
  rw[IS hl ha]
  cases et:A.Ho x a with
  |none=>exact aD
  |some g=>
   cases g with
   |k b=>exact aD
   |pl t s p=>
    have hs:=Ef hx ha et
    simp only
    obtain⟨k1,k2⟩:=rW (Θ:=Θ) hl hA hB hy T
    rw[k1]
    cases ht:A.take Θ T y with
    |none=>exact aD
    |some q=>
     obtain⟨b,A1⟩:=q
     obtain⟨c1,c2⟩:=k2 _ ht
     have Aj:B.length=A1.length:=by rw[c2,hl]
     simp only[Option.map_some]
     cases Θ.is T b.t with
     |false=>exact aD
     |true=>
      simp only[cond_true]
      rw[lC Aj hs]
      cases A1.at s with
      |v r ex=>
       simp only
       cases gw b p r.t r.m r.x with
       |none=>exact aD
       |some mz=>
        simp only
        cases ex.all (fun h=>!under h p) with
        |false=>exact aD
        |true=>
         simp only[cond_true]
         have l2:B.length=(A1.weaken s).length:=by simp[St.weaken,Aj]
         refine gl ?_ (mD (n7 c1 s) hs cv) (by simp[St.weaken,c2])
         rw[u5 Aj hB hs,xe l2 hs]
      |_=>exact aD
theorem Ru (hl:B.length=A.length) (hA:aU Δ A) (hB:aU Δ B) (T:TypeId) {y:Operand} (hy:mj Δ y=true) {A1:St} (Aj:A1.length=A.length) (hA1:aU Δ A1):
  pG Θ (mix Δ A B) (mix Δ A1 B) T y=mix Δ (pG Θ A A1 T y) B∧aU Δ (pG Θ A A1 T y)∧(pG Θ A A1 T y).length=A.length:=by
 unfold pG
 rw[jx hl hy]
 split
 ·rename_i t s dL
  have hs:=gC hA hy dL s ny
  rw[lC hl hs,lC (by rw[hl,Aj]) hs]
  split
  ·rename_i t m xs _ _
   cases m.bG with
   |true=>exact⟨rfl,hA1,Aj⟩
   |false=>exact⟨xe (by rw[hl,Aj]) hs _,mD hA1 hs cv,by simp[Aj]⟩
  ·exact⟨rfl,hA1,Aj⟩
 ·exact⟨rfl,hA1,Aj⟩
end Go.Pv
namespace Go.Pv
set_option linter.unusedVariables false
set_option linter.unusedSimpArgs false
variable {h:Hint} {O:jt} {Θ:dq} {hn:Hn} {ops:Array Oper} {ret:aa} {Δ:Nat→Bool} {A B:St}
theorem Al (hB:aU Δ B):∀ (xs:List Operand) (Ts:List TypeId) (ps:List Pass) {A:St},B.length=A.length→aU Δ A→(∀ x∈xs,mj Δ x=true)→Mx Δ A B (gh Θ A xs Ts ps) (gh Θ (mix Δ A B) xs Ts ps)
 |[],_,_,A,hl,hA,_=>by simp only[gh];exact gl rfl hA rfl
 |x::xs,[],_,A,hl,hA,_=>by simp only[gh];exact aD
 |x::xs,T::Ts,[],A,hl,hA,_=>by simp only[gh];exact aD
 |x::xs,T::Ts,p::ps,A,hl,hA,hx=>by
  simp only[gh]
  cases p with
  |val=>
   simp only
   obtain⟨k1,k2⟩:=Al hB xs Ts ps hl hA (fun y hy=>hx y (by simp[hy]))
   rw[k1]
   cases ht:gh Θ A xs Ts ps with
   |none=>exact aD
   |some q=>obtain⟨c1,c2⟩:=k2 _ ht;exact gl rfl c1 c2
  |take=>
   simp only
   obtain⟨j1,j2⟩:=rW (Θ:=Θ) hl hA hB (hx x (by simp)) T
   rw[j1]
   cases hk:A.take Θ T x with
   |none=>exact aD
   |some q=>
    obtain⟨a,A1⟩:=q
    obtain⟨d1,d2⟩:=j2 _ hk
    simp only[Option.map_some]
    obtain⟨k1,k2⟩:=Al hB xs Ts ps (by rw[d2,hl]) d1 (fun y hy=>hx y (by simp[hy]))
    rw[k1]
    cases ht:gh Θ A1 xs Ts ps with
    |none=>exact aD
    |some q=>obtain⟨c1,c2⟩:=k2 _ ht;exact gl rfl c1 (by rw[c2,d2])
  |kZ=>exact aD
theorem Eh (hl:B.length=A.length):∀ {cu:List IG},(∀ c∈cu,∀ t s p,c=.pl t s p→Δ s=true)→pK (mix Δ A B) cu=pK A cu
 |[],_=>rfl
 |c::r,hc=>by
  simp only[pK]
  rw[Eh hl (fun c' h'=>hc c' (by simp[h']))]
  have:Hp (mix Δ A B) c=Hp A c:=by
   cases c with
   |pl t s p=>simp only[Hp];rw[mn hl (hc _ (by simp) t s p rfl)]
   |kv a=>rfl
  rw[this]
theorem Am (hl:B.length=A.length) (hA:aU Δ A):∀ (xs:List Operand) (Ts:List TypeId) (l:List (Option TV)),(∀ x∈xs,mj Δ x=true)→reads Θ (mix Δ A B) xs Ts l=reads Θ A xs Ts l
 |[],_,_,_=>by simp[reads]
 |x::xs,[],_,_=>by simp[reads]
 |x::xs,T::Ts,[],_=>by simp[reads]
 |x::xs,T::Ts,p::ps,hx=>by
  simp only[reads]
  rw[Am hl hA xs Ts ps (fun y hy=>hx y (by simp[hy])),jx hl (hx x (by simp))]
  cases p with
  |some a=>rfl
  |none=>
   simp only
   cases e:A.dX Θ T x with
   |none=>rfl
   |some a=>
    have ha:=gC hA (hx x (by simp)) e
    cases a with
    |lu f cu=>
     simp only
     rw[Eh hl (fun c hc t s p ec=>ha s (by
      simp only[AV.refs,List.any_eq_true]
      exact⟨c,hc,by rw[ec];simp⟩))]
    |_=>simp only;rw[Vu hl ha]
theorem YR (hl:B.length=A.length) {x:Operand} (hx:mj Δ x=true):uq (mix Δ A B) x=uq A x:=by
 cases x with
 |tmp i=>simp only[uq];rw[lC hl hx]
 |_=>rfl
theorem An (hl:B.length=A.length):∀ (xs:List Operand) (l:List (Option TV)) (as:List Arg),(∀ x∈xs,mj Δ x=true)→ju (mix Δ A B) xs l as=ju A xs l as
 |[],_,_,_=>rfl
 |x::xs,[],_,_=>rfl
 |x::xs,p::ps,[],_=>rfl
 |x::xs,p::ps,r::rs,hx=>by simp only[ju,An hl xs ps rs (fun y hy=>hx y (by simp[hy])),YR hl (hx x (by simp))]
def abO (Δ:Nat→Bool) (A B:St) (K K':St→Option aa):Prop:=∀ A1,aU Δ A1→A1.length=A.length→K' (mix Δ A1 B)=K A1
theorem xh (l:List TV):∀ s,(Hq l).refs s=true→Δ s=true:=fun s hs=>by rw[D9] at hs;cases hs
theorem abP (hl:B.length=A.length) (hA:aU Δ A) (hB:aU Δ B) {o:Oper} {d:Nat} (nm:o.dst=some d) (hd:Δ d=true) {f:FuncId} {as:List Operand} {ts:List TypeId} (hx:∀ x∈as,mj Δ x=true) {K K':St→Option aa} (hK:abO Δ A B K K'):
  hJ h O o f none as ts (mix Δ A B) K'=hJ h O o f none as ts A K:=by
 unfold hJ
 obtain⟨k1,k2⟩:=Al (Θ:=h.tab) hB as ts (O.sig f) hl hA hx
 rw[k1]
 cases ht:gh h.tab A as ts (O.sig f) with
 |none=>rfl
 |some q=>
  obtain⟨l,A1⟩:=q
  obtain⟨c1,c2⟩:=k2 _ ht
  have Aj:B.length=A1.length:=by rw[c2,hl]
  simp only[Option.map_some,rO]
  rw[Am Aj c1 as ts l hx]
  cases reads h.tab A1 as ts l with
  |none=>rfl
  |some args=>
   simp only
   congr 1
   funext rt
   cases rt.refs with
   |cons _ _=>rfl
   |nil=>
    simp only
    rw[An Aj as l args hx,nm,tr Aj hB hd]
    rw[hK _ (kr c1 hd (xh _)) (by rw[bW,c2])]
theorem Rv (hl:B.length=A.length) (hA:aU Δ A) (hB:aU Δ B) {s:Nat} (hs:Δ s=true) (b:TV) (p:Path):(mix Δ A B).pL s b p=(A.pL s b p).map (fun S=>mix Δ S B)∧∀ S,A.pL s b p=some S→aU Δ S∧S.length=A.length:=by
 cases p with
 |nil=>
  simp only[St.pL]
  refine⟨by rw[tr hl hB hs];rfl,fun S e=>?_⟩
  injection e with e
  subst e
  exact⟨kr hA hs cv,bW _ _ _⟩
 |cons st pp=>
  simp only[St.pL]
  rw[lC hl hs]
  cases A.at s with
  |v r ex=>
   simp only
   cases gw b (st::pp) r.t r.m r.x with
   |none=>exact⟨rfl,fun _ e=>by cases e⟩
   |some q=>
    simp only
    refine⟨by rw[tr hl hB hs];rfl,fun S e=>?_⟩
    injection e with e
    subst e
    exact⟨kr hA hs cv,bW _ _ _⟩
  |_=>exact⟨rfl,fun _ e=>by cases e⟩
theorem abQ (hl:B.length=A.length) (hA:aU Δ A) (hB:aU Δ B) {o:Oper} {d:Nat} (nm:o.dst=some d) (hd:Δ d=true) {f:FuncId} {j:Nat} {as:List Operand} {ts:List TypeId} (hx:∀ x∈as,mj Δ x=true) {K K':St→Option aa} (hK:abO Δ A B K K'):
  rQ h O o f j as ts (mix Δ A B) K'=rQ h O o f j as ts A K:=by
 unfold rQ
 split
 case h_2=>rfl
 rename_i x T hxj _
 have hxx:=hx x (List.mem_of_getElem? hxj)
 rw[jx hl hxx]
 cases e:A.dX h.tab T x with
 |none=>rfl
 |some av=>
  simp only
  have ha:=gC hA hxx e
  obtain⟨k1,k2⟩:=HF hl hA hB hxx ha
  rw[k1]
  cases hp:ki x av with
  |none=>cases A.dN x av<;>rfl
  |some sp=>
   obtain⟨s,p⟩:=sp
   have hs:Δ s=true:=by
    cases av with
    |v b ex=>
     cases x with
     |tmp i=>simp only[ki,Option.some.injEq,Prod.mk.injEq] at hp;rw[←hp.1];exact hxx
     |_=>simp[ki] at hp
    |al t s' p'=>simp only[ki,Option.some.injEq,Prod.mk.injEq] at hp;rw[←hp.1];exact ha _ ny
    |_=>simp[ki] at hp
   cases ht:A.dN x av with
   |none=>rfl
   |some q=>
    obtain⟨b,A1⟩:=q
    obtain⟨c1,c2⟩:=k2 _ ht
    have Aj:B.length=A1.length:=by rw[c2,hl]
    simp only[Option.map_some]
    cases (!b.m.bG&&fb b.t b.m) with
    |false=>rfl
    |true=>
     simp only[cond_true]
     rw[Am Aj c1 as ts _ hx]
     cases reads h.tab A1 as ts ((List.replicate as.length none).set j (some ⟨b.t,jv b.t b.m 0,b.x⟩)) with
     |none=>rfl
     |some args=>
      simp only
      rw[An Aj as _ args hx]
      cases (rP b.t b.m||ju A1 as ((List.replicate as.length none).set j (some ⟨b.t,jv b.t b.m 0,b.x⟩)) args) with
      |false=>rfl
      |true=>
       simp only[cond_true]
       congr 1
       funext rt
       split
       case h_2=>rfl
       rename_i c _
       cases (rt.res.all fun d=>fQ d.t d.m&&q9 d.m) with
       |false=>rfl
       |true=>
        simp only[cond_true]
        split
        case isFalse=>rfl
        split
        case isFalse=>rfl
        obtain⟨r1,r2⟩:=Rv Aj c1 hB hs ⟨b.t,b.m,fE b.t b.m b.x (‹c.t=b.t›▸c.x)⟩ p
        rw[r1]
        cases hr:A1.pL s ⟨b.t,b.m,fE b.t b.m b.x (‹c.t=b.t›▸c.x)⟩ p with
        |none=>rfl
        |some A2=>
         obtain⟨d1,d2⟩:=r2 _ hr
         simp only[Option.map_some]
         rw[nm,tr (by rw[d2,c2,hl]) hB hd]
         exact hK _ (kr d1 hd (xh _)) (by rw[bW,d2,c2])
theorem oz (hl:B.length=A.length) (hA:aU Δ A) (hB:aU Δ B) {i:Nat} {o:Oper} (ho:ops[i]?=some o) (ht:dV Δ o=true) {K K':St→Option aa} (hK:abO Δ A B K K'):
  aT h O ops i (mix Δ A B) K'=aT h O ops i A K:=by
 unfold dV at ht
 simp only[Bool.and_eq_true] at ht
 obtain⟨⟨hg,hd⟩,hx⟩:=ht
 have hg:o.guard=none:=by
  cases hq:o.guard with
  |none=>rfl
  |some _=>rw[hq] at hg;cases hg
 by_cases bQ:∃ T x y,o.op=.store T x y
 ·obtain⟨T,x,y,bI⟩:=bQ
  have hdn:o.dst=none:=by
   cases hq:o.dst with
   |none=>rfl
   |some d=>unfold ah4 at hd;rw[hq,bI] at hd;cases hd
  rw[bI] at hx
  simp only[Bool.and_eq_true] at hx
  have e1:∀ S K,aT h O ops i S K=match lR h.tab S T x y with
    |some (g,S1)=>bif g then K (pG h.tab S S1 T y) else none
    |none=>none:=fun S K=>by
   unfold aT
   rw[ho]
   simp only[hg]
   unfold hY
   rw[bI]
   simp only[ev,bI,hdn]
   cases lR h.tab S T x y with
   |none=>rfl
   |some q=>rfl
  have hm:=YQ (Θ:=h.tab) hl hA hB T hx.1 hx.2
  rw[e1,e1,hm.1]
  cases he:lR h.tab A T x y with
  |none=>rfl
  |some q=>
   obtain⟨g,A1⟩:=q
   obtain⟨c1,c2⟩:=hm.2 _ he
   simp only[Option.map_some]
   obtain⟨s1,s2,s3⟩:=Ru (Θ:=h.tab) (A1:=A1) hl hA hB T hx.2 c2 c1
   rw[s1,hK _ s2 s3]
 obtain⟨d,nm⟩:∃ d,o.dst=some d:=by
  cases hq:o.dst with
  |none=>
   exfalso
   cases bI:o.op with
   |store T x y=>exact bQ ⟨T,x,y,bI⟩
   |_=>simp[ah4,hq,bI] at hd
  |some d=>exact⟨d,rfl⟩
 have hd:Δ d=true:=by
  cases bI:o.op with
  |store T x y=>exact absurd ⟨T,x,y,bI⟩ bQ
  |_=>simpa[ah4,nm,bI] using hd
 have key:∀ {G0:St→zV},Mx Δ A B (G0 A) (G0 (mix Δ A B))→(∀ S K,aT h O ops i S K=match G0 S with
   |some (g,S1)=>bif g then K S1 else none
   |none=>none)→aT h O ops i (mix Δ A B) K'=aT h O ops i A K:=by
  intro G0 hm hs
  rw[hs,hs,hm.1]
  cases he:G0 A with
  |none=>rfl
  |some q=>
   obtain⟨g,A1⟩:=q
   obtain⟨c1,c2⟩:=hm.2 _ he
   simp only[Option.map_some]
   rw[hK A1 c1 c2]
 have G9:∀ S K,aT h O ops i S K=hY h O o S K:=fun S K=>by
  unfold aT
  rw[ho]
  simp only[hg]
 split at hx
 ·rename_i T x y bI;exact absurd ⟨T,x,y,bI⟩ bQ
 ·rename_i T l c bI
  simp only[Bool.and_eq_true] at hx
  refine key (G0:=fun S=>gB h.tab S (some d) T l c) (G8 hl hA hB hd T hx.1 hx.2) fun S K=>?_
  rw[G9];unfold hY;rw[bI];simp only[ev,bI,nm];try rfl
 ·rename_i T bI
  refine key (G0:=fun S=>pF h.tab h.hn S (some d) T) (YP hl hA hB hd T) fun S K=>?_
  rw[G9];unfold hY;rw[bI];simp only[ev,bI,nm];try rfl
 ·rename_i T n ps bI
  refine key (G0:=fun S=>bw h.tab h.hn S (some d) T n ps.toList) (Eg hl hA hB hd T n (List.all_eq_true.1 hx)) fun S K=>?_
  rw[G9];unfold hY;rw[bI];simp only[ev,bI,nm];try rfl
 ·rename_i T x bI
  refine key (G0:=fun S=>gz h.tab S (some d) T x) (abM hl hA hB hd T hx) fun S K=>?_
  rw[G9];unfold hY;rw[bI];simp only[ev,bI,nm];try rfl
 ·rename_i x bI
  refine key (G0:=fun S=>pE h.tab S (some d) o.type x) (abN hl hA hB hd _ hx) fun S K=>?_
  rw[G9];unfold hY;rw[bI];simp only[ev,bI,nm];try rfl
 ·rename_i x j bI
  refine key (G0:=fun S=>fV S (some d) x j) (MS hl hA hB hd hx j) fun S K=>?_
  rw[G9];unfold hY;rw[bI];simp only[ev,bI,nm];try rfl
 ·rename_i op T x y T' bI
  simp only[Bool.and_eq_true,Bool.not_eq_true'] at hx
  obtain⟨h1,h2,h3⟩:=hx
  refine key (G0:=fun S=>DW h.tab S (some d) op T x y) (aia hl hA hB hd op T h1 h2) fun S K=>?_
  rw[G9]
  unfold hY
  split
  ·rename_i e;rw[bI] at e;cases e
  ·rename_i e;rw[bI] at e;cases e
  ·rename_i e;rw[bI] at e;rw[bI] at h3;injection e with e1 e2 e3 e4 e5;subst e4;simp[pM] at h3
  ·rename_i e;rw[bI] at e;rw[bI] at h3;injection e with e1 e2 e3 e4 e5;subst e4;simp[pM] at h3
  ·simp only[ev,bI,nm];try rfl
 ·rename_i T x f bI
  refine key (G0:=fun S=>gA h.tab S (some d) T x f) (G6 hl hA hB hd T hx f) fun S K=>?_
  rw[G9];unfold hY;rw[bI];simp only[ev,bI,nm];try rfl
 ·rename_i T x ix bI
  simp only[Bool.and_eq_true] at hx
  refine key (G0:=fun S=>cd h.tab S (some d) T x ix) (G7 hl hA hB hd T hx.1 hx.2) fun S K=>?_
  rw[G9];unfold hY;rw[bI];simp only[ev,bI,nm];try rfl
 ·rename_i T T' x bI
  refine key (G0:=fun S=>gO h.tab S (some d) T T' x) (MU hl hA hB hd T T' hx) fun S K=>?_
  rw[G9];unfold hY;rw[bI];simp only[ev,bI,nm];try rfl
 ·rename_i as ts bI
  have xi:=List.all_eq_true.1 hx
  refine key (G0:=fun S=>match cf h.tab S (some d) ts.toList as.toList with
   |some r=>some r
   |none=>fW h.tab S (some d) ts.toList as.toList) ?_ fun S K=>?_
  ·have h1:=Rt (Θ:=h.tab) (ts:=ts.toList) hl hA hB hd xi
   have h2:=MT (Θ:=h.tab) (ts:=ts.toList) hl hA hB hd xi
   refine⟨?_,fun q hq=>?_⟩
   ·show(match cf h.tab (mix Δ A B) (some d) ts.toList as.toList with
     |some r=>some r
     |none=>fW h.tab (mix Δ A B) (some d) ts.toList as.toList)=_
    rw[h1.1]
    cases cf h.tab A (some d) ts.toList as.toList with
    |none=>exact h2.1
    |some r=>rfl
   ·split at hq
    ·rename_i r hr
     injection hq with hq
     subst hq
     exact h1.2 _ hr
    ·exact h2.2 _ hq
  ·rw[G9];unfold hY;rw[bI];simp only[ev,bI,nm];try rfl
 ·rename_i f as ts bI
  have xi:=List.all_eq_true.1 hx
  rw[G9,G9]
  unfold hY
  rw[bI]
  simp only
  cases uW (O.sig f) 0 with
  |none=>exact abP hl hA hB nm hd xi hK
  |some j=>exact abQ hl hA hB nm hd xi hK
 ·cases hx
end Go.Pv
namespace Go.Pv
set_option linter.unusedVariables false
set_option linter.unusedSimpArgs false
variable {h:Hint} {O:jt} {Θ:dq} {ops:Array Oper} {ret:aa} {Δ:Nat→Bool} {A B S:St} {K:St→Option aa}
theorem HG {o:Oper} (ht:dV Δ o=true):pM o.op=false:=by
 unfold dV at ht
 simp only[Bool.and_eq_true] at ht
 have hx:=ht.2
 split at hx
 all_goals first |(rename_i bI;rw[bI];rfl) |(simp only[Bool.and_eq_true,Bool.not_eq_true'] at hx;exact hx.2.2) |cases hx
theorem Rw (hl:B.length=A.length) (hA:aU Δ A) (hB:aU Δ B):aU Δ (mix Δ A B):=fun i s hs=>by
 rw[ko hl] at hs
 cases hi:Δ i with
 |true=>rw[hi] at hs;rw[←hi];exact hA i s hs
 |false=>rw[hi] at hs;rw[←hi];exact hB i s hs
theorem MV (d:List Nat):(fun i=>!Rf d i)=YD d:=by funext i;simp[Rf]
theorem u6 {d:List Nat}:aU (Rf d) S↔aU (YD d) S:=
 ⟨fun h=>by have:=h.not;rwa [MV] at this,fun h=>h.not⟩
theorem Ei (hS:aU Δ S) {i:Nat} {o:Oper} (ho:ops[i]?=some o) (ht:dV Δ o=true) (c:St→Bool) (hc:∀ X,aU Δ X→c X=true):
  aT h O ops i S K=aT h O ops i S (fun X=>bif c X then K X else none):=by
 have h1:=oz (h:=h) (O:=O) (A:=S) (B:=S) rfl hS hS ho ht (K:=fun A1=>open Classical in if aU Δ A1 then K (mix Δ A1 S) else none) (K':=K) (fun A1 hA hl=>(if_pos hA).symm)
 have h2:=oz (h:=h) (O:=O) (A:=S) (B:=S) rfl hS hS ho ht (K:=fun A1=>open Classical in if aU Δ A1 then K (mix Δ A1 S) else none) (K':=fun X=>bif c X then K X else none) (fun A1 hA hl=>by
  show(bif c (mix Δ A1 S) then K (mix Δ A1 S) else none)=open Classical in if aU Δ A1 then K (mix Δ A1 S) else none
  rw[if_pos hA,hc _ (Rw (by rw[hl]) hA hS)];rfl)
 rw[Ee] at h1 h2
 rw[h1,h2]
theorem MW (hS:aU Δ S) {i:Nat} {o:Oper} (ho:ops[i]?=some o) (ht:dV Δ o=true):
  aT h O ops i S K=aT h O ops i S (fun X=>bif Nat.beq X.length S.length then K X else none):=by
 have h1:=oz (h:=h) (O:=O) (A:=S) (B:=S) rfl hS hS ho ht (K:=fun A1=>K (mix Δ A1 S)) (K':=K) (fun A1 hA hl=>rfl)
 have h2:=oz (h:=h) (O:=O) (A:=S) (B:=S) rfl hS hS ho ht (K:=fun A1=>K (mix Δ A1 S)) (K':=fun X=>bif Nat.beq X.length S.length then K X else none) (fun A1 hA hl=>by
  show(bif Nat.beq (mix Δ A1 S).length S.length then K (mix Δ A1 S) else none)=K (mix Δ A1 S)
  rw[gk,hl,Nat.beq_refl];rfl)
 rw[Ee] at h1 h2
 rw[h1,h2]
theorem HI (hS:aU Δ S) {i j:Nat} {oi oj:Oper} (hi:ops[i]?=some oi) (hj:ops[j]?=some oj) (ti:dV Δ oi=true) (tj:dV (fun i=>!Δ i) oj=true):
  aT h O ops i S (fun S1=>aT h O ops j S1 K)=aT h O ops i S (fun A1=>aT h O ops j S (fun B1=>K (mix Δ A1 B1))):=by
 have h1:=oz (h:=h) (O:=O) (A:=S) (B:=S) rfl hS hS hi ti (K':=fun S1=>aT h O ops j S1 K) (K:=fun A1=>aT h O ops j S (fun B1=>K (mix Δ A1 B1))) (fun A1 hA hl=>by
  have h2:=oz (h:=h) (O:=O) (Δ:=fun i=>!Δ i) (A:=S) (B:=A1) hl hS.not hA.not hj tj (K':=K) (K:=fun B1=>K (mix Δ A1 B1)) (fun B1 hB hlB=>by rw[IQ (by rw[hl,hlB])])
  rw[IQ (by rw[hl])] at h2
  exact h2)
 rw[Ee] at h1
 exact h1
theorem Ej (hO:ot O) (hS:aU Δ S) {i j:Nat} {oi oj:Oper} (hi:ops[i]?=some oi) (hj:ops[j]?=some oj) (ti:dV Δ oi=true) (tj:dV (fun i=>!Δ i) oj=true):
  aT h O ops i S (fun S1=>aT h O ops j S1 K)=aT h O ops j S (fun S1=>aT h O ops i S1 K):=by
 have tn:(fun i=>!(!Δ i))=Δ:=by funext i;simp
 rw[HI hS hi hj ti tj,HI (Δ:=fun i=>!Δ i) hS.not hj hi tj (by rw[tn];exact ti)]
 obtain⟨ri,h1⟩:=iI (h:=h) (O:=O) (ops:=ops) hO i (fun o ho=>by rw[hi] at ho;injection ho with ho;subst ho;exact HG ti) S
 obtain⟨rj,h2⟩:=iI (h:=h) (O:=O) (ops:=ops) hO j (fun o ho=>by rw[hj] at ho;injection ho with ho;subst ho;exact HG tj) S
 -- the lengths are the same
 have l1:=fun K=>MW (h:=h) (O:=O) (K:=K) hS hi ti
 have l2:=fun K=>MW (h:=h) (O:=O) (K:=K) hS.not hj tj
 cases ri with
 |none=>simp only[h1,h2,Option.bind_none];cases rj<;>rfl
 |some A1=>
  cases rj with
  |none=>simp only[h1,h2,Option.bind_none,Option.bind_some]
  |some B1=>
   simp only[h1,h2,Option.bind_some] at l1 l2 ⊢
   have hA:A1.length=S.length:=by
    have:=l1 (fun _=>some ⟨[],[]⟩)
    cases hq:Nat.beq A1.length S.length with
    |true=>exact Nat.eq_of_beq_eq_true hq
    |false=>rw[hq] at this;cases this
   have hB:B1.length=S.length:=by
    have:=l2 (fun _=>some ⟨[],[]⟩)
    cases hq:Nat.beq B1.length S.length with
    |true=>exact Nat.eq_of_beq_eq_true hq
    |false=>rw[hq] at this;cases this
   rw[IQ (by rw[hA,hB])]
theorem YS {S:St} {d:Nat} {a:AV} (h:S.at d=a) (hd:a≠ .dead):S.set d a=S:=by
 refine n6 (List.length_set) fun i=>?_
 rw[cQ]
 split
 ·rename_i hi
  rw[hi.1,h]
 ·rfl
theorem put_comm {S:St} {a b:Nat} {u v:AV} (nz:a≠b) (hu:∀ d,u.refs d=false) (hv:∀ d,v.refs d=false):(S.put (some a) u).put (some b) v=(S.put (some b) v).put (some a) u:=by
 refine n6 (by simp only[bW]) fun i=>?_
 have hV:∀ (S:St) (a b:Nat) (u:AV),a≠b→((S.put (some a) u).at b).zU=(S.at b).zU:=fun S a b u nz=>by
  rw[dP,if_neg (fun e=>nz e.1.symm)]
  cases hr:(S.at b).refs a with
  |false=>rfl
  |true=>
   have:(S.at b).zU=false:=by cases hx:S.at b<;>first |rfl |(rw[hx] at hr;simp[AV.refs] at hr)
   rw[this]
   cases (S.at a).zU with
   |true=>rfl
   |false=>exact this
 simp only[dP,bW,hu,hv,cond_false]
 have hVa:=hV S b a v (Ne.symm nz)
 have hVb:=hV S a b u nz
 simp only[dP,hu,hv,cond_false] at hVa hVb
 rw[hVa,hVb]
 by_cases h1:i=a
 ·subst h1
  by_cases hl:i<S.length
  ·rw[if_neg (fun e=>nz e.1),if_pos ⟨rfl,hl⟩,if_pos ⟨rfl,hl⟩,hu];rfl
  ·rw[if_neg (fun e=>nz e.1),if_neg (fun e=>hl e.2),if_neg (fun e=>hl e.2),if_neg (fun e=>nz e.1),HC (S:=S) (i:=i) (by omega)]
   simp[AV.refs]
 ·by_cases h2:i=b
  ·subst h2
   by_cases hl:i<S.length
   ·rw[if_pos ⟨rfl,hl⟩,if_neg (fun e=>h1 e.1),if_pos ⟨rfl,hl⟩,hv];rfl
   ·rw[if_neg (fun e=>hl e.2),if_neg (fun e=>h1 e.1),if_neg (fun e=>h1 e.1),if_neg (fun e=>hl e.2),HC (S:=S) (i:=i) (by omega)]
    simp[AV.refs]
  ·rw[if_neg (fun e=>h2 e.1),if_neg (fun e=>h1 e.1),if_neg (fun e=>h1 e.1),if_neg (fun e=>h2 e.1)]
   have dr:∀ d,AV.dead.refs d=false:=fun _=>rfl
   cases hra:(S.at i).refs a<;>cases hrb:(S.at i).refs b<;>cases (S.at a).zU<;>cases (S.at b).zU<;>simp only[hra,hrb,dr,Bool.and_true,Bool.and_false,Bool.true_and,Bool.false_and,cond_true,cond_false]
theorem xj {S:St} {a x:Nat} {u t:AV} (Vq:a≠x) (ht:∀ d,t.refs d=false) (hx:∀ d,(S.at x).refs d=false):List.set (S.put (some a) u) x t=St.put (S.set x t) (some a) u:=by
 refine n6 (by simp only[bW,List.length_set]) fun i=>?_
 have h1:(St.at (S.set x t) a).zU=(S.at a).zU:=by rw[cQ,if_neg (fun e=>Vq e.1)]
 rw[cQ,bW,dP,dP,List.length_set,h1]
 by_cases hi:i=x∧x<S.length
 ·rw[if_pos hi,if_neg (fun e=>Vq (e.1.symm.trans hi.1)),cQ,if_pos hi,ht];rfl
 ·rw[if_neg hi,cQ,if_neg hi]
theorem Vv {i:Nat} {o:Oper} {a x p:Nat} (ho:ops[i]?=some o) (hg:o.guard=none) (hd:o.dst=some a) (bI:o.op=.extract (.tmp x) p) (S:St) (K:St→Option aa):aT h O ops i S K=match fV S (some a) (.tmp x) p with
  |some (g,S1)=>bif g then K S1 else none
  |none=>none:=by
 unfold aT
 rw[ho]
 simp only[hg]
 unfold hY
 rw[bI]
 simp only[ev,bI,hd]
 try rfl
theorem aib {i j:Nat} {oi oj:Oper} (hi:ops[i]?=some oi) (hj:ops[j]?=some oj) (hx:exB oi oj=true) (S:St) (K:St→Option aa):
  aT h O ops i S (fun S1=>aT h O ops j S1 K)=aT h O ops j S (fun S1=>aT h O ops i S1 K):=by
 unfold exB at hx
 split at hx
 case h_2=>cases hx
 rename_i a b x p y q g1 g2 d1 d2 o1 o2
 simp only[Bool.and_eq_true,Bool.not_eq_true'] at hx
 obtain⟨e1,e2,e3,e4,e5⟩:=hx
 have e1:=Nat.eq_of_beq_eq_true e1
 subst e1
 have e2:p≠q:=fun e=>by rw[e,Nat.beq_refl] at e2;cases e2
 have e3:a≠b:=fun e=>by rw[e,Nat.beq_refl] at e3;cases e3
 have e4:a≠x:=fun e=>by rw[e,Nat.beq_refl] at e4;cases e4
 have e5:b≠x:=fun e=>by rw[e,Nat.beq_refl] at e5;cases e5
 have bf:∀ {a x:Nat},a≠x→Nat.beq a x=false:=fun {a x} ly=>by
  cases hq:Nat.beq a x with
  |false=>rfl
  |true=>exact absurd (Nat.eq_of_beq_eq_true hq) ly
 -- one extraction,on its own
 have one:∀ (S:St) (a p:Nat),a≠x→fV S (some a) (.tmp x) p=match S.at x with
   | .ud l=>(match l.getD p none with
    |some u=>some (true,St.put (S.set x (.ud (bif u.m.bG then l else l.set p none))) (some a) (.v u []))
    |none=>none)
   |_=>none:=fun S a p Vq=>by
  unfold fV
  simp only
  cases dE:S.at x with
  |ud l=>
   simp only
   cases l.getD p none with
   |none=>rfl
   |some u=>
    simp only
    cases u.m.bG with
    |true=>simp only[cond_true];rw[YS dE (fun e=>by cases e)]
    |false=>simp only[cond_false,bf Vq]
  |_=>rfl
 simp only[Vv hi g1 d1 o1,Vv hj g2 d2 o2,one _ _ _ e4,one _ _ _ e5]
 cases dE:S.at x with
 |ud l=>
  simp only
  have hxl:x<S.length:=by
   refine Classical.byContradiction fun hl=>?_
   rw[HC (S:=S) (i:=x) (Nat.le_of_not_lt hl)] at dE
   cases dE
  -- the tuple,behind the first
  have after:∀ (t:AV) (u:TV) (a:Nat),(∀ d,t.refs d=false)→a≠x→(St.put (S.set x t) (some a) (.v u [])).at x=t:=fun t u a ht Vq=>by
   rw[dP,if_neg (fun e=>Vq e.1.symm),cQ,if_pos ⟨rfl,hxl⟩,ht];rfl
  have n9:∀ (l:List (Option TV)) (p q:Nat) (c:Bool),p≠q→(bif c then l else l.set p none).getD q none=l.getD q none:=fun l p q c hpq=>by
   cases c with
   |true=>rfl
   |false=>simp only[cond_false,List.getD_eq_getElem?_getD];rw[List.getElem?_set_ne hpq]
  have MX:∀ (l:List (Option TV)) (d:Nat),(AV.ud l).refs d=false:=fun _ _=>rfl
  have nv:∀ (b:TV) (d:Nat),(AV.v b []).refs d=false:=fun _ _=>rfl
  cases hp:l.getD p none with
  |none=>
   cases hq:l.getD q none with
   |none=>rfl
   |some w=>
    simp only[cond_true,after _ _ _ (MX _) e5,n9 _ _ _ _ (Ne.symm e2),hp]
  |some u=>
   cases hq:l.getD q none with
   |none=>simp only[cond_true,after _ _ _ (MX _) e4,n9 _ _ _ _ e2,hq]
   |some w=>
    simp only[cond_true,after _ _ _ (MX _) e4,after _ _ _ (MX _) e5,n9 _ _ _ _ e2,n9 _ _ _ _ (Ne.symm e2),hp,hq]
    congr 1
    rw[xj e4 (MX _) (by rw[cQ,if_pos ⟨rfl,hxl⟩];exact MX _),xj e5 (MX _) (by rw[cQ,if_pos ⟨rfl,hxl⟩];exact MX _),List.set_set,List.set_set,put_comm e3 (nv _) (nv _)]
    congr 3
    cases u.m.bG<;>cases w.m.bG<;>simp only[cond_true,cond_false]
    rw[List.set_comm _ _ e2]
 |_=>rfl
theorem u7 {ds:List (List Nat)}:lB ds S=true↔∀ d∈ds,aU (YD d) S:=by
 unfold lB
 rw[List.all_eq_true]
 exact⟨fun h d hd=>iW.1 (h d hd),fun h d hd=>iW.2 (h d hd)⟩
theorem abR {ds:List (List Nat)} {o:Oper} {d:List Nat} (hd:d∈ds) (hs:D1 ds o=true):dV (YD d) o=true∨dV (Rf d) o=true:=by
 unfold D1 at hs
 simpa using List.all_eq_true.1 hs d hd
theorem u9 (hO:ot O) {ds:List (List Nat)} (hw:lB ds S=true) {i:Nat} {o:Oper} (ho:ops[i]?=some o) (hs:D1 ds o=true) (hn:pM o.op=false) (e:aT h O ops i S K=some ret):∃ X,(∀ K,aT h O ops i S K=K X)∧lB ds X=true∧K X=some ret:=by
 obtain⟨ro,h1⟩:=iI (h:=h) (O:=O) (ops:=ops) hO i (fun o' G3=>by rw[ho] at G3;injection G3 with G3;subst G3;exact hn) S
 cases ro with
 |none=>rw[h1] at e;cases e
 |some X=>
  refine⟨X,fun K=>h1 K,u7.2 fun d hd=>?_,by rw[h1] at e;exact e⟩
  have hS:=u7.1 hw d hd
  rcases abR hd hs with ht |ht
  ·have:=Ei (h:=h) (O:=O) (K:=fun _=>some ⟨[],[]⟩) hS ho ht (fun X=>kK (YD d) X 0) (fun X hX=>iW.2 hX)
   simp only[h1,Option.bind_some] at this
   cases hc:kK (YD d) X 0 with
   |true=>exact iW.1 hc
   |false=>rw[hc] at this;cases this
  ·have:=Ei (h:=h) (O:=O) (K:=fun _=>some ⟨[],[]⟩) (u6.2 hS) ho ht (fun X=>kK (YD d) X 0) (fun X hX=>iW.2 (u6.1 hX))
   simp only[h1,Option.bind_some] at this
   cases hc:kK (YD d) X 0 with
   |true=>exact iW.1 hc
   |false=>rw[hc] at this;cases this
theorem YT (hO:ot O) {ds:List (List Nat)} (hw:lB ds S=true) {i j:Nat} {oi oj:Oper} (hi:ops[i]?=some oi) (hj:ops[j]?=some oj) (hp:YE ds oi oj=true∨exB oi oj=true):
  aT h O ops i S (fun S1=>aT h O ops j S1 K)=aT h O ops j S (fun S1=>aT h O ops i S1 K):=by
 rcases hp with hp |hp
 ·unfold YE at hp
  obtain⟨d,hd,hp⟩:=List.any_eq_true.1 hp
  have hS:=u7.1 hw d hd
  simp only[Bool.or_eq_true,Bool.and_eq_true] at hp
  rcases hp with⟨h1,h2⟩ |⟨h1,h2⟩
  ·exact Ej hO hS hi hj h1 h2
  ·exact Ej hO (u6.2 hS) hi hj h1 (by rw[MV];exact h2)
 ·exact aib hi hj hp S K
theorem HJ (hO:ot O) {ds:List (List Nat)} {j:Nat} {oj:Oper} (hj:ops[j]?=some oj):∀ (p r:List Nat) {S:St} {K:St→Option aa} {ret:aa},lB ds S=true→(∀ x∈p,∃ ox,ops[x]?=some ox∧D1 ds ox=true∧pM ox.op=false∧(YE ds ox oj=true∨exB ox oj=true))→
  nu h O ops (p++j::r) S K=some ret→aT h O ops j S (fun S1=>nu h O ops (p++r) S1 K)=some ret
 |[],r,S,K,ret,hw,hp,e=>e
 |x::p,r,S,K,ret,hw,hp,e=>by
  obtain⟨ox,hx,hs,hn,hc⟩:=hp x (by simp)
  simp only[List.cons_append,nu] at e ⊢
  obtain⟨X,h1,h2,h3⟩:=u9 hO hw hx hs hn e
  have h4:=HJ hO hj p r h2 (fun y hy=>hp y (by simp[hy])) h3
  rw[←YT hO hw hx hj hc,h1]
  exact h4
def ao' (ops:Array Oper) (as:List Nat) (ds:List (List Nat)) (i j:Nat):Prop:=∃ oi oj,ops[i]?=some oi∧ops[j]?=some oj∧i≠j∧(Nat.testBit (aQ i as 0 0) j=true∨YE ds oi oj=true∨exB oi oj=true)
theorem oa {as:List Nat} {ds:List (List Nat)}:∀ {l:List Nat},rR ops as ds l=true↔l.Pairwise (ao' ops as ds)
 |[]=>by simp[rR]
 |i::r=>by
  simp only[rR,Bool.and_eq_true,List.all_eq_true,List.pairwise_cons]
  rw[oa]
  refine and_congr ?_ Iff.rfl
  refine forall_congr' fun j=>?_
  refine imp_congr Iff.rfl ?_
  unfold ao'
  cases hi:ops[i]? with
  |none=>simp
  |some oi=>
   cases hj:ops[j]? with
   |none=>simp
   |some oj=>
    simp only[Bool.and_eq_true,Bool.not_eq_true',Bool.or_eq_true,Option.some.injEq]
    constructor
    ·rintro⟨h1,h2⟩
     exact⟨oi,oj,rfl,rfl,(fun e=>by rw[e,Nat.beq_refl] at h1;cases h1),h2⟩
    ·rintro⟨_,_,rfl,rfl,h1,h2⟩
     refine⟨?_,h2⟩
     cases hq:Nat.beq i j with
     |false=>rfl
     |true=>exact absurd (Nat.eq_of_beq_eq_true hq) h1
end Go.Pv
namespace Go.Pv
set_option linter.unusedVariables false
set_option linter.unusedSimpArgs false
def zc:Ty→List Value
 | .int k=>[.int k 0] | .bool=>[.bool false] | .str=>[.string ByteArray.empty] | .sl _=>[.slice none 0 0] | .ptr _=>[.pointer none]
 | .pair a b=>zc a++zc b | .unit=>[] | .arr n t=>(List.replicate n (zc t)).flatten
def gu:Path→Ty→Option Ty
 |[],t=>some t
 | .fst::p,.pair a _=>gu p a
 | .snd::p,.pair _ b=>gu p b
 |_,_=>none
def veq:Value→Value→Bool
 | .int k n,.int k' n'=>decide (k=k')&&decide (n=n')
 | .bool a,.bool b=>a==b
 | .string a,.string b=>a.data.toList==b.data.toList
 | .slice none a b,.slice none c d=>Nat.beq a c&&Nat.beq b d
 | .pointer none,.pointer none=>true
 |_,_=>false
def Rx:List Value→List Value→Bool
 |[],[]=>true
 |a::r,b::s=>veq a b&&Rx r s
 |_,_=>false
theorem aqB {a b:Value} (h:veq a b=true):a=b:=by
 unfold veq at h
 split at h<;>simp at h
 ·obtain⟨rfl,rfl⟩:=h;rfl
 ·subst h;rfl
 ·rename_i a b
  cases a;cases b
  simp at h
  rw[h]
 ·obtain⟨rfl,rfl⟩:=h;rfl
 ·rfl
theorem IT:∀ {a b:List Value},Rx a b=true→a=b
 |[],[],_=>rfl
 |a::r,b::s,h=>by
  simp only[Rx,Bool.and_eq_true] at h
  rw[aqB h.1,IT h.2]
 |[],_::_,h=>by simp[Rx] at h
 |_::_,[],h=>by simp[Rx] at h
def zOK (t:Ty) (z:Value):Bool:=match isAgg t,z with
 |true,.agg cs=>Rx cs.toList (zc t)
 |true,_=>false
 |false,z=>Rx [z] (zc t)
theorem YU {t:Ty} {z:Value} (h:zOK t z=true):aq t z (zc t):=by
 unfold zOK at h
 unfold aq
 split at h
 ·rename_i ha
  rw[if_pos ha,←IT h]
 ·cases h
 ·rename_i ha
  rw[if_neg (by simp[ha]),←IT h]
def k8 (Θ:dq) (ty:Ty) (n:Nat):List Field→Nat→Bool
 |[],_=>true
 |f::r,k=>(match gu (ns k n) ty with
  |some t=>Θ.is f.type t&&Nat.beq f.offset (aI (ns k n) ty)&&Nat.blt 0 t.size
  |none=>false)&&k8 Θ ty n r (k+1)
def mE (P:Program) (Θ:dq) (i:TI):Bool:=match i.ty,P.underlying i.T with
 | .int k,some (.int k')=>decide (k=k')
 | .bool,some .bool=>true
 | .str,some .string=>true
 | .sl t,some (.slice e)=>Nat.beq e i.e&&Θ.is e t&&Nat.blt 0 t.size
 | .pair _ _, some (.struct fs) => decide (fs.toList.map (·.type) = i.fs) && k8 Θ i.ty fs.size fs.toList 0 && !P.eqGuardType P.depth i.T && !P.stoodInHeld i.T && fs.toList.all (fun f => f.name != "_")
 |_,_=>false
def apa (i:TI) (inf:TypeInfo):Bool:=Nat.beq inf.size i.ty.size&&Nat.ble i.ty.size 9000&&Nat.ble inf.bytes (32*i.ty.size)&&Nat.ble inf.bytes 256&&Nat.blt 0 inf.bytes&&match inf.zero with
 |some z=>zOK i.ty z
 |none=>false
def Ty.ht:Ty→Nat
 | .pair a b=>max a.ht b.ht+1
 |_=>0
def uOK (i:TI):Bool:=Nat.ble i.ty.ht 9000&&match i.fs,i.ty with
 |[_],.pair _ .unit=>true
 |[_],_=>false
 |[],.pair _ _=>false
 |_,_=>true
def aqC (P:Program) (Θ:dq) (i:TI):Bool:=((match P.info? i.T with
 |some inf=>apa i inf
 |none=>false)&&mE P Θ i)&&uOK i
def cP (P:Program) (Θ:dq):Bool:=Θ.all (aqC P Θ)
structure auK (P:Program) (i:TI):Prop where
 small:i.ty.size≤9000
 out:∃ inf z,P.info? i.T=some inf∧inf.size=i.ty.size∧inf.bytes≤32*i.ty.size∧inf.bytes≤256∧0<inf.bytes∧inf.zero=some z∧aq i.ty z (zc i.ty)
theorem xk {Θ:dq} {T:TypeId} {i:TI} (h:Θ.find T=some i):i∈Θ∧i.T=T:=by
 induction Θ with
 |nil=>simp[dq.find] at h
 |cons j r ih=>
  simp only[dq.find] at h
  cases hb:Nat.beq j.T T with
  |true=>
   rw[hb] at h
   simp only[cond_true,Option.some.injEq] at h
   subst h
   exact⟨by simp,Nat.eq_of_beq_eq_true hb⟩
  |false=>
   rw[hb] at h
   simp only[cond_false] at h
   exact⟨List.mem_cons_of_mem _ (ih h).1,(ih h).2⟩
theorem cR {P:Program} {Θ:dq} (hT:cP P Θ=true) {T:TypeId} {i:TI} (h:Θ.find T=some i):auK P i∧mE P Θ i=true∧i.T=T:=by
 have h1:=List.all_eq_true.1 hT i (xk h).1
 simp only[aqC,Bool.and_eq_true] at h1
 refine⟨?_,h1.1.2,(xk h).2⟩
 have h2:=h1.1.1
 split at h2
 ·rename_i inf hi
  simp only[apa,Bool.and_eq_true] at h2
  obtain⟨⟨⟨⟨⟨a,sm⟩,b⟩,b'⟩,b''⟩,c⟩:=h2
  split at c
  ·rename_i z hz
   exact⟨Nat.le_of_ble_eq_true sm,⟨inf,z,hi,Nat.eq_of_beq_eq_true a,Nat.le_of_ble_eq_true b,Nat.le_of_ble_eq_true b',Nat.lt_of_succ_le (Nat.le_of_ble_eq_true b''),hz,YU c⟩⟩
  ·cases c
 ·cases h2
theorem apb {P:Program} {Θ:dq} (hT:cP P Θ=true) {T:TypeId} {i:TI} (h:Θ.find T=some i):uOK i=true:=by
 have h1:=List.all_eq_true.1 hT i (xk h).1
 simp only[aqC,Bool.and_eq_true] at h1
 exact h1.2
theorem dW {Θ:dq} {T:TypeId} {t:Ty} (h:Θ.is T t=true):∃ i,Θ.find T=some i∧i.ty=t:=by
 unfold dq.is at h
 split at h
 ·rename_i i hi;exact⟨i,hi,by simpa using h⟩
 ·cases h
theorem lD {P:Program} {Θ:dq} {i:TI} {t:Ty} (h:mE P Θ i=true) (ht:i.ty=.sl t):P.underlying i.T=some (.slice i.e)∧Θ.is i.e t=true∧0<t.size:=by
 unfold mE at h
 rw[ht] at h
 split at h<;>simp_all
 obtain⟨⟨a,b⟩,c⟩:=h
 rw[←a]
 exact b
theorem xl {P:Program} {Θ:dq} {i:TI} {k:IntKind} (h:mE P Θ i=true) (ht:i.ty=.int k):P.underlying i.T=some (.int k):=by
 unfold mE at h
 rw[ht] at h
 split at h<;>simp_all
theorem xm {P:Program} {Θ:dq} {i:TI} (h:mE P Θ i=true) (ht:i.ty=.bool):P.underlying i.T=some .bool:=by
 unfold mE at h
 rw[ht] at h
 split at h<;>simp_all
theorem pO {P:Program} {Θ:dq} {i:TI} (h:mE P Θ i=true) (ht:i.ty=.str):P.underlying i.T=some .string:=by
 unfold mE at h
 rw[ht] at h
 split at h<;>simp_all
theorem mF {P : Program} {Θ : dq} {i : TI} {a b : Ty} (h : mE P Θ i = true) (ht : i.ty = .pair a b) : ∃ fs, P.underlying i.T = some (.struct fs) ∧ fs.toList.map (·.type) = i.fs ∧ k8 Θ i.ty fs.size fs.toList 0 = true ∧ P.eqGuardType P.depth i.T = false ∧ P.stoodInHeld i.T = false ∧ ∀ f ∈ fs, f.name ≠ "_" := by
 unfold mE at h
 rw[ht] at h
 split at h<;>simp_all
 intro f hf
 obtain⟨k,hk,rfl⟩:=Array.mem_iff_getElem.1 hf
 exact h.2 k hk
theorem xn {P:Program} {Θ:dq} {i:TI} (h:mE P Θ i=true):(∃ d,P.underlying i.T=some d)∧(∀ t,i.ty≠ .ptr t)∧(∀ n t,i.ty≠ .arr n t)∧i.ty≠ .unit:=by
 unfold mE at h
 split at h<;>simp_all
theorem iX {Θ:dq} {ty:Ty} {n:Nat}:∀ {l:List Field} {k0:Nat},k8 Θ ty n l k0=true→∀ k f,l[k]?=some f→∃ t,gu (ns (k0+k) n) ty=some t∧Θ.is f.type t=true∧f.offset=aI (ns (k0+k) n) ty∧0<t.size
 |[],_,_,k,f,h=>by simp at h
 |g::r,k0,iY,k,f,h=>by
  simp only[k8,Bool.and_eq_true] at iY
  cases k with
  |zero=>
   simp only[List.getElem?_cons_zero,Option.some.injEq] at h
   subst h
   have:=iY.1
   split at this
   ·rename_i t ht
    simp only[Bool.and_eq_true] at this
    exact⟨t,ht,this.1.1,Nat.eq_of_beq_eq_true this.1.2,Nat.lt_of_succ_le (Nat.le_of_ble_eq_true this.2)⟩
   ·cases this
  |succ k=>
   simp only[List.getElem?_cons_succ] at h
   have:=iX iY.2 k f h
   rw[show k0+1+k=k0+(k+1) from by omega] at this
   exact this
theorem iB {P:Program} {Θ:dq} (hT:cP P Θ=true) {T:TypeId} {t:Ty} (h:Θ.is T t=true):∃ inf,P.info? T=some inf∧inf.size=t.size∧P.cellsOf T=t.size:=by
 obtain⟨i,hi,rfl⟩:=dW h
 obtain⟨⟨_,inf,z,h1,h2,_⟩,_,rfl⟩:=cR hT hi
 exact⟨inf,h1,h2,by simp[Program.cellsOf,h1,h2]⟩
theorem Ry {P:Program} {Θ:dq} (hT:cP P Θ=true) {T:TypeId} {t:Ty} (h:Θ.is T t=true) (w:World):(Go.isAgg T).run P w=.ok (isAgg t) w:=by
 obtain⟨i,hi,rfl⟩:=dW h
 obtain⟨_,hu,rfl⟩:=cR hT hi
 have hn:=xn hu
 unfold mE at hu
 unfold Go.isAgg
 split at hu<;>simp_all [underlying,program,isAgg,Sem.run]
end Go.Pv
namespace Go.Pv
set_option linter.unusedVariables false
set_option linter.unusedSimpArgs false
variable {w w':World} {A A':Nat→Prop} {H:Nat→Value} {tm rH:Nat→Value} {S S':St} {σ:Nat→Option Nat} {w0:World} {W0 Z:Nat→Prop} {a:Act} {own:Nat→Prop} {v:Value} {Θ:dq}
theorem jy (g off n:Nat):(⟨g,off,none⟩:Addr).add n=⟨g,off+n,none⟩:=by
 unfold Addr.add
 split
 ·rename_i h;subst h;rfl
 ·rfl
theorem Vw {t:Ty} {xs:List t.I} {X:Option Addr} {c lo hi:Nat} (h:K w A (.sl t) xs [.slice X xs.length c]) (h1:lo≤hi) (h2:hi≤xs.length):
  K w A (.sl t) ((xs.take hi).drop lo) [.slice (if c=lo then X else X.map (·.add (lo*t.size))) (hi - lo) (c - lo)]:=by
 simp only[K] at h ⊢
 obtain⟨X',c',e,hc,h⟩:=h
 simp only[List.cons.injEq,Value.slice.injEq,and_true,true_and] at e
 obtain⟨rfl,rfl⟩:=e
 have hl:((xs.take hi).drop lo).length=hi - lo:=by rw[List.length_drop,List.length_take];omega
 refine⟨_,_,by rw[hl],by omega,fun hp=>?_⟩
 rw[hl] at hp
 obtain⟨g,off,cur,T,fr,rfl,hg,hw,ho,hj⟩:=h (by omega)
 have e1:(lo+(hi - lo))*t.size≤xs.length*t.size:=Nat.mul_le_mul_right _ (by omega)
 rw[Nat.add_mul] at e1
 refine⟨g,off+lo*t.size,cur,T,fr,?_,hg,hw,by rw[hl];omega,fun j GY=>?_⟩
 rotate_left
 ·have pC:j<hi - lo:=by rw[←hl];exact GY
  have:=hj (lo+j) (by omega)
  rw[show((xs.take hi).drop lo)[j]=xs[lo+j]'(by omega) from by simp]
  rw[show off+lo*t.size+j*t.size=off+(lo+j)*t.size from by rw[Nat.add_mul];omega]
  exact this
 ·rw[if_neg (by omega)]
  simp only[Option.map_some,jy]
theorem fX (h:aW σ w0 W0 Z H S a w) {t:Ty} {s:Nat} {p:Path} {r:TV} {cN:List Value} (hr:Ref (bU a) S t s p r cN):
  ∃ ex b cJ cB,S.at s=.v r ex∧open_ p ex∧aX p r.t r.m r.x=some b∧b.t=t∧M w (Av σ Z) H r.t r.m r.x cN (fun g=>σ g=some s) ex∧
   aN w p r.t cN=some cJ∧(∀ g,cB g→σ g=some s)∧M w (Av σ Z) H b.t b.m b.x cJ cB (w8 p ex):=by
 obtain⟨⟨ex,h1,h2⟩,h3,⟨b,h4,h5⟩,h6⟩:=hr
 have hh:=h.holds s
 rw[h1] at hh
 obtain⟨cs,hm,hM⟩:=hh
 obtain rfl:=eT h6 hm
 obtain⟨cJ,cB,k1,k2,k3⟩:=focus p hM h2 h3 h4
 exact⟨ex,b,cJ,cB,h1,h2,h4,h5,hM,k1,k2,k3⟩
theorem db (h:aW σ w0 W0 Z H S a w) {t:Ty} {s:Nat} {p:Path} {r:TV} {cN cs:List Value} {b:TV} (hr:Ref (bU a) S t s p r cN) (hc:aN w p r.t cN=some cs) (hp:S.place s p=some b):
  b.t=t∧∃ cB,(∀ g,cB g→σ g=some s)∧M w (Av σ Z) H b.t b.m b.x cs cB []:=by
 obtain⟨ex,b',cJ,cB,h1,h2,h3,h4,hM,k1,k2,k3⟩:=fX h hr
 unfold St.place at hp
 rw[h1] at hp
 simp only at hp
 cases dY:ex.all fun q=>!gy q p with
 |false=>rw[dY] at hp;cases hp
 |true=>
  rw[dY] at hp
  simp only[cond_true] at hp
  rw[h3] at hp
  injection hp with hp
  subst hp
  rw[k1] at hc
  injection hc with hc
  subst hc
  rw[uu (fun q hq=>by simpa using List.all_eq_true.1 dY q hq)] at k3
  exact⟨h4,cB,k2,k3⟩
theorem rX (h:aW σ w0 W0 Z H S a w) {av:AV} {b:TV} (hh:Holds w (Av σ Z) H (bU a) S own av v) (e:S.tp av=some b):
  ∃ cs,aq b.t v cs∧K w (fun _=>False) b.t b.x cs∧(b.m.bG=true→K w (Av σ Z) b.t b.x cs):=by
 cases av with
 |v a ex=>
  cases ex with
  |cons _ _=>simp[St.tp] at e
  |nil=>
   simp only[St.tp,Option.some.injEq] at e
   subst e
   obtain⟨cs,h1,h2⟩:=hh
   exact⟨cs,h1,Ri h2,fun hk=>fP _ hk h2⟩
 |al t s p=>
  simp only[St.tp] at e
  obtain⟨r,cN,cs,hr,hc,hm⟩:=hh
  obtain⟨rfl,cB,k2,k3⟩:=db h hr hc e
  exact⟨cs,hm,Ri k3,fun hk=>fP _ hk k3⟩
 |cut t s p lo hi=>
  simp only[St.tp] at e
  obtain⟨r,cN,t',X,n,c,hr,rfl,hc,YK,Ea,rfl⟩:=hh
  cases hp:S.place s p with
  |none=>rw[hp] at e;cases e
  |some b'=>
   obtain⟨ht,cB,k2,k3⟩:=db h hr hc hp
   obtain⟨bt,bm,bx⟩:=b'
   simp only at ht
   subst ht
   rw[hp] at e
   simp only[Option.some.injEq] at e
   subst e
   have hK:=Ri k3
   have hn:n=List.length bx:=by
    simp only[K] at hK
    obtain⟨_,_,e,_⟩:=hK
    simp only[List.cons.injEq,Value.slice.injEq,and_true] at e
    exact e.2.1
   subst hn
   exact⟨_,by simp[aq,isAgg],Vw hK YK Ea,fun hk=>Vw (fP _ hk k3) YK Ea⟩
 |_=>simp[St.tp] at e
theorem iC (h:aW σ w0 W0 Z H S a w) {T:TypeId} {x:Operand} {b:TV} (e:S.rd Θ T x=some b):
  ∃ cs,aq b.t (a.eval x) cs∧K w (fun _=>False) b.t b.x cs∧(b.m.bG=true→K w (Av σ Z) b.t b.x cs):=by
 unfold St.rd at e
 split at e
 ·rename_i av dL
  exact rX h (bo h dL) e
 ·cases e
theorem dd {k:IntKind} {v:Value} {cs:List Value} {x:Int} (h:aq (.int k) v cs) (hk:K w A (.int k) x cs):v=.int k x:=by
 simp only[K] at hk;simp only[aq,isAgg] at h;subst hk;simpa using h.symm
theorem de {v:Value} {cs:List Value} {x:Bool} (h:aq .bool v cs) (hk:K w A .bool x cs):v=.bool x:=by
 simp only[K] at hk;simp only[aq,isAgg] at h;subst hk;simpa using h.symm
theorem ff {v:Value} {cs:List Value} {x:ByteArray} (h:aq .str v cs) (hk:K w A .str x cs):v=.string x:=by
 simp only[K] at hk;simp only[aq,isAgg] at h;subst hk;simpa using h.symm
theorem oA {t:Ty} {v:Value} {cs:List Value} {x:List t.I} (h:aq (.sl t) v cs) (hk:K w A (.sl t) x cs):∃ X c,v=.slice X x.length c∧cs=[.slice X x.length c]∧x.length≤c:=by
 have eY:=hk
 simp only[K] at eY
 obtain⟨X,c,rfl,hc,_⟩:=eY
 simp only[aq,isAgg] at h
 exact⟨X,c,by simpa using h.symm,rfl,hc⟩
theorem iK (h:aW σ w0 W0 Z H S a w) {x:Operand} {n:Int} (e:S.lM Θ x=some n):∃ k,a.eval x=.int k n:=by
 unfold St.lM at e
 split at e
 ·rename_i k m n' hb
  injection e with e
  subst e
  obtain⟨cs,h1,h2,_⟩:=iC h hb
  exact⟨k,dd h1 h2⟩
 ·cases e
theorem pP {t:Ty} {x:t.I} {v:Value} {cs:List Value} (h:aq t v cs) (hk:K w A t x cs):Holds w A H tm S (fun _=>False) (.v ⟨t,.k,x⟩ []) v:=⟨cs,h,gb t hk⟩
theorem cZ (k:IntKind) (n:Int):Holds w A H tm S (fun _=>False) (.v ⟨.int k,.k,n⟩ []) (.int k n):=pP (cs:=[.int k n]) (by simp[aq,isAgg]) (by simp[K])
theorem cD (b:Bool):Holds w A H tm S (fun _=>False) (.v ⟨.bool,.k,b⟩ []) (.bool b):=pP (cs:=[.bool b]) (by simp[aq,isAgg]) (by simp[K])
theorem HK (b:ByteArray):Holds w A H tm S (fun _=>False) (.v ⟨.str,.k,b⟩ []) (.string b):=pP (cs:=[.string b]) (by simp[aq,isAgg]) (by simp[K])
end Go.Pv
namespace Go.Pv
set_option linter.unusedVariables false
set_option linter.unusedSimpArgs false
variable {P:Program} {w w':World} {A A':Nat→Prop} {H:Nat→Value} {tm rH:Nat→Value} {S S':St} {σ:Nat→Option Nat} {w0:World} {W0 Z:Nat→Prop} {a:Act} {own:Nat→Prop} {v:Value} {Θ:dq} {dst:Option Nat} {g:Bool}
def IU (P:Program) (w0:World) (W0 Z:Nat→Prop) (H:Nat→Value) (S':St) (a:Act) (dst:Option Nat) (w:World) (s:Sem Next):Prop:=
 ∃ w' v,(s.run P w=.ok (.value v) w'∨(v=undef∧s.run P w=.ok .skip w'))∧Rel w0 W0 Z H S' (a.put dst v) w'
def Ext (w w':World):Prop:=∀ g,g<w.heap.size→w'.heap[g]?=w.heap[g]?
theorem Ext.refl (w:World):Ext w w:=fun _ _=>rfl
theorem Ext.stays (h:Ext w w'):aP w w' A A:=⟨fun g _ hg=>h g hg,fun _ _ h=>h⟩
def ij (P:Program) (w0:World) (W0 Z:Nat→Prop) (H:Nat→Value) (S':St) (a:Act) (dst:Option Nat) (w:World) (s:Sem Next):Prop:=
 ∃ v,(∀ w2,Ext w w2→s.run P w2=.ok (.value v) w2)∧Rel w0 W0 Z H S' (a.put dst v) w
theorem ij.auL {s:Sem Next} (h:ij P w0 W0 Z H S' a dst w s):IU P w0 W0 Z H S' a dst w s:=by
 obtain⟨v,h1,h2⟩:=h
 exact⟨w,v,.inl (h1 w (Ext.refl w)),h2⟩
theorem cr {s:Sem Next} {av:AV} (h:aW σ w0 W0 Z H S a w) (hr:∀ w2,Ext w w2→s.run P w2=.ok (.value v) w2) (hv:Holds w (Av σ Z) H (bU a) S (fun _=>False) av v):
  ij P w0 W0 Z H (S.put dst av) a dst w s:=⟨v,hr,_,h.pure hv⟩
def mG (P:Program) (w0:World) (W0 Z:Nat→Prop) (H:Nat→Value) (S':St) (a:Act) (dst:Option Nat) (w:World) (s:Sem Next):Prop:=
 ∃ v,(∀ w2,s.run P w2=.ok (.value v) w2)∧Rel w0 W0 Z H S' (a.put dst v) w
theorem mG.q {s:Sem Next} (h:mG P w0 W0 Z H S' a dst w s):ij P w0 W0 Z H S' a dst w s:=by
 obtain⟨v,h1,h2⟩:=h
 exact⟨v,fun w2 _=>h1 w2,h2⟩
theorem cg {s:Sem Next} {av:AV} (h:aW σ w0 W0 Z H S a w) (hr:∀ w2,s.run P w2=.ok (.value v) w2) (hv:Holds w (Av σ Z) H (bU a) S (fun _=>False) av v):
  mG P w0 W0 Z H (S.put dst av) a dst w s:=⟨v,hr,_,h.pure hv⟩
def scalar:Ty→Bool
 | .int _=>true | .bool=>true | .str=>true |_=>false
theorem El {IJ:Nat→Prop} {tm1:Nat→Value} {S2:St} {r:TV} {v1 v2:Value} (hs:scalar r.t=true) (h1:Holds w A H tm S own (.v r []) v1) (h2:Holds w' A' H tm1 S2 IJ (.v r []) v2):v1=v2:=by
 obtain⟨rt,rm,rx⟩:=r
 obtain⟨cs,a1,a2⟩:=h1
 obtain⟨cJ,b1,b2⟩:=h2
 cases rt<;>simp[scalar] at hs<;>simp only[M] at a2 b2
 ·rw[dd a1 a2.2,dd b1 b2.2]
 ·rw[de a1 a2.2,de b1 b2.2]
 ·rw[ff a1 a2.2,ff b1 b2.2]
theorem pQ (h:aW σ w0 W0 Z H S a w) {T:TypeId} {x:Operand} {a' av:AV} (ho:S.dX Θ T x=some a') (hc:S.copy x a'=some av):
  Holds w (Av σ Z) H (bU a) S (fun _=>False) av (a.eval x):=by
 have hh:=bo h ho
 cases a' with
 |v b ex=>
  simp only[St.copy] at hc
  cases hk:b.m.bG with
  |true=>
   simp only[hk,cond_true,Option.some.injEq] at hc
   subst hc
   obtain⟨cs,h1,h2⟩:=hh
   obtain⟨bt,bm,bx⟩:=b
   refine⟨cs,h1,?_⟩
   exact oh hk (fP _ hk h2)
  |false=>
   simp only[hk,cond_false] at hc
   cases x with
   |tmp i=>
    simp only[Option.some.injEq] at hc
    subst hc
    simp only[St.dX,Option.some.injEq] at ho
    obtain⟨cs,h1,h2⟩:=hh
    exact⟨b,cs,cs,⟨⟨ex,ho,fun q _ s r e=>by cases q<;>simp at e⟩,trivial,⟨b,rfl,rfl⟩,h1⟩,rfl,h1⟩
   |const c=>
    cases ex with
    |cons _ _=>simp at hc
    |nil=>
     simp only[Option.some.injEq] at hc
     subst hc
     obtain⟨cs,h1,h2⟩:=hh
     exact⟨cs,h1,aG (aP.refl _ _) _ (fun _ _ _=>rfl) (fun g hg _=>by obtain⟨i,hi,_⟩:=hg;cases hi) (fun _ h=>h) h2⟩
   |func f=>
    cases ex with
    |cons _ _=>simp at hc
    |nil=>simp[St.dX] at ho
   |global f=>
    cases ex with
    |cons _ _=>simp at hc
    |nil=>simp[St.dX] at ho
 |dead=>simp[St.copy] at hc
 |ud l=>simp[St.copy] at hc
 |undef=>simp only[St.copy,Option.some.injEq] at hc;subst hc;exact hh
 |al t s p=>simp only[St.copy,Option.some.injEq] at hc;subst hc;exact hh
 |ad t s p=>simp only[St.copy,Option.some.injEq] at hc;subst hc;exact hh
 |cut t s p lo hi=>simp only[St.copy,Option.some.injEq] at hc;subst hc;exact hh
 |lu f c=>simp only[St.copy,Option.some.injEq] at hc;subst hc;exact hh
theorem aic (h:aW σ w0 W0 Z H S a w) {o:Oper} {x:Operand} (ho:o.op=.move x) (hnt:∀ l,S.dX Θ o.type x≠some (.ud l)) (e:pE Θ S o.dst o.type x=some (true,S')):mG P w0 W0 Z H S' a o.dst w (execOp a.eval o):=by
 unfold pE at e
 split at e
 ·rename_i l hl
  exact absurd hl (hnt l)
 ·rename_i a' _ ha
  split at e
  ·rename_i av hv
   injection e with e
   injection e with _ e
   subst e
   exact cg h (fun w2=>by simp only[execOp,ho];rfl) (pQ h ha hv)
  ·cases e
 ·cases e
theorem abS {op:BinOp} {k k':IntKind} {x y:Int} {r:TV} (T:TypeId) (hk:k=k'∨op=.shl∨op=.shr) (e:ahZ op k x y=some (true,r)):
  ∃ v,(binOp op T (.int k x) (.int k' y)).run P w=.ok v w∧Holds w A H tm S (fun _=>False) (.v r []) v:=by
 cases op<;>simp only[ahZ,Option.some.injEq,Prod.mk.injEq,reduceCtorEq,true_and] at e
 case add=>
  obtain rfl:k=k':=by simpa using hk
  subst e;exact⟨_,by simp[binOp,Op.intArith],cZ _ _⟩
 case sub=>
  obtain rfl:k=k':=by simpa using hk
  subst e;exact⟨_,by simp[binOp,Op.intArith],cZ _ _⟩
 case mul=>
  obtain rfl:k=k':=by simpa using hk
  subst e;exact⟨_,by simp[binOp,Op.intArith],cZ _ _⟩
 case quo=>
  obtain rfl:k=k':=by simpa using hk
  obtain⟨e0,rfl⟩:=e
  have h0: ¬y=0:=by simpa using e0
  exact⟨_,by simp[binOp,Op.intDiv,h0],cZ _ _⟩
 case rem=>
  obtain rfl:k=k':=by simpa using hk
  obtain⟨e0,rfl⟩:=e
  have h0: ¬y=0:=by simpa using e0
  exact⟨_,by simp[binOp,Op.intDiv,h0],cZ _ _⟩
 case and=>
  obtain rfl:k=k':=by simpa using hk
  subst e;exact⟨_,by simp[binOp,Op.intBits],cZ _ _⟩
 case or=>
  obtain rfl:k=k':=by simpa using hk
  subst e;exact⟨_,by simp[binOp,Op.intBits],cZ _ _⟩
 case xor=>
  obtain rfl:k=k':=by simpa using hk
  subst e;exact⟨_,by simp[binOp,Op.intBits],cZ _ _⟩
 case eql=>
  obtain rfl:k=k':=by simpa using hk
  subst e;exact⟨_,by simp[binOp,Op.intCmp],cD _⟩
 case neq=>
  obtain rfl:k=k':=by simpa using hk
  subst e;exact⟨_,by simp[binOp,Op.intCmp],cD _⟩
 case lss=>
  obtain rfl:k=k':=by simpa using hk
  subst e;exact⟨_,by simp[binOp,Op.intCmp],cD _⟩
 case leq=>
  obtain rfl:k=k':=by simpa using hk
  subst e;exact⟨_,by simp[binOp,Op.intCmp],cD _⟩
 case gtr=>
  obtain rfl:k=k':=by simpa using hk
  subst e;exact⟨_,by simp[binOp,Op.intCmp],cD _⟩
 case geq=>
  obtain rfl:k=k':=by simpa using hk
  subst e;exact⟨_,by simp[binOp,Op.intCmp],cD _⟩
 case shl=>
  obtain⟨e0,rfl⟩:=e
  have h0: ¬y<0:=by
   have:0≤y:=by simpa using e0
   omega
  exact⟨_,by simp[binOp,Op.shift,h0],cZ _ _⟩
 case shr=>
  obtain⟨e0,rfl⟩:=e
  have h0: ¬y<0:=by
   have:0≤y:=by simpa using e0
   omega
  exact⟨_,by simp[binOp,Op.shift,h0],cZ _ _⟩
theorem abT {op:BinOp} {x y:ByteArray} {r:TV} (T:TypeId) (e:ah0 op x y=some (true,r)):
  ∃ v,(binOp op T (.string x) (.string y)).run P w=.ok v w∧Holds w A H tm S (fun _=>False) (.v r []) v:=by
 cases op<;>simp only[ah0,Option.some.injEq,Prod.mk.injEq,reduceCtorEq,true_and] at e
 case add=>
  obtain⟨e0,rfl⟩:=e
  have h0:x.size+y.size≤9223372036854775807:=by simpa using e0
  refine⟨_,?_,HK _⟩
  rw[binOp_string_add]
  simp only[Op.stringOp,IntKind.max_i64]
  rw[if_neg (by omega)]
  rfl
 case eql=>subst e;exact⟨_,by rw[binOp_string_eql];rfl,cD _⟩
 case neq=>subst e;exact⟨_,by rw[binOp_string_neq];rfl,cD _⟩
theorem MY {op:UnOp} {b r:TV} {v:Value} {cs:List Value} (hm:aq b.t v cs) (hK:K w (fun _=>False) b.t b.x cs) (e:ah1 op b=some r):
  ∃ u,(Op.unary op v).run P w=.ok u w∧Holds w A H tm S (fun _=>False) (.v r []) u:=by
 unfold ah1 at e
 split at e
 ·injection e with e;subst e
  obtain rfl:=de hm hK
  exact⟨_,rfl,cD _⟩
 ·injection e with e;subst e
  obtain rfl:=dd hm hK
  exact⟨_,rfl,cZ _ _⟩
 ·injection e with e;subst e
  obtain rfl:=dd hm hK
  exact⟨_,by simp[Op.unary,Op.intBits],cZ _ _⟩
 ·cases e
theorem auM (h:aW σ w0 W0 Z H S a w) {o:Oper} {op:UnOp} {T:TypeId} {x:Operand} (ho:o.op=.unOp op T x) (e:aqv Θ S o.dst op x=some (true,S')):ij P w0 W0 Z H S' a o.dst w (execOp a.eval o):=by
 unfold aqv at e
 split at e
 ·rename_i b hb
  split at e
  ·rename_i r hr
   injection e with e;injection e with _ e;subst e
   obtain⟨cs,h1,h2,_⟩:=iC h hb
   obtain⟨u,h3,h4⟩:=MY (P:=P) (A:=Av σ Z) (H:=H) (tm:=bU a) (S:=S) h1 h2 hr
   have hsc:scalar r.t=true:=by
    unfold ah1 at hr
    split at hr<;>first |(injection hr with hr;subst hr;rfl) |cases hr
   refine cr h (fun w2 hw=>?_) h4
   obtain⟨u2,k3,k4⟩:=MY (w:=w2) (P:=P) (A:=Av σ Z) (H:=H) (tm:=bU a) (S:=S) h1 (bR hw.stays _ h2) hr
   rw[El hsc h4 k4]
   simp[execOp,ho,k3]
  ·cases e
 ·cases e
theorem Em (hT:cP P Θ=true) (h:aW σ w0 W0 Z H S a w) {o:Oper} {T T':TypeId} {x:Operand} (ho:o.op=.convert T T' x) (hk:(match Θ.find T' with
  |some i=>(match i.ty with
   | .int _=>true
   |_=>false)
  |none=>false)=true) (e:gO Θ S o.dst T T' x=some (true,S')):mG P w0 W0 Z H S' a o.dst w (execOp a.eval o):=by
 unfold gO at e
 split at e
 ·rename_i k m n i _ k' _ _ hb hi hj
  injection e with e;injection e with _ e;subst e
  obtain⟨cs,h1,h2,_⟩:=iC h hb
  have hv:=dd h1 h2
  obtain⟨_,hu,rfl⟩:=cR hT hi
  obtain⟨_,tu,hT'⟩:=cR hT hj
  obtain⟨d,hd⟩:=(xn hu).1
  have Vx:=xl tu rfl
  rw[hT'] at Vx
  refine cg h (v:=.int k' (k'.wrap n)) (fun w2=>?_) (cZ _ _)
  simp[execOp,ho,hv,convert,run_underlying hd,run_underlying Vx,Conv.intToInt]
 ·rename_i hj
  rw[hj] at hk
  cases hk
 ·cases e
theorem MZ (hT:cP P Θ=true) (h:aW σ w0 W0 Z H S a w) {o:Oper} {T T':TypeId} {x:Operand} (ho:o.op=.convert T T' x) (e:gO Θ S o.dst T T' x=some (true,S')):ij P w0 W0 Z H S' a o.dst w (execOp a.eval o):=by
 have e0:=e
 unfold gO at e
 split at e
 ·rename_i hj
  exact(Em hT h ho (by rw[hj]) e0).q
 ·rename_i m xs _ _ _ _ _ _ hb hi hj
  injection e with e;injection e with _ e;subst e
  obtain⟨cs,h1,h2,_⟩:=iC h hb
  obtain⟨X,c,hv,rfl,hc⟩:=oA h1 h2
  obtain⟨_,hu,hT0⟩:=cR hT hi
  obtain⟨_,tu,hT'⟩:=cR hT hj
  obtain⟨hd,he,_⟩:=lD hu rfl
  have Vx:=pO tu rfl
  obtain⟨ie,hie,fH⟩:=dW he
  obtain⟨_,hue,hTe⟩:=cR hT hie
  have hde:=xl hue fH
  simp only at hT0 hT' hd Vx
  rw[hT0] at hd
  rw[hT'] at Vx
  rw[hTe] at hde
  refine cr h (v:=.string (bytesOf xs)) (fun w2 hw=>?_) ⟨[.string (bytesOf xs)],by simp[aq,isAgg],by simp[M,K,Md.bG]⟩
  have hK:=bR hw.stays _ h2
  simp only[execOp,ho,hv,Sem.run_bind]
  rw[run_convert_bytes_string w2 T T' _ X xs.length c hd hde Vx]
  simp only[K] at hK
  obtain⟨X',c',e1,_,hx⟩:=hK
  simp only[List.cons.injEq,Value.slice.injEq,and_true] at e1
  obtain⟨rfl,_,rfl⟩:=e1
  by_cases h0:0<xs.length
  ·obtain⟨g,off,cur,T2,fr,rfl,_,rB,hlen,va⟩:=hx h0
   rw[run_bytesToString w2 ⟨g,off,none⟩ xs.length c xs ?_]
   ·simp[bytesOf,Sem.run_pure]
   ·have:=run_loadCells_list (P:=P) (w:=w2) ⟨g,off,none⟩ (xs.map (Value.int .u8)) (fun j v hj=>?_)
    ·rwa [List.length_map] at this
    ·rw[List.getElem?_map] at hj
     cases pC:xs[j]? with
     |none=>rw[pC] at hj;cases hj
     |some n=>
      rw[pC] at hj
      simp only[Option.map_some,Option.some.injEq] at hj
      subst hj
      have tx:=(List.getElem?_eq_some_iff.1 pC).1
      have h3:=va j tx
      have hn:xs[j]=n:=(List.getElem?_eq_some_iff.1 pC).2
      simp only[K,Ty.size,Nat.mul_one] at h3
      rw[hn] at h3
      have h4:(cur.toList.drop (off+j)).head?=some (.int .u8 n):=by
       cases hd:cur.toList.drop (off+j) with
       |nil=>rw[hd] at h3;simp at h3
       |cons y r=>rw[hd] at h3;simp at h3;simp[h3]
      rw[List.head?_drop] at h4
      rw[Addr.add_lit]
      simp only[World.cell?,rB]
      rw[←Array.getElem?_toList,h4]
      rfl
  ·have:xs=[]:=List.eq_nil_of_length_eq_zero (by omega)
   subst this
   cases X with
   |none=>simp[Conv.bytesToString,bytesOf,Sem.run_pure]
   |some A=>
    show((Conv.bytesToString (Value.slice (some A) 0 c)).run P w2).andThen _=_
    rw[run_bytesToString w2 A 0 c [] (by simpa using run_loadCells_list (P:=P) (w:=w2) A [] (fun j v hj=>by simp at hj))]
    simp[bytesOf,Sem.run_pure]
 ·cases e
theorem YV (x y:ByteArray):(x==y)=(x.toList==y.toList):=beq_toListBytes x y
theorem HL {t:Ty} (h:isAgg t=false):t.size=1:=by cases t<;>simp[isAgg] at h<;>rfl
theorem oD (hT:cP P Θ=true) {T:TypeId} {t:Ty} (ht:Θ.is T t=true) {cs:List Value} {off:Nat} (hlen:off+t.size≤cs.length):
  ∃ u,(part T cs.toArray off).run P w=.ok u w∧aq t u ((cs.drop off).take t.size):=by
 have Rn:=Ry hT ht w
 obtain⟨inf,s1,s2,_⟩:=iB hT ht
 have hso:(sizeOf T).run P w=.ok t.size w:=by simp[sizeOf,typeInfo,s1,s2]
 cases hca:isAgg t with
 |true=>
  refine⟨.agg (cs.toArray.extract off (off+t.size)),?_,?_⟩
  ·rw[hca] at Rn
   unfold part
   simp only[Sem.run_bind,Rn,Result.andThen_ok,if_true,hso]
   rfl
  ·unfold aq
   rw[if_pos hca]
   congr 1
   apply Array.toList_inj.1
   rw[Array.toList_extract,List.toList_toArray,List.toList_toArray,List.extract_eq_drop_take']
   rw[List.drop_take,Nat.add_sub_cancel_left]
 |false=>
  have h1:=HL hca
  have Rz:off<cs.length:=by omega
  refine⟨cs[off],?_,?_⟩
  ·rw[hca] at Rn
   unfold part
   simp only[Sem.run_bind,Rn,Result.andThen_ok,if_neg Bool.false_ne_true]
   rw[List.getElem?_toArray,List.getElem?_eq_getElem Rz]
   rfl
  ·unfold aq
   rw[if_neg (by rw[hca];exact Bool.false_ne_true),h1,List.drop_eq_getElem_cons Rz,List.take_succ_cons,List.take_zero]
theorem M0:∀ (p q:Path) (t:Ty),gu (p++q) t=(gu p t).bind (gu q):=by
 intro p
 induction p with
 |nil=>intro q t;rfl
 |cons s p ih=>intro q t;cases s<;>cases t<;>first |rfl |exact ih q _
theorem Eo:∀ (p q:Path) (t u:Ty),gu p t=some u→aI (p++q) t=aI p t+aI q u:=by
 intro p
 induction p with
 |nil=>intro q t u h;simp only[gu,Option.some.injEq] at h;subst h;simp[aI]
 |cons s p ih=>
  intro q t u h
  cases s<;>cases t<;>simp only[gu,reduceCtorEq] at h
  ·simp only[List.cons_append,aI];exact ih q _ u h
  ·simp only[List.cons_append,aI];rw[ih q _ u h];omega
theorem aqD {k n:Nat} (h2:2≤n):ns k n=if k+1=n then List.replicate k .snd else List.replicate k .snd++[.fst]:=by
 unfold ns
 have h1:Nat.beq n 1=false:=by
  cases hb:Nat.beq n 1 with
  |false=>rfl
  |true=>have:=Nat.eq_of_beq_eq_true hb;omega
 by_cases hkn:k+1=n
 ·rw[if_pos hkn,hkn,Nat.beq_refl,h1];rfl
 ·have:Nat.beq (k+1) n=false:=by
   cases hb:Nat.beq (k+1) n with
   |false=>rfl
   |true=>exact absurd (Nat.eq_of_beq_eq_true hb) hkn
  rw[if_neg hkn,this];rfl
theorem tz {t:Ty} {v:Value} {cs:List Value} (ha:isAgg t=true) (h:aq t v cs):v=.agg cs.toArray:=by simpa[aq,ha] using h
theorem xo (hT:cP P Θ=true):∀ (d:Nat) (t:Ty) {T:TypeId} {x y:t.I} {r:Bool} {cs cJ:List Value} {u v:Value},Θ.is T t=true→MF t x y=some r→aq t u cs→aq t v cJ→K w (fun _=>False) t x cs→K w (fun _=>False) t y cJ→t.ht<d→
  (Op.equalIn d T u v).run P w=.ok r w
 |0,_,_,_,_,_,_,_,_,_,_,_,_,_,_,_,hd=>absurd hd (Nat.not_lt_zero _)
 |d+1,t,T,x,y,r,cs,cJ,u,v,hT1,he,hu,hv,hx,hy,hd=>by
  obtain⟨i,hi,fH⟩:=dW hT1
  obtain⟨_,G',h3⟩:=cR hT hi
  cases t with
  |int k=>
   have tu:=xl G' fH
   rw[h3] at tu
   simp only[MF,Option.some.injEq] at he
   subst he
   obtain rfl:=dd hu hx
   obtain rfl:=dd hv hy
   rw[run_equalIn_int w d T k k _ _ tu]
   congr 1
  |bool=>
   have tu:=xm G' fH
   rw[h3] at tu
   simp only[MF,Option.some.injEq] at he
   subst he
   obtain rfl:=de hu hx
   obtain rfl:=de hv hy
   exact run_equalIn_bool' w d T _ _ tu
  |str=>
   have tu:=pO G' fH
   rw[h3] at tu
   simp only[MF,Option.some.injEq] at he
   subst he
   obtain rfl:=ff hu hx
   obtain rfl:=ff hv hy
   rw[run_equalIn_string w d T _ _ tu,YV]
  |unit=>exact absurd fH (xn G').2.2.2
  |sl t=>simp[MF] at he
  |ptr t=>simp[MF] at he
  |arr n t=>simp[MF] at he
  |pair pa pb=>
   obtain⟨fs,YW,hft,iY,hg,hsh,hnb⟩:=mF G' fH
   rw[h3] at YW hsh
   obtain rfl:=tz rfl hu
   obtain rfl:=tz rfl hv
   have hfo:P.fieldsOf T=fs:=by unfold Program.fieldsOf;rw[YW]
   rw[run_equalIn_struct w d T _ _ (by rw[hfo];exact YW) hsh,hfo]
   have hlx:=(lv _ hx).1
   have hly:=(lv _ hy).1
   rw[fH] at iY
   have Cc:fs.toList.length=i.fs.length:=by rw[←hft,List.length_map]
   have hU:=apb hT hi
   unfold uOK at hU
   rw[Bool.and_eq_true,fH] at hU
   have hU:=hU.2
   rcases Nat.lt_or_ge fs.size 2 with h2 |h2
   ·match hfi:i.fs,hfe:fs.toList with
    |[],_=>rw[hfi] at hU;simp at hU
    |[T1],[f]=>
     rw[hfi] at hU
     cases pb<;>simp at hU
     rw[hfe] at iY
     have hs1:fs.size=1:=by rw[←Array.length_toList,hfe];rfl
     simp only[k8,hs1,Bool.and_true] at iY
     have e1:ns 0 1=[.fst]:=rfl
     rw[e1] at iY
     simp only[gu,aI,Bool.and_eq_true] at iY
     obtain⟨⟨k1,k2⟩,k3⟩:=iY
     have k2:=Nat.eq_of_beq_eq_true k2
     simp only[Ty.size,Nat.add_zero] at hlx hly
     obtain⟨u1,p1,p2⟩:=oD (w:=w) hT k1 (cs:=cs) (off:=0) (by omega)
     obtain⟨v1,q1,q2⟩:=oD (w:=w) hT k1 (cs:=cJ) (off:=0) (by omega)
     rw[List.drop_zero,List.take_of_length_le (by omega)] at p2 q2
     simp only[MF] at he
     split at he
     case h_2=>cases he
     rename_i p q hp hq
     injection hq with hq
     subst hq
     injection he with he
     subst he
     simp only[K] at hx hy
     obtain⟨c0,c1,rfl,hx0,hx1⟩:=hx
     obtain⟨c0',c1',rfl,hy0,hy1⟩:=hy
     subst hx1 hy1
     rw[List.append_nil] at p2 q2 p1 q1
     simp only[Ty.ht] at hd
     have hr:=xo hT d _ k1 hp p2 q2 hx0 hy0 (by omega)
     have Vy:=hnb f (by rw[←Array.mem_toList_iff,hfe];exact List.mem_singleton.2 rfl)
     simp only[Op.eqFields,Vy,ne_eq,not_false_eq_true,if_true,Sem.run_bind,k2,List.append_nil,p1,q1,Result.andThen_ok,hr]
     cases p<;>simp
    |[T1],[]=>rw[hfi,hfe] at Cc;simp at Cc
    |[T1],_::_::_=>rw[hfi,hfe] at Cc;simp at Cc
    |_::_::_,_=>rw[hfi] at Cc;simp only[Array.length_toList,List.length_cons] at Cc;omega
   ·have key : ∀ (l : List Field) (k : Nat) (s : Ty) (x' y' : s.I) (c c' : List Value) (r : Bool), k + l.length = fs.size → l ≠ [] → (∀ f ∈ l, f.name ≠ "_") → k8 Θ (.pair pa pb) fs.size l k = true → gu (List.replicate k .snd) (.pair pa pb) = some s →
      cs.drop (aI (List.replicate k .snd) (.pair pa pb))=c→cJ.drop (aI (List.replicate k .snd) (.pair pa pb))=c'→aI (List.replicate k .snd) (.pair pa pb)+s.size≤(Ty.pair pa pb).size→K w (fun _=>False) s x' c→K w (fun _=>False) s y' c'→(s.ht<d∨(1<l.length∧s.ht<d+1))→MF s x' y'=some r→(Op.eqFields d cs.toArray cJ.toArray l).run P w=.ok r w:=by
     intro l
     induction l with
     |nil=>intro k s x' y' c c' r _ h;exact absurd rfl h
     |cons f l ih=>
      intro k s x' y' c c' r hk _ Vy iY hs hc YA jg hx hy hd he
      have hnf:=Vy f (List.mem_cons_self ..)
      simp only[k8,Bool.and_eq_true] at iY
      obtain⟨iY,M1⟩:=iY
      rw[aqD h2] at iY
      cases l with
      |nil=>
       rw[if_pos (by simpa using hk),hs] at iY
       simp only[Bool.and_eq_true] at iY
       obtain⟨⟨k1,k2⟩,k3⟩:=iY
       have k2:=Nat.eq_of_beq_eq_true k2
       obtain⟨u1,p1,p2⟩:=oD (w:=w) hT k1 (cs:=cs) (off:=f.offset) (by omega)
       obtain⟨v1,q1,q2⟩:=oD (w:=w) hT k1 (cs:=cJ) (off:=f.offset) (by omega)
       have l1:=(lv _ hx).1
       have l2:=(lv _ hy).1
       rw[k2,hc,List.take_of_length_le (by omega)] at p2
       rw[k2,YA,List.take_of_length_le (by omega)] at q2
       have hr:=xo hT d _ k1 he p2 q2 hx hy (by rcases hd with hd |hd;exact hd;simp at hd)
       simp only[Op.eqFields,hnf,ne_eq,not_false_eq_true,if_true,Sem.run_bind,p1,q1,Result.andThen_ok,hr]
       cases r<;>simp
      |cons f' l=>
       rw[if_neg (by simp only[List.length_cons] at hk;omega),M0,hs,Option.bind_some] at iY
       cases s with
       |pair sa sb=>
        simp only[gu,Bool.and_eq_true] at iY
        obtain⟨⟨k1,k2⟩,k3⟩:=iY
        have k2:=Nat.eq_of_beq_eq_true k2
        rw[Eo _ _ _ _ hs] at k2
        simp only[aI,Nat.add_zero] at k2
        simp only[MF] at he
        split at he
        case h_2=>cases he
        rename_i p q hp hq
        injection he with he
        subst he
        simp only[K] at hx hy
        obtain⟨c0,c1,hcc,hx0,hx1⟩:=hx
        obtain⟨c0',c1',auN,hy0,hy1⟩:=hy
        have l0:=(lv _ hx0).1
        have l0':=(lv _ hy0).1
        simp only[Ty.size] at jg hlx hly
        obtain⟨u1,p1,p2⟩:=oD (w:=w) hT k1 (cs:=cs) (off:=f.offset) (by omega)
        obtain⟨v1,q1,q2⟩:=oD (w:=w) hT k1 (cs:=cJ) (off:=f.offset) (by omega)
        rw[k2,hc,hcc,←l0,List.take_left] at p2
        rw[k2,YA,auN,←l0',List.take_left] at q2
        have hdd:max sa.ht sb.ht+1<d+1:=by
         simp only[Ty.ht] at hd
         omega
        have hr:=xo hT d _ k1 hp p2 q2 hx0 hy0 (by omega)
        have auO:List.replicate (k+1) Step.snd=List.replicate k .snd++[.snd]:=List.replicate_succ'
        have aqE:aI (List.replicate (k+1) .snd) (.pair pa pb)=aI (List.replicate k .snd) (.pair pa pb)+sa.size:=by
         rw[auO,Eo _ _ _ _ hs];simp[aI]
        have hi:=ih (k+1) sb x'.2 y'.2 c1 c1' q (by simp only[List.length_cons] at hk ⊢;omega) (by simp) (fun f hf=>Vy f (List.mem_cons_of_mem _ hf)) M1 (by rw[auO,M0,hs];rfl)
         (by rw[aqE,←List.drop_drop,hc,hcc,←l0,List.drop_left]) (by rw[aqE,←List.drop_drop,YA,auN,←l0',List.drop_left]) (by rw[aqE];simp only[Ty.size];omega) hx1 hy1 (.inl (by omega)) hq
        simp only[Op.eqFields,hnf,ne_eq,not_false_eq_true,if_true,Sem.run_bind,p1,q1,Result.andThen_ok,hr]
        cases p with
        |false=>simp
        |true=>simpa[Op.eqFields] using hi
       |_=>simp[gu] at iY
    exact key fs.toList 0 _ x y cs cJ r (by simp) (fun e=>by rw[←Array.length_toList,e] at h2;simp at h2) (fun f hf=>hnb f (by simpa using hf)) iY rfl rfl rfl (by simp[aI]) hx hy (.inr ⟨by rw[Array.length_toList];omega,hd⟩) he
theorem Vz (hT:cP P Θ=true) {op:BinOp} {T:TypeId} {x y:Operand} {p q r:TV} {u v:Value} {cs cJ:List Value} (hp:aq p.t u cs) (hq:aq q.t v cJ) (kp:K w (fun _=>False) p.t p.x cs) (kq:K w (fun _=>False) q.t q.x cJ)
  (hi:p.t=.bool∨isAgg p.t=true→Θ.is T p.t=true) (e:gV op p q=some (true,r)):
  ∃ z,((do eqGuard op T x y u v;binOp op T u v):Sem Value).run P w=.ok z w∧Holds w A H tm S (fun _=>False) (.v r []) z:=by
 unfold gV at e
 split at e
 ·rename_i k _ x0 k' _ y0
  split at e
  ·rename_i hk
   obtain rfl:=dd hp kp
   obtain rfl:=dd hq kq
   obtain⟨z,h1,h2⟩:=abS (P:=P) (w:=w) (A:=A) (H:=H) (tm:=tm) (S:=S) T hk e
   exact⟨z,by rw[eqGuard_at_int];simpa using h1,h2⟩
  ·cases e
 ·obtain rfl:=ff hp kp
  obtain rfl:=ff hq kq
  obtain⟨z,h1,h2⟩:=abT (P:=P) (w:=w) (A:=A) (H:=H) (tm:=tm) (S:=S) T e
  exact⟨z,by rw[eqGuard_at_string];simpa using h1,h2⟩
 ·obtain rfl:=de hp kp
  obtain rfl:=de hq kq
  obtain⟨i,h1,h2⟩:=dW (hi (.inl rfl))
  obtain⟨_,hu,h3⟩:=cR hT h1
  have tu:=xm hu h2
  rw[h3] at tu
  split at e
  ·injection e with e;injection e with _ e;subst e
   refine⟨_,?_,cD _⟩
   rw[eqGuard_at_bool]
   simp[binOp,Op.equal,Op.maxDepth,run_equalIn_bool' w 9999 T _ _ tu]
  ·injection e with e;injection e with _ e;subst e
   refine⟨_,?_,cD _⟩
   rw[eqGuard_at_bool]
   simp[binOp,Op.equal,Op.maxDepth,run_equalIn_bool' w 9999 T _ _ tu]
  ·cases e
 ·rename_i t t' _ x0 t2 _ y0
  split at e
  ·rename_i ht
   subst ht
   have hTT:=hi (.inr rfl)
   obtain⟨i,h1,h2⟩:=dW hTT
   obtain⟨ep,hu,h3⟩:=cR hT h1
   obtain⟨fs,YW,_,_,hg,_,_⟩:=mF hu h2
   rw[h3] at hg
   have eu:=tz rfl hp
   have ev:=tz rfl hq
   have jg:(Ty.pair t t').ht<10000:=Nat.lt_of_le_of_lt (show(Ty.pair t t').ht≤9000 from by
    have hs:=apb hT h1
    unfold uOK at hs
    rw[Bool.and_eq_true,h2] at hs
    exact Nat.le_of_ble_eq_true hs.1) (by decide)
   split at e
   ·rename_i r0 h0
    injection e with e;injection e with _ e;subst e
    have hr:=xo (P:=P) hT 10000 (.pair t t') hTT h0 hp hq kp kq jg
    rw[eu,ev] at hr ⊢
    refine⟨_,?_,cD _⟩
    simp only[Sem.run_bind,run_eqGuard_agg (P:=P) w _ T x y _ _ hg,Result.andThen_ok,run_eql_struct,hr]
   ·rename_i r0 h0
    injection e with e;injection e with _ e;subst e
    have hr:=xo (P:=P) hT 10000 (.pair t t') hTT h0 hp hq kp kq jg
    rw[eu,ev] at hr ⊢
    refine⟨_,?_,cD _⟩
    simp only[Sem.run_bind,run_eqGuard_agg (P:=P) w _ T x y _ _ hg,Result.andThen_ok,run_neq_struct,hr]
   ·cases e
  ·cases e
 ·cases e
theorem IV {op:BinOp} {p q r:TV} {g:Bool} (e:gV op p q=some (g,r)):scalar r.t=true:=by
 unfold gV at e
 split at e
 ·split at e
  ·unfold ahZ at e
   split at e<;>first |(injection e with e;injection e with _ e;subst e;rfl) |cases e
  ·cases e
 ·unfold ah0 at e
  split at e<;>first |(injection e with e;injection e with _ e;subst e;rfl) |cases e
 ·split at e<;>first |(injection e with e;injection e with _ e;subst e;rfl) |cases e
 ·split at e
  ·split at e<;>first |(injection e with e;injection e with _ e;subst e;rfl) |cases e
  ·cases e
 ·cases e
theorem oH:∀ (t:Ty) {x y:t.I} {r:Bool},MF t x y=some r→∀ {z:t.I} {cs:List Value},K w A t z cs→K w' A t z cs
 | .int _,_,_,_,_,_,_,h=>h
 | .bool,_,_,_,_,_,_,h=>h
 | .str,_,_,_,_,_,_,h=>h
 | .unit,_,_,_,_,_,_,h=>h
 | .pair a b,x,y,r,e,z,cs,h=>by
  simp only[MF] at e
  split at e
  ·rename_i p q hp hq
   obtain⟨c0,c1,h0,h1,h2⟩:=h
   exact⟨c0,c1,h0,oH a hp h1,oH b hq h2⟩
  ·cases e
 | .sl _,_,_,_,e,_,_,_=>by simp[MF] at e
 | .ptr _,_,_,_,e,_,_,_=>by simp[MF] at e
 | .arr _ _,_,_,_,e,_,_,_=>by simp[MF] at e
theorem RA {op:BinOp} {p q:TV} {gr:Bool×TV} (e:gV op p q=some gr) {cs:List Value} (h:K w A p.t p.x cs):K w' A p.t p.x cs:=by
 obtain⟨t,m,x⟩:=p
 obtain⟨t',m',y⟩:=q
 cases t with
 |int k=>exact h
 |bool=>exact h
 |str=>exact h
 |unit=>exact h
 |pair a b=>
  simp only[gV] at e
  split at e
  case isFalse=>cases e
  rename_i ht
  subst ht
  split at e
  ·rename_i hr;exact oH _ hr h
  ·rename_i hr;exact oH _ hr h
  ·cases e
 |_=>simp[gV] at e
theorem M3 {op:BinOp} {p q:TV} {gr:Bool×TV} (e:gV op p q=some gr) {cs:List Value} (h:K w A q.t q.x cs):K w' A q.t q.x cs:=by
 obtain⟨t,m,x⟩:=p
 obtain⟨t',m',y⟩:=q
 cases t with
 |pair a b=>
  simp only[gV] at e
  split at e
  case isFalse=>cases e
  rename_i ht
  subst ht
  split at e
  ·rename_i hr;exact oH _ hr h
  ·rename_i hr;exact oH _ hr h
  ·cases e
 |int k=>cases t'<;>first |exact h |(simp[gV] at e;done)
 |bool=>cases t'<;>first |exact h |(simp[gV] at e;done)
 |str=>cases t'<;>first |exact h |(simp[gV] at e;done)
 |_=>simp[gV] at e
theorem abU (hT:cP P Θ=true) (h:aW σ w0 W0 Z H S a w) {o:Oper} {op:BinOp} {T T':TypeId} {x y:Operand} (ho:o.op=.binOp op T x y T') (e:DW Θ S o.dst op T x y=some (true,S')):mG P w0 W0 Z H S' a o.dst w (execOp a.eval o):=by
 unfold DW at e
 split at e
 ·rename_i p q hp hq
  obtain⟨cs,h1,h2,_⟩:=iC h hp
  obtain⟨cJ,h1',h2',_⟩:=iC h hq
  have fin:∀ (r:TV),(p.t=.bool∨isAgg p.t=true→Θ.is T p.t=true)→gV op p q=some (true,r)→mG P w0 W0 Z H (S.put o.dst (.v r [])) a o.dst w (execOp a.eval o):=by
   intro r hi hb
   obtain⟨z,h3,h4⟩:=Vz (P:=P) (A:=Av σ Z) (H:=H) (tm:=bU a) (S:=S) (x:=x) (y:=y) hT h1 h1' h2 h2' hi hb
   have hsc:scalar r.t=true:=IV hb
   refine cg h (v:=z) (fun w2=>?_) h4
   obtain⟨z2,k3,k4⟩:=Vz (w:=w2) (P:=P) (A:=Av σ Z) (H:=H) (tm:=bU a) (S:=S) (x:=x) (y:=y) hT h1 h1' (RA hb h2) (M3 hb h2') hi hb
   rw[El hsc h4 k4]
   simp only[execOp,ho]
   simp only[Sem.run_bind] at k3 ⊢
   rw[k3]
   rfl
  split at e
  ·rename_i ht
   cases hc:Θ.is T .bool with
   |false=>rw[hc] at e;cases e
   |true=>
    rw[hc] at e
    simp only[cond_true] at e
    split at e
    ·rename_i g r hb
     injection e with e;injection e with e1 e;subst e e1
     exact fin r (fun _=>by rw[ht];exact hc) hb
    ·cases e
  ·rename_i t t' ht
   cases hc:Θ.is T p.t with
   |false=>rw[hc] at e;cases e
   |true=>
    rw[hc] at e
    simp only[cond_true] at e
    split at e
    ·rename_i g r hb
     injection e with e;injection e with e1 e;subst e e1
     exact fin r (fun _=>hc) hb
    ·cases e
  ·rename_i n1 n2
   split at e
   ·rename_i g r hb
    injection e with e;injection e with e1 e;subst e e1
    refine fin r (fun hh=>?_) hb
    rcases hh with hh |hh
    ·exact absurd hh n1
    ·obtain⟨pt,pm,px⟩:=p
     simp only at hh n1 n2
     cases pt<;>simp[isAgg] at hh
     ·exact absurd rfl (n2 _ _)
     ·simp[gV] at hb
     ·simp[gV] at hb
   ·cases e
 ·cases e
end Go.Pv
namespace Go.Pv
set_option linter.unusedVariables false
set_option linter.unusedSimpArgs false
variable {P:Program} {w w':World} {A A':Nat→Prop} {H:Nat→Value} {tm rH:Nat→Value} {S S':St} {σ:Nat→Option Nat} {w0:World} {W0 Z:Nat→Prop} {a:Act} {own:Nat→Prop} {v:Value} {Θ:dq} {dst:Option Nat} {g:Bool}
theorem rY {n:Int} {len:Nat} (h:aO n len=true):0≤n∧n<(len:Int):=by
 simpa[aO] using h
theorem abV (hT:cP P Θ=true) (h:aW σ w0 W0 Z H S a w) {o:Oper} {T:TypeId} {x ix:Operand} (ho:o.op=.index T x ix) (e:II Θ S o.dst T x ix=some (true,S')):ij P w0 W0 Z H S' a o.dst w (execOp a.eval o):=by
 unfold II at e
 split at e
 ·rename_i m s n hb hn
  cases hc:Θ.is T .str with
  |false=>rw[hc] at e;cases e
  |true=>
   rw[hc] at e
   simp only[cond_true,Option.some.injEq,Prod.mk.injEq] at e
   obtain⟨e1,e⟩:=e
   subst e
   obtain⟨b1,b2⟩:=rY e1
   obtain⟨cs,h1,h2,_⟩:=iC h hb
   have hv:=ff h1 h2
   obtain⟨k,hk⟩:=iK h hn
   obtain⟨i,hi,fH⟩:=dW hc
   obtain⟨_,hu,zR⟩:=cR hT hi
   have tu:=pO hu fH
   rw[zR] at tu
   refine cr h (v:=.int .u8 (bt s n)) (fun w2 _=>?_) (cZ _ _)
   have b9:n.toNat<s.size:=by omega
   have e6:s[n.toNat]?=some s[n.toNat]:=ByteArray.getElem?_lt' s _ b9
   have zX:bt s n=(s[n.toNat].toNat:Int):=by unfold bt;rw[dif_pos b9]
   simp[execOp,ho,hv,hk,Instr.index,asIntOf,run_underlying tu,b1,e6,zX]
 ·cases e
theorem dQ {s:Nat} {p:Path} {b:TV} (h:S.da s p=some b):∃ r ex,S.at s=.v r ex∧(∀ q∈ex,under q p=false)∧aX p r.t r.m r.x=some b:=by
 unfold St.da at h
 split at h
 ·rename_i r ex he
  cases hc:ex.all fun q=>!under q p with
  |true=>
   rw[hc] at h
   exact⟨r,ex,he,fun q hq=>by simpa using List.all_eq_true.1 hc q hq,h⟩
  |false=>rw[hc] at h;cases h
 ·cases h
theorem mo:∀ (q:Path) (s:Step) (r:Path),under q (q++s::r)=true
 |[],_,_=>by simp[under]
 | .idx i::q,s,r=>by simp[under];exact mo q s r
 | .deref::q,s,r=>by simp[under];exact mo q s r
 | .fst::q,s,r=>by simp[under];exact mo q s r
 | .snd::q,s,r=>by simp[under];exact mo q s r
theorem eU {p:Path} {ex:List Path} (h:∀ q∈ex,under q p=false):open_ p ex:=fun q hq s r e=>by
 have:=h q hq
 rw[e,mo] at this
 cases this
theorem pR {s:Nat} {p:Path} {b:TV} (h:S.place s p=some b):∃ r ex,S.at s=.v r ex∧(∀ q∈ex,gy q p=false)∧aX p r.t r.m r.x=some b:=by
 unfold St.place at h
 split at h
 ·rename_i r ex he
  cases hc:ex.all fun q=>!gy q p with
  |true=>
   rw[hc] at h
   exact⟨r,ex,he,fun q hq=>by simpa using List.all_eq_true.1 hc q hq,h⟩
  |false=>rw[hc] at h;cases h
 ·cases h
theorem abW (hT:cP P Θ=true) (h:aW σ w0 W0 Z H S a w) {o:Oper} {as:Array Operand} {ts:Array TypeId} (ho:o.op=.call { callee:=.builtin .len,args:=as,argTypes:=ts }) (e:abx Θ S o.dst ts.toList as.toList=some (true,S')):mG P w0 W0 Z H S' a o.dst w (execOp a.eval o):=by
 obtain⟨as⟩:=as
 obtain⟨ts⟩:=ts
 simp only at e
 unfold abx at e
 split at e
 ·rename_i x T
  split at e
  ·rename_i b hb
   cases hc:Θ.is T b.t with
   |false=>rw[hc] at e;cases e
   |true=>
    rw[hc] at e
    simp only[cond_true] at e
    split at e
    ·rename_i n hn
     injection e with e;injection e with _ e;subst e
     have jw:(∃ xs:ByteArray,b.t=.str∧a.eval x=.string xs∧n=(xs.size:Int))∨∃ t X c,∃ m:Nat,b.t=.sl t∧a.eval x=.slice X m c∧n=(m:Int):=by
      obtain⟨bt,bm,bx⟩:=b
      unfold ao5 at hn
      split at hn
      ·rename_i t m xs heq
       cases heq
       injection hn with hn
       right
       split at hb
       ·rename_i b' ex dL
        cases hx:ex.any List.isEmpty with
        |true=>rw[hx] at hb;cases hb
        |false=>
         rw[hx] at hb
         simp only[cond_false,Option.some.injEq] at hb
         subst hb
         obtain⟨cs,h1,h2⟩:=bo h dL
         simp only[M] at h2
         rcases h2 with⟨ly,_⟩ |⟨_,h2⟩ |⟨T',tag,me,X,c,_,rfl,_⟩
         ·have:ex.any List.isEmpty=true:=List.any_eq_true.2 ⟨[],ly,rfl⟩
          rw[hx] at this;cases this
         ·obtain⟨X,c,hv,_⟩:=oA h1 h2
          exact⟨_,X,c,_,rfl,hv,hn.symm⟩
         ·exact⟨_,X,c,_,rfl,by simpa[aq,isAgg] using h1.symm,hn.symm⟩
       ·rename_i t0 s0 p0 dL
        split at hb
        ·rename_i b' RB
         injection hb with hb
         subst hb
         obtain⟨cs,h1,h2,_⟩:=rX (av:=.al t0 s0 p0) h (bo h dL) (by simpa[St.tp] using RB)
         obtain⟨X,c,hv,_⟩:=oA h1 h2
         exact⟨_,X,c,_,rfl,hv,hn.symm⟩
        ·split at hb
         ·rename_i t1 m1 xs1 Cb
          injection hb with hb
          cases hb
          obtain⟨r,cN,cs,hr,gg,hm⟩:=bo h dL
          obtain⟨ex,b2,cJ,ow0,j1,j2,j3,j4,hM,j5,j6,j7⟩:=fX h hr
          rw[gg] at j5
          injection j5 with j5
          subst j5
          obtain⟨r2,ex2,q1,q2,q3⟩:=dQ Cb
          rw[j1] at q1
          injection q1 with q1 Ep
          subst q1 Ep
          rw[j3] at q3
          injection q3 with q3
          subst q3
          simp only at j4
          subst j4
          simp only[M] at j7
          rcases j7 with⟨_,_,X,c,rfl⟩ |⟨_,h2⟩ |⟨T',tag,me,X,c,_,rfl,_⟩
          ·exact⟨_,X,c,_,rfl,by simpa[aq,isAgg] using hm.symm,hn.symm⟩
          ·obtain⟨X,c,hv,_⟩:=oA hm h2
           exact⟨_,X,c,_,rfl,hv,hn.symm⟩
          ·exact⟨_,X,c,_,rfl,by simpa[aq,isAgg] using hm.symm,hn.symm⟩
         ·cases hb
       ·rename_i a' _ _ dL
        obtain⟨cs,h1,h2,_⟩:=rX h (bo h dL) hb
        obtain⟨X,c,hv,_⟩:=oA h1 h2
        exact⟨_,X,c,_,rfl,hv,hn.symm⟩
       ·cases hb
      ·rename_i m xs heq
       cases heq
       injection hn with hn
       left
       split at hb
       ·rename_i b' ex dL
        cases hx:ex.any List.isEmpty with
        |true=>rw[hx] at hb;cases hb
        |false=>
         rw[hx] at hb
         simp only[cond_false,Option.some.injEq] at hb
         subst hb
         obtain⟨cs,h1,h2⟩:=bo h dL
         simp only[M] at h2
         exact⟨_,rfl,ff h1 h2.2,hn.symm⟩
       ·rename_i t0 s0 p0 dL
        split at hb
        ·rename_i b' RB
         injection hb with hb
         subst hb
         obtain⟨cs,h1,h2,_⟩:=rX (av:=.al t0 s0 p0) h (bo h dL) (by simpa[St.tp] using RB)
         exact⟨_,rfl,ff h1 h2,hn.symm⟩
        ·split at hb
         ·injection hb with hb;cases hb
         ·cases hb
       ·rename_i a' _ _ dL
        obtain⟨cs,h1,h2,_⟩:=rX h (bo h dL) hb
        exact⟨_,rfl,ff h1 h2,hn.symm⟩
       ·cases hb
      ·cases hn
     obtain⟨i,hi,fH⟩:=dW hc
     obtain⟨_,hu,zR⟩:=cR hT hi
     rcases jw with⟨xs,ht,hv,rfl⟩ |⟨t,X,c,m,ht,hv,rfl⟩
     ·have tu:=pO hu (fH.trans ht)
      rw[zR] at tu
      refine cg h (v:=.int .i64 xs.size) (fun w2=>?_) (cZ _ _)
      simp[execOp,ho,hv,resolve,invoke,builtin,Builtin.len_,run_underlying tu,goInt]
     ·have tu:=(lD hu (fH.trans ht)).1
      rw[zR] at tu
      refine cg h (v:=.int .i64 m) (fun w2=>?_) (cZ _ _)
      simp[execOp,ho,hv,resolve,invoke,builtin,Builtin.len_,run_underlying tu,goInt]
    ·cases e
  ·cases e
 ·cases e
theorem aid (h:aW σ w0 W0 Z H S a w) {o:Oper} {c x y:Operand} (ho:o.op=.pick c x y) (e:Rb Θ S o.dst o.type c x y=some (true,S')):ij P w0 W0 Z H S' a o.dst w (execOp a.eval o):=by
 unfold Rb at e
 split at e
 ·rename_i m q hq
  obtain⟨cs,h1,h2,_⟩:=iC h hq
  have hv:=de h1 h2
  have bZ:∀ w2,Ext w w2→(execOp a.eval o).run P w2=.ok (.value (if q=true then a.eval x else a.eval y)) w2:=fun w2 _=>by
   simp only[execOp,ho,hv,asBool]
   rfl
  split at e
  ·rename_i m1 x1 e1 m2 y1 e2 hx hy
   injection e with e;injection e with _ e;subst e
   refine cr h bZ ?_
   obtain⟨c1,k1,k2⟩:=bo h hx
   obtain⟨c2,k3,k4⟩:=bo h hy
   simp only[M] at k2 k4
   have:=de k1 k2.2
   have:=de k3 k4.2
   cases q<;>simp_all<;>exact cD _
  ·rename_i p r ly hx hy
   cases q with
   |true=>
    simp only[cond_true] at e
    split at e
    ·rename_i av dL
     injection e with e;injection e with _ e;subst e
     exact cr h (fun w2 hw=>by simpa using bZ w2 hw) (pQ h hx dL)
    ·cases e
   |false=>
    simp only[cond_false] at e
    split at e
    ·rename_i av dL
     injection e with e;injection e with _ e;subst e
     exact cr h (fun w2 hw=>by simpa using bZ w2 hw) (pQ h hy dL)
    ·cases e
  ·cases e
 ·cases e
end Go.Pv
