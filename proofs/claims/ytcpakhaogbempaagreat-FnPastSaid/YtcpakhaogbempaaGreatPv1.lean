/- A verified evaluator of the program's form over pure values, part 1: what it tells of a function holds. -/
import Derived.Test.YtcpakhaogbempaaGreatPv0
import Derived.Laws.BytesString
import Derived.Laws.Entries
import Derived.Laws.Shifts
import Derived.Laws.Strings
import Derived.Laws.StructEq
namespace Go.Pv
set_option linter.unusedVariables false
set_option linter.unusedSimpArgs false
variable {h:Hint} {O:jf} {ops:Array Oper} {Θ:da}
structure qY where
 bQ:List Nat
 d:Nat
 v:AV
def bE:List Nat→St→St
 |[],S=>S
 |x::r,S=>bE r (S.put (some x) .dead)
def qY.app (E:qY) (S:St):St:=(bE E.bQ S).put (some E.d) E.v
def nO (a:AV):Prop:=∀ d,a.refs d=false
theorem rO {S:St} {x:Operand} (hx:gX S x=true) (T:TypeId):(∃ i a,x=.tmp i∧S.at i=.v a []∧S.dR Θ T x=some (.v a []))∨∃ c,x=.const c:=by
 cases x with
 |tmp i=>
  simp only[gX] at hx
  split at hx
  ·rename_i a ha
   exact .inl ⟨i,a,rfl,ha,by simp[St.dR,ha]⟩
  ·cases hx
 |const c=>exact .inr ⟨c,rfl⟩
 |func f=>simp[gX] at hx
 |global g=>simp[gX] at hx
def n9 (S S':St) (l:List Nat):Prop:=∀ r∈l,S'.at r=S.at r
theorem Di {S S':St} {x:Operand} (ha:n9 S S' (aM x)) (T:TypeId):S'.dR Θ T x=S.dR Θ T x:=by
 cases x with
 |tmp i=>simp only[St.dR];rw[ha i (by simp[aM])]
 |const c=>rfl
 |func f=>rfl
 |global g=>rfl
theorem II {S S':St} {x:Operand} (hx:gX S x=true) (ha:n9 S S' (aM x)) (T:TypeId):S'.rd Θ T x=S.rd Θ T x:=by
 unfold St.rd
 rw[Di ha]
 rcases rO (Θ:=Θ) hx T with⟨i,a,rfl,h1,h2⟩ |⟨c,rfl⟩
 ·rw[h2];rfl
 ·simp only[St.dR]
  cases m6 Θ T c<;>rfl
theorem l8 {S S':St}:∀ (xs:List Operand) (Ts:List TypeId) (l:List (Option TV)),(∀ x∈xs,gX S x=true)→n9 S S' (xs.flatMap aM)→reads Θ S' xs Ts l=reads Θ S xs Ts l
 |[],_,_,_,_=>rfl
 |x::xs,[],l,_,_=>rfl
 |x::xs,T::Ts,[],_,_=>rfl
 |x::xs,T::Ts,p::ps,hx,ha=>by
  have ih:=l8 xs Ts ps (fun y hy=>hx y (by simp[hy])) (fun r hr=>ha r (by simp[hr]))
  have ho:=Di (Θ:=Θ) (x:=x) (fun r hr=>ha r (by simp[hr])) T
  simp only[reads,ih,ho]
  cases p with
  |some a=>rfl
  |none=>
   simp only
   rcases rO (Θ:=Θ) (hx x (by simp)) T with⟨i,a,rfl,h1,h2⟩ |⟨c,rfl⟩
   ·rw[h2];rfl
   ·simp only[St.dR]
    cases m6 Θ T c<;>rfl
theorem zU {S S':St}:∀ (xs:List Operand) (l:List (Option TV)) (as:List Arg),n9 S S' (xs.flatMap aM)→jg S' xs l as=jg S xs l as
 |[],_,_,_=>rfl
 |x::xs,[],_,_=>rfl
 |x::xs,p::ps,[],_=>rfl
 |x::xs,p::ps,r::rs,ha=>by
  have ih:=zU xs ps rs (fun r hr=>ha r (by simp[hr]))
  have hf:uk S' x=uk S x:=by
   cases x with
   |tmp i=>simp only[uk];rw[ha i (by simp[aM])]
   |const c=>rfl
   |func f=>rfl
   |global g=>rfl
  simp only[jg,ih,hf]
theorem Hy:∀ (xs:List Operand) (Ts:List TypeId) (ps:List Pass),(ps.all fun p=>match p with
   | .val=>true
   |_=>false)=true→(∀ S,fZ Θ S xs Ts ps=none)∨∃ l,∀ S,fZ Θ S xs Ts ps=some (l,S)
 |[],_,_,_=>.inr ⟨[],fun S=>by simp[fZ]⟩
 |x::xs,[],_,_=>.inl fun S=>by simp[fZ]
 |x::xs,T::Ts,[],_=>.inl fun S=>by simp[fZ]
 |x::xs,T::Ts,p::ps,h=>by
  simp only[List.all_cons,Bool.and_eq_true] at h
  cases p with
  |take=>cases h.1
  |kT=>cases h.1
  |val=>
   rcases Hy xs Ts ps h.2 with h1 |⟨l,h1⟩
   ·exact .inl fun S=>by simp only[fZ,h1]
   ·exact .inr ⟨none::l,fun S=>by simp only[fZ,h1]⟩
theorem B2:∀ (l:List Pass) (n:Nat),(l.all fun p=>match p with
   | .val=>true
   |_=>false)=true→uT l n=none
 |[],_,_=>rfl
 | .val::r,n,h=>by simp only[uT];exact B2 r (n+1) (by simpa using h)
 | .take::r,n,h=>by simp at h
 | .kT::r,n,h=>by simp at h
theorem D3 (l:List TV):nO (Hr l):=by
 intro d
 unfold Hr
 split<;>rfl
theorem aba (hO:n5 O) {i:Nat} {o:Oper} (ho:ops[i]?=some o) (hg:o.guard=none) {d:Nat} (hd:o.dst=some d) {f:FuncId} {as:Array Operand} {ts:Array TypeId} (bK:o.op=.call { callee:=.value (.func f),args:=as,argTypes:=ts })
  (hv:aa4 O f=true) {S:St} (hx:∀ x∈as.toList,gX S x=true):
  ∃ oE:Option qY,(∀ E,oE=some E→E.d=d∧E.bQ=[]∧nO E.v)∧∀ S',n9 S S' (as.toList.flatMap aM)→∀ K,aS h O ops i S' K=oE.bind fun E=>K (E.app S'):=by
 have jX:∀ S' K,aS h O ops i S' K=gN h O o f none as.toList ts.toList S' K:=by
  intro S' K
  unfold aS
  rw[ho]
  simp only[hg]
  unfold gO
  rw[bK]
  simp only[B2 _ 0 hv]
 rcases Hy (Θ:=h.tab) as.toList ts.toList (O.sig f) hv with ht |⟨l,ht⟩
 ·exact⟨none,fun E hE=>(by cases hE),fun S' _ K=>by rw[jX];unfold gN;simp only[ht];rfl⟩
 ·cases hr:reads h.tab S as.toList ts.toList l with
  |none=>exact⟨none,fun E hE=>(by cases hE),fun S' ha K=>by rw[jX];unfold gN;simp only[ht,l8 _ _ _ hx ha,hr];rfl⟩
  |some args=>
   obtain⟨oR,hR⟩:=hO f (args++([]:List TV).map .tv)
   cases oR with
   |none=>
    refine⟨none,fun E hE=>(by cases hE),fun S' ha K=>?_⟩
    rw[jX];unfold gN
    simp only[ht,l8 _ _ _ hx ha,hr,rJ,hR]
    rfl
   |some ret=>
    cases hrefs:ret.refs with
    |nil=>
     cases hc:(ret.res.all (fun d=>fK d.t d.m)||(([]:List TV).isEmpty&&jg S as.toList l args)) with
     |false=>
      refine⟨none,fun E hE=>(by cases hE),fun S' ha K=>?_⟩
      rw[jX];unfold gN
      simp only[ht,l8 _ _ _ hx ha,zU _ _ _ ha,hr,rJ,hR,Option.bind_some,hrefs,hc]
      rfl
     |true=>
      refine⟨some ⟨[],d,Hr ret.res⟩,fun E hE=>?_,fun S' ha K=>?_⟩
      ·injection hE with hE
       subst hE
       exact⟨rfl,rfl,D3 _⟩
      ·rw[jX];unfold gN
       simp only[ht,l8 _ _ _ hx ha,zU _ _ _ ha,hr,rJ,hR,Option.bind_some,hrefs,hd,hc]
       rfl
    |cons _ _=>
     refine⟨none,fun E hE=>(by cases hE),fun S' ha K=>?_⟩
     rw[jX];unfold gN
     simp only[ht,l8 _ _ _ hx ha,hr,rJ,hR,Option.bind_some,hrefs]
     rfl
def VD (a:AV):Prop:=(∃ b,a=.v b [])∨a=.dead
def Yk (S:St):Operand→Prop
 | .tmp i=>VD (S.at i)
 | .const _=>True
 |_=>False
theorem UZ {S:St} {x:Operand} (h:gX S x=true):Yk S x:=by
 cases x with
 |tmp i=>
  simp only[gX] at h
  split at h
  ·rename_i a ha;exact .inl ⟨a,ha⟩
  ·cases h
 |const c=>trivial
 |func f=>simp[gX] at h
 |global g=>simp[gX] at h
theorem Hz {S:St} {x:Operand} (hx:Yk S x) (T:TypeId):∃ oB:Option (TV×List Nat),(∀ b ks,oB=some (b,ks)→ks.Nodup∧∀ r∈ks,r∈aM x∧∃ a,S.at r=.v a [])∧∀ S',n9 S S' (aM x)→S'.take Θ T x=oB.map fun q=>(q.1,bE q.2 S'):=by
 cases x with
 |tmp i=>
  rcases hx with⟨a,ha⟩ |ha
  ·cases hk:a.m.bH with
   |true=>
    refine⟨some (a,[]),fun b ks e=>?_,fun S' hs=>?_⟩
    ·injection e with e
     injection e with _ e
     subst e
     exact⟨List.nodup_nil,fun r hr=>by cases hr⟩
    ·have h2:=(hs i (by simp[aM])).trans ha
     unfold St.take
     simp[St.dR,h2,St.dI,hk,bE]
   |false=>
    refine⟨some (a,[i]),fun b ks e=>?_,fun S' hs=>?_⟩
    ·injection e with e
     injection e with _ e
     subst e
     refine⟨by simp,fun r hr=>?_⟩
     simp only[List.mem_singleton] at hr
     subst hr
     exact⟨by simp[aM],a,ha⟩
    ·have h2:=(hs i (by simp[aM])).trans ha
     unfold St.take
     simp[St.dR,h2,St.dI,hk,bE]
  ·refine⟨none,fun b ks e=>(by cases e),fun S' hs=>?_⟩
   have h2:=(hs i (by simp[aM])).trans ha
   unfold St.take
   simp[St.dR,h2,St.dI]
 |const c=>
  cases hc:m6 Θ T c with
  |none=>exact⟨none,fun b ks e=>(by cases e),fun S' ha=>(by unfold St.take;simp[St.dR,hc])⟩
  |some a=>
   refine⟨some (a,[]),fun b ks e=>?_,fun S' ha=>?_⟩
   ·injection e with e
    injection e with _ e
    subst e
    exact⟨List.nodup_nil,fun r hr=>by cases hr⟩
   ·unfold St.take
    simp only[St.dR,hc,St.dI]
    cases a.m.bH<;>simp[bE]
 |func f=>exact hx.elim
 |global g=>exact hx.elim
theorem MF {S:St} {x:Operand} (hx:gX S x=true) (T:TypeId):∃ oB:Option (TV×List Nat),(∀ b ks,oB=some (b,ks)→ks.Nodup∧∀ r∈ks,r∈aM x)∧∀ S',n9 S S' (aM x)→S'.take Θ T x=oB.map fun q=>(q.1,bE q.2 S'):=by
 obtain⟨oB,h1,h2⟩:=Hz (Θ:=Θ) (UZ hx) T
 exact⟨oB,fun b ks e=>⟨(h1 b ks e).1,fun r hr=>((h1 b ks e).2 r hr).1⟩,h2⟩
theorem zV {S:St} {i j:Nat} {a:TV} (h:S.at j=.v a []) (ru:j≠i):(S.put (some i) .dead).at j=.v a []:=by
 rw[dL,if_neg (fun e=>ru e.1),h]
 simp[AV.refs]
theorem HA {S:St} {i:Nat} {a:TV} (h:S.at i=.v a []):(S.put (some i) .dead).at i=.dead:=by
 have hl:i<S.length:=by
  rcases Nat.lt_or_ge i S.length with hl |hl
  ·exact hl
  ·unfold St.at at h
   rw[List.getD_eq_getElem?_getD,List.getElem?_eq_none hl] at h
   cases h
 rw[dL,if_pos ⟨rfl,hl⟩]
 simp[AV.refs]
theorem Q1 {ks:List Nat} {S:St} {j:Nat} {a:TV} (h:S.at j=.v a []) (hj:j∉ks):(bE ks S).at j=.v a []:=by
 induction ks generalizing S with
 |nil=>exact h
 |cons x r ih=>exact ih (zV h (fun e=>hj (by simp[e]))) (fun e=>hj (by simp[e]))
theorem Yl {ks:List Nat} {S S':St} {y:Operand} (hy:gX S y=true) (ha:n9 S S' (aM y)) (hn:∀ r∈aM y,r∉ks):n9 S (bE ks S') (aM y):=by
 intro r hr
 cases y with
 |tmp j=>
  simp only[aM,List.mem_singleton] at hr
  subst hr
  rcases rO (Θ:=[]) hy 0 with⟨i,a,e,h1,_⟩ |⟨c,e⟩
  ·injection e with e
   subst e
   rw[h1]
   exact Q1 ((ha r (by simp[aM])).trans h1) (hn r (by simp[aM]))
  ·cases e
 |const c=>simp[aM] at hr
 |func f=>simp[aM] at hr
 |global g=>simp[aM] at hr
theorem Q2 {ks:List Nat} {S:St} {j:Nat} {a:TV} (h:S.at j=.v a []) (hj:j∈ks):(bE ks S).at j=.dead:=by
 have dead:∀ (ks:List Nat) (S:St),S.at j=.dead→(bE ks S).at j=.dead:=by
  intro ks
  induction ks with
  |nil=>intro S h;exact h
  |cons x r ih=>
   intro S h
   refine ih _ ?_
   rw[dL]
   split
   ·simp[AV.refs]
   ·rw[h];simp[AV.refs]
 induction ks generalizing S with
 |nil=>cases hj
 |cons x r ih=>
  by_cases hx:j=x
  ·subst hx
   exact dead r _ (HA h)
  ·exact ih (zV h hx) (by rcases List.mem_cons.1 hj with e |e;exact absurd e hx;exact e)
theorem B3 (a b:List Nat) (S:St):bE (a++b) S=bE b (bE a S):=by
 induction a generalizing S with
 |nil=>rfl
 |cons x r ih=>exact ih _
theorem Q3 {S:St} {d:Nat} {x y:Operand} {T T':TypeId} (hx:gX S x=true) (hy:gX S y=true):
  ∃ oG:Option (Bool×qY),(∀ g E,oG=some (g,E)→E.d=d∧nO E.v∧E.bQ.Nodup∧∀ r∈E.bQ,r∈aM x++aM y)∧∀ S',n9 S S' (aM x++aM y)→b5 Θ S' (some d) [T,T'] [x,y]=oG.map fun q=>(q.1,q.2.app S'):=by
 obtain⟨oB,hB1,hB2⟩:=MF (Θ:=Θ) hx T
 have U0:∀ {S':St},n9 S S' (aM x++aM y)→n9 S S' (aM x):=fun ha r hr=>ha r (by simp[hr])
 have hay:∀ {S':St},n9 S S' (aM x++aM y)→n9 S S' (aM y):=fun ha r hr=>ha r (by simp[hr])
 cases oB with
 |none=>exact⟨none,fun g E e=>(by cases e),fun S' ha=>by unfold b5;simp only[hB2 S' (U0 ha)];rfl⟩
 |some q=>
  obtain⟨b,ks⟩:=q
  obtain⟨MG,zJ⟩:=hB1 b ks rfl
  -- is the second gone?
  by_cases aoO:∃ r∈aM y,r∈ks
  ·obtain⟨r,hr,hrk⟩:=aoO
   cases y with
   |const c=>simp[aM] at hr
   |func f=>simp[aM] at hr
   |global g=>simp[aM] at hr
   |tmp j=>
    simp only[aM,List.mem_singleton] at hr
    subst hr
    refine⟨none,fun g E e=>(by cases e),fun S' ha=>?_⟩
    rcases rO (Θ:=Θ) hy 0 with⟨i,a,e,h1,_⟩ |⟨c,e⟩
    ·injection e with e
     subst e
     have qX:=Q2 (ks:=ks) ((ha r (by simp[aM])).trans h1) hrk
     unfold b5
     simp only[hB2 S' (U0 ha),Option.map_some]
     have QI:(bE ks S').rd Θ T' (.tmp r)=none:=by unfold St.rd;simp only[St.dR,qX,St.ta]
     have htk:(bE ks S').take Θ T' (.tmp r)=none:=by unfold St.take;simp only[St.dR,qX,St.dI]
     split
     ·rename_i t e1 tg me xs S1 i heq hf
      simp only[Option.some.injEq,Prod.mk.injEq] at heq
      obtain⟨rfl,rfl⟩:=heq
      simp only[QI,htk,cond_false]
      cases me.bH<;>cases (decide (i.ty=t.sl)&&Nat.beq i.e e1&&Θ.is T' t.sl)<;>rfl
     ·rfl
    ·cases e
  ·have hn:∀ r∈aM y,r∉ks:=fun r hr hk=>aoO ⟨r,hr,hk⟩
   obtain⟨oC,hC1,hC2⟩:=MF (Θ:=Θ) hy T'
   cases hf:Θ.find T with
   |none=>exact⟨none,fun g E e=>(by cases e),fun S' ha=>by unfold b5;simp only[hB2 S' (U0 ha),hf];split<;>simp_all⟩
   |some ti=>
   by_cases B4:∃ (t:Ty) (e1:TypeId) (tg:Option Nat) (me:Md) (xs:List t.I),b=⟨.sl t,.o e1 tg me,xs⟩
   rotate_left
   ·refine⟨none,fun g E e=>(by cases e),fun S' ha=>?_⟩
    unfold b5
    simp only[hB2 S' (U0 ha),hf,Option.map_some]
    split
    ·rename_i t e1 tg me xs S1 i heq axl
     simp only[Option.some.injEq,Prod.mk.injEq] at heq
     exact absurd ⟨t,e1,tg,me,xs,heq.1⟩ B4
    ·rfl
   obtain⟨t,e1,tg,me,xs,rfl⟩:=B4
   have hS:∀ S',n9 S S' (aM x++aM y)→n9 S (bE ks S') (aM y):=fun S' ha=>Yl hy (hay ha) hn
   cases hc:(decide (ti.ty=.sl t)&&Nat.beq ti.e e1&&Θ.is T' (.sl t)) with
   |false=>exact⟨none,fun g E e=>(by cases e),fun S' ha=>by unfold b5;simp only[hB2 S' (U0 ha),hf,Option.map_some,hc,cond_false];rfl⟩
   |true=>
   cases hk:me.bH with
   |true=>
    have GW:∀ S',n9 S S' (aM x++aM y)→b5 Θ S' (some d) [T,T'] [x,y]=(match S.rd Θ T' y with
     |some ⟨.sl t',m',ys⟩=>bif m'.Ho.bH then(if h:t'=t then
       some (decide ((xs.length+ys.length)*t.size≤4398046511104),(bE ks S').put (some d) (.v ⟨.sl t,.o e1 none me,xs++(h▸ys)⟩ [])) else none) else none
     |_=>none):=fun S' ha=>by
     unfold b5
     simp only[hB2 S' (U0 ha),hf,Option.map_some,hc,cond_true,hk,II hy (hS S' ha)]
     rfl
    cases hr:S.rd Θ T' y with
    |none=>exact⟨none,fun g E e=>(by cases e),fun S' ha=>by rw[GW S' ha,hr];rfl⟩
    |some c=>
     by_cases hf2:∃ (m':Md) (ys:List t.I),c=⟨.sl t,m',ys⟩∧m'.Ho.bH=true
     ·obtain⟨m',ys,rfl,hm⟩:=hf2
      refine⟨some (decide ((List.length xs+List.length ys)*t.size≤4398046511104),⟨ks,d,.v ⟨.sl t,.o e1 none me,xs++ys⟩ []⟩),fun g E e=>?_,fun S' ha=>?_⟩
      rotate_left
      ·rw[GW S' ha,hr]
       simp only[hm,cond_true,dite_true,Option.map_some,qY.app]
      ·injection e with e
       injection e with _ e
       subst e
       exact⟨rfl,fun _=>rfl,MG,fun r hr=>by simp[zJ r hr]⟩
     ·refine⟨none,fun g E e=>(by cases e),fun S' ha=>?_⟩
      rw[GW S' ha,hr]
      split
      ·rename_i t' m' ys heq
       injection heq with heq
       subst heq
       cases hm:m'.Ho.bH with
       |false=>rfl
       |true=>
        simp only[cond_true]
        by_cases ht:t'=t
        ·subst ht
         exact absurd ⟨m',ys,rfl,hm⟩ hf2
        ·rw[dif_neg ht];rfl
      ·rfl
   |false=>
    have GW:∀ S',n9 S S' (aM x++aM y)→b5 Θ S' (some d) [T,T'] [x,y]=(match oC.map (fun q=>(q.1,bE q.2 (bE ks S'))) with
     |some (⟨.sl t',m',ys⟩,S2)=>if h:t'=t then
       (if m'.Ho=me then some (decide ((xs.length+ys.length)*t.size≤4398046511104),S2.put (some d) (.v ⟨.sl t,.o e1 none me,xs++(h▸ys)⟩ [])) else none) else none
     |_=>none):=fun S' ha=>by
     unfold b5
     simp only[hB2 S' (U0 ha),hf,Option.map_some,hc,cond_true,cond_false,hk,hC2 _ (hS S' ha)]
     rfl
    cases oC with
    |none=>exact⟨none,fun g E e=>(by cases e),fun S' ha=>by rw[GW S' ha];rfl⟩
    |some c=>
     obtain⟨c,ks2⟩:=c
     obtain⟨abb,abc⟩:=hC1 c ks2 rfl
     by_cases hf2:∃ (m':Md) (ys:List t.I),c=⟨.sl t,m',ys⟩∧m'.Ho=me
     ·obtain⟨m',ys,rfl,hm⟩:=hf2
      refine⟨some (decide ((List.length xs+List.length ys)*t.size≤4398046511104),⟨ks++ks2,d,.v ⟨.sl t,.o e1 none me,xs++ys⟩ []⟩),fun g E e=>?_,fun S' ha=>?_⟩
      rotate_left
      ·rw[GW S' ha]
       simp only[Option.map_some,dite_true,hm,if_true,qY.app,B3]
      ·injection e with e
       injection e with _ e
       subst e
       refine⟨rfl,fun _=>rfl,List.nodup_append.2 ⟨MG,abb,fun a ha b hb e=>by subst e;exact hn a (abc a hb) ha⟩,fun r hr=>?_⟩
       rcases List.mem_append.1 hr with hr |hr
       ·simp[zJ r hr]
       ·simp[abc r hr]
     ·refine⟨none,fun g E e=>(by cases e),fun S' ha=>?_⟩
      rw[GW S' ha]
      simp only[Option.map_some]
      split
      ·rename_i t' m' ys S2 heq
       injection heq with heq
       injection heq with heq _
       by_cases ht:t'=t
       ·subst ht
        by_cases hm:m'.Ho=me
        ·exact absurd ⟨m',ys,heq,hm⟩ hf2
        ·rw[dif_pos rfl,if_neg hm];rfl
       ·rw[dif_neg ht];rfl
      ·rfl
theorem B5 (ks:List Nat) (S:St):(bE ks S).length=S.length:=by
 induction ks generalizing S with
 |nil=>rfl
 |cons x r ih=>simp only[bE,ih,bV]
theorem uW:∀ (ks:List Nat) (S:St),ks.Nodup→(∀ x∈ks,∃ a,S.at x=.v a [])→∀ i,(bE ks S).at i=if i∈ks then .dead else bif ks.any (S.at i).refs then .dead else S.at i
 |[],S,_,_,i=>by simp[bE]
 |x::r,S,hn,hv,i=>by
  obtain⟨a,ha⟩:=hv x (by simp)
  simp only[List.nodup_cons] at hn
  have hv':∀ y∈r,∃ b,(S.put (some x) .dead).at y=.v b []:=fun y hy=>by
   obtain⟨b,hb⟩:=hv y (by simp[hy])
   exact⟨b,zV hb (fun e=>hn.1 (by rw[←e];exact hy))⟩
  simp only[bE]
  rw[uW r _ hn.2 hv' i]
  by_cases hir:i∈r
  ·simp[hir]
  ·by_cases hix:i=x
   ·subst hix
    simp only[hir,if_false,HA ha,List.mem_cons,true_or,if_true]
    simp[AV.refs]
   ·simp only[hir,if_false,List.mem_cons,hix,or_self]
    rw[dL,if_neg (fun e=>hix e.1),ha]
    simp only[AV.zM,Bool.and_true,List.any_cons]
    cases hr:(S.at i).refs x<;>simp[AV.refs]
structure qY.In (E:qY) (S:St):Prop where
 nd:E.bQ.Nodup
 cd:∀ x∈E.bQ,∃ a,S.at x=.v a []
 slot:(S.at E.d).zM=false
 lt:E.d<S.length
 refs:nO E.v
 out:E.d∉E.bQ
theorem qY.IJ (E:qY) (S:St):(E.app S).length=S.length:=by unfold qY.app;rw[bV,B5]
theorem qY.rP {E:qY} {S:St} (h:E.In S) (i:Nat):(E.app S).at i=if i=E.d then E.v else if i∈E.bQ then .dead else bif E.bQ.any (S.at i).refs then .dead else S.at i:=by
 unfold qY.app
 have hd:((bE E.bQ S).at E.d).zM=false:=by
  rw[uW _ _ h.nd h.cd]
  split
  ·rfl
  ·cases E.bQ.any (S.at E.d).refs with
   |true=>rfl
   |false=>exact h.slot
 rw[dL,B5,hd]
 by_cases hi:i=E.d
 ·rw[if_pos ⟨hi,h.lt⟩,if_pos hi,h.refs]
  rfl
 ·rw[if_neg (fun e=>hi e.1),if_neg hi]
  simp only[Bool.and_false,cond_false]
  exact uW _ _ h.nd h.cd i
theorem nP {S S':St} (hl:S.length=S'.length) (h:∀ i,S.at i=S'.at i):S=S':=by
 apply List.ext_getElem hl
 intro i h1 h2
 have:=h i
 unfold St.at at this
 rw[List.getD_eq_getElem?_getD,List.getD_eq_getElem?_getD,List.getElem?_eq_getElem h1,List.getElem?_eq_getElem h2] at this
 exact this
theorem qY.comm {E F:qY} {S:St} (hE:E.In S) (hF:F.In S) (hd:E.d≠F.d) (h1:E.d∉F.bQ) (h2:F.d∉E.bQ) (hEF:E.In (F.app S)) (hFE:F.In (E.app S)):E.app (F.app S)=F.app (E.app S):=by
 refine nP (by simp[qY.IJ]) fun i=>?_
 rw[qY.rP hEF,qY.rP hFE,qY.rP hF,qY.rP hE]
 by_cases hiE:i=E.d
 ·subst hiE
  have hv:F.bQ.any E.v.refs=false:=List.any_eq_false.2 fun x _=>by rw[hE.refs];simp
  simp[hd,h1,hv]
 ·by_cases hiF:i=F.d
  ·subst hiF
   have hv:E.bQ.any F.v.refs=false:=List.any_eq_false.2 fun x _=>by rw[hF.refs];simp
   simp[hiE,h2,hv]
  ·simp only[hiE,hiF,if_false]
   by_cases hkE:i∈E.bQ
   ·by_cases hkF:i∈F.bQ
    ·simp[hkE,hkF]
    ·have hv:F.bQ.any AV.dead.refs=false:=List.any_eq_false.2 fun x _=>by simp[AV.refs]
     simp[hkE,hkF,hv]
   ·by_cases hkF:i∈F.bQ
    ·have hv:E.bQ.any AV.dead.refs=false:=List.any_eq_false.2 fun x _=>by simp[AV.refs]
     simp[hkE,hkF,hv]
    ·have hvE:E.bQ.any AV.dead.refs=false:=List.any_eq_false.2 fun x _=>by simp[AV.refs]
     have hvF:F.bQ.any AV.dead.refs=false:=List.any_eq_false.2 fun x _=>by simp[AV.refs]
     simp only[hkE,hkF,if_false]
     cases hE':E.bQ.any (S.at i).refs<;>cases hF':F.bQ.any (S.at i).refs<;>simp[hE',hF',hvE,hvF]
theorem MH {S:St} {r x:Nat} (h:VD (S.at r)):(S.put (some x) .dead).at r=if r=x then .dead else S.at r:=by
 have hr:(S.at r).refs x=false:=by rcases h with⟨a,h⟩ |h<;>rw[h]<;>rfl
 rw[dL,hr]
 by_cases hx:r=x
 ·subst hx
  by_cases hl:r<S.length
  ·simp[hl,AV.refs]
  ·have:S.at r=.dead:=by unfold St.at;rw[List.getD_eq_getElem?_getD,List.getElem?_eq_none (by omega)];rfl
   simp[hl,this]
 ·simp[hx]
theorem rQ:∀ (ks:List Nat) {S:St} {r:Nat},VD (S.at r)→(bE ks S).at r=if r∈ks then .dead else S.at r
 |[],S,r,h=>by simp[bE]
 |x::l,S,r,h=>by
  have h1:=MH (x:=x) h
  have hv:VD ((S.put (some x) .dead).at r):=by rw[h1];split;exact .inr rfl;exact h
  simp only[bE]
  rw[rQ l hv,h1]
  by_cases hx:r=x<;>by_cases hl:r∈l<;>simp[hx,hl]
theorem Q4 {S:St} {ks:List Nat} {x:Operand} (h:Yk S x):Yk (bE ks S) x:=by
 cases x with
 |tmp i=>
  simp only[Yk] at h ⊢
  rw[rQ ks h]
  split
  ·exact .inr rfl
  ·exact h
 |const c=>trivial
 |func f=>exact h
 |global g=>exact h
theorem zW {ps:List (Nat×Operand)}:∀ (r:List TypeId) (j:Nat) {S:St},(∀ q∈ps,Yk S q.2)→∃ oL:Option (List TV×List Nat),(∀ l ks,oL=some (l,ks)→ks.Nodup∧∀ x∈ks,x∈ps.flatMap (fun q=>aM q.2)∧∃ a,S.at x=.v a [])∧
  ∀ S',n9 S S' (ps.flatMap fun q=>aM q.2)→S'.parts Θ ps r j=oL.map fun q=>(q.1,bE q.2 S')
 |[],j,S,hx=>⟨some ([],[]),fun l ks e=>by
   injection e with e
   injection e with _ e
   subst e
   exact⟨List.nodup_nil,fun x hx=>by cases hx⟩,fun S' ha=>rfl⟩
 |T::r,j,S,hx=>by
  cases hf:ps.find? (fun q=>Nat.beq q.1 j) with
  |none=>
   cases hz:rE Θ T with
   |none=>exact⟨none,fun l ks e=>(by cases e),fun S' ha=>by simp only[St.parts,hf,hz];rfl⟩
   |some a=>
    obtain⟨oL,h1,h2⟩:=zW r (j+1) hx
    cases oL with
    |none=>exact⟨none,fun l ks e=>(by cases e),fun S' ha=>by simp only[St.parts,hf,hz,h2 S' ha];rfl⟩
    |some q=>
     refine⟨some (a::q.1,q.2),fun l ks e=>?_,fun S' ha=>by simp only[St.parts,hf,hz,h2 S' ha];rfl⟩
     injection e with e
     injection e with _ e
     subst e
     exact h1 q.1 q.2 rfl
  |some q=>
   have hq:q∈ps:=List.mem_of_find?_eq_some hf
   have G3:∀ r∈aM q.2,r∈ps.flatMap fun q=>aM q.2:=fun r hr=>List.mem_flatMap.2 ⟨q,hq,hr⟩
   obtain⟨oB,b1,b2⟩:=Hz (Θ:=Θ) (hx q hq) T
   cases oB with
   |none=>exact⟨none,fun l ks e=>(by cases e),fun S' ha=>by simp only[St.parts,hf,b2 S' fun r hr=>ha r (G3 r hr)];rfl⟩
   |some bk=>
    obtain⟨b,ks⟩:=bk
    obtain⟨MG,zJ⟩:=b1 b ks rfl
    obtain⟨oL,h1,h2⟩:=zW r (j+1) (S:=bE ks S) (fun q hq=>Q4 (hx q hq))
    have Q5:∀ S',n9 S S' (ps.flatMap fun q=>aM q.2)→n9 (bE ks S) (bE ks S') (ps.flatMap fun q=>aM q.2):=fun S' ha r hr=>by
     obtain⟨q',rv,zX⟩:=List.mem_flatMap.1 hr
     have hv:VD (S.at r):=by
      have:=hx q' rv
      cases HB:q'.2 with
      |tmp i=>
       rw[HB] at this zX
       simp only[aM,List.mem_singleton] at zX
       subst zX
       exact this
      |const c=>rw[HB] at zX;simp[aM] at zX
      |func f=>rw[HB] at zX;simp[aM] at zX
      |global g=>rw[HB] at zX;simp[aM] at zX
     rw[rQ ks hv,rQ ks (by rw[ha r hr];exact hv),ha r hr]
    cases oL with
    |none=>exact⟨none,fun l ks e=>(by cases e),fun S' ha=>by simp only[St.parts,hf,b2 S' fun r hr=>ha r (G3 r hr),Option.map_some,h2 _ (Q5 S' ha)];rfl⟩
    |some lk=>
     obtain⟨l,ks2⟩:=lk
     obtain⟨abb,abc⟩:=h1 l ks2 rfl
     refine⟨some (b::l,ks++ks2),fun l' ks' e=>?_,fun S' ha=>by simp only[St.parts,hf,b2 S' fun r hr=>ha r (G3 r hr),Option.map_some,h2 _ (Q5 S' ha),B3]⟩
     injection e with e
     injection e with _ e
     subst e
     have MI:∀ x∈ks2,x∉ks∧∃ a,S.at x=.v a []:=fun x wY=>by
      obtain⟨m1,a,m2⟩:=abc x wY
      have hv:VD (S.at x):=by
       obtain⟨q',rv,zX⟩:=List.mem_flatMap.1 m1
       have:=hx q' rv
       cases HB:q'.2 with
       |tmp i=>
        rw[HB] at this zX
        simp only[aM,List.mem_singleton] at zX
        subst zX
        exact this
       |const c=>rw[HB] at zX;simp[aM] at zX
       |func f=>rw[HB] at zX;simp[aM] at zX
       |global g=>rw[HB] at zX;simp[aM] at zX
      rw[rQ ks hv] at m2
      by_cases hk:x∈ks
      ·rw[if_pos hk] at m2;cases m2
      ·rw[if_neg hk] at m2;exact⟨hk,a,m2⟩
     refine⟨List.nodup_append.2 ⟨MG,abb,fun a ha b hb e=>by subst e;exact(MI a hb).1 ha⟩,fun x wY=>?_⟩
     rcases List.mem_append.1 wY with wY |wY
     ·exact⟨G3 x (zJ x wY).1,(zJ x wY).2⟩
     ·exact⟨(abc x wY).1,(MI x wY).2⟩
theorem Ym {S:St} {d:Nat} {T:TypeId} {n:Nat} {hn:Hn} {ps:List (Nat×Operand)} (hx:∀ q∈ps,gX S q.2=true):
  ∃ oG:Option (Bool×qY),(∀ g E,oG=some (g,E)→E.d=d∧nO E.v∧E.bQ.Nodup∧∀ r∈E.bQ,r∈ps.flatMap fun q=>aM q.2)∧∀ S',n9 S S' (ps.flatMap fun q=>aM q.2)→bC Θ hn S' (some d) T n ps=oG.map fun q=>(q.1,q.2.app S'):=by
 cases hf:Θ.find T with
 |none=>exact⟨none,fun g E e=>(by cases e),fun S' ha=>by unfold bC;simp only[hf];rfl⟩
 |some i=>
  by_cases B4:∃ t,i.ty=.sl t
  rotate_left
  ·refine⟨none,fun g E e=>(by cases e),fun S' ha=>?_⟩
   unfold bC
   simp only[hf]
   split
   ·rename_i heq
    injection heq with heq
    subst heq
    exact absurd ⟨_,rfl⟩ B4
   ·rfl
  obtain⟨t,ht⟩:=B4
  obtain⟨q1,ty,e,q4⟩:=i
  simp only at ht
  subst ht
  obtain⟨oL,l1,l2⟩:=zW (Θ:=Θ) (List.replicate n e) 0 (fun q hq=>UZ (hx q hq))
  cases hc:(kC n ps&&Nat.ble n 1800) with
  |false=>exact⟨none,fun g E e=>(by cases e),fun S' ha=>by unfold bC;simp only[hf,hc,cond_false];rfl⟩
  |true=>
   cases oL with
   |none=>exact⟨none,fun g E e=>(by cases e),fun S' ha=>by unfold bC;simp only[hf,hc,cond_true,l2 S' ha];rfl⟩
   |some q=>
    obtain⟨l,ks⟩:=q
    obtain⟨MG,zJ⟩:=l1 l ks rfl
    cases l with
    |nil=>
     refine⟨some (true,⟨ks,d,.v ⟨.sl t,bif hn.Yc (some d) then .k else .o e none (hn.find (some d) .k),[]⟩ []⟩),fun g E e=>?_,fun S' ha=>by unfold bC;simp only[hf,hc,cond_true,l2 S' ha];rfl⟩
     injection e with e
     injection e with _ e
     subst e
     exact⟨rfl,fun _=>rfl,MG,fun r hr=>(zJ r hr).1⟩
    |cons a l=>
     cases hl:rF t a.m (a::l) with
     |none=>exact⟨none,fun g E e=>(by cases e),fun S' ha=>by unfold bC;simp only[hf,hc,cond_true,l2 S' ha,Option.map_some,hl];rfl⟩
     |some xs=>
      refine⟨some (true,⟨ks,d,.v ⟨.sl t,bif hn.Yc (some d)&&a.m.bH then .k else .o e none a.m,xs⟩ []⟩),fun g E e=>?_,fun S' ha=>by unfold bC;simp only[hf,hc,cond_true,l2 S' ha,Option.map_some,hl];rfl⟩
      injection e with e
      injection e with _ e
      subst e
      exact⟨rfl,fun _=>rfl,MG,fun r hr=>(zJ r hr).1⟩
theorem Q6 {S:St} {x:Operand} (h:QW S x=true):gX S x=true:=by
 cases x with
 |tmp i=>
  simp only[QW] at h
  simp only[gX]
  split at h
  ·rename_i ha;rw[ha]
  ·cases h
 |const c=>rfl
 |func f=>exact h
 |global g=>exact h
theorem D4 {S S':St} {d:Int} {x:Option Operand} (h:BZ S x=true) (ha:n9 S S' (eW x)):gL Θ S' d x=gL Θ S d x:=by
 cases x with
 |none=>rfl
 |some x=>
  simp only[gL,St.lz,II h ha]
theorem ah7 {S:St} {d:Nat} {T:TypeId} {x:Operand} {lo hi:Option Operand} (hx:QW S x=true) (Yn:BZ S lo=true) (D5:BZ S hi=true):
  ∃ o:Option (Bool×TV),∀ S',n9 S S' (aM x++(eW lo++eW hi))→ek Θ S' (some d) T x lo hi none=o.map fun q=>(q.1,S'.put (some d) (.v q.2 [])):=by
 have ag:∀ {S':St},n9 S S' (aM x++(eW lo++eW hi))→S'.dR Θ 0 x=S.dR Θ 0 x∧S'.rd Θ 0 x=S.rd Θ 0 x∧gL Θ S' 0 lo=gL Θ S 0 lo∧∀ n,gL Θ S' n hi=gL Θ S n hi:=fun ha=>
  ⟨Di (fun r hr=>ha r (by simp[hr])) 0,II (Q6 hx) (fun r hr=>ha r (by simp[hr])) 0,D4 Yn fun r hr=>ha r (by simp[hr]),fun n=>D4 D5 fun r hr=>ha r (by simp[hr])⟩
 have dG:(∃ t y,S.dR Θ 0 x=some (.v ⟨t,.k,y⟩ [])∧S.rd Θ 0 x=some ⟨t,.k,y⟩)∨∃ c,x=.const c:=by
  cases x with
  |tmp i=>
   simp only[QW] at hx
   split at hx
   ·rename_i t y ha
    exact .inl ⟨t,y,by simp[St.dR,ha],by simp[St.rd,St.dR,ha,St.ta]⟩
   ·cases hx
  |const c=>exact .inr ⟨c,rfl⟩
  |func f=>simp[QW] at hx
  |global g=>simp[QW] at hx
 have jk:(∃ a,S.dR Θ 0 x=some (.v a [])∧S.rd Θ 0 x=some a∧(a.m=.k∨∃ c,x=.const c))∨S.dR Θ 0 x=none:=by
  rcases dG with⟨t,y,h1,h2⟩ |⟨c,rfl⟩
  ·exact .inl ⟨_,h1,h2,.inl rfl⟩
  ·simp only[St.rd,St.dR]
   cases m6 Θ 0 c with
   |none=>exact .inr rfl
   |some a=>exact .inl ⟨a,rfl,rfl,.inr ⟨c,rfl⟩⟩
 rcases jk with⟨a,h1,h2,hm⟩ |h1
 rotate_left
 ·exact⟨none,fun S' ha=>by unfold ek;rw[(ag ha).1,h1];rfl⟩
 cases hl:gL Θ S 0 lo with
 |none=>
  refine⟨none,fun S' ha=>?_⟩
  obtain⟨e1,e2,e3,e4⟩:=ag ha
  unfold ek
  rw[e1,e2,e3,h1,h2,hl]
  obtain⟨t,m,y⟩:=a
  cases t<;>rfl
 |some l=>
  obtain⟨t,m,y⟩:=a
  have axg:(∀ S',ek Θ S' (some d) T x lo hi none=none)→∃ o:Option (Bool×TV),∀ S',n9 S S' (aM x++(eW lo++eW hi))→ek Θ S' (some d) T x lo hi none=o.map fun q=>(q.1,S'.put (some d) (.v q.2 [])):=fun h=>⟨none,fun S' _=>h S'⟩
  cases t with
  |str=>
   cases hh:gL Θ S (ByteArray.size y:Int) hi with
   |none=>
    refine⟨none,fun S' ha=>?_⟩
    obtain⟨e1,e2,e3,e4⟩:=ag ha
    unfold ek
    rw[e1,e2,e3,h1,h2,hl]
    simp only[e4,hh]
    rfl
   |some h'=>
    cases hT:Θ.is T .str with
    |false=>
     refine⟨none,fun S' ha=>?_⟩
     obtain⟨e1,e2,e3,e4⟩:=ag ha
     unfold ek
     rw[e1,e2,e3,h1,h2,hl]
     simp only[e4,hh,hT]
     rfl
    |true=>
     refine⟨some (decide (0≤l)&&decide (l≤h')&&decide (h'≤(ByteArray.size y:Int)),⟨.str,.k,ByteArray.extract y l.toNat h'.toNat⟩),fun S' ha=>?_⟩
     obtain⟨e1,e2,e3,e4⟩:=ag ha
     unfold ek
     rw[e1,e2,e3,h1,h2,hl]
     simp only[e4,hh,hT]
     rfl
  |sl t=>
   cases hT:Θ.is T (.sl t) with
   |false=>
    refine⟨none,fun S' ha=>?_⟩
    obtain⟨e1,e2,e3,e4⟩:=ag ha
    unfold ek
    rw[e1,e2,e3,h1,h2,hl]
    simp only[hT]
    rfl
   |true=>
    cases hh:gL Θ S (List.length y:Int) hi with
    |none=>
     refine⟨none,fun S' ha=>?_⟩
     obtain⟨e1,e2,e3,e4⟩:=ag ha
     unfold ek
     rw[e1,e2,e3,h1,h2,hl]
     simp only[hT,e4,hh]
     rfl
    |some h'=>
     by_cases hk:m=.k
     ·subst hk
      refine⟨some (decide (0≤l)&&decide (l≤h')&&decide (h'≤(List.length y:Int)),⟨.sl t,.k,(List.take h'.toNat y).drop l.toNat⟩),fun S' ha=>?_⟩
      obtain⟨e1,e2,e3,e4⟩:=ag ha
      unfold ek
      rw[e1,e2,e3,h1,h2,hl]
      simp only[hT,e4,hh]
      rfl
     ·obtain⟨c,rfl⟩:=hm.resolve_left hk
      refine⟨none,fun S' ha=>?_⟩
      obtain⟨e1,e2,e3,e4⟩:=ag ha
      unfold ek
      rw[e1,e2,e3,h1,h2,hl]
      simp only[hT,e4,hh,cond_true]
      cases m<;>first |exact absurd rfl hk |rfl
  |_=>
   refine⟨none,fun S' ha=>?_⟩
   obtain⟨e1,e2,e3,e4⟩:=ag ha
   unfold ek
   rw[e1,e2,e3,h1,h2,hl]
   rfl
theorem Yo {S:St} {d:Nat} {T:TypeId} {x ix:Operand} (hx:QW S x=true) (hix:gX S ix=true):
  ∃ o:Option (Bool×TV),∀ S',n9 S S' (aM x++aM ix)→bZ Θ S' (some d) T x ix=o.map fun q=>(q.1,S'.put (some d) (.v q.2 [])):=by
 have ag:∀ {S':St},n9 S S' (aM x++aM ix)→S'.dR Θ 0 x=S.dR Θ 0 x∧S'.lz Θ ix=S.lz Θ ix:=fun ha=>
  ⟨Di (fun r hr=>ha r (by simp[hr])) 0,by unfold St.lz;rw[II hix (fun r hr=>ha r (by simp[hr])) 0]⟩
 have jk:(∃ a,S.dR Θ 0 x=some (.v a [])∧(a.m=.k∨∃ c,x=.const c))∨S.dR Θ 0 x=none:=by
  cases x with
  |tmp i=>
   simp only[QW] at hx
   split at hx
   ·rename_i t y ha
    exact .inl ⟨⟨t,.k,y⟩,by simp[St.dR,ha],.inl rfl⟩
   ·cases hx
  |const c=>
   simp only[St.dR]
   cases m6 Θ 0 c with
   |none=>exact .inr rfl
   |some a=>exact .inl ⟨a,rfl,.inr ⟨c,rfl⟩⟩
  |func f=>simp[QW] at hx
  |global g=>simp[QW] at hx
 rcases jk with⟨a,h1,hm⟩ |h1
 rotate_left
 ·exact⟨none,fun S' ha=>by unfold bZ;rw[(ag ha).1,h1];rfl⟩
 cases hn:S.lz Θ ix with
 |none=>
  refine⟨none,fun S' ha=>?_⟩
  obtain⟨e1,e2⟩:=ag ha
  unfold bZ
  rw[e1,e2,h1,hn]
  obtain⟨t,m,y⟩:=a
  cases t<;>rfl
 |some n=>
  obtain⟨t,m,y⟩:=a
  cases t with
  |sl t=>
   cases hT:Θ.is T (.sl t) with
   |false=>
    refine⟨none,fun S' ha=>?_⟩
    obtain⟨e1,e2⟩:=ag ha
    unfold bZ
    rw[e1,e2,h1,hn]
    simp only[hT]
    rfl
   |true=>
    by_cases hk:m=.k
    ·subst hk
     refine⟨some (aQ n (List.length y),⟨.ptr t,.k,List.getD y n.toNat t.z⟩),fun S' ha=>?_⟩
     obtain⟨e1,e2⟩:=ag ha
     unfold bZ
     rw[e1,e2,h1,hn]
     simp only[hT]
     rfl
    ·obtain⟨c,rfl⟩:=hm.resolve_left hk
     refine⟨none,fun S' ha=>?_⟩
     obtain⟨e1,e2⟩:=ag ha
     unfold bZ
     rw[e1,e2,h1,hn]
     simp only[hT,cond_true]
     cases m<;>first |exact absurd rfl hk |rfl
  |_=>
   refine⟨none,fun S' ha=>?_⟩
   obtain⟨e1,e2⟩:=ag ha
   unfold bZ
   rw[e1,e2,h1,hn]
   rfl
theorem xa {S:St} {o:Oper} (hg:jV O ops S o=true):o.guard=none∧∃ d,o.dst=some d∧(S.at d).zM=false∧d<S.length:=by
 unfold jV at hg
 simp only[Bool.and_eq_true] at hg
 obtain⟨⟨h1,h2⟩,_⟩:=hg
 refine⟨?_,?_⟩
 ·split at h1
  ·assumption
  ·cases h1
 ·split at h2
  ·rename_i d hd
   simp only[Bool.and_eq_true,Bool.not_eq_true'] at h2
   exact⟨d,hd,h2.1,Nat.lt_of_lt_of_le (Nat.lt_succ_self _) (Nat.le_of_ble_eq_true h2.2)⟩
  ·cases h2
theorem iE {S:St} {x:Operand} (h:gX S x=true):∀ r∈aM x,∃ a,S.at r=.v a []:=by
 intro r hr
 rcases rO (Θ:=[]) h 0 with⟨i,a,rfl,h1,_⟩ |⟨c,rfl⟩
 ·simp only[aM,List.mem_singleton] at hr
  subst hr
  exact⟨a,h1⟩
 ·simp[aM] at hr
theorem IK {S S':St} {Θ:da} {dst:Option Nat}:∀ {as:List Operand} {ts:List TypeId},(∀ x∈as,gX S x=true)→n9 S S' (as.flatMap aM)→fR Θ S' dst ts as=none:=by
 intro as ts bK ha
 unfold fR
 split
 ·rename_i x y T T'
  split
  ·rename_i tt s st pp dG
   exfalso
   have h1:=bK x (by simp)
   cases x with
   |tmp i=>
    have h2:=ha i (by simp[aM])
    simp only[St.dR,Option.some.injEq] at dG
    rw[h2] at dG
    simp only[gX,dG] at h1
    cases h1
   |const c=>
    simp only[St.dR] at dG
    split at dG<;>cases dG
   |func f=>simp[gX] at h1
   |global g=>simp[gX] at h1
  ·rfl
 ·rfl
theorem U1 (hO:n5 O) {i:Nat} {o:Oper} (ho:ops[i]?=some o) {S:St} (hg:jV O ops S o=true) {d:Nat} (hd:o.dst=some d):
  ∃ oE:Option qY,(∀ E,oE=some E→E.d=d∧nO E.v∧E.bQ.Nodup∧(∀ r∈E.bQ,r∈aP ops o)∧(jW o=true→E.bQ=[]))∧∀ S',n9 S S' (aP ops o)→∀ K,aS h O ops i S' K=oE.bind fun E=>K (E.app S'):=by
 have hgd:=(xa hg).1
 have val:∀ {o':Option (Bool×TV)} {GX:St→zN},jW o=true→(∀ S' K,aS h O ops i S' K=match GX S' with
    |some (g,S1)=>bif g then K S1 else none
    |none=>none)→(∀ S',n9 S S' (aP ops o)→GX S'=o'.map fun q=>(q.1,S'.put (some d) (.v q.2 [])))→
   ∃ oE:Option qY,(∀ E,oE=some E→E.d=d∧nO E.v∧E.bQ.Nodup∧(∀ r∈E.bQ,r∈aP ops o)∧(jW o=true→E.bQ=[]))∧∀ S',n9 S S' (aP ops o)→∀ K,aS h O ops i S' K=oE.bind fun E=>K (E.app S'):=by
  intro o' GX hc bO GW
  cases o' with
  |none=>exact⟨none,fun E e=>(by cases e),fun S' ha K=>by rw[bO,GW S' ha];rfl⟩
  |some q=>
   obtain⟨g,r⟩:=q
   cases g with
   |false=>exact⟨none,fun E e=>(by cases e),fun S' ha K=>by rw[bO,GW S' ha];rfl⟩
   |true=>
    refine⟨some ⟨[],d,.v r []⟩,fun E e=>?_,fun S' ha K=>by rw[bO,GW S' ha];rfl⟩
    injection e with e
    subst e
    exact⟨rfl,fun _=>rfl,List.nodup_nil,fun r hr=>(by cases hr),fun _=>rfl⟩
 unfold jV at hg
 simp only[Bool.and_eq_true] at hg
 have bK:=hg.2
 split at bK
 ·rename_i f as ts cB
  simp only[Bool.and_eq_true,List.all_eq_true] at bK
  obtain⟨oE,h1,h2⟩:=aba (h:=h) hO ho hgd hd cB bK.1 bK.2
  have hl:aP ops o=as.toList.flatMap aM:=by unfold aP;rw[cB]
  refine⟨oE,fun E hE=>?_,fun S' ha=>h2 S' (by rw[hl] at ha;exact ha)⟩
  obtain⟨e1,e2,e3⟩:=h1 E hE
  exact⟨e1,e3,by rw[e2];exact List.nodup_nil,fun r hr=>by rw[e2] at hr;(cases hr),fun _=>e2⟩
 ·rename_i as ts cB
  simp only[List.all_eq_true] at bK
  have hl:aP ops o=as.toList.flatMap aM:=by unfold aP;rw[cB]
  have hcb:jW o=false:=by unfold jW;rw[cB]
  have jX:∀ S' K,n9 S S' (as.toList.flatMap aM)→aS h O ops i S' K=match b5 h.tab S' (some d) ts.toList as.toList with
    |some (g,S1)=>bif g then K S1 else none
    |none=>none:=by
   intro S' K ha
   unfold aS
   rw[ho]
   simp only[hgd]
   unfold gO
   rw[cB]
   simp only[ev,cB,hd]
   rcases b5 h.tab S' (some d) ts.toList as.toList with _ |⟨g,S1⟩
   ·simp only[IK bK ha]
   ·rfl
  have fin:∀ oG:Option (Bool×qY),(∀ g E,oG=some (g,E)→E.d=d∧nO E.v∧E.bQ.Nodup∧∀ r∈E.bQ,r∈as.toList.flatMap aM)→(∀ S',n9 S S' (as.toList.flatMap aM)→b5 h.tab S' (some d) ts.toList as.toList=oG.map fun q=>(q.1,q.2.app S'))→
    ∃ oE:Option qY,(∀ E,oE=some E→E.d=d∧nO E.v∧E.bQ.Nodup∧(∀ r∈E.bQ,r∈aP ops o)∧(jW o=true→E.bQ=[]))∧∀ S',n9 S S' (aP ops o)→∀ K,aS h O ops i S' K=oE.bind fun E=>K (E.app S'):=by
   intro oG h1 h2
   cases oG with
   |none=>exact⟨none,fun E e=>(by cases e),fun S' ha K=>by rw[jX S' K (by rw[hl] at ha;exact ha),h2 S' (by rw[hl] at ha;exact ha)];rfl⟩
   |some q=>
    obtain⟨g,E⟩:=q
    cases g with
    |false=>exact⟨none,fun E e=>(by cases e),fun S' ha K=>by rw[jX S' K (by rw[hl] at ha;exact ha),h2 S' (by rw[hl] at ha;exact ha)];rfl⟩
    |true=>
     refine⟨some E,fun E' e=>?_,fun S' ha K=>by rw[jX S' K (by rw[hl] at ha;exact ha),h2 S' (by rw[hl] at ha;exact ha)];rfl⟩
     injection e with e
     subst e
     obtain⟨e1,e2,e3,e4⟩:=h1 true E rfl
     exact⟨e1,e2,e3,by rw[hl];exact e4,fun hc=>by rw[hcb] at hc;cases hc⟩
  by_cases B4:∃ x y T T',as.toList=[x,y]∧ts.toList=[T,T']
  ·obtain⟨x,y,T,T',ha,ht⟩:=B4
   rw[ha] at bK
   obtain⟨oG,h1,h2⟩:=Q3 (Θ:=h.tab) (d:=d) (T:=T) (T':=T') (bK x (by simp)) (bK y (by simp))
   refine fin oG ?_ ?_
   ·intro g E e
    obtain⟨e1,e2,e3,e4⟩:=h1 g E e
    exact⟨e1,e2,e3,fun r hr=>by rw[ha];simpa using e4 r hr⟩
   ·intro S' hs
    rw[ha,ht]
    exact h2 S' (by rw[ha] at hs;simpa using hs)
  ·refine fin none (fun g E e=>(by cases e)) fun S' hs=>?_
   unfold b5
   split
   ·rename_i x y T T' ha ht
    exact absurd ⟨x,y,T,T',ha,ht⟩ B4
   ·rfl
 ·rename_i T n ps cB
  simp only[List.all_eq_true] at bK
  have hl:aP ops o=ps.toList.flatMap fun q=>aM q.2:=by unfold aP;rw[cB]
  have hcb:jW o=false:=by unfold jW;rw[cB]
  have jX:∀ S' K,aS h O ops i S' K=match bC h.tab h.hn S' (some d) T n ps.toList with
    |some (g,S1)=>bif g then K S1 else none
    |none=>none:=by
   intro S' K
   unfold aS
   rw[ho]
   simp only[hgd]
   unfold gO
   rw[cB]
   simp only[ev,cB,hd]
   rcases bC h.tab h.hn S' (some d) T n ps.toList with _ |⟨g,S1⟩<;>rfl
  obtain⟨oG,h1,h2⟩:=Ym (Θ:=h.tab) (d:=d) (T:=T) (n:=n) (hn:=h.hn) bK
  cases oG with
  |none=>exact⟨none,fun E e=>(by cases e),fun S' ha K=>by rw[jX,h2 S' (by rw[hl] at ha;exact ha)];rfl⟩
  |some q=>
   obtain⟨g,E⟩:=q
   cases g with
   |false=>exact⟨none,fun E e=>(by cases e),fun S' ha K=>by rw[jX,h2 S' (by rw[hl] at ha;exact ha)];rfl⟩
   |true=>
    refine⟨some E,fun E' e=>?_,fun S' ha K=>by rw[jX,h2 S' (by rw[hl] at ha;exact ha)];rfl⟩
    injection e with e
    subst e
    obtain⟨e1,e2,e3,e4⟩:=h1 true E rfl
    exact⟨e1,e2,e3,by rw[hl];exact e4,fun hc=>by rw[hcb] at hc;cases hc⟩
 ·rename_i T x cB
  split at bK
  case h_4=>cases bK
  case h_2=>
   rename_i t y hb hx
   have hl:aP ops o=[x]:=by unfold aP;rw[cB];simp only[hb]
   refine val (GX:=fun S'=>gq h.tab S' (some d) T (.tmp x)) (o':=(bif h.tab.is T t then some (true,⟨t,.k,y⟩) else none)) (by unfold jW;rw[cB]) (fun S' K=>by unfold aS;rw[ho];simp only[hgd];unfold gO;rw[cB];simp only[ev,cB,hd];rcases gq h.tab S' (some d) T (.tmp x) with _ |⟨g,S1⟩<;>rfl) fun S' ha=>?_
   rw[hl] at ha
   have h1:S'.at x=.v ⟨.ptr t,.k,y⟩ []:=(ha x (by simp)).trans hx
   unfold gq
   simp only[St.dR,h1,St.Hp,St.loadAt,Tgt.ty,QR]
   cases h.tab.is T t<;>rfl
  case h_3=>
   rename_i t T1 tg me y hb hx
   have hl:aP ops o=[x]:=by unfold aP;rw[cB];simp only[hb]
   split at bK
   case h_2=>cases bK
   rename_i b B6
   refine val (GX:=fun S'=>gq h.tab S' (some d) T (.tmp x)) (o':=match S.place x [.deref] with
    |some c=>bif h.tab.is T t then some (true,QR c) else none
    |none=>none) (by unfold jW;rw[cB]) (fun S' K=>by unfold aS;rw[ho];simp only[hgd];unfold gO;rw[cB];simp only[ev,cB,hd];rcases gq h.tab S' (some d) T (.tmp x) with _ |⟨g,S1⟩<;>rfl) fun S' ha=>?_
   rw[hl] at ha
   have h1:S'.at x=.v ⟨.ptr t,.o T1 tg me,y⟩ []:=(ha x (by simp)).trans hx
   have h2:S'.cZ x [.deref]=some b:=by rw[←B6];unfold St.cZ;rw[ha x (by simp)]
   have h3:S'.place x [.deref]=S.place x [.deref]:=by unfold St.place;rw[ha x (by simp)]
   unfold gq
   simp only[St.dR,h1,St.Hp,St.loadAt,h2,bK,cond_true,h3,Tgt.ty]
   cases S.place x [.deref] with
   |none=>rfl
   |some c=>simp only;cases h.tab.is T t<;>rfl
  rename_i s t s' p hb hx
  simp only[Bool.and_eq_true] at bK
  obtain⟨hs,hk⟩:=bK
  have:=Nat.eq_of_beq_eq_true hs
  subst this
  have hl:aP ops o=[x,s']:=by unfold aP;rw[cB];simp only[hb]
  have jX:∀ S' K,aS h O ops i S' K=match gq h.tab S' (some d) T (.tmp x) with
    |some (g,S1)=>bif g then K S1 else none
    |none=>none:=by
   intro S' K
   unfold aS
   rw[ho]
   simp only[hgd]
   unfold gO
   rw[cB]
   simp only[ev,cB,hd]
   rcases gq h.tab S' (some d) T (.tmp x) with _ |⟨g,S1⟩<;>rfl
  split at hk
  case h_2=>cases hk
  rename_i b B6
  have GW:∀ S',n9 S S' [x,s']→gq h.tab S' (some d) T (.tmp x)=match S.place s' p with
    |some c=>bif h.tab.is T t then some (true,S'.put (some d) (.v (QR c) [])) else none
    |none=>none:=by
   intro S' ha
   have h1:S'.at x=.ad t s' p:=(ha x (by simp)).trans hx
   have h2:S'.cZ s' p=some b:=by rw[←B6];unfold St.cZ;rw[ha s' (by simp)]
   have h3:S'.place s' p=S.place s' p:=by unfold St.place;rw[ha s' (by simp)]
   unfold gq
   simp only[St.dR,h1,St.Hp,St.loadAt,h2,hk,cond_true,h3]
   cases S.place s' p<;>rfl
  cases hp:S.place s' p with
  |none=>exact⟨none,fun E e=>(by cases e),fun S' ha K=>by rw[jX,GW S' (by rw[hl] at ha;exact ha),hp];rfl⟩
  |some c=>
   cases hT:h.tab.is T t with
   |false=>exact⟨none,fun E e=>(by cases e),fun S' ha K=>by rw[jX,GW S' (by rw[hl] at ha;exact ha),hp];simp only[hT];rfl⟩
   |true=>
    refine⟨some ⟨[],d,.v (QR c) []⟩,fun E e=>?_,fun S' ha K=>by rw[jX,GW S' (by rw[hl] at ha;exact ha),hp];simp only[hT];rfl⟩
    injection e with e
    subst e
    exact⟨rfl,fun _=>rfl,List.nodup_nil,fun r hr=>(by cases hr),fun _=>rfl⟩
 ·rename_i T x lo hi cB
  simp only[Bool.and_eq_true] at bK
  obtain⟨o',h1⟩:=ah7 (Θ:=h.tab) (d:=d) (T:=T) bK.1 bK.2.1 bK.2.2
  have hl:aP ops o=aM x++(eW lo++eW hi):=by unfold aP;rw[cB]
  exact val (o':=o') (by unfold jW;rw[cB]) (fun S' K=>by unfold aS;rw[ho];simp only[hgd];unfold gO;rw[cB];simp only[ev,cB,hd];rcases ek h.tab S' (some d) T x lo hi none with _ |⟨g,S1⟩<;>rfl) fun S' ha=>h1 S' (by rw[hl] at ha;exact ha)
 ·rename_i T x ix cB
  simp only[Bool.and_eq_true] at bK
  obtain⟨o',h1⟩:=Yo (Θ:=h.tab) (d:=d) (T:=T) bK.1 bK.2
  have hl:aP ops o=aM x++aM ix:=by unfold aP;rw[cB]
  exact val (o':=o') (by unfold jW;rw[cB]) (fun S' K=>by unfold aS;rw[ho];simp only[hgd];unfold gO;rw[cB];simp only[ev,cB,hd];rcases bZ h.tab S' (some d) T x ix with _ |⟨g,S1⟩<;>rfl) fun S' ha=>h1 S' (by rw[hl] at ha;exact ha)
 ·cases bK
theorem zY {S:St} {o:Oper} (hg:jV O ops S o=true):(jW o=true∨∀ r∈aP ops o,∃ a,S.at r=.v a [])∧∀ r∈aP ops o,S.at r≠ .dead∧∀ x,(S.at r).refs x=true→x∈aP ops o:=by
 have key:(∀ r∈aP ops o,∃ a,S.at r=.v a [])→(jW o=true∨∀ r∈aP ops o,∃ a,S.at r=.v a [])∧∀ r∈aP ops o,S.at r≠ .dead∧∀ x,(S.at r).refs x=true→x∈aP ops o:=fun h=>by
  refine⟨.inr h,fun r hr=>?_⟩
  obtain⟨a,ha⟩:=h r hr
  rw[ha]
  exact⟨fun e=>(by cases e),fun x hx=>by simp[AV.refs] at hx⟩
 unfold jV at hg
 simp only[Bool.and_eq_true] at hg
 have bK:=hg.2
 split at bK
 ·rename_i f as ts cB
  simp only[Bool.and_eq_true,List.all_eq_true] at bK
  refine key fun r hr=>?_
  unfold aP at hr
  rw[cB] at hr
  obtain⟨x,hx,hr⟩:=List.mem_flatMap.1 hr
  exact iE (bK.2 x hx) r hr
 ·rename_i as ts cB
  simp only[List.all_eq_true] at bK
  refine key fun r hr=>?_
  unfold aP at hr
  rw[cB] at hr
  obtain⟨x,hx,hr⟩:=List.mem_flatMap.1 hr
  exact iE (bK x hx) r hr
 ·rename_i T n ps cB
  simp only[List.all_eq_true] at bK
  refine key fun r hr=>?_
  unfold aP at hr
  rw[cB] at hr
  obtain⟨x,hx,hr⟩:=List.mem_flatMap.1 hr
  exact iE (bK x hx) r hr
 ·rename_i T x cB
  split at bK
  case h_4=>cases bK
  case h_2=>
   rename_i t y hb hx
   have hl:aP ops o=[x]:=by unfold aP;rw[cB];simp only[hb]
   refine key fun r hr=>?_
   rw[hl] at hr
   simp only[List.mem_singleton] at hr
   subst hr
   exact⟨_,hx⟩
  case h_3=>
   rename_i t T1 tg me y hb hx
   have hl:aP ops o=[x]:=by unfold aP;rw[cB];simp only[hb]
   refine key fun r hr=>?_
   rw[hl] at hr
   simp only[List.mem_singleton] at hr
   subst hr
   exact⟨_,hx⟩
  rename_i s t s' p hb hx
  simp only[Bool.and_eq_true] at bK
  obtain⟨hs,hk⟩:=bK
  have:=Nat.eq_of_beq_eq_true hs
  subst this
  have hl:aP ops o=[x,s']:=by unfold aP;rw[cB];simp only[hb]
  refine⟨.inl (by unfold jW;rw[cB]),fun r hr=>?_⟩
  rw[hl] at hr ⊢
  simp only[List.mem_cons,List.not_mem_nil,or_false] at hr
  rcases hr with rfl |rfl
  ·rw[hx]
   refine⟨fun e=>(by cases e),fun y hy=>?_⟩
   simp only[AV.refs] at hy
   have:=Nat.eq_of_beq_eq_true hy
   simp[this]
  ·split at hk
   case h_2=>cases hk
   rename_i b B6
   unfold St.cZ at B6
   split at B6
   ·rename_i a ex ha
    rw[ha]
    exact⟨fun e=>(by cases e),fun y hy=>by simp[AV.refs] at hy⟩
   ·cases B6
 ·rename_i T x lo hi cB
  simp only[Bool.and_eq_true] at bK
  have hl:aP ops o=aM x++(eW lo++eW hi):=by unfold aP;rw[cB]
  refine key fun r hr=>?_
  rw[hl] at hr
  have abd:∀ {y:Option Operand},BZ S y=true→r∈eW y→∃ a,S.at r=.v a []:=fun {y} h hr=>by
   cases y with
   |none=>simp[eW] at hr
   |some y=>exact iE h r hr
  rcases List.mem_append.1 hr with hr |hr
  ·exact iE (Q6 bK.1) r hr
  ·rcases List.mem_append.1 hr with hr |hr
   ·exact abd bK.2.1 hr
   ·exact abd bK.2.2 hr
 ·rename_i T x ix cB
  simp only[Bool.and_eq_true] at bK
  have hl:aP ops o=aM x++aM ix:=by unfold aP;rw[cB]
  refine key fun r hr=>?_
  rw[hl] at hr
  rcases List.mem_append.1 hr with hr |hr
  ·exact iE (Q6 bK.1) r hr
  ·exact iE bK.2 r hr
 ·cases bK
theorem rR {S S':St} {x:Operand} (h:gX S x=true) (ha:n9 S S' (aM x)):gX S' x=true:=by
 cases x with
 |tmp i=>simp only[gX,ha i (by simp[aM])] at h ⊢;exact h
 |const c=>rfl
 |func f=>exact h
 |global g=>exact h
theorem U2 {S S':St} {x:Operand} (h:QW S x=true) (ha:n9 S S' (aM x)):QW S' x=true:=by
 cases x with
 |tmp i=>simp only[QW,ha i (by simp[aM])] at h ⊢;exact h
 |const c=>rfl
 |func f=>exact h
 |global g=>exact h
theorem HC {S S':St} {o:Oper} (hg:jV O ops S o=true) (ha:n9 S S' (aP ops o)) (hl:S'.length=S.length) (hd:∀ d,o.dst=some d→(S'.at d).zM=false):jV O ops S' o=true:=by
 obtain⟨h1,d,h2,h3,h4⟩:=xa hg
 unfold jV at hg ⊢
 simp only[Bool.and_eq_true] at hg ⊢
 refine⟨⟨hg.1.1,?_⟩,?_⟩
 ·rw[h2]
  simp only[hd d h2,Bool.not_false,Bool.true_and]
  rw[hl]
  exact Nat.ble_eq_true_of_le h4
 ·have bK:=hg.2
  split at bK
  ·rename_i f as ts cB
   have Q7:aP ops o=as.toList.flatMap aM:=by unfold aP;rw[cB]
   rw[Q7] at ha
   simp only[Bool.and_eq_true,List.all_eq_true] at bK
   simp only[Bool.and_eq_true,List.all_eq_true]
   exact⟨bK.1,fun x hx=>rR (bK.2 x hx) fun r hr=>ha r (List.mem_flatMap.2 ⟨x,hx,hr⟩)⟩
  ·rename_i as ts cB
   have Q7:aP ops o=as.toList.flatMap aM:=by unfold aP;rw[cB]
   rw[Q7] at ha
   simp only[List.all_eq_true] at bK
   simp only[List.all_eq_true]
   exact fun x hx=>rR (bK x hx) fun r hr=>ha r (List.mem_flatMap.2 ⟨x,hx,hr⟩)
  ·rename_i T n ps cB
   have Q7:aP ops o=ps.toList.flatMap fun q=>aM q.2:=by unfold aP;rw[cB]
   rw[Q7] at ha
   simp only[List.all_eq_true] at bK
   simp only[List.all_eq_true]
   exact fun x hx=>rR (bK x hx) fun r hr=>ha r (List.mem_flatMap.2 ⟨x,hx,hr⟩)
  ·rename_i T x cB
   split at bK
   case h_4=>cases bK
   case h_2=>
    rename_i t y hb hx
    have Q7:aP ops o=[x]:=by unfold aP;rw[cB];simp only[hb]
    rw[Q7] at ha
    rw[hb,(ha x (by simp)).trans hx]
   case h_3=>
    rename_i t T1 tg me y hb hx
    have Q7:aP ops o=[x]:=by unfold aP;rw[cB];simp only[hb]
    rw[Q7] at ha
    have h2:S'.cZ x [.deref]=S.cZ x [.deref]:=by unfold St.cZ;rw[ha x (by simp)]
    rw[hb,(ha x (by simp)).trans hx]
    simp only[h2]
    exact bK
   rename_i s t s' p hb hx
   simp only[Bool.and_eq_true] at bK
   obtain⟨hs,hk⟩:=bK
   have:=Nat.eq_of_beq_eq_true hs
   subst this
   have Q7:aP ops o=[x,s']:=by unfold aP;rw[cB];simp only[hb]
   rw[Q7] at ha
   have h1:S'.at x=.ad t s' p:=(ha x (by simp)).trans hx
   have h2:S'.cZ s' p=S.cZ s' p:=by unfold St.cZ;rw[ha s' (by simp)]
   rw[hb,h1]
   simp only[Bool.and_eq_true,h2]
   exact⟨Nat.beq_refl _,hk⟩
  ·rename_i T x lo hi cB
   simp only[Bool.and_eq_true] at bK
   have Q7:aP ops o=aM x++(eW lo++eW hi):=by unfold aP;rw[cB]
   rw[Q7] at ha
   simp only[Bool.and_eq_true]
   have abd:∀ {y:Option Operand},BZ S y=true→(∀ r∈eW y,r∈aM x++(eW lo++eW hi))→BZ S' y=true:=fun {y} h hs=>by
    cases y with
    |none=>rfl
    |some y=>exact rR h fun r hr=>ha r (hs r hr)
   exact⟨U2 bK.1 fun r hr=>ha r (by simp[hr]),abd bK.2.1 fun r hr=>by simp[hr],abd bK.2.2 fun r hr=>by simp[hr]⟩
  ·rename_i T x ix cB
   simp only[Bool.and_eq_true] at bK
   have Q7:aP ops o=aM x++aM ix:=by unfold aP;rw[cB]
   rw[Q7] at ha
   simp only[Bool.and_eq_true]
   exact⟨U2 bK.1 fun r hr=>ha r (by simp[hr]),rR bK.2 fun r hr=>ha r (by simp[hr])⟩
  ·cases bK
theorem IL {S:St} {o:Oper} (hg:jV O ops S o=true) {d:Nat} (hd:o.dst=some d) {E:qY} (he:E.d=d∧nO E.v∧E.bQ.Nodup∧(∀ r∈E.bQ,r∈aP ops o)∧(jW o=true→E.bQ=[])):E.In S:=by
 obtain⟨_,d',h2,h3,h4⟩:=xa hg
 rw[hd] at h2
 injection h2 with h2
 subst h2
 obtain⟨e1,e2,e3,e4,e5⟩:=he
 have hv:∀ r∈E.bQ,∃ a,S.at r=.v a []:=fun r hr=>by
  rcases(zY hg).1 with hc |hv
  ·rw[e5 hc] at hr;cases hr
  ·exact hv r (e4 r hr)
 refine⟨e3,hv,by rw[e1];exact h3,by rw[e1];exact h4,e2,fun hk=>?_⟩
 obtain⟨a,ha⟩:=hv _ hk
 rw[e1] at ha
 rw[ha] at h3
 cases h3
theorem Yp {a:AV} {x:Nat} (h:a.refs x=true):a.zM=false:=by cases a<;>first |rfl |(simp[AV.refs] at h)
theorem ah8 {E:qY} {S:St} (h:E.In S) {i:Nat} (hi:i≠E.d) (hv:(S.at i).zM=false):((E.app S).at i).zM=false:=by
 rw[qY.rP h,if_neg hi]
 split
 ·rfl
 ·cases E.bQ.any (S.at i).refs with
  |true=>rfl
  |false=>exact hv
theorem abe {E:qY} {S:St} (h:E.In S) {i:Nat} (hi:i≠E.d) (hk:i∉E.bQ) (hv:((E.app S).at i).zM=false):(S.at i).zM=false:=by
 rw[qY.rP h,if_neg hi,if_neg hk] at hv
 cases ha:E.bQ.any (S.at i).refs with
 |true=>
  obtain⟨x,_,hx⟩:=List.any_eq_true.1 ha
  exact Yp hx
 |false=>rw[ha] at hv;exact hv
theorem auC {E:qY} {S:St} (h:E.In S) {i:Nat} (hi:i≠E.d) (hv:(E.app S).at i≠ .dead):S.at i=(E.app S).at i:=by
 rw[qY.rP h,if_neg hi] at hv ⊢
 split at hv
 ·exact absurd rfl hv
 ·rename_i hk
  rw[if_neg hk]
  cases ha:E.bQ.any (S.at i).refs with
  |true=>rw[ha] at hv;exact absurd rfl hv
  |false=>rfl
theorem auD {E:qY} {S:St} (h:E.In S) {i:Nat} (hi:i≠E.d) (hk:i∉E.bQ) (hr:∀ x,(S.at i).refs x=true→x∉E.bQ):(E.app S).at i=S.at i:=by
 rw[qY.rP h,if_neg hi,if_neg hk]
 have:E.bQ.any (S.at i).refs=false:=List.any_eq_false.2 fun x hx wY=>hr x wY hx
 rw[this]
 rfl
theorem abf (hO:n5 O) {i j:Nat} {oi oj:Oper} (hi:ops[i]?=some oi) (hj:ops[j]?=some oj) (hd:Hs ops oi oj=true) {r:List Nat} {S:St} {K:St→Option aa} {ret:aa} (e:na h O ops (i::j::r) S K=some ret):na h O ops (j::i::r) S K=some ret:=by
 simp only[na,hi,hj] at e ⊢
 cases gi:jV O ops S oi with
 |false=>rw[gi] at e;cases e
 |true=>
 rw[gi] at e
 simp only[cond_true] at e
 obtain⟨_,di,Q8,hvi,_⟩:=xa gi
 obtain⟨oE,E1,E2⟩:=U1 (h:=h) hO hi gi Q8
 rw[E2 S (fun _ _=>rfl)] at e
 cases oE with
 |none=>cases e
 |some E=>
 simp only[Option.bind_some] at e
 have EI:=IL gi Q8 (E1 E rfl)
 obtain⟨Ed,Er,En,Ek,Ec⟩:=E1 E rfl
 cases gj:jV O ops (E.app S) oj with
 |false=>rw[gj] at e;cases e
 |true=>
 rw[gj] at e
 simp only[cond_true] at e
 obtain⟨_,dj,hdj,hvj,_⟩:=xa gj
 obtain⟨oF,F1,F2⟩:=U1 (h:=h) hO hj gj hdj
 rw[F2 _ (fun _ _=>rfl)] at e
 cases oF with
 |none=>cases e
 |some F=>
 simp only[Option.bind_some] at e
 have FI1:=IL gj hdj (F1 F rfl)
 obtain⟨Fd,Fr,Fn,Fk,Fc⟩:=F1 F rfl
 unfold Hs at hd
 rw[Q8,hdj] at hd
 simp only[Bool.and_eq_true,Bool.not_eq_true',Bool.or_eq_true] at hd
 obtain⟨⟨⟨d1,d2⟩,d3⟩,d4⟩:=hd
 have d1:di≠dj:=fun e=>by subst e;rw[Nat.beq_refl] at d1;cases d1
 have d2:di∉aP ops oj:=fun hm=>by
  have:=List.any_eq_false.1 d2 di hm
  rw[Nat.beq_refl] at this
  exact this rfl
 have d3:dj∉aP ops oi:=fun hm=>by
  have:=List.any_eq_false.1 d3 dj hm
  rw[Nat.beq_refl] at this
  exact this rfl
 have d5:∀ r∈aP ops oi,r∉F.bQ:=fun r hr hk=>by
  rcases d4 with d4 |d4
  ·rw[Fc d4.2] at hk;cases hk
  ·have h1:=List.any_eq_false.1 d4 r hr
   have h2:(aP ops oj).any (Nat.beq r)=true:=List.any_eq_true.2 ⟨r,Fk r hk,Nat.beq_refl r⟩
   exact h1 h2
 have ag1:n9 (E.app S) S (aP ops oj):=fun r hr=>by
  exact auC EI (fun e=>d2 (by rw[←Ed,←e];exact hr)) ((zY gj).2 r hr).1
 have awy:dj∉E.bQ:=fun hk=>d3 (Ek dj hk)
 have gj0:jV O ops S oj=true:=HC gj ag1 (qY.IJ E S).symm (fun d hd=>by
  rw[hdj] at hd
  injection hd with hd
  subst hd
  exact abe EI (fun e=>d1 (by rw[←Ed,←e])) awy hvj)
 have FI:=IL gj0 hdj (F1 F rfl)
 have ag2:n9 S (F.app S) (aP ops oi):=fun r hr=>by
  exact auD FI (fun e=>d3 (by rw[←Fd,←e];exact hr)) (d5 r hr) fun x hx=>d5 x (((zY gi).2 r hr).2 x hx)
 have gi1:jV O ops (F.app S) oi=true:=HC gi ag2 (qY.IJ F S) (fun d hd=>by
  rw[Q8] at hd
  injection hd with hd
  subst hd
  exact ah8 FI (fun e=>d1 (by rw[←Fd,←e])) hvi)
 have EI1:=IL gi1 Q8 (E1 E rfl)
 rw[gj0]
 simp only[cond_true]
 rw[F2 S ag1]
 simp only[Option.bind_some]
 rw[gi1]
 simp only[cond_true]
 rw[E2 _ ag2]
 simp only[Option.bind_some]
 rw[qY.comm EI FI (by rw[Ed,Fd];exact d1) (fun hk=>by rw[Ed] at hk;exact d2 (Fk _ hk)) (fun hk=>by rw[Fd] at hk;exact d3 (Ek _ hk)) EI1 FI1]
 exact e
theorem HD (hO:n5 O) {j:Nat} {oj:Oper} (hj:ops[j]?=some oj):∀ (p r:List Nat) {S:St} {K:St→Option aa} {ret:aa},(∀ x∈p,∃ ox,ops[x]?=some ox∧Hs ops ox oj=true)→na h O ops (p++j::r) S K=some ret→na h O ops (j::(p++r)) S K=some ret
 |[],r,S,K,ret,_,e=>e
 |x::p,r,S,K,ret,hp,e=>by
  obtain⟨ox,hox,hdx⟩:=hp x (by simp)
  refine abf hO hox hj hdx ?_
  simp only[List.cons_append] at e
  unfold na at e ⊢
  rw[hox] at e ⊢
  simp only at e ⊢
  cases gx:jV O ops S ox with
  |false=>rw[gx] at e;cases e
  |true=>
   rw[gx] at e
   simp only[cond_true] at e ⊢
   obtain⟨o,ho⟩:=iD (h:=h) (ops:=ops) hO x (fun o' G1=>by
    rw[hox] at G1
    injection G1 with G1
    subst G1
    unfold jV at gx
    simp only[Bool.and_eq_true] at gx
    have g2:=gx.2
    split at g2<;>first |(rename_i bK;rw[bK];rfl) |cases g2) S
   rw[ho] at e ⊢
   cases o with
   |none=>cases e
   |some S1=>
    simp only[Option.bind_some] at e ⊢
    exact HD hO hj p r (fun y hy=>hp y (by simp[hy])) e
end Go.Pv
namespace Go.Pv
set_option linter.unusedVariables false
set_option linter.unusedSimpArgs false
variable {h:Hint} {O:jf} {Θ:da} {ops:Array Oper} {ret:aa}
theorem D6 {a:AV} {s:Nat}:a.refs s=true↔s∈slotsOf a:=by
 cases a with
 |al t s' p=>simp only[AV.refs,slotsOf,List.mem_singleton,Nat.beq_eq];exact eq_comm
 |ad t s' p=>simp only[AV.refs,slotsOf,List.mem_singleton,Nat.beq_eq];exact eq_comm
 |cut t s' p lo hi=>simp only[AV.refs,slotsOf,List.mem_singleton,Nat.beq_eq];exact eq_comm
 |lE f cq=>
  simp only[AV.refs,slotsOf,List.any_eq_true,List.mem_filterMap]
  constructor
  ·rintro⟨c,hc,h⟩
   refine⟨c,hc,?_⟩
   cases c with
   |kv b=>cases h
   |pl t s' p=>simp at h;simp[h]
  ·rintro⟨c,hc,h⟩
   refine⟨c,hc,?_⟩
   cases c with
   |kv b=>cases h
   |pl t s' p=>simp at h;simp[h]
 |_=>simp[AV.refs,slotsOf]
def aT (Δ:Nat→Bool) (S:St):Prop:=∀ i s,(S.at i).refs s=true→Δ i=Δ s
theorem pC {Δ:Nat→Bool}:∀ {S:St} {k:Nat},kD Δ S k=true↔∀ i s,(S.at i).refs s=true→Δ (k+i)=Δ s
 |[],k=>by simp[kD,St.at,AV.refs]
 |a::r,k=>by
  simp only[kD,Bool.and_eq_true,List.all_eq_true,beq_iff_eq]
  constructor
  ·rintro⟨h1,h2⟩ i s hs
   cases i with
   |zero=>exact h1 s (D6.1 (by simpa[St.at] using hs))
   |succ i=>
    have:=(pC.1 h2) i s (by simpa[St.at] using hs)
    rw[←this];congr 1;omega
  ·intro hh
   refine⟨fun s hs=>by simpa using hh 0 s (by simpa[St.at] using D6.2 hs),pC.2 fun i s hs=>?_⟩
   have:=hh (i+1) s (by simpa[St.at] using hs)
   rw[←this];congr 1;omega
theorem iP {Δ:Nat→Bool} {S:St}:kD Δ S 0=true↔aT Δ S:=by
 rw[pC]
 simp only[Nat.zero_add,aT]
def mix (Δ:Nat→Bool) (A B:St):St:=(List.range A.length).map fun i=>bif Δ i then A.at i else B.at i
theorem HE {S:St} {i:Nat} (h:S.length≤i):S.at i=.dead:=by
 unfold St.at
 rw[List.getD_eq_getElem?_getD,List.getElem?_eq_none h];rfl
theorem ga (Δ:Nat→Bool) (A B:St):(mix Δ A B).length=A.length:=by simp[mix]
theorem kg {Δ:Nat→Bool} {A B:St} (hl:B.length=A.length) (i:Nat):(mix Δ A B).at i=bif Δ i then A.at i else B.at i:=by
 by_cases hi:i<A.length
 ·unfold mix
  conv=>lhs;unfold St.at
  rw[List.getD_eq_getElem?_getD,List.getElem?_map,List.getElem?_range hi]
  rfl
 ·rw[HE (by rw[ga];omega),HE (S:=A) (by omega),HE (S:=B) (by omega)]
  cases Δ i<;>rfl
theorem lq {Δ:Nat→Bool} {A B:St} (hl:B.length=A.length) {i:Nat} (hi:Δ i=true):(mix Δ A B).at i=A.at i:=by rw[kg hl,hi];rfl
theorem D7 (Δ:Nat→Bool) (S:St):mix Δ S S=S:=nP (ga _ _ _) fun i=>by rw[kg rfl];cases Δ i<;>rfl
theorem IM {Δ:Nat→Bool} {A B:St} (hl:B.length=A.length):mix (fun i=>!Δ i) B A=mix Δ A B:=nP (by rw[ga,ga,hl]) fun i=>by
 rw[kg hl,kg hl.symm];cases Δ i<;>rfl
theorem aT.not {Δ:Nat→Bool} {S:St} (h:aT Δ S):aT (fun i=>!Δ i) S:=fun i s hs=>by simp only[h i s hs]
section
variable {Δ:Nat→Bool} {A B:St}
theorem zZ (hB:aT Δ B) {i d:Nat} (hi:Δ i=false) (hd:Δ d=true):(B.at i).refs d=false:=by
 cases hr:(B.at i).refs d with
 |false=>rfl
 |true=>have:=hB i d hr;rw[hi,hd] at this;cases this
theorem td (hl:B.length=A.length) (hB:aT Δ B) {d:Nat} (hd:Δ d=true) (a:AV):(mix Δ A B).put (some d) a=mix Δ (A.put (some d) a) B:=by
 refine nP (by rw[bV,ga,ga,bV]) fun i=>?_
 rw[kg (by rw[bV,hl]),dL,dL,ga,kg hl,lq hl hd]
 cases hi:Δ i with
 |true=>rfl
 |false=>
  have hid: ¬(i=d∧d<A.length):=fun e=>by rw[e.1,hd] at hi;cases hi
  rw[if_neg hid]
  simp only[cond_false]
  rw[zZ hB hi hd];rfl
theorem xb (hl:B.length=A.length) {d:Nat} (hd:Δ d=true) (a:AV):(mix Δ A B).set d a=mix Δ (A.set d a) B:=by
 refine nP (by rw[List.length_set,ga,ga,List.length_set]) fun i=>?_
 rw[kg (by rw[List.length_set,hl]),cN,cN,ga,kg hl]
 cases hi:Δ i with
 |true=>rfl
 |false=>
  have hid: ¬(i=d∧d<A.length):=fun e=>by rw[e.1,hd] at hi;cases hi
  rw[if_neg hid]
  rfl
theorem Q9 {a:AV} {d:Nat} (h:a.refs d=false):a.eU d=false:=by
 cases a with
 |al t s p=>simp only[AV.refs] at h;simp only[AV.eU,h];rfl
 |ad t s p=>simp only[AV.refs] at h;simp only[AV.eU,h];rfl
 |cut t s p lo hi=>simpa only[AV.refs,AV.eU] using h
 |lE f cq=>
  simp only[AV.refs,AV.eU,List.any_eq_false] at h ⊢
  intro c hc
  have:=h c hc
  cases c with
  |kv b=>simp
  |pl t s p=>cases p<;>simp_all
 |_=>rfl
theorem uX (hl:B.length=A.length) (hB:aT Δ B) {d:Nat} (hd:Δ d=true):(mix Δ A B).weaken d=mix Δ (A.weaken d) B:=by
 refine nP (by simp[St.weaken,ga]) fun i=>?_
 rw[kg (by simp[St.weaken,hl]),ke,ke,kg hl]
 cases hi:Δ i with
 |true=>rfl
 |false=>simp only[cond_false];rw[Q9 (zZ hB hi hd)];rfl
theorem z6 (S:St) (d:Nat) (p:Path) (i:Nat):(S.cover d p).at i=match S.at i with
  | .ad t s q=>bif Nat.beq s d&&under p q then .dead else .ad t s q
  |a=>a:=D2 S _ rfl i
theorem HF (hl:B.length=A.length) (hB:aT Δ B) {d:Nat} (hd:Δ d=true) (p:Path):(mix Δ A B).cover d p=mix Δ (A.cover d p) B:=by
 refine nP (by simp[St.cover,ga]) fun i=>?_
 rw[kg (by simp[St.cover,hl]),z6,z6,kg hl]
 cases hi:Δ i with
 |true=>rfl
 |false=>
  simp only[cond_false]
  have:=zZ hB hi hd
  cases hb:B.at i with
  |ad t s q=>rw[hb] at this;simp only[AV.refs] at this;simp only[this];rfl
  |_=>rfl
theorem xc {c:Bool} {a:AV} {s:Nat} (h:(bif c then AV.dead else a).refs s=true):a.refs s=true:=by
 cases c with
 |true=>simp[AV.refs] at h
 |false=>exact h
theorem kh (hA:aT Δ A) {d:Nat} (hd:Δ d=true) {a:AV} (ha:∀ s,a.refs s=true→Δ s=true):aT Δ (A.put (some d) a):=fun i s hs=>by
 rw[dL] at hs
 split at hs
 ·rename_i hi
  rw[hi.1,hd]
  exact(ha s (xc hs)).symm
 ·exact hA i s (xc hs)
theorem mq (hA:aT Δ A) {d:Nat} (hd:Δ d=true) {a:AV} (ha:∀ s,a.refs s=true→Δ s=true):aT Δ (A.set d a):=fun i s hs=>by
 rw[cN] at hs
 split at hs
 ·rename_i hi
  rw[hi.1,hd]
  exact(ha s hs).symm
 ·exact hA i s hs
theorem nQ (hA:aT Δ A) (d:Nat):aT Δ (A.weaken d):=fun i s hs=>by
 rw[ke] at hs
 exact hA i s (xc hs)
theorem xd (hA:aT Δ A) (d:Nat) (p:Path):aT Δ (A.cover d p):=fun i s hs=>by
 rw[z6] at hs
 refine hA i s ?_
 cases hb:A.at i with
 |ad t s' q=>rw[hb] at hs;exact xc hs
 |_=>rw[hb] at hs;exact hs
theorem jn (hl:B.length=A.length) {x:Operand} (hx:l7 Δ x=true) (T:TypeId):(mix Δ A B).dR Θ T x=A.dR Θ T x:=by
 cases x with
 |tmp i=>simp only[St.dR];rw[lq hl hx]
 |_=>rfl
theorem gw (hA:aT Δ A) {x:Operand} (hx:l7 Δ x=true) {T:TypeId} {a:AV} (e:A.dR Θ T x=some a):∀ s,a.refs s=true→Δ s=true:=fun s hs=>by
 cases x with
 |tmp i=>
  simp only[St.dR,Option.some.injEq] at e
  subst e
  rw[←hA i s hs];exact hx
 |const c=>
  simp only[St.dR] at e
  split at e
  ·injection e with e;subst e;simp[AV.refs] at hs
  ·cases e
 |func f=>
  simp only[St.dR,Option.some.injEq] at e
  subst e
  simp[AV.refs] at hs
 |global g=>cases e
theorem l9 (hl:B.length=A.length) {s:Nat} (hs:Δ s=true) (p:Path):(mix Δ A B).place s p=A.place s p:=by unfold St.place;rw[lq hl hs]
theorem ki (hl:B.length=A.length) {s:Nat} (hs:Δ s=true) (p:Path):(mix Δ A B).cZ s p=A.cZ s p:=by unfold St.cZ;rw[lq hl hs]
theorem nb {t:Ty} {s:Nat} {p:Path}:(AV.al t s p).refs s=true:=by simp[AV.refs]
theorem ah9 {t:Ty} {s:Nat} {p:Path}:(AV.ad t s p).refs s=true:=by simp[AV.refs]
theorem MJ {t:Ty} {s:Nat} {p:Path} {lo hi:Nat}:(AV.cut t s p lo hi).refs s=true:=by simp[AV.refs]
theorem U3 (hl:B.length=A.length) {a:AV} (ha:∀ s,a.refs s=true→Δ s=true):(mix Δ A B).ta a=A.ta a:=by
 cases a with
 |al t s p=>simp only[St.ta];exact l9 hl (ha s nb) p
 |cut t s p lo hi=>simp only[St.ta];rw[l9 hl (ha s MJ) p]
 |v b ex=>cases ex<;>rfl
 |_=>rfl
theorem z7 (hl:B.length=A.length) (hA:aT Δ A) {x:Operand} (hx:l7 Δ x=true) (T:TypeId):(mix Δ A B).rd Θ T x=A.rd Θ T x:=by
 unfold St.rd
 rw[jn hl hx]
 cases e:A.dR Θ T x with
 |none=>rfl
 |some a=>exact U3 hl (gw hA hx e)
theorem z8 (hl:B.length=A.length) (hA:aT Δ A) {x:Operand} (hx:l7 Δ x=true):(mix Δ A B).lz Θ x=A.lz Θ x:=by
 unfold St.lz
 rw[z7 hl hA hx]
theorem cr {b:TV} {ex:List Path}:∀ s,(AV.v b ex).refs s=true→Δ s=true:=fun s hs=>by simp[AV.refs] at hs
def Mx (Δ:Nat→Bool) (A B:St) {α:Type} (X Y:Option (α×St)):Prop:=Y=X.map (fun q=>(q.1,mix Δ q.2 B))∧∀ q,X=some q→aT Δ q.2∧q.2.length=A.length
theorem aC {α:Type}:Mx Δ A B (α:=α) none none:=⟨rfl,fun _ h=>by cases h⟩
theorem gb {α:Type} {c:α} {A1 S1:St} (h:S1=mix Δ A1 B) (hc:aT Δ A1) (hl:A1.length=A.length):Mx Δ A B (some (c,A1)) (some (c,S1)):=⟨by rw[h];rfl,fun q hq=>by injection hq with hq;subst hq;exact⟨hc,hl⟩⟩
theorem dy {α:Type} {c:α} {d:Nat} {a:AV} (hl:B.length=A.length) (hB:aT Δ B) {A1:St} (hA:aT Δ A1) (z':A1.length=A.length) (hd:Δ d=true) (ha:∀ s,a.refs s=true→Δ s=true):
  Mx Δ A B (some (c,A1.put (some d) a)) (some (c,(mix Δ A1 B).put (some d) a)):=gb (td (by rw[hl,z']) hB hd a) (kh hA hd ha) (by rw[bV,z'])
theorem HG (hl:B.length=A.length) (hA:aT Δ A) (hB:aT Δ B) {x:Operand} (hx:l7 Δ x=true) {a:AV} (ha:∀ s,a.refs s=true→Δ s=true):Mx Δ A B (A.dI x a) ((mix Δ A B).dI x a):=by
 have qX:∀ s,AV.dead.refs s=true→Δ s=true:=fun s hs=>by simp[AV.refs] at hs
 cases a with
 |v b ex=>
  simp only[St.dI]
  cases b.m.bH with
  |true=>exact gb rfl hA rfl
  |false=>
   simp only[cond_false]
   cases ex with
   |nil=>
    cases x with
    |tmp i=>exact dy hl hB hA rfl hx qX
    |const c=>exact gb rfl hA rfl
    |func f=>exact gb rfl hA rfl
    |global g=>exact gb rfl hA rfl
   |cons _ _=>cases x<;>exact aC
 |al t s p=>
  have hs:=ha s nb
  simp only[St.dI]
  rw[l9 hl hs]
  cases hp:A.place s p with
  |none=>exact aC
  |some b=>
   simp only
   cases b.m.bH with
   |true=>exact gb rfl hA rfl
   |false=>
    simp only[cond_false]
    cases p with
    |nil=>exact dy hl hB hA rfl hs qX
    |cons st pp=>
     rw[lq hl hs]
     cases A.at s with
     |v r ex=>
      have h1:=xd (nQ hA s) s (st::pp)
      have l1:B.length=(A.weaken s).length:=by simp[St.weaken,hl]
      have l2:B.length=((A.weaken s).cover s (st::pp)).length:=by simp[St.weaken,St.cover,hl]
      refine gb ?_ (mq h1 hs cr) (by simp[St.weaken,St.cover])
      rw[uX hl hB hs,HF l1 hB hs,xb l2 hs]
     |_=>exact aC
 |cut t s p lo hi=>
  have hs:=ha s MJ
  cases p with
  |cons _ _=>exact aC
  |nil=>
   simp only[St.dI]
   rw[l9 hl hs]
   split
   ·cases Nat.beq lo 0 with
    |true=>exact dy hl hB hA rfl hs qX
    |false=>exact aC
   ·exact aC
 |_=>exact aC
theorem rS (hl:B.length=A.length) (hA:aT Δ A) (hB:aT Δ B) {x:Operand} (hx:l7 Δ x=true) (T:TypeId):Mx Δ A B (A.take Θ T x) ((mix Δ A B).take Θ T x):=by
 unfold St.take
 rw[jn hl hx]
 cases e:A.dR Θ T x with
 |none=>exact aC
 |some a=>exact HG hl hA hB hx (gw hA hx e)
theorem Aa (hB:aT Δ B) {ps:List (Nat×Operand)} (hx:∀ q∈ps,l7 Δ q.2=true):∀ (r:List TypeId) (j:Nat) {A:St},B.length=A.length→aT Δ A→Mx Δ A B (A.parts Θ ps r j) ((mix Δ A B).parts Θ ps r j)
 |[],j,A,hl,hA=>gb rfl hA rfl
 |T::r,j,A,hl,hA=>by
  simp only[St.parts]
  cases hf:ps.find? (fun q=>Nat.beq q.1 j) with
  |some q=>
   simp only
   obtain⟨h1,h2⟩:=rS (Θ:=Θ) hl hA hB (hx q (List.mem_of_find?_eq_some hf)) T
   rw[h1]
   cases ht:A.take Θ T q.2 with
   |none=>exact aC
   |some b=>
    obtain⟨b,A1⟩:=b
    obtain⟨c1,c2⟩:=h2 _ ht
    simp only[Option.map_some]
    obtain⟨k1,k2⟩:=Aa hB hx r (j+1) (by rw[c2,hl]) c1
    rw[k1]
    cases hp:St.parts Θ A1 ps r (j+1) with
    |none=>exact aC
    |some l=>
     obtain⟨d1,d2⟩:=k2 _ hp
     exact gb rfl d1 (by rw[d2,c2])
  |none=>
   simp only
   cases rE Θ T with
   |none=>exact aC
   |some z=>
    simp only
    obtain⟨k1,k2⟩:=Aa hB hx r (j+1) hl hA
    rw[k1]
    cases hp:St.parts Θ A ps r (j+1) with
    |none=>exact aC
    |some l=>
     obtain⟨d1,d2⟩:=k2 _ hp
     exact gb rfl d1 d2
end
end Go.Pv
namespace Go.Pv
set_option linter.unusedVariables false
set_option linter.unusedSimpArgs false
variable {h:Hint} {O:jf} {Θ:da} {hn:Hn} {ops:Array Oper} {ret:aa} {Δ:Nat→Bool} {A B:St}
theorem Yq (S S':St) (x:Operand) (a:AV):S.copy x a=S'.copy x a:=by cases a<;>rfl
theorem Yr {x:Operand} (hx:l7 Δ x=true) {a a':AV} (ha:∀ s,a.refs s=true→Δ s=true) (e:A.copy x a=some a'):∀ s,a'.refs s=true→Δ s=true:=fun s hs=>by
 cases a with
 |v b ex=>
  simp only[St.copy] at e
  cases hk:b.m.bH with
  |true=>rw[hk] at e;simp only[cond_true,Option.some.injEq] at e;subst e;simp[AV.refs] at hs
  |false=>
   rw[hk] at e
   simp only[cond_false] at e
   cases x with
   |tmp i=>
    simp only[Option.some.injEq] at e
    subst e
    simp only[AV.refs,Nat.beq_eq] at hs
    subst hs
    exact hx
   |_=>
    simp only at e
    split at e
    ·injection e with e;subst e;simp[AV.refs] at hs
    ·cases e
 |ua l=>cases e
 |dead=>cases e
 |_=>simp only[St.copy,Option.some.injEq] at e;subst e;exact ha s hs
theorem IN (hl:B.length=A.length) {x:Operand} {a:AV} (ha:∀ s,a.refs s=true→Δ s=true):(mix Δ A B).Hp x a=A.Hp x a:=by
 cases a with
 |v b ex=>
  obtain⟨t,m,y⟩:=b
  cases t<;>cases m<;>cases ex<;>rfl
 |al t s p=>
  cases t with
  |ptr t=>simp only[St.Hp];rw[ki hl (ha s nb)]
  |_=>rfl
 |_=>rfl
theorem D8 {x:Operand} (hx:l7 Δ x=true) {a:AV} (ha:∀ s,a.refs s=true→Δ s=true) {t:Ty} {s:Nat} {p:Path} (e:A.Hp x a=some (.pl t s p)):Δ s=true:=by
 cases a with
 |v b ex=>
  obtain⟨t',m,y⟩:=b
  simp only[St.Hp] at e
  split at e
  ·rename_i heq
   injection heq with h1 h2
   split at e
   ·cases e
   ·injection e with e;injection e with _ e _;subst e;exact hx
   ·cases e
  ·split at e
   ·injection e with e;injection e with _ e _;subst e;exact hx
   ·cases e
  all_goals first |(rename_i heq;cases heq;done) |(cases e;done)
 |al t' s' p'=>
  simp only[St.Hp] at e
  split at e
  ·rename_i heq;cases heq
  ·rename_i heq;cases heq
  ·rename_i heq
   injection heq with h1 h2 h3
   subst h2
   split at e
   ·cases e
   ·injection e with e;injection e with _ e _;subst e;exact ha _ nb
   ·cases e
  ·rename_i heq;cases heq
  ·cases e
 |ad t' s' p'=>
  simp only[St.Hp,Option.some.injEq,Tgt.pl.injEq] at e
  rw[←e.2.1];exact ha _ ah9
 |_=>simp[St.Hp] at e
theorem Q' (hl:B.length=A.length) {g:Tgt} (hg:∀ t s p,g=.pl t s p→Δ s=true):(mix Δ A B).loadAt g=A.loadAt g:=by
 cases g with
 |k a=>rfl
 |pl t s p=>simp only[St.loadAt];rw[ki hl (hg t s p rfl),l9 hl (hg t s p rfl)]
theorem MK {g:Tgt} (hg:∀ t s p,g=.pl t s p→Δ s=true) {a:AV} (e:A.loadAt g=some a):∀ s,a.refs s=true→Δ s=true:=fun s hs=>by
 cases g with
 |k b=>simp only[St.loadAt,Option.some.injEq] at e;subst e;simp[AV.refs] at hs
 |pl t s' p=>
  simp only[St.loadAt] at e
  split at e
  case h_2=>cases e
  rename_i b hb
  cases hk:b.m.bH with
  |true=>
   rw[hk] at e
   simp only[cond_true] at e
   split at e
   ·injection e with e;subst e;simp[AV.refs] at hs
   ·cases e
  |false=>
   rw[hk] at e
   simp only[cond_false,Option.some.injEq] at e
   subst e
   simp only[AV.refs,Nat.beq_eq] at hs
   subst hs
   exact hg _ _ _ rfl
section
variable (hl:B.length=A.length) (hA:aT Δ A) (hB:aT Δ B) {d:Nat} (hd:Δ d=true)
include hl hA hB hd
theorem Ys (T:TypeId):Mx Δ A B (pn Θ hn A (some d) T) (pn Θ hn (mix Δ A B) (some d) T):=by
 unfold pn
 cases rE Θ T with
 |none=>exact aC
 |some z=>
  simp only
  cases uQ z.t (hn.find (some d) z.m) with
  |true=>exact dy hl hB hA rfl hd cr
  |false=>exact aC
theorem abg (T:TypeId) {x:Operand} (hx:l7 Δ x=true):Mx Δ A B (gq Θ A (some d) T x) (gq Θ (mix Δ A B) (some d) T x):=by
 unfold gq
 rw[jn hl hx]
 cases e:A.dR Θ 0 x with
 |none=>exact aC
 |some a=>
  simp only
  have ha:=gw hA hx e
  rw[IN hl ha]
  cases et:A.Hp x a with
  |none=>exact aC
  |some g=>
   simp only
   have hg:∀ t s p,g=.pl t s p→Δ s=true:=fun t s p eg=>by subst eg;exact D8 hx ha et
   rw[Q' hl hg]
   cases el:A.loadAt g with
   |none=>exact aC
   |some r=>
    simp only
    cases Θ.is T g.ty with
    |true=>exact dy hl hB hA rfl hd (MK hg el)
    |false=>exact aC
theorem abh (T:TypeId) {x:Operand} (hx:l7 Δ x=true):Mx Δ A B (pk Θ A (some d) T x) (pk Θ (mix Δ A B) (some d) T x):=by
 unfold pk
 rw[jn hl hx,ga]
 have qX:∀ s,AV.dead.refs s=true→Δ s=true:=fun s hs=>by simp[AV.refs] at hs
 cases e:A.dR Θ T x with
 |none=>exact aC
 |some a=>
  have ha:=gw hA hx e
  cases a with
  |ua l=>
   cases x with
   |tmp i=>
    simp only
    cases (Nat.beq d i|| !Nat.blt d A.length) with
    |true=>exact aC
    |false=>
     simp only[cond_false]
     have h1:(mix Δ A B).put (some i) .dead=mix Δ (A.put (some i) .dead) B:=td hl hB hx .dead
     rw[h1]
     exact dy hl hB (kh hA hx qX) (bV _ _ _) hd (fun s hs=>by simp[AV.refs] at hs)
   |_=>exact aC
  |_=>
   simp only
   rw[Yq (mix Δ A B) A]
   split
   ·rename_i a' hc
    exact dy hl hB hA rfl hd (Yr hx ha hc)
   ·exact aC
theorem ML {x:Operand} (hx:l7 Δ x=true) (j:Nat):Mx Δ A B (fQ A (some d) x j) (fQ (mix Δ A B) (some d) x j):=by
 unfold fQ
 cases x with
 |tmp i=>
  simp only
  rw[lq hl hx]
  split
  ·rename_i l hi
   split
   ·rename_i a ha
    cases a.m.bH with
    |true=>exact dy hl hB hA rfl hd cr
    |false=>
     simp only[cond_false]
     cases Nat.beq d i with
     |true=>exact aC
     |false=>
      simp only[cond_false]
      have h1:(mix Δ A B).set i (.ua (l.set j none))=mix Δ (A.set i (.ua (l.set j none))) B:=xb hl hx _
      rw[h1]
      exact dy hl hB (mq hA hx (fun s hs=>by simp[AV.refs] at hs)) (by simp) hd cr
   ·exact aC
  ·exact aC
 |_=>exact aC
theorem D9 (T:TypeId) (n:Nat) {ps:List (Nat×Operand)} (hx:∀ q∈ps,l7 Δ q.2=true):Mx Δ A B (bC Θ hn A (some d) T n ps) (bC Θ hn (mix Δ A B) (some d) T n ps):=by
 unfold bC
 split
 ·cases (kC n ps&&Nat.ble n 1800) with
  |false=>exact aC
  |true=>
   simp only[cond_true]
   rename_i t e fs _
   obtain⟨k1,k2⟩:=Aa (Θ:=Θ) hB hx (List.replicate n e) 0 hl hA
   rw[k1]
   cases hp:St.parts Θ A ps (List.replicate n e) 0 with
   |none=>exact aC
   |some q=>
    obtain⟨l,A1⟩:=q
    obtain⟨c1,c2⟩:=k2 _ hp
    simp only[Option.map_some]
    cases l with
    |nil=>exact dy hl hB c1 c2 hd cr
    |cons a l=>
     simp only
     cases rF t a.m (a::l) with
     |none=>exact aC
     |some xs=>exact dy hl hB c1 c2 hd cr
 ·exact aC
theorem Ra {ts:List TypeId} {as:List Operand} (hx:∀ x∈as,l7 Δ x=true):Mx Δ A B (b5 Θ A (some d) ts as) (b5 Θ (mix Δ A B) (some d) ts as):=by
 unfold b5
 split
 ·rename_i x y T T'
  obtain⟨k1,k2⟩:=rS (Θ:=Θ) hl hA hB (hx x (by simp)) T
  rw[k1]
  cases ht:A.take Θ T x with
  |none=>exact aC
  |some q=>
   obtain⟨⟨t,m,xs⟩,A1⟩:=q
   obtain⟨c1,c2⟩:=k2 _ ht
   have z':B.length=A1.length:=by rw[c2,hl]
   simp only[Option.map_some]
   cases t with
   |sl t=>
    cases m with
    |o e tag me=>
     cases hf:Θ.find T with
     |none=>exact aC
     |some i=>
      simp only
      cases (decide (i.ty=.sl t)&&Nat.beq i.e e&&Θ.is T' (.sl t)) with
      |false=>exact aC
      |true=>
       simp only[cond_true]
       cases me.bH with
       |true=>
        simp only[cond_true]
        rw[z7 z' c1 (hx y (by simp))]
        split
        ·rename_i t' m' ys _
         cases m'.Ho.bH with
         |false=>exact aC
         |true=>
          simp only[cond_true]
          split
          ·exact dy hl hB c1 c2 hd cr
          ·exact aC
        ·exact aC
       |false=>
        simp only[cond_false]
        obtain⟨j1,j2⟩:=rS (Θ:=Θ) z' c1 hB (hx y (by simp)) T'
        rw[j1]
        cases hy:A1.take Θ T' y with
        |none=>exact aC
        |some q=>
         obtain⟨⟨t',m',ys⟩,A2⟩:=q
         obtain⟨d1,d2⟩:=j2 _ hy
         simp only[Option.map_some]
         cases t' with
         |sl t'=>
          simp only
          split
          ·split
           ·exact dy hl hB d1 (by rw[d2,c2]) hd cr
           ·exact aC
          ·exact aC
         |_=>exact aC
    |_=>exact aC
   |_=>exact aC
 ·exact aC
theorem MM {ts:List TypeId} {as:List Operand} (hx:∀ x∈as,l7 Δ x=true):Mx Δ A B (fR Θ A (some d) ts as) (fR Θ (mix Δ A B) (some d) ts as):=by
 unfold fR
 split
 ·rename_i x y T T'
  rw[jn hl (hx x (by simp))]
  split
  ·rename_i t s st pp dG
   have hs:=gw hA (hx x (by simp)) dG s nb
   rw[lq hl hs]
   split
   ·rename_i r ex dx
    split
    ·rename_i t e tag me xs i _ _
     cases (decide (i.ty=.sl t)&&Nat.beq i.e e&&Θ.is T' (.sl t)&&me.bH) with
     |false=>exact aC
     |true=>
      simp only[cond_true]
      have l1:B.length=(A.weaken s).length:=by simp[St.weaken,hl]
      have l2:B.length=((A.weaken s).cover s (st::pp)).length:=by simp[St.weaken,St.cover,hl]
      have l3:B.length=(((A.weaken s).cover s (st::pp)).set s (.v r (ex++[st::pp]))).length:=by simp[St.weaken,St.cover,hl]
      have e1:List.set (((mix Δ A B).weaken s).cover s (st::pp)) s (.v r (ex++[st::pp]))=mix Δ (((A.weaken s).cover s (st::pp)).set s (.v r (ex++[st::pp]))) B:=by
       rw[uX hl hB hs,HF l1 hB hs,xb l2 hs]
      have c1:aT Δ (((A.weaken s).cover s (st::pp)).set s (.v r (ex++[st::pp]))):=mq (xd (nQ hA s) s _) hs cr
      rw[e1,z7 l3 c1 (hx y (by simp))]
      split
      ·rename_i t' m' ys _
       cases m'.Ho.bH with
       |false=>exact aC
       |true=>
        simp only[cond_true]
        split
        ·exact dy hl hB c1 (by simp[St.weaken,St.cover]) hd cr
        ·exact aC
      ·exact aC
    ·exact aC
   ·exact aC
  ·exact aC
 ·exact aC
theorem ah' (op:BinOp) (T:TypeId) {x y:Operand} (hx:l7 Δ x=true) (hy:l7 Δ y=true):Mx Δ A B (DQ Θ A (some d) op T x y) (DQ Θ (mix Δ A B) (some d) op T x y):=by
 unfold DQ
 rw[z7 hl hA hx,z7 hl hA hy]
 have fin:∀ a b:TV,Mx Δ A B (match gK op a b with
   |some (g,r)=>some (g,A.put (some d) (.v r []))
   |none=>none) (match gK op a b with
   |some (g,r)=>some (g,(mix Δ A B).put (some d) (.v r []))
   |none=>none):=fun a b=>by
  cases gK op a b with
  |none=>exact aC
  |some q=>exact dy hl hB hA rfl hd cr
 cases A.rd Θ T x with
 |none=>exact aC
 |some a=>
  cases A.rd Θ T y with
  |none=>exact aC
  |some b=>
   simp only
   split
   ·cases Θ.is T .bool with
    |true=>exact fin a b
    |false=>exact aC
   ·cases Θ.is T a.t with
    |true=>exact fin a b
    |false=>exact aC
   ·exact fin a b
theorem G4 (T:TypeId) {x:Operand} (hx:l7 Δ x=true) (f:Nat):Mx Δ A B (gu Θ A (some d) T x f) (gu Θ (mix Δ A B) (some d) T x f):=by
 unfold gu
 rw[jn hl hx]
 cases e:A.dR Θ 0 x with
 |none=>exact aC
 |some a=>
  have ha:=gw hA hx e
  cases Θ.find T with
  |none=>exact aC
  |some i=>
   simp only
   cases Nat.blt f i.fs.length with
   |false=>exact aC
   |true=>
    simp only[cond_true]
    rw[IN hl ha]
    cases et:A.Hp x a with
    |none=>exact aC
    |some g=>
     cases g with
     |k b=>
      obtain⟨t,m,y⟩:=b
      simp only
      cases decide (i.ty=t) with
      |false=>exact aC
      |true=>
       simp only[cond_true]
       split
       ·exact dy hl hB hA rfl hd cr
       ·exact aC
     |pl t s p=>
      have hs:=D8 hx ha et
      simp only
      cases decide (i.ty=t) with
      |false=>exact aC
      |true=>
       simp only[cond_true]
       rw[ki hl hs]
       split
       ·exact dy hl hB hA rfl hd (fun s' h'=>by simp only[AV.refs,Nat.beq_eq] at h';rw[←h'];exact hs)
       ·exact aC
theorem G5 (T:TypeId) {x ix:Operand} (hx:l7 Δ x=true) (hi:l7 Δ ix=true):Mx Δ A B (bZ Θ A (some d) T x ix) (bZ Θ (mix Δ A B) (some d) T x ix):=by
 unfold bZ
 rw[jn hl hx,z8 hl hA hi]
 have hr:∀ {t:Ty} {s:Nat} {p:Path},Δ s=true→∀ s',(AV.ad t s p).refs s'=true→Δ s'=true:=fun hs s' h'=>by simp only[AV.refs,Nat.beq_eq] at h';rw[←h'];exact hs
 split
 ·rename_i t m xs ex n dG _
  cases Θ.is T (.sl t) with
  |false=>exact aC
  |true=>
   simp only[cond_true]
   split
   ·exact dy hl hB hA rfl hd cr
   ·rename_i j
    rw[ki hl hx]
    split
    ·exact dy hl hB hA rfl hd (hr hx)
    ·exact aC
   ·exact aC
 ·rename_i t s p n dG _
  have hs:=gw hA hx dG s nb
  cases Θ.is T (.sl t) with
  |false=>exact aC
  |true=>
   simp only[cond_true]
   rw[ki hl hs,ki hl hs]
   split
   ·exact dy hl hB hA rfl hd cr
   ·split
    ·exact dy hl hB hA rfl hd (hr hs)
    ·exact aC
   ·exact aC
 ·exact aC
theorem G6 (T:TypeId) {l c:Operand} (hx:l7 Δ l=true) (hc:l7 Δ c=true):Mx Δ A B (gv Θ A (some d) T l c) (gv Θ (mix Δ A B) (some d) T l c):=by
 unfold gv
 rw[z8 hl hA hx,z8 hl hA hc]
 split
 ·split
  ·split
   ·exact dy hl hB hA rfl hd cr
   ·exact aC
  ·exact aC
 ·exact aC
theorem MN (T T':TypeId) {x:Operand} (hx:l7 Δ x=true):Mx Δ A B (gD Θ A (some d) T T' x) (gD Θ (mix Δ A B) (some d) T T' x):=by
 unfold gD
 rw[z7 hl hA hx]
 split
 ·exact dy hl hB hA rfl hd cr
 ·exact dy hl hB hA rfl hd cr
 ·exact aC
end
theorem Yt (hl:B.length=A.length) (hA:aT Δ A) (hB:aT Δ B) (T:TypeId) {x y:Operand} (hx:l7 Δ x=true) (hy:l7 Δ y=true):Mx Δ A B (lF Θ A T x y) (lF Θ (mix Δ A B) T x y):=by
 unfold lF
 rw[jn hl hx]
 cases e:A.dR Θ 0 x with
 |none=>exact aC
 |some a=>
  have ha:=gw hA hx e
  simp only
  rw[IN hl ha]
  cases et:A.Hp x a with
  |none=>exact aC
  |some g=>
   cases g with
   |k b=>exact aC
   |pl t s p=>
    have hs:=D8 hx ha et
    simp only
    obtain⟨k1,k2⟩:=rS (Θ:=Θ) hl hA hB hy T
    rw[k1]
    cases ht:A.take Θ T y with
    |none=>exact aC
    |some q=>
     obtain⟨b,A1⟩:=q
     obtain⟨c1,c2⟩:=k2 _ ht
     have z':B.length=A1.length:=by rw[c2,hl]
     simp only[Option.map_some]
     cases Θ.is T b.t with
     |false=>exact aC
     |true=>
      simp only[cond_true]
      rw[lq z' hs]
      cases A1.at s with
      |v r ex=>
       simp only
       cases gn b p r.t r.m r.x with
       |none=>exact aC
       |some mz=>
        simp only
        cases ex.all (fun h=>!under h p) with
        |false=>exact aC
        |true=>
         simp only[cond_true]
         have l2:B.length=(A1.weaken s).length:=by simp[St.weaken,z']
         refine gb ?_ (mq (nQ c1 s) hs cr) (by simp[St.weaken,c2])
         rw[uX z' hB hs,xb l2 hs]
      |_=>exact aC
theorem Rb (hl:B.length=A.length) (hA:aT Δ A) (hB:aT Δ B) (T:TypeId) {y:Operand} (hy:l7 Δ y=true) {A1:St} (z':A1.length=A.length) (hA1:aT Δ A1):
  pq Θ (mix Δ A B) (mix Δ A1 B) T y=mix Δ (pq Θ A A1 T y) B∧aT Δ (pq Θ A A1 T y)∧(pq Θ A A1 T y).length=A.length:=by
 unfold pq
 rw[jn hl hy]
 split
 ·rename_i t s dG
  have hs:=gw hA hy dG s nb
  rw[lq hl hs,lq (by rw[hl,z']) hs]
  split
  ·rename_i t m xs _ _
   cases m.bH with
   |true=>exact⟨rfl,hA1,z'⟩
   |false=>exact⟨xb (by rw[hl,z']) hs _,mq hA1 hs cr,by simp[z']⟩
  ·exact⟨rfl,hA1,z'⟩
 ·exact⟨rfl,hA1,z'⟩
end Go.Pv
namespace Go.Pv
set_option linter.unusedVariables false
set_option linter.unusedSimpArgs false
variable {h:Hint} {O:jf} {Θ:da} {hn:Hn} {ops:Array Oper} {ret:aa} {Δ:Nat→Bool} {A B:St}
theorem Ab (hB:aT Δ B):∀ (xs:List Operand) (Ts:List TypeId) (ps:List Pass) {A:St},B.length=A.length→aT Δ A→(∀ x∈xs,l7 Δ x=true)→Mx Δ A B (fZ Θ A xs Ts ps) (fZ Θ (mix Δ A B) xs Ts ps)
 |[],_,_,A,hl,hA,_=>by simp only[fZ];exact gb rfl hA rfl
 |x::xs,[],_,A,hl,hA,_=>by simp only[fZ];exact aC
 |x::xs,T::Ts,[],A,hl,hA,_=>by simp only[fZ];exact aC
 |x::xs,T::Ts,p::ps,A,hl,hA,hx=>by
  simp only[fZ]
  cases p with
  |val=>
   simp only
   obtain⟨k1,k2⟩:=Ab hB xs Ts ps hl hA (fun y hy=>hx y (by simp[hy]))
   rw[k1]
   cases ht:fZ Θ A xs Ts ps with
   |none=>exact aC
   |some q=>obtain⟨c1,c2⟩:=k2 _ ht;exact gb rfl c1 c2
  |take=>
   simp only
   obtain⟨j1,j2⟩:=rS (Θ:=Θ) hl hA hB (hx x (by simp)) T
   rw[j1]
   cases hk:A.take Θ T x with
   |none=>exact aC
   |some q=>
    obtain⟨a,A1⟩:=q
    obtain⟨d1,d2⟩:=j2 _ hk
    simp only[Option.map_some]
    obtain⟨k1,k2⟩:=Ab hB xs Ts ps (by rw[d2,hl]) d1 (fun y hy=>hx y (by simp[hy]))
    rw[k1]
    cases ht:fZ Θ A1 xs Ts ps with
    |none=>exact aC
    |some q=>obtain⟨c1,c2⟩:=k2 _ ht;exact gb rfl c1 (by rw[c2,d2])
  |kT=>exact aC
theorem D' (hl:B.length=A.length):∀ {cq:List ID},(∀ c∈cq,∀ t s p,c=.pl t s p→Δ s=true)→pz (mix Δ A B) cq=pz A cq
 |[],_=>rfl
 |c::r,hc=>by
  simp only[pz]
  rw[D' hl (fun c' h'=>hc c' (by simp[h']))]
  have:Hq (mix Δ A B) c=Hq A c:=by
   cases c with
   |pl t s p=>simp only[Hq];rw[l9 hl (hc _ (by simp) t s p rfl)]
   |kv a=>rfl
  rw[this]
theorem Ac (hl:B.length=A.length) (hA:aT Δ A):∀ (xs:List Operand) (Ts:List TypeId) (l:List (Option TV)),(∀ x∈xs,l7 Δ x=true)→reads Θ (mix Δ A B) xs Ts l=reads Θ A xs Ts l
 |[],_,_,_=>by simp[reads]
 |x::xs,[],_,_=>by simp[reads]
 |x::xs,T::Ts,[],_=>by simp[reads]
 |x::xs,T::Ts,p::ps,hx=>by
  simp only[reads]
  rw[Ac hl hA xs Ts ps (fun y hy=>hx y (by simp[hy])),jn hl (hx x (by simp))]
  cases p with
  |some a=>rfl
  |none=>
   simp only
   cases e:A.dR Θ T x with
   |none=>rfl
   |some a=>
    have ha:=gw hA (hx x (by simp)) e
    cases a with
    |lE f cq=>
     simp only
     rw[D' hl (fun c hc t s p ec=>ha s (by
      simp only[AV.refs,List.any_eq_true]
      exact⟨c,hc,by rw[ec];simp⟩))]
    |_=>simp only;rw[U3 hl ha]
theorem Yu (hl:B.length=A.length) {x:Operand} (hx:l7 Δ x=true):uk (mix Δ A B) x=uk A x:=by
 cases x with
 |tmp i=>simp only[uk];rw[lq hl hx]
 |_=>rfl
theorem Ad (hl:B.length=A.length):∀ (xs:List Operand) (l:List (Option TV)) (as:List Arg),(∀ x∈xs,l7 Δ x=true)→jg (mix Δ A B) xs l as=jg A xs l as
 |[],_,_,_=>rfl
 |x::xs,[],_,_=>rfl
 |x::xs,p::ps,[],_=>rfl
 |x::xs,p::ps,r::rs,hx=>by simp only[jg,Ad hl xs ps rs (fun y hy=>hx y (by simp[hy])),Yu hl (hx x (by simp))]
def abi (Δ:Nat→Bool) (A B:St) (K K':St→Option aa):Prop:=∀ A1,aT Δ A1→A1.length=A.length→K' (mix Δ A1 B)=K A1
theorem xe (l:List TV):∀ s,(Hr l).refs s=true→Δ s=true:=fun s hs=>by rw[D3] at hs;cases hs
theorem abj (hl:B.length=A.length) (hA:aT Δ A) (hB:aT Δ B) {o:Oper} {d:Nat} (m5:o.dst=some d) (hd:Δ d=true) {f:FuncId} {as:List Operand} {ts:List TypeId} (hx:∀ x∈as,l7 Δ x=true) {K K':St→Option aa} (hK:abi Δ A B K K'):
  gN h O o f none as ts (mix Δ A B) K'=gN h O o f none as ts A K:=by
 unfold gN
 obtain⟨k1,k2⟩:=Ab (Θ:=h.tab) hB as ts (O.sig f) hl hA hx
 rw[k1]
 cases ht:fZ h.tab A as ts (O.sig f) with
 |none=>rfl
 |some q=>
  obtain⟨l,A1⟩:=q
  obtain⟨c1,c2⟩:=k2 _ ht
  have z':B.length=A1.length:=by rw[c2,hl]
  simp only[Option.map_some,rJ]
  rw[Ac z' c1 as ts l hx]
  cases reads h.tab A1 as ts l with
  |none=>rfl
  |some args=>
   simp only
   congr 1
   funext rt
   cases rt.refs with
   |cons _ _=>rfl
   |nil=>
    simp only
    rw[Ad z' as l args hx,m5,td z' hB hd]
    rw[hK _ (kh c1 hd (xe _)) (by rw[bV,c2])]
theorem Rc (hl:B.length=A.length) (hA:aT Δ A) (hB:aT Δ B) {s:Nat} (hs:Δ s=true) (b:TV) (p:Path):(mix Δ A B).pA s b p=(A.pA s b p).map (fun S=>mix Δ S B)∧∀ S,A.pA s b p=some S→aT Δ S∧S.length=A.length:=by
 cases p with
 |nil=>
  simp only[St.pA]
  refine⟨by rw[td hl hB hs];rfl,fun S e=>?_⟩
  injection e with e
  subst e
  exact⟨kh hA hs cr,bV _ _ _⟩
 |cons st pp=>
  simp only[St.pA]
  rw[lq hl hs]
  cases A.at s with
  |v r ex=>
   simp only
   cases gn b (st::pp) r.t r.m r.x with
   |none=>exact⟨rfl,fun _ e=>by cases e⟩
   |some q=>
    simp only
    refine⟨by rw[td hl hB hs];rfl,fun S e=>?_⟩
    injection e with e
    subst e
    exact⟨kh hA hs cr,bV _ _ _⟩
  |_=>exact⟨rfl,fun _ e=>by cases e⟩
theorem abk (hl:B.length=A.length) (hA:aT Δ A) (hB:aT Δ B) {o:Oper} {d:Nat} (m5:o.dst=some d) (hd:Δ d=true) {f:FuncId} {j:Nat} {as:List Operand} {ts:List TypeId} (hx:∀ x∈as,l7 Δ x=true) {K K':St→Option aa} (hK:abi Δ A B K K'):
  rL h O o f j as ts (mix Δ A B) K'=rL h O o f j as ts A K:=by
 unfold rL
 split
 case h_2=>rfl
 rename_i x T hxj _
 have hxx:=hx x (List.mem_of_getElem? hxj)
 rw[jn hl hxx]
 cases e:A.dR h.tab T x with
 |none=>rfl
 |some av=>
  simp only
  have ha:=gw hA hxx e
  obtain⟨k1,k2⟩:=HG hl hA hB hxx ha
  rw[k1]
  cases hp:j9 x av with
  |none=>cases A.dI x av<;>rfl
  |some sp=>
   obtain⟨s,p⟩:=sp
   have hs:Δ s=true:=by
    cases av with
    |v b ex=>
     cases x with
     |tmp i=>simp only[j9,Option.some.injEq,Prod.mk.injEq] at hp;rw[←hp.1];exact hxx
     |_=>simp[j9] at hp
    |al t s' p'=>simp only[j9,Option.some.injEq,Prod.mk.injEq] at hp;rw[←hp.1];exact ha _ nb
    |_=>simp[j9] at hp
   cases ht:A.dI x av with
   |none=>rfl
   |some q=>
    obtain⟨b,A1⟩:=q
    obtain⟨c1,c2⟩:=k2 _ ht
    have z':B.length=A1.length:=by rw[c2,hl]
    simp only[Option.map_some]
    cases (!b.m.bH&&eV b.t b.m) with
    |false=>rfl
    |true=>
     simp only[cond_true]
     rw[Ac z' c1 as ts _ hx]
     cases reads h.tab A1 as ts ((List.replicate as.length none).set j (some ⟨b.t,jh b.t b.m 0,b.x⟩)) with
     |none=>rfl
     |some args=>
      simp only
      rw[Ad z' as _ args hx]
      cases (rK b.t b.m||jg A1 as ((List.replicate as.length none).set j (some ⟨b.t,jh b.t b.m 0,b.x⟩)) args) with
      |false=>rfl
      |true=>
       simp only[cond_true]
       congr 1
       funext rt
       split
       case h_2=>rfl
       rename_i c _
       cases (rt.res.all fun d=>fK d.t d.m&&qV d.m) with
       |false=>rfl
       |true=>
        simp only[cond_true]
        split
        case isFalse=>rfl
        split
        case isFalse=>rfl
        obtain⟨r1,r2⟩:=Rc z' c1 hB hs ⟨b.t,b.m,ft b.t b.m b.x (‹c.t=b.t›▸c.x)⟩ p
        rw[r1]
        cases hr:A1.pA s ⟨b.t,b.m,ft b.t b.m b.x (‹c.t=b.t›▸c.x)⟩ p with
        |none=>rfl
        |some A2=>
         obtain⟨d1,d2⟩:=r2 _ hr
         simp only[Option.map_some]
         rw[m5,td (by rw[d2,c2,hl]) hB hd]
         exact hK _ (kh d1 hd (xe _)) (by rw[bV,d2,c2])
theorem oa (hl:B.length=A.length) (hA:aT Δ A) (hB:aT Δ B) {i:Nat} {o:Oper} (ho:ops[i]?=some o) (ht:dP Δ o=true) {K K':St→Option aa} (hK:abi Δ A B K K'):
  aS h O ops i (mix Δ A B) K'=aS h O ops i A K:=by
 unfold dP at ht
 simp only[Bool.and_eq_true] at ht
 obtain⟨⟨hg,hd⟩,hx⟩:=ht
 have hg:o.guard=none:=by
  cases hq:o.guard with
  |none=>rfl
  |some _=>rw[hq] at hg;cases hg
 by_cases bO:∃ T x y,o.op=.store T x y
 ·obtain⟨T,x,y,bK⟩:=bO
  have hdn:o.dst=none:=by
   cases hq:o.dst with
   |none=>rfl
   |some d=>unfold ah3 at hd;rw[hq,bK] at hd;cases hd
  rw[bK] at hx
  simp only[Bool.and_eq_true] at hx
  have e1:∀ S K,aS h O ops i S K=match lF h.tab S T x y with
    |some (g,S1)=>bif g then K (pq h.tab S S1 T y) else none
    |none=>none:=fun S K=>by
   unfold aS
   rw[ho]
   simp only[hg]
   unfold gO
   rw[bK]
   simp only[ev,bK,hdn]
   cases lF h.tab S T x y with
   |none=>rfl
   |some q=>rfl
  have hm:=Yt (Θ:=h.tab) hl hA hB T hx.1 hx.2
  rw[e1,e1,hm.1]
  cases he:lF h.tab A T x y with
  |none=>rfl
  |some q=>
   obtain⟨g,A1⟩:=q
   obtain⟨c1,c2⟩:=hm.2 _ he
   simp only[Option.map_some]
   obtain⟨s1,s2,s3⟩:=Rb (Θ:=h.tab) (A1:=A1) hl hA hB T hx.2 c2 c1
   rw[s1,hK _ s2 s3]
 obtain⟨d,m5⟩:∃ d,o.dst=some d:=by
  cases hq:o.dst with
  |none=>
   exfalso
   cases bK:o.op with
   |store T x y=>exact bO ⟨T,x,y,bK⟩
   |_=>simp[ah3,hq,bK] at hd
  |some d=>exact⟨d,rfl⟩
 have hd:Δ d=true:=by
  cases bK:o.op with
  |store T x y=>exact absurd ⟨T,x,y,bK⟩ bO
  |_=>simpa[ah3,m5,bK] using hd
 have key:∀ {GX:St→zN},Mx Δ A B (GX A) (GX (mix Δ A B))→(∀ S K,aS h O ops i S K=match GX S with
   |some (g,S1)=>bif g then K S1 else none
   |none=>none)→aS h O ops i (mix Δ A B) K'=aS h O ops i A K:=by
  intro GX hm hs
  rw[hs,hs,hm.1]
  cases he:GX A with
  |none=>rfl
  |some q=>
   obtain⟨g,A1⟩:=q
   obtain⟨c1,c2⟩:=hm.2 _ he
   simp only[Option.map_some]
   rw[hK A1 c1 c2]
 have GY:∀ S K,aS h O ops i S K=gO h O o S K:=fun S K=>by
  unfold aS
  rw[ho]
  simp only[hg]
 split at hx
 ·rename_i T x y bK;exact absurd ⟨T,x,y,bK⟩ bO
 ·rename_i T l c bK
  simp only[Bool.and_eq_true] at hx
  refine key (GX:=fun S=>gv h.tab S (some d) T l c) (G6 hl hA hB hd T hx.1 hx.2) fun S K=>?_
  rw[GY];unfold gO;rw[bK];simp only[ev,bK,m5];try rfl
 ·rename_i T bK
  refine key (GX:=fun S=>pn h.tab h.hn S (some d) T) (Ys hl hA hB hd T) fun S K=>?_
  rw[GY];unfold gO;rw[bK];simp only[ev,bK,m5];try rfl
 ·rename_i T n ps bK
  refine key (GX:=fun S=>bC h.tab h.hn S (some d) T n ps.toList) (D9 hl hA hB hd T n (List.all_eq_true.1 hx)) fun S K=>?_
  rw[GY];unfold gO;rw[bK];simp only[ev,bK,m5];try rfl
 ·rename_i T x bK
  refine key (GX:=fun S=>gq h.tab S (some d) T x) (abg hl hA hB hd T hx) fun S K=>?_
  rw[GY];unfold gO;rw[bK];simp only[ev,bK,m5];try rfl
 ·rename_i x bK
  refine key (GX:=fun S=>pk h.tab S (some d) o.type x) (abh hl hA hB hd _ hx) fun S K=>?_
  rw[GY];unfold gO;rw[bK];simp only[ev,bK,m5];try rfl
 ·rename_i x j bK
  refine key (GX:=fun S=>fQ S (some d) x j) (ML hl hA hB hd hx j) fun S K=>?_
  rw[GY];unfold gO;rw[bK];simp only[ev,bK,m5];try rfl
 ·rename_i op T x y T' bK
  simp only[Bool.and_eq_true,Bool.not_eq_true'] at hx
  obtain⟨h1,h2,h3⟩:=hx
  refine key (GX:=fun S=>DQ h.tab S (some d) op T x y) (ah' hl hA hB hd op T h1 h2) fun S K=>?_
  rw[GY]
  unfold gO
  split
  ·rename_i e;rw[bK] at e;cases e
  ·rename_i e;rw[bK] at e;cases e
  ·rename_i e;rw[bK] at e;rw[bK] at h3;injection e with e1 e2 e3 e4 e5;subst e4;simp[pB] at h3
  ·rename_i e;rw[bK] at e;rw[bK] at h3;injection e with e1 e2 e3 e4 e5;subst e4;simp[pB] at h3
  ·simp only[ev,bK,m5];try rfl
 ·rename_i T x f bK
  refine key (GX:=fun S=>gu h.tab S (some d) T x f) (G4 hl hA hB hd T hx f) fun S K=>?_
  rw[GY];unfold gO;rw[bK];simp only[ev,bK,m5];try rfl
 ·rename_i T x ix bK
  simp only[Bool.and_eq_true] at hx
  refine key (GX:=fun S=>bZ h.tab S (some d) T x ix) (G5 hl hA hB hd T hx.1 hx.2) fun S K=>?_
  rw[GY];unfold gO;rw[bK];simp only[ev,bK,m5];try rfl
 ·rename_i T T' x bK
  refine key (GX:=fun S=>gD h.tab S (some d) T T' x) (MN hl hA hB hd T T' hx) fun S K=>?_
  rw[GY];unfold gO;rw[bK];simp only[ev,bK,m5];try rfl
 ·rename_i as ts bK
  have xf:=List.all_eq_true.1 hx
  refine key (GX:=fun S=>match b5 h.tab S (some d) ts.toList as.toList with
   |some r=>some r
   |none=>fR h.tab S (some d) ts.toList as.toList) ?_ fun S K=>?_
  ·have h1:=Ra (Θ:=h.tab) (ts:=ts.toList) hl hA hB hd xf
   have h2:=MM (Θ:=h.tab) (ts:=ts.toList) hl hA hB hd xf
   refine⟨?_,fun q hq=>?_⟩
   ·show(match b5 h.tab (mix Δ A B) (some d) ts.toList as.toList with
     |some r=>some r
     |none=>fR h.tab (mix Δ A B) (some d) ts.toList as.toList)=_
    rw[h1.1]
    cases b5 h.tab A (some d) ts.toList as.toList with
    |none=>exact h2.1
    |some r=>rfl
   ·split at hq
    ·rename_i r hr
     injection hq with hq
     subst hq
     exact h1.2 _ hr
    ·exact h2.2 _ hq
  ·rw[GY];unfold gO;rw[bK];simp only[ev,bK,m5];try rfl
 ·rename_i f as ts bK
  have xf:=List.all_eq_true.1 hx
  rw[GY,GY]
  unfold gO
  rw[bK]
  simp only
  cases uT (O.sig f) 0 with
  |none=>exact abj hl hA hB m5 hd xf hK
  |some j=>exact abk hl hA hB m5 hd xf hK
 ·cases hx
end Go.Pv
namespace Go.Pv
set_option linter.unusedVariables false
set_option linter.unusedSimpArgs false
variable {h:Hint} {O:jf} {Θ:da} {ops:Array Oper} {ret:aa} {Δ:Nat→Bool} {A B S:St} {K:St→Option aa}
theorem HI {o:Oper} (ht:dP Δ o=true):pB o.op=false:=by
 unfold dP at ht
 simp only[Bool.and_eq_true] at ht
 have hx:=ht.2
 split at hx
 all_goals first |(rename_i bK;rw[bK];rfl) |(simp only[Bool.and_eq_true,Bool.not_eq_true'] at hx;exact hx.2.2) |cases hx
theorem Re (hl:B.length=A.length) (hA:aT Δ A) (hB:aT Δ B):aT Δ (mix Δ A B):=fun i s hs=>by
 rw[kg hl] at hs
 cases hi:Δ i with
 |true=>rw[hi] at hs;rw[←hi];exact hA i s hs
 |false=>rw[hi] at hs;rw[←hi];exact hB i s hs
theorem MO (d:List Nat):(fun i=>!QX d i)=Yg d:=by funext i;simp[QX]
theorem uY {d:List Nat}:aT (QX d) S↔aT (Yg d) S:=
 ⟨fun h=>by have:=h.not;rwa [MO] at this,fun h=>h.not⟩
theorem Ea (hS:aT Δ S) {i:Nat} {o:Oper} (ho:ops[i]?=some o) (ht:dP Δ o=true) (c:St→Bool) (hc:∀ X,aT Δ X→c X=true):
  aS h O ops i S K=aS h O ops i S (fun X=>bif c X then K X else none):=by
 have h1:=oa (h:=h) (O:=O) (A:=S) (B:=S) rfl hS hS ho ht (K:=fun A1=>open Classical in if aT Δ A1 then K (mix Δ A1 S) else none) (K':=K) (fun A1 hA hl=>(if_pos hA).symm)
 have h2:=oa (h:=h) (O:=O) (A:=S) (B:=S) rfl hS hS ho ht (K:=fun A1=>open Classical in if aT Δ A1 then K (mix Δ A1 S) else none) (K':=fun X=>bif c X then K X else none) (fun A1 hA hl=>by
  show(bif c (mix Δ A1 S) then K (mix Δ A1 S) else none)=open Classical in if aT Δ A1 then K (mix Δ A1 S) else none
  rw[if_pos hA,hc _ (Re (by rw[hl]) hA hS)];rfl)
 rw[D7] at h1 h2
 rw[h1,h2]
theorem MP (hS:aT Δ S) {i:Nat} {o:Oper} (ho:ops[i]?=some o) (ht:dP Δ o=true):
  aS h O ops i S K=aS h O ops i S (fun X=>bif Nat.beq X.length S.length then K X else none):=by
 have h1:=oa (h:=h) (O:=O) (A:=S) (B:=S) rfl hS hS ho ht (K:=fun A1=>K (mix Δ A1 S)) (K':=K) (fun A1 hA hl=>rfl)
 have h2:=oa (h:=h) (O:=O) (A:=S) (B:=S) rfl hS hS ho ht (K:=fun A1=>K (mix Δ A1 S)) (K':=fun X=>bif Nat.beq X.length S.length then K X else none) (fun A1 hA hl=>by
  show(bif Nat.beq (mix Δ A1 S).length S.length then K (mix Δ A1 S) else none)=K (mix Δ A1 S)
  rw[ga,hl,Nat.beq_refl];rfl)
 rw[D7] at h1 h2
 rw[h1,h2]
theorem HJ (hS:aT Δ S) {i j:Nat} {oi oj:Oper} (hi:ops[i]?=some oi) (hj:ops[j]?=some oj) (ti:dP Δ oi=true) (tj:dP (fun i=>!Δ i) oj=true):
  aS h O ops i S (fun S1=>aS h O ops j S1 K)=aS h O ops i S (fun A1=>aS h O ops j S (fun B1=>K (mix Δ A1 B1))):=by
 have h1:=oa (h:=h) (O:=O) (A:=S) (B:=S) rfl hS hS hi ti (K':=fun S1=>aS h O ops j S1 K) (K:=fun A1=>aS h O ops j S (fun B1=>K (mix Δ A1 B1))) (fun A1 hA hl=>by
  have h2:=oa (h:=h) (O:=O) (Δ:=fun i=>!Δ i) (A:=S) (B:=A1) hl hS.not hA.not hj tj (K':=K) (K:=fun B1=>K (mix Δ A1 B1)) (fun B1 hB hlB=>by rw[IM (by rw[hl,hlB])])
  rw[IM (by rw[hl])] at h2
  exact h2)
 rw[D7] at h1
 exact h1
theorem Eb (hO:n5 O) (hS:aT Δ S) {i j:Nat} {oi oj:Oper} (hi:ops[i]?=some oi) (hj:ops[j]?=some oj) (ti:dP Δ oi=true) (tj:dP (fun i=>!Δ i) oj=true):
  aS h O ops i S (fun S1=>aS h O ops j S1 K)=aS h O ops j S (fun S1=>aS h O ops i S1 K):=by
 have tn:(fun i=>!(!Δ i))=Δ:=by funext i;simp
 rw[HJ hS hi hj ti tj,HJ (Δ:=fun i=>!Δ i) hS.not hj hi tj (by rw[tn];exact ti)]
 obtain⟨ri,h1⟩:=iD (h:=h) (O:=O) (ops:=ops) hO i (fun o ho=>by rw[hi] at ho;injection ho with ho;subst ho;exact HI ti) S
 obtain⟨rj,h2⟩:=iD (h:=h) (O:=O) (ops:=ops) hO j (fun o ho=>by rw[hj] at ho;injection ho with ho;subst ho;exact HI tj) S
 -- the lengths are the same
 have l1:=fun K=>MP (h:=h) (O:=O) (K:=K) hS hi ti
 have l2:=fun K=>MP (h:=h) (O:=O) (K:=K) hS.not hj tj
 cases ri with
 |none=>simp only[h1,h2,Option.bind_none];cases rj<;>rfl
 |some A1=>
  cases rj with
  |none=>simp only[h1,h2,Option.bind_none,Option.bind_some]
  |some B1=>
   simp only[h1,h2,Option.bind_some] at l1 l2 ⊢
   have hA:A1.length=S.length:=by
    have:=l1 (fun _=>some ⟨[],[]⟩)
    cases hq:Nat.beq A1.length S.length with
    |true=>exact Nat.eq_of_beq_eq_true hq
    |false=>rw[hq] at this;cases this
   have hB:B1.length=S.length:=by
    have:=l2 (fun _=>some ⟨[],[]⟩)
    cases hq:Nat.beq B1.length S.length with
    |true=>exact Nat.eq_of_beq_eq_true hq
    |false=>rw[hq] at this;cases this
   rw[IM (by rw[hA,hB])]
theorem Yv {S:St} {d:Nat} {a:AV} (h:S.at d=a) (hd:a≠ .dead):S.set d a=S:=by
 refine nP (List.length_set) fun i=>?_
 rw[cN]
 split
 ·rename_i hi
  rw[hi.1,h]
 ·rfl
theorem put_comm {S:St} {a b:Nat} {u v:AV} (uc:a≠b) (hu:∀ d,u.refs d=false) (hv:∀ d,v.refs d=false):(S.put (some a) u).put (some b) v=(S.put (some b) v).put (some a) u:=by
 refine nP (by simp only[bV]) fun i=>?_
 have hV:∀ (S:St) (a b:Nat) (u:AV),a≠b→((S.put (some a) u).at b).zM=(S.at b).zM:=fun S a b u uc=>by
  rw[dL,if_neg (fun e=>uc e.1.symm)]
  cases hr:(S.at b).refs a with
  |false=>rfl
  |true=>
   have:(S.at b).zM=false:=by cases hx:S.at b<;>first |rfl |(rw[hx] at hr;simp[AV.refs] at hr)
   rw[this]
   cases (S.at a).zM with
   |true=>rfl
   |false=>exact this
 simp only[dL,bV,hu,hv,cond_false]
 have hVa:=hV S b a v (Ne.symm uc)
 have hVb:=hV S a b u uc
 simp only[dL,hu,hv,cond_false] at hVa hVb
 rw[hVa,hVb]
 by_cases h1:i=a
 ·subst h1
  by_cases hl:i<S.length
  ·rw[if_neg (fun e=>uc e.1),if_pos ⟨rfl,hl⟩,if_pos ⟨rfl,hl⟩,hu];rfl
  ·rw[if_neg (fun e=>uc e.1),if_neg (fun e=>hl e.2),if_neg (fun e=>hl e.2),if_neg (fun e=>uc e.1),HE (S:=S) (i:=i) (by omega)]
   simp[AV.refs]
 ·by_cases h2:i=b
  ·subst h2
   by_cases hl:i<S.length
   ·rw[if_pos ⟨rfl,hl⟩,if_neg (fun e=>h1 e.1),if_pos ⟨rfl,hl⟩,hv];rfl
   ·rw[if_neg (fun e=>hl e.2),if_neg (fun e=>h1 e.1),if_neg (fun e=>h1 e.1),if_neg (fun e=>hl e.2),HE (S:=S) (i:=i) (by omega)]
    simp[AV.refs]
  ·rw[if_neg (fun e=>h2 e.1),if_neg (fun e=>h1 e.1),if_neg (fun e=>h1 e.1),if_neg (fun e=>h2 e.1)]
   have dr:∀ d,AV.dead.refs d=false:=fun _=>rfl
   cases hra:(S.at i).refs a<;>cases hrb:(S.at i).refs b<;>cases (S.at a).zM<;>cases (S.at b).zM<;>simp only[hra,hrb,dr,Bool.and_true,Bool.and_false,Bool.true_and,Bool.false_and,cond_true,cond_false]
theorem xg {S:St} {a x:Nat} {u t:AV} (U0:a≠x) (ht:∀ d,t.refs d=false) (hx:∀ d,(S.at x).refs d=false):List.set (S.put (some a) u) x t=St.put (S.set x t) (some a) u:=by
 refine nP (by simp only[bV,List.length_set]) fun i=>?_
 have h1:(St.at (S.set x t) a).zM=(S.at a).zM:=by rw[cN,if_neg (fun e=>U0 e.1)]
 rw[cN,bV,dL,dL,List.length_set,h1]
 by_cases hi:i=x∧x<S.length
 ·rw[if_pos hi,if_neg (fun e=>U0 (e.1.symm.trans hi.1)),cN,if_pos hi,ht];rfl
 ·rw[if_neg hi,cN,if_neg hi]
theorem U4 {i:Nat} {o:Oper} {a x p:Nat} (ho:ops[i]?=some o) (hg:o.guard=none) (hd:o.dst=some a) (bK:o.op=.extract (.tmp x) p) (S:St) (K:St→Option aa):aS h O ops i S K=match fQ S (some a) (.tmp x) p with
  |some (g,S1)=>bif g then K S1 else none
  |none=>none:=by
 unfold aS
 rw[ho]
 simp only[hg]
 unfold gO
 rw[bK]
 simp only[ev,bK,hd]
 try rfl
theorem aia {i j:Nat} {oi oj:Oper} (hi:ops[i]?=some oi) (hj:ops[j]?=some oj) (hx:exB oi oj=true) (S:St) (K:St→Option aa):
  aS h O ops i S (fun S1=>aS h O ops j S1 K)=aS h O ops j S (fun S1=>aS h O ops i S1 K):=by
 unfold exB at hx
 split at hx
 case h_2=>cases hx
 rename_i a b x p y q g1 g2 d1 d2 o1 o2
 simp only[Bool.and_eq_true,Bool.not_eq_true'] at hx
 obtain⟨e1,e2,e3,e4,e5⟩:=hx
 have e1:=Nat.eq_of_beq_eq_true e1
 subst e1
 have e2:p≠q:=fun e=>by rw[e,Nat.beq_refl] at e2;cases e2
 have e3:a≠b:=fun e=>by rw[e,Nat.beq_refl] at e3;cases e3
 have e4:a≠x:=fun e=>by rw[e,Nat.beq_refl] at e4;cases e4
 have e5:b≠x:=fun e=>by rw[e,Nat.beq_refl] at e5;cases e5
 have bf:∀ {a x:Nat},a≠x→Nat.beq a x=false:=fun {a x} nM=>by
  cases hq:Nat.beq a x with
  |false=>rfl
  |true=>exact absurd (Nat.eq_of_beq_eq_true hq) nM
 -- one extraction,on its own
 have one:∀ (S:St) (a p:Nat),a≠x→fQ S (some a) (.tmp x) p=match S.at x with
   | .ua l=>(match l.getD p none with
    |some u=>some (true,St.put (S.set x (.ua (bif u.m.bH then l else l.set p none))) (some a) (.v u []))
    |none=>none)
   |_=>none:=fun S a p U0=>by
  unfold fQ
  simp only
  cases dx:S.at x with
  |ua l=>
   simp only
   cases l.getD p none with
   |none=>rfl
   |some u=>
    simp only
    cases u.m.bH with
    |true=>simp only[cond_true];rw[Yv dx (fun e=>by cases e)]
    |false=>simp only[cond_false,bf U0]
  |_=>rfl
 simp only[U4 hi g1 d1 o1,U4 hj g2 d2 o2,one _ _ _ e4,one _ _ _ e5]
 cases dx:S.at x with
 |ua l=>
  simp only
  have hxl:x<S.length:=by
   refine Classical.byContradiction fun hl=>?_
   rw[HE (S:=S) (i:=x) (Nat.le_of_not_lt hl)] at dx
   cases dx
  -- the tuple,behind the first
  have after:∀ (t:AV) (u:TV) (a:Nat),(∀ d,t.refs d=false)→a≠x→(St.put (S.set x t) (some a) (.v u [])).at x=t:=fun t u a ht U0=>by
   rw[dL,if_neg (fun e=>U0 e.1.symm),cN,if_pos ⟨rfl,hxl⟩,ht];rfl
  have nR:∀ (l:List (Option TV)) (p q:Nat) (c:Bool),p≠q→(bif c then l else l.set p none).getD q none=l.getD q none:=fun l p q c hpq=>by
   cases c with
   |true=>rfl
   |false=>simp only[cond_false,List.getD_eq_getElem?_getD];rw[List.getElem?_set_ne hpq]
  have MQ:∀ (l:List (Option TV)) (d:Nat),(AV.ua l).refs d=false:=fun _ _=>rfl
  have nv:∀ (b:TV) (d:Nat),(AV.v b []).refs d=false:=fun _ _=>rfl
  cases hp:l.getD p none with
  |none=>
   cases hq:l.getD q none with
   |none=>rfl
   |some w=>
    simp only[cond_true,after _ _ _ (MQ _) e5,nR _ _ _ _ (Ne.symm e2),hp]
  |some u=>
   cases hq:l.getD q none with
   |none=>simp only[cond_true,after _ _ _ (MQ _) e4,nR _ _ _ _ e2,hq]
   |some w=>
    simp only[cond_true,after _ _ _ (MQ _) e4,after _ _ _ (MQ _) e5,nR _ _ _ _ e2,nR _ _ _ _ (Ne.symm e2),hp,hq]
    congr 1
    rw[xg e4 (MQ _) (by rw[cN,if_pos ⟨rfl,hxl⟩];exact MQ _),xg e5 (MQ _) (by rw[cN,if_pos ⟨rfl,hxl⟩];exact MQ _),List.set_set,List.set_set,put_comm e3 (nv _) (nv _)]
    congr 3
    cases u.m.bH<;>cases w.m.bH<;>simp only[cond_true,cond_false]
    rw[List.set_comm _ _ e2]
 |_=>rfl
theorem uZ {ds:List (List Nat)}:lp ds S=true↔∀ d∈ds,aT (Yg d) S:=by
 unfold lp
 rw[List.all_eq_true]
 exact⟨fun h d hd=>iP.1 (h d hd),fun h d hd=>iP.2 (h d hd)⟩
theorem abl {ds:List (List Nat)} {o:Oper} {d:List Nat} (hd:d∈ds) (hs:DV ds o=true):dP (Yg d) o=true∨dP (QX d) o=true:=by
 unfold DV at hs
 simpa using List.all_eq_true.1 hs d hd
theorem u5 (hO:n5 O) {ds:List (List Nat)} (hw:lp ds S=true) {i:Nat} {o:Oper} (ho:ops[i]?=some o) (hs:DV ds o=true) (hn:pB o.op=false) (e:aS h O ops i S K=some ret):∃ X,(∀ K,aS h O ops i S K=K X)∧lp ds X=true∧K X=some ret:=by
 obtain⟨ro,h1⟩:=iD (h:=h) (O:=O) (ops:=ops) hO i (fun o' G1=>by rw[ho] at G1;injection G1 with G1;subst G1;exact hn) S
 cases ro with
 |none=>rw[h1] at e;cases e
 |some X=>
  refine⟨X,fun K=>h1 K,uZ.2 fun d hd=>?_,by rw[h1] at e;exact e⟩
  have hS:=uZ.1 hw d hd
  rcases abl hd hs with ht |ht
  ·have:=Ea (h:=h) (O:=O) (K:=fun _=>some ⟨[],[]⟩) hS ho ht (fun X=>kD (Yg d) X 0) (fun X hX=>iP.2 hX)
   simp only[h1,Option.bind_some] at this
   cases hc:kD (Yg d) X 0 with
   |true=>exact iP.1 hc
   |false=>rw[hc] at this;cases this
  ·have:=Ea (h:=h) (O:=O) (K:=fun _=>some ⟨[],[]⟩) (uY.2 hS) ho ht (fun X=>kD (Yg d) X 0) (fun X hX=>iP.2 (uY.1 hX))
   simp only[h1,Option.bind_some] at this
   cases hc:kD (Yg d) X 0 with
   |true=>exact iP.1 hc
   |false=>rw[hc] at this;cases this
theorem Yw (hO:n5 O) {ds:List (List Nat)} (hw:lp ds S=true) {i j:Nat} {oi oj:Oper} (hi:ops[i]?=some oi) (hj:ops[j]?=some oj) (hp:Yh ds oi oj=true∨exB oi oj=true):
  aS h O ops i S (fun S1=>aS h O ops j S1 K)=aS h O ops j S (fun S1=>aS h O ops i S1 K):=by
 rcases hp with hp |hp
 ·unfold Yh at hp
  obtain⟨d,hd,hp⟩:=List.any_eq_true.1 hp
  have hS:=uZ.1 hw d hd
  simp only[Bool.or_eq_true,Bool.and_eq_true] at hp
  rcases hp with⟨h1,h2⟩ |⟨h1,h2⟩
  ·exact Eb hO hS hi hj h1 h2
  ·exact Eb hO (uY.2 hS) hi hj h1 (by rw[MO];exact h2)
 ·exact aia hi hj hp S K
theorem HK (hO:n5 O) {ds:List (List Nat)} {j:Nat} {oj:Oper} (hj:ops[j]?=some oj):∀ (p r:List Nat) {S:St} {K:St→Option aa} {ret:aa},lp ds S=true→(∀ x∈p,∃ ox,ops[x]?=some ox∧DV ds ox=true∧pB ox.op=false∧(Yh ds ox oj=true∨exB ox oj=true))→
  m9 h O ops (p++j::r) S K=some ret→aS h O ops j S (fun S1=>m9 h O ops (p++r) S1 K)=some ret
 |[],r,S,K,ret,hw,hp,e=>e
 |x::p,r,S,K,ret,hw,hp,e=>by
  obtain⟨ox,hx,hs,hn,hc⟩:=hp x (by simp)
  simp only[List.cons_append,m9] at e ⊢
  obtain⟨X,h1,h2,h3⟩:=u5 hO hw hx hs hn e
  have h4:=HK hO hj p r h2 (fun y hy=>hp y (by simp[hy])) h3
  rw[←Yw hO hw hx hj hc,h1]
  exact h4
def aoP (ops:Array Oper) (as:List Nat) (ds:List (List Nat)) (i j:Nat):Prop:=∃ oi oj,ops[i]?=some oi∧ops[j]?=some oj∧i≠j∧(Nat.testBit (aX i as 0 0) j=true∨Yh ds oi oj=true∨exB oi oj=true)
theorem nS {as:List Nat} {ds:List (List Nat)}:∀ {l:List Nat},rM ops as ds l=true↔l.Pairwise (aoP ops as ds)
 |[]=>by simp[rM]
 |i::r=>by
  simp only[rM,Bool.and_eq_true,List.all_eq_true,List.pairwise_cons]
  rw[nS]
  refine and_congr ?_ Iff.rfl
  refine forall_congr' fun j=>?_
  refine imp_congr Iff.rfl ?_
  unfold aoP
  cases hi:ops[i]? with
  |none=>simp
  |some oi=>
   cases hj:ops[j]? with
   |none=>simp
   |some oj=>
    simp only[Bool.and_eq_true,Bool.not_eq_true',Bool.or_eq_true,Option.some.injEq]
    constructor
    ·rintro⟨h1,h2⟩
     exact⟨oi,oj,rfl,rfl,(fun e=>by rw[e,Nat.beq_refl] at h1;cases h1),h2⟩
    ·rintro⟨_,_,rfl,rfl,h1,h2⟩
     refine⟨?_,h2⟩
     cases hq:Nat.beq i j with
     |false=>rfl
     |true=>exact absurd (Nat.eq_of_beq_eq_true hq) h1
end Go.Pv
namespace Go.Pv
set_option linter.unusedVariables false
set_option linter.unusedSimpArgs false
def zc:Ty→List Value
 | .int k=>[.int k 0] | .bool=>[.bool false] | .str=>[.string ByteArray.empty] | .sl _=>[.slice none 0 0] | .ptr _=>[.pointer none]
 | .pair a b=>zc a++zc b | .unit=>[] | .arr n t=>(List.replicate n (zc t)).flatten
def gl:Path→Ty→Option Ty
 |[],t=>some t
 | .fst::p,.pair a _=>gl p a
 | .snd::p,.pair _ b=>gl p b
 |_,_=>none
def veq:Value→Value→Bool
 | .int k n,.int k' n'=>decide (k=k')&&decide (n=n')
 | .bool a,.bool b=>a==b
 | .string a,.string b=>a.data.toList==b.data.toList
 | .slice none a b,.slice none c d=>Nat.beq a c&&Nat.beq b d
 | .pointer none,.pointer none=>true
 |_,_=>false
def Rf:List Value→List Value→Bool
 |[],[]=>true
 |a::r,b::s=>veq a b&&Rf r s
 |_,_=>false
theorem aqg {a b:Value} (h:veq a b=true):a=b:=by
 unfold veq at h
 split at h<;>simp at h
 ·obtain⟨rfl,rfl⟩:=h;rfl
 ·subst h;rfl
 ·rename_i a b
  cases a;cases b
  simp at h
  rw[h]
 ·obtain⟨rfl,rfl⟩:=h;rfl
 ·rfl
theorem IP:∀ {a b:List Value},Rf a b=true→a=b
 |[],[],_=>rfl
 |a::r,b::s,h=>by
  simp only[Rf,Bool.and_eq_true] at h
  rw[aqg h.1,IP h.2]
 |[],_::_,h=>by simp[Rf] at h
 |_::_,[],h=>by simp[Rf] at h
def zOK (t:Ty) (z:Value):Bool:=match isAgg t,z with
 |true,.agg cs=>Rf cs.toList (zc t)
 |true,_=>false
 |false,z=>Rf [z] (zc t)
theorem Yx {t:Ty} {z:Value} (h:zOK t z=true):an t z (zc t):=by
 unfold zOK at h
 unfold an
 split at h
 ·rename_i ha
  rw[if_pos ha,←IP h]
 ·cases h
 ·rename_i ha
  rw[if_neg (by simp[ha]),←IP h]
def kU (Θ:da) (ty:Ty) (n:Nat):List Field→Nat→Bool
 |[],_=>true
 |f::r,k=>(match gl (m7 k n) ty with
  |some t=>Θ.is f.type t&&Nat.beq f.offset (aK (m7 k n) ty)&&Nat.blt 0 t.size
  |none=>false)&&kU Θ ty n r (k+1)
def mr (P:Program) (Θ:da) (i:TI):Bool:=match i.ty,P.underlying i.T with
 | .int k,some (.int k')=>decide (k=k')
 | .bool,some .bool=>true
 | .str,some .string=>true
 | .sl t,some (.slice e)=>Nat.beq e i.e&&Θ.is e t&&Nat.blt 0 t.size
 | .pair _ _, some (.struct fs) => decide (fs.toList.map (·.type) = i.fs) && kU Θ i.ty fs.size fs.toList 0 && !P.eqGuardType P.depth i.T && !P.stoodInHeld i.T && fs.toList.all (fun f => f.name != "_")
 |_,_=>false
def aoQ (i:TI) (inf:TypeInfo):Bool:=Nat.beq inf.size i.ty.size&&Nat.ble i.ty.size 9000&&Nat.ble inf.bytes (32*i.ty.size)&&Nat.ble inf.bytes 256&&Nat.blt 0 inf.bytes&&match inf.zero with
 |some z=>zOK i.ty z
 |none=>false
def Ty.ht:Ty→Nat
 | .pair a b=>max a.ht b.ht+1
 |_=>0
def uOK (i:TI):Bool:=Nat.ble i.ty.ht 9000&&match i.fs,i.ty with
 |[_],.pair _ .unit=>true
 |[_],_=>false
 |[],.pair _ _=>false
 |_,_=>true
def aqh (P:Program) (Θ:da) (i:TI):Bool:=((match P.info? i.T with
 |some inf=>aoQ i inf
 |none=>false)&&mr P Θ i)&&uOK i
def cM (P:Program) (Θ:da):Bool:=Θ.all (aqh P Θ)
structure auE (P:Program) (i:TI):Prop where
 small:i.ty.size≤9000
 out:∃ inf z,P.info? i.T=some inf∧inf.size=i.ty.size∧inf.bytes≤32*i.ty.size∧inf.bytes≤256∧0<inf.bytes∧inf.zero=some z∧an i.ty z (zc i.ty)
theorem xh {Θ:da} {T:TypeId} {i:TI} (h:Θ.find T=some i):i∈Θ∧i.T=T:=by
 induction Θ with
 |nil=>simp[da.find] at h
 |cons j r ih=>
  simp only[da.find] at h
  cases hb:Nat.beq j.T T with
  |true=>
   rw[hb] at h
   simp only[cond_true,Option.some.injEq] at h
   subst h
   exact⟨by simp,Nat.eq_of_beq_eq_true hb⟩
  |false=>
   rw[hb] at h
   simp only[cond_false] at h
   exact⟨List.mem_cons_of_mem _ (ih h).1,(ih h).2⟩
theorem cO {P:Program} {Θ:da} (hT:cM P Θ=true) {T:TypeId} {i:TI} (h:Θ.find T=some i):auE P i∧mr P Θ i=true∧i.T=T:=by
 have h1:=List.all_eq_true.1 hT i (xh h).1
 simp only[aqh,Bool.and_eq_true] at h1
 refine⟨?_,h1.1.2,(xh h).2⟩
 have h2:=h1.1.1
 split at h2
 ·rename_i inf hi
  simp only[aoQ,Bool.and_eq_true] at h2
  obtain⟨⟨⟨⟨⟨a,sm⟩,b⟩,b'⟩,b''⟩,c⟩:=h2
  split at c
  ·rename_i z hz
   exact⟨Nat.le_of_ble_eq_true sm,⟨inf,z,hi,Nat.eq_of_beq_eq_true a,Nat.le_of_ble_eq_true b,Nat.le_of_ble_eq_true b',Nat.lt_of_succ_le (Nat.le_of_ble_eq_true b''),hz,Yx c⟩⟩
  ·cases c
 ·cases h2
theorem aoR {P:Program} {Θ:da} (hT:cM P Θ=true) {T:TypeId} {i:TI} (h:Θ.find T=some i):uOK i=true:=by
 have h1:=List.all_eq_true.1 hT i (xh h).1
 simp only[aqh,Bool.and_eq_true] at h1
 exact h1.2
theorem dQ {Θ:da} {T:TypeId} {t:Ty} (h:Θ.is T t=true):∃ i,Θ.find T=some i∧i.ty=t:=by
 unfold da.is at h
 split at h
 ·rename_i i hi;exact⟨i,hi,by simpa using h⟩
 ·cases h
theorem lr {P:Program} {Θ:da} {i:TI} {t:Ty} (h:mr P Θ i=true) (ht:i.ty=.sl t):P.underlying i.T=some (.slice i.e)∧Θ.is i.e t=true∧0<t.size:=by
 unfold mr at h
 rw[ht] at h
 split at h<;>simp_all
 obtain⟨⟨a,b⟩,c⟩:=h
 rw[←a]
 exact b
theorem xi {P:Program} {Θ:da} {i:TI} {k:IntKind} (h:mr P Θ i=true) (ht:i.ty=.int k):P.underlying i.T=some (.int k):=by
 unfold mr at h
 rw[ht] at h
 split at h<;>simp_all
theorem xj {P:Program} {Θ:da} {i:TI} (h:mr P Θ i=true) (ht:i.ty=.bool):P.underlying i.T=some .bool:=by
 unfold mr at h
 rw[ht] at h
 split at h<;>simp_all
theorem pD {P:Program} {Θ:da} {i:TI} (h:mr P Θ i=true) (ht:i.ty=.str):P.underlying i.T=some .string:=by
 unfold mr at h
 rw[ht] at h
 split at h<;>simp_all
theorem mu {P : Program} {Θ : da} {i : TI} {a b : Ty} (h : mr P Θ i = true) (ht : i.ty = .pair a b) : ∃ fs, P.underlying i.T = some (.struct fs) ∧ fs.toList.map (·.type) = i.fs ∧ kU Θ i.ty fs.size fs.toList 0 = true ∧ P.eqGuardType P.depth i.T = false ∧ P.stoodInHeld i.T = false ∧ ∀ f ∈ fs, f.name ≠ "_" := by
 unfold mr at h
 rw[ht] at h
 split at h<;>simp_all
 intro f hf
 obtain⟨k,hk,rfl⟩:=Array.mem_iff_getElem.1 hf
 exact h.2 k hk
theorem xk {P:Program} {Θ:da} {i:TI} (h:mr P Θ i=true):(∃ d,P.underlying i.T=some d)∧(∀ t,i.ty≠ .ptr t)∧(∀ n t,i.ty≠ .arr n t)∧i.ty≠ .unit:=by
 unfold mr at h
 split at h<;>simp_all
theorem iQ {Θ:da} {ty:Ty} {n:Nat}:∀ {l:List Field} {k0:Nat},kU Θ ty n l k0=true→∀ k f,l[k]?=some f→∃ t,gl (m7 (k0+k) n) ty=some t∧Θ.is f.type t=true∧f.offset=aK (m7 (k0+k) n) ty∧0<t.size
 |[],_,_,k,f,h=>by simp at h
 |g::r,k0,iR,k,f,h=>by
  simp only[kU,Bool.and_eq_true] at iR
  cases k with
  |zero=>
   simp only[List.getElem?_cons_zero,Option.some.injEq] at h
   subst h
   have:=iR.1
   split at this
   ·rename_i t ht
    simp only[Bool.and_eq_true] at this
    exact⟨t,ht,this.1.1,Nat.eq_of_beq_eq_true this.1.2,Nat.lt_of_succ_le (Nat.le_of_ble_eq_true this.2)⟩
   ·cases this
  |succ k=>
   simp only[List.getElem?_cons_succ] at h
   have:=iQ iR.2 k f h
   rw[show k0+1+k=k0+(k+1) from by omega] at this
   exact this
theorem iy {P:Program} {Θ:da} (hT:cM P Θ=true) {T:TypeId} {t:Ty} (h:Θ.is T t=true):∃ inf,P.info? T=some inf∧inf.size=t.size∧P.cellsOf T=t.size:=by
 obtain⟨i,hi,rfl⟩:=dQ h
 obtain⟨⟨_,inf,z,h1,h2,_⟩,_,rfl⟩:=cO hT hi
 exact⟨inf,h1,h2,by simp[Program.cellsOf,h1,h2]⟩
theorem Rg {P:Program} {Θ:da} (hT:cM P Θ=true) {T:TypeId} {t:Ty} (h:Θ.is T t=true) (w:World):(Go.isAgg T).run P w=.ok (isAgg t) w:=by
 obtain⟨i,hi,rfl⟩:=dQ h
 obtain⟨_,hu,rfl⟩:=cO hT hi
 have hn:=xk hu
 unfold mr at hu
 unfold Go.isAgg
 split at hu<;>simp_all [underlying,program,isAgg,Sem.run]
end Go.Pv
namespace Go.Pv
set_option linter.unusedVariables false
set_option linter.unusedSimpArgs false
variable {w w':World} {A A':Nat→Prop} {H:Nat→Value} {tm rC:Nat→Value} {S S':St} {σ:Nat→Option Nat} {w0:World} {W0 Z:Nat→Prop} {a:Act} {own:Nat→Prop} {v:Value} {Θ:da}
theorem jo (g off n:Nat):(⟨g,off,none⟩:Addr).add n=⟨g,off+n,none⟩:=by
 unfold Addr.add
 split
 ·rename_i h;subst h;rfl
 ·rfl
theorem U5 {t:Ty} {xs:List t.I} {X:Option Addr} {c lo hi:Nat} (h:K w A (.sl t) xs [.slice X xs.length c]) (h1:lo≤hi) (h2:hi≤xs.length):
  K w A (.sl t) ((xs.take hi).drop lo) [.slice (if c=lo then X else X.map (·.add (lo*t.size))) (hi - lo) (c - lo)]:=by
 simp only[K] at h ⊢
 obtain⟨X',c',e,hc,h⟩:=h
 simp only[List.cons.injEq,Value.slice.injEq,and_true,true_and] at e
 obtain⟨rfl,rfl⟩:=e
 have hl:((xs.take hi).drop lo).length=hi - lo:=by rw[List.length_drop,List.length_take];omega
 refine⟨_,_,by rw[hl],by omega,fun hp=>?_⟩
 rw[hl] at hp
 obtain⟨g,off,cur,T,fr,rfl,hg,hw,ho,hj⟩:=h (by omega)
 have e1:(lo+(hi - lo))*t.size≤xs.length*t.size:=Nat.mul_le_mul_right _ (by omega)
 rw[Nat.add_mul] at e1
 refine⟨g,off+lo*t.size,cur,T,fr,?_,hg,hw,by rw[hl];omega,fun j GV=>?_⟩
 rotate_left
 ·have pg:j<hi - lo:=by rw[←hl];exact GV
  have:=hj (lo+j) (by omega)
  rw[show((xs.take hi).drop lo)[j]=xs[lo+j]'(by omega) from by simp]
  rw[show off+lo*t.size+j*t.size=off+(lo+j)*t.size from by rw[Nat.add_mul];omega]
  exact this
 ·rw[if_neg (by omega)]
  simp only[Option.map_some,jo]
theorem fS (h:aW σ w0 W0 Z H S a w) {t:Ty} {s:Nat} {p:Path} {r:TV} {cL:List Value} (hr:Ref (bR a) S t s p r cL):
  ∃ ex b cI cA,S.at s=.v r ex∧open_ p ex∧aY p r.t r.m r.x=some b∧b.t=t∧M w (Av σ Z) H r.t r.m r.x cL (fun g=>σ g=some s) ex∧
   aN w p r.t cL=some cI∧(∀ g,cA g→σ g=some s)∧M w (Av σ Z) H b.t b.m b.x cI cA (w5 p ex):=by
 obtain⟨⟨ex,h1,h2⟩,h3,⟨b,h4,h5⟩,h6⟩:=hr
 have hh:=h.holds s
 rw[h1] at hh
 obtain⟨cs,hm,hM⟩:=hh
 obtain rfl:=eL h6 hm
 obtain⟨cI,cA,k1,k2,k3⟩:=focus p hM h2 h3 h4
 exact⟨ex,b,cI,cA,h1,h2,h4,h5,hM,k1,k2,k3⟩
theorem c6 (h:aW σ w0 W0 Z H S a w) {t:Ty} {s:Nat} {p:Path} {r:TV} {cL cs:List Value} {b:TV} (hr:Ref (bR a) S t s p r cL) (hc:aN w p r.t cL=some cs) (hp:S.place s p=some b):
  b.t=t∧∃ cA,(∀ g,cA g→σ g=some s)∧M w (Av σ Z) H b.t b.m b.x cs cA []:=by
 obtain⟨ex,b',cI,cA,h1,h2,h3,h4,hM,k1,k2,k3⟩:=fS h hr
 unfold St.place at hp
 rw[h1] at hp
 simp only at hp
 cases fI:ex.all fun q=>!gp q p with
 |false=>rw[fI] at hp;cases hp
 |true=>
  rw[fI] at hp
  simp only[cond_true] at hp
  rw[h3] at hp
  injection hp with hp
  subst hp
  rw[k1] at hc
  injection hc with hc
  subst hc
  rw[uo (fun q hq=>by simpa using List.all_eq_true.1 fI q hq)] at k3
  exact⟨h4,cA,k2,k3⟩
theorem rT (h:aW σ w0 W0 Z H S a w) {av:AV} {b:TV} (hh:Holds w (Av σ Z) H (bR a) S own av v) (e:S.ta av=some b):
  ∃ cs,an b.t v cs∧K w (fun _=>False) b.t b.x cs∧(b.m.bH=true→K w (Av σ Z) b.t b.x cs):=by
 cases av with
 |v a ex=>
  cases ex with
  |cons _ _=>simp[St.ta] at e
  |nil=>
   simp only[St.ta,Option.some.injEq] at e
   subst e
   obtain⟨cs,h1,h2⟩:=hh
   exact⟨cs,h1,Q0 h2,fun hk=>fJ _ hk h2⟩
 |al t s p=>
  simp only[St.ta] at e
  obtain⟨r,cL,cs,hr,hc,hm⟩:=hh
  obtain⟨rfl,cA,k2,k3⟩:=c6 h hr hc e
  exact⟨cs,hm,Q0 k3,fun hk=>fJ _ hk k3⟩
 |cut t s p lo hi=>
  simp only[St.ta] at e
  obtain⟨r,cL,t',X,n,c,hr,rfl,hc,Yn,D5,rfl⟩:=hh
  cases hp:S.place s p with
  |none=>rw[hp] at e;cases e
  |some b'=>
   obtain⟨ht,cA,k2,k3⟩:=c6 h hr hc hp
   obtain⟨bt,bm,bx⟩:=b'
   simp only at ht
   subst ht
   rw[hp] at e
   simp only[Option.some.injEq] at e
   subst e
   have hK:=Q0 k3
   have hn:n=List.length bx:=by
    simp only[K] at hK
    obtain⟨_,_,e,_⟩:=hK
    simp only[List.cons.injEq,Value.slice.injEq,and_true] at e
    exact e.2.1
   subst hn
   exact⟨_,by simp[an,isAgg],U5 hK Yn D5,fun hk=>U5 (fJ _ hk k3) Yn D5⟩
 |_=>simp[St.ta] at e
theorem iz (h:aW σ w0 W0 Z H S a w) {T:TypeId} {x:Operand} {b:TV} (e:S.rd Θ T x=some b):
  ∃ cs,an b.t (a.eval x) cs∧K w (fun _=>False) b.t b.x cs∧(b.m.bH=true→K w (Av σ Z) b.t b.x cs):=by
 unfold St.rd at e
 split at e
 ·rename_i av dG
  exact rT h (bu h dG) e
 ·cases e
theorem c7 {k:IntKind} {v:Value} {cs:List Value} {x:Int} (h:an (.int k) v cs) (hk:K w A (.int k) x cs):v=.int k x:=by
 simp only[K] at hk;simp only[an,isAgg] at h;subst hk;simpa using h.symm
theorem c8 {v:Value} {cs:List Value} {x:Bool} (h:an .bool v cs) (hk:K w A .bool x cs):v=.bool x:=by
 simp only[K] at hk;simp only[an,isAgg] at h;subst hk;simpa using h.symm
theorem eY {v:Value} {cs:List Value} {x:ByteArray} (h:an .str v cs) (hk:K w A .str x cs):v=.string x:=by
 simp only[K] at hk;simp only[an,isAgg] at h;subst hk;simpa using h.symm
theorem ob {t:Ty} {v:Value} {cs:List Value} {x:List t.I} (h:an (.sl t) v cs) (hk:K w A (.sl t) x cs):∃ X c,v=.slice X x.length c∧cs=[.slice X x.length c]∧x.length≤c:=by
 have fo:=hk
 simp only[K] at fo
 obtain⟨X,c,rfl,hc,_⟩:=fo
 simp only[an,isAgg] at h
 exact⟨X,c,by simpa using h.symm,rfl,hc⟩
theorem iF (h:aW σ w0 W0 Z H S a w) {x:Operand} {n:Int} (e:S.lz Θ x=some n):∃ k,a.eval x=.int k n:=by
 unfold St.lz at e
 split at e
 ·rename_i k m n' hb
  injection e with e
  subst e
  obtain⟨cs,h1,h2,_⟩:=iz h hb
  exact⟨k,c7 h1 h2⟩
 ·cases e
theorem pE {t:Ty} {x:t.I} {v:Value} {cs:List Value} (h:an t v cs) (hk:K w A t x cs):Holds w A H tm S (fun _=>False) (.v ⟨t,.k,x⟩ []) v:=⟨cs,h,fW t hk⟩
theorem cU (k:IntKind) (n:Int):Holds w A H tm S (fun _=>False) (.v ⟨.int k,.k,n⟩ []) (.int k n):=pE (cs:=[.int k n]) (by simp[an,isAgg]) (by simp[K])
theorem cC (b:Bool):Holds w A H tm S (fun _=>False) (.v ⟨.bool,.k,b⟩ []) (.bool b):=pE (cs:=[.bool b]) (by simp[an,isAgg]) (by simp[K])
theorem HL (b:ByteArray):Holds w A H tm S (fun _=>False) (.v ⟨.str,.k,b⟩ []) (.string b):=pE (cs:=[.string b]) (by simp[an,isAgg]) (by simp[K])
end Go.Pv
namespace Go.Pv
set_option linter.unusedVariables false
set_option linter.unusedSimpArgs false
variable {P:Program} {w w':World} {A A':Nat→Prop} {H:Nat→Value} {tm rC:Nat→Value} {S S':St} {σ:Nat→Option Nat} {w0:World} {W0 Z:Nat→Prop} {a:Act} {own:Nat→Prop} {v:Value} {Θ:da} {dst:Option Nat} {g:Bool}
def IQ (P:Program) (w0:World) (W0 Z:Nat→Prop) (H:Nat→Value) (S':St) (a:Act) (dst:Option Nat) (w:World) (s:Sem Next):Prop:=
 ∃ w' v,(s.run P w=.ok (.value v) w'∨(v=undef∧s.run P w=.ok .skip w'))∧Rel w0 W0 Z H S' (a.put dst v) w'
def Ext (w w':World):Prop:=∀ g,g<w.heap.size→w'.heap[g]?=w.heap[g]?
theorem Ext.refl (w:World):Ext w w:=fun _ _=>rfl
theorem Ext.stays (h:Ext w w'):aO w w' A A:=⟨fun g _ hg=>h g hg,fun _ _ h=>h⟩
def gY (P:Program) (w0:World) (W0 Z:Nat→Prop) (H:Nat→Value) (S':St) (a:Act) (dst:Option Nat) (w:World) (s:Sem Next):Prop:=
 ∃ v,(∀ w2,Ext w w2→s.run P w2=.ok (.value v) w2)∧Rel w0 W0 Z H S' (a.put dst v) w
theorem gY.auF {s:Sem Next} (h:gY P w0 W0 Z H S' a dst w s):IQ P w0 W0 Z H S' a dst w s:=by
 obtain⟨v,h1,h2⟩:=h
 exact⟨w,v,.inl (h1 w (Ext.refl w)),h2⟩
theorem cn {s:Sem Next} {av:AV} (h:aW σ w0 W0 Z H S a w) (hr:∀ w2,Ext w w2→s.run P w2=.ok (.value v) w2) (hv:Holds w (Av σ Z) H (bR a) S (fun _=>False) av v):
  gY P w0 W0 Z H (S.put dst av) a dst w s:=⟨v,hr,_,h.pure hv⟩
def mv (P:Program) (w0:World) (W0 Z:Nat→Prop) (H:Nat→Value) (S':St) (a:Act) (dst:Option Nat) (w:World) (s:Sem Next):Prop:=
 ∃ v,(∀ w2,s.run P w2=.ok (.value v) w2)∧Rel w0 W0 Z H S' (a.put dst v) w
theorem mv.q {s:Sem Next} (h:mv P w0 W0 Z H S' a dst w s):gY P w0 W0 Z H S' a dst w s:=by
 obtain⟨v,h1,h2⟩:=h
 exact⟨v,fun w2 _=>h1 w2,h2⟩
theorem b6 {s:Sem Next} {av:AV} (h:aW σ w0 W0 Z H S a w) (hr:∀ w2,s.run P w2=.ok (.value v) w2) (hv:Holds w (Av σ Z) H (bR a) S (fun _=>False) av v):
  mv P w0 W0 Z H (S.put dst av) a dst w s:=⟨v,hr,_,h.pure hv⟩
def scalar:Ty→Bool
 | .int _=>true | .bool=>true | .str=>true |_=>false
theorem Ee {IG:Nat→Prop} {tm1:Nat→Value} {S2:St} {r:TV} {v1 v2:Value} (hs:scalar r.t=true) (h1:Holds w A H tm S own (.v r []) v1) (h2:Holds w' A' H tm1 S2 IG (.v r []) v2):v1=v2:=by
 obtain⟨rt,rm,rx⟩:=r
 obtain⟨cs,a1,a2⟩:=h1
 obtain⟨cI,b1,b2⟩:=h2
 cases rt<;>simp[scalar] at hs<;>simp only[M] at a2 b2
 ·rw[c7 a1 a2.2,c7 b1 b2.2]
 ·rw[c8 a1 a2.2,c8 b1 b2.2]
 ·rw[eY a1 a2.2,eY b1 b2.2]
theorem pF (h:aW σ w0 W0 Z H S a w) {T:TypeId} {x:Operand} {a' av:AV} (ho:S.dR Θ T x=some a') (hc:S.copy x a'=some av):
  Holds w (Av σ Z) H (bR a) S (fun _=>False) av (a.eval x):=by
 have hh:=bu h ho
 cases a' with
 |v b ex=>
  simp only[St.copy] at hc
  cases hk:b.m.bH with
  |true=>
   simp only[hk,cond_true,Option.some.injEq] at hc
   subst hc
   obtain⟨cs,h1,h2⟩:=hh
   obtain⟨bt,bm,bx⟩:=b
   refine⟨cs,h1,?_⟩
   exact nX hk (fJ _ hk h2)
  |false=>
   simp only[hk,cond_false] at hc
   cases x with
   |tmp i=>
    simp only[Option.some.injEq] at hc
    subst hc
    simp only[St.dR,Option.some.injEq] at ho
    obtain⟨cs,h1,h2⟩:=hh
    exact⟨b,cs,cs,⟨⟨ex,ho,fun q _ s r e=>by cases q<;>simp at e⟩,trivial,⟨b,rfl,rfl⟩,h1⟩,rfl,h1⟩
   |const c=>
    cases ex with
    |cons _ _=>simp at hc
    |nil=>
     simp only[Option.some.injEq] at hc
     subst hc
     obtain⟨cs,h1,h2⟩:=hh
     exact⟨cs,h1,aH (aO.refl _ _) _ (fun _ _ _=>rfl) (fun g hg _=>by obtain⟨i,hi,_⟩:=hg;cases hi) (fun _ h=>h) h2⟩
   |func f=>
    cases ex with
    |cons _ _=>simp at hc
    |nil=>simp[St.dR] at ho
   |global f=>
    cases ex with
    |cons _ _=>simp at hc
    |nil=>simp[St.dR] at ho
 |dead=>simp[St.copy] at hc
 |ua l=>simp[St.copy] at hc
 |undef=>simp only[St.copy,Option.some.injEq] at hc;subst hc;exact hh
 |al t s p=>simp only[St.copy,Option.some.injEq] at hc;subst hc;exact hh
 |ad t s p=>simp only[St.copy,Option.some.injEq] at hc;subst hc;exact hh
 |cut t s p lo hi=>simp only[St.copy,Option.some.injEq] at hc;subst hc;exact hh
 |lE f c=>simp only[St.copy,Option.some.injEq] at hc;subst hc;exact hh
theorem aib (h:aW σ w0 W0 Z H S a w) {o:Oper} {x:Operand} (ho:o.op=.move x) (hnt:∀ l,S.dR Θ o.type x≠some (.ua l)) (e:pk Θ S o.dst o.type x=some (true,S')):mv P w0 W0 Z H S' a o.dst w (execOp a.eval o):=by
 unfold pk at e
 split at e
 ·rename_i l hl
  exact absurd hl (hnt l)
 ·rename_i a' _ ha
  split at e
  ·rename_i av hv
   injection e with e
   injection e with _ e
   subst e
   exact b6 h (fun w2=>by simp only[execOp,ho];rfl) (pF h ha hv)
  ·cases e
 ·cases e
theorem abm {op:BinOp} {k k':IntKind} {x y:Int} {r:TV} (T:TypeId) (hk:k=k'∨op=.shl∨op=.shr) (e:ahY op k x y=some (true,r)):
  ∃ v,(binOp op T (.int k x) (.int k' y)).run P w=.ok v w∧Holds w A H tm S (fun _=>False) (.v r []) v:=by
 cases op<;>simp only[ahY,Option.some.injEq,Prod.mk.injEq,reduceCtorEq,true_and] at e
 case add=>
  obtain rfl:k=k':=by simpa using hk
  subst e;exact⟨_,by simp[binOp,Op.intArith],cU _ _⟩
 case sub=>
  obtain rfl:k=k':=by simpa using hk
  subst e;exact⟨_,by simp[binOp,Op.intArith],cU _ _⟩
 case mul=>
  obtain rfl:k=k':=by simpa using hk
  subst e;exact⟨_,by simp[binOp,Op.intArith],cU _ _⟩
 case quo=>
  obtain rfl:k=k':=by simpa using hk
  obtain⟨e0,rfl⟩:=e
  have h0: ¬y=0:=by simpa using e0
  exact⟨_,by simp[binOp,Op.intDiv,h0],cU _ _⟩
 case rem=>
  obtain rfl:k=k':=by simpa using hk
  obtain⟨e0,rfl⟩:=e
  have h0: ¬y=0:=by simpa using e0
  exact⟨_,by simp[binOp,Op.intDiv,h0],cU _ _⟩
 case and=>
  obtain rfl:k=k':=by simpa using hk
  subst e;exact⟨_,by simp[binOp,Op.intBits],cU _ _⟩
 case or=>
  obtain rfl:k=k':=by simpa using hk
  subst e;exact⟨_,by simp[binOp,Op.intBits],cU _ _⟩
 case xor=>
  obtain rfl:k=k':=by simpa using hk
  subst e;exact⟨_,by simp[binOp,Op.intBits],cU _ _⟩
 case eql=>
  obtain rfl:k=k':=by simpa using hk
  subst e;exact⟨_,by simp[binOp,Op.intCmp],cC _⟩
 case neq=>
  obtain rfl:k=k':=by simpa using hk
  subst e;exact⟨_,by simp[binOp,Op.intCmp],cC _⟩
 case lss=>
  obtain rfl:k=k':=by simpa using hk
  subst e;exact⟨_,by simp[binOp,Op.intCmp],cC _⟩
 case leq=>
  obtain rfl:k=k':=by simpa using hk
  subst e;exact⟨_,by simp[binOp,Op.intCmp],cC _⟩
 case gtr=>
  obtain rfl:k=k':=by simpa using hk
  subst e;exact⟨_,by simp[binOp,Op.intCmp],cC _⟩
 case geq=>
  obtain rfl:k=k':=by simpa using hk
  subst e;exact⟨_,by simp[binOp,Op.intCmp],cC _⟩
 case shl=>
  obtain⟨e0,rfl⟩:=e
  have h0: ¬y<0:=by
   have:0≤y:=by simpa using e0
   omega
  exact⟨_,by simp[binOp,Op.shift,h0],cU _ _⟩
 case shr=>
  obtain⟨e0,rfl⟩:=e
  have h0: ¬y<0:=by
   have:0≤y:=by simpa using e0
   omega
  exact⟨_,by simp[binOp,Op.shift,h0],cU _ _⟩
theorem abn {op:BinOp} {x y:ByteArray} {r:TV} (T:TypeId) (e:ahZ op x y=some (true,r)):
  ∃ v,(binOp op T (.string x) (.string y)).run P w=.ok v w∧Holds w A H tm S (fun _=>False) (.v r []) v:=by
 cases op<;>simp only[ahZ,Option.some.injEq,Prod.mk.injEq,reduceCtorEq,true_and] at e
 case add=>
  obtain⟨e0,rfl⟩:=e
  have h0:x.size+y.size≤9223372036854775807:=by simpa using e0
  refine⟨_,?_,HL _⟩
  rw[binOp_string_add]
  simp only[Op.stringOp,IntKind.max_i64]
  rw[if_neg (by omega)]
  rfl
 case eql=>subst e;exact⟨_,by rw[binOp_string_eql];rfl,cC _⟩
 case neq=>subst e;exact⟨_,by rw[binOp_string_neq];rfl,cC _⟩
theorem MR {op:UnOp} {b r:TV} {v:Value} {cs:List Value} (hm:an b.t v cs) (hK:K w (fun _=>False) b.t b.x cs) (e:ah0 op b=some r):
  ∃ u,(Op.unary op v).run P w=.ok u w∧Holds w A H tm S (fun _=>False) (.v r []) u:=by
 unfold ah0 at e
 split at e
 ·injection e with e;subst e
  obtain rfl:=c8 hm hK
  exact⟨_,rfl,cC _⟩
 ·injection e with e;subst e
  obtain rfl:=c7 hm hK
  exact⟨_,rfl,cU _ _⟩
 ·injection e with e;subst e
  obtain rfl:=c7 hm hK
  exact⟨_,by simp[Op.unary,Op.intBits],cU _ _⟩
 ·cases e
theorem auG (h:aW σ w0 W0 Z H S a w) {o:Oper} {op:UnOp} {T:TypeId} {x:Operand} (ho:o.op=.unOp op T x) (e:aqa Θ S o.dst op x=some (true,S')):gY P w0 W0 Z H S' a o.dst w (execOp a.eval o):=by
 unfold aqa at e
 split at e
 ·rename_i b hb
  split at e
  ·rename_i r hr
   injection e with e;injection e with _ e;subst e
   obtain⟨cs,h1,h2,_⟩:=iz h hb
   obtain⟨u,h3,h4⟩:=MR (P:=P) (A:=Av σ Z) (H:=H) (tm:=bR a) (S:=S) h1 h2 hr
   have hsc:scalar r.t=true:=by
    unfold ah0 at hr
    split at hr<;>first |(injection hr with hr;subst hr;rfl) |cases hr
   refine cn h (fun w2 hw=>?_) h4
   obtain⟨u2,k3,k4⟩:=MR (w:=w2) (P:=P) (A:=Av σ Z) (H:=H) (tm:=bR a) (S:=S) h1 (bP hw.stays _ h2) hr
   rw[Ee hsc h4 k4]
   simp[execOp,ho,k3]
  ·cases e
 ·cases e
theorem Ef (hT:cM P Θ=true) (h:aW σ w0 W0 Z H S a w) {o:Oper} {T T':TypeId} {x:Operand} (ho:o.op=.convert T T' x) (hk:(match Θ.find T' with
  |some i=>(match i.ty with
   | .int _=>true
   |_=>false)
  |none=>false)=true) (e:gD Θ S o.dst T T' x=some (true,S')):mv P w0 W0 Z H S' a o.dst w (execOp a.eval o):=by
 unfold gD at e
 split at e
 ·rename_i k m n i _ k' _ _ hb hi hj
  injection e with e;injection e with _ e;subst e
  obtain⟨cs,h1,h2,_⟩:=iz h hb
  have hv:=c7 h1 h2
  obtain⟨_,hu,rfl⟩:=cO hT hi
  obtain⟨_,th,hT'⟩:=cO hT hj
  obtain⟨d,hd⟩:=(xk hu).1
  have U6:=xi th rfl
  rw[hT'] at U6
  refine b6 h (v:=.int k' (k'.wrap n)) (fun w2=>?_) (cU _ _)
  simp[execOp,ho,hv,convert,run_underlying hd,run_underlying U6,Conv.intToInt]
 ·rename_i hj
  rw[hj] at hk
  cases hk
 ·cases e
theorem MS (hT:cM P Θ=true) (h:aW σ w0 W0 Z H S a w) {o:Oper} {T T':TypeId} {x:Operand} (ho:o.op=.convert T T' x) (e:gD Θ S o.dst T T' x=some (true,S')):gY P w0 W0 Z H S' a o.dst w (execOp a.eval o):=by
 have e0:=e
 unfold gD at e
 split at e
 ·rename_i hj
  exact(Ef hT h ho (by rw[hj]) e0).q
 ·rename_i m xs _ _ _ _ _ _ hb hi hj
  injection e with e;injection e with _ e;subst e
  obtain⟨cs,h1,h2,_⟩:=iz h hb
  obtain⟨X,c,hv,rfl,hc⟩:=ob h1 h2
  obtain⟨_,hu,hT0⟩:=cO hT hi
  obtain⟨_,th,hT'⟩:=cO hT hj
  obtain⟨hd,he,_⟩:=lr hu rfl
  have U6:=pD th rfl
  obtain⟨ie,hie,fw⟩:=dQ he
  obtain⟨_,hue,hTe⟩:=cO hT hie
  have hde:=xi hue fw
  simp only at hT0 hT' hd U6
  rw[hT0] at hd
  rw[hT'] at U6
  rw[hTe] at hde
  refine cn h (v:=.string (bytesOf xs)) (fun w2 hw=>?_) ⟨[.string (bytesOf xs)],by simp[an,isAgg],by simp[M,K,Md.bH]⟩
  have hK:=bP hw.stays _ h2
  simp only[execOp,ho,hv,Sem.run_bind]
  rw[run_convert_bytes_string w2 T T' _ X xs.length c hd hde U6]
  simp only[K] at hK
  obtain⟨X',c',e1,_,hx⟩:=hK
  simp only[List.cons.injEq,Value.slice.injEq,and_true] at e1
  obtain⟨rfl,_,rfl⟩:=e1
  by_cases h0:0<xs.length
  ·obtain⟨g,off,cur,T2,fr,rfl,_,rH,hlen,u6⟩:=hx h0
   rw[run_bytesToString w2 ⟨g,off,none⟩ xs.length c xs ?_]
   ·simp[bytesOf,Sem.run_pure]
   ·have:=run_loadCells_list (P:=P) (w:=w2) ⟨g,off,none⟩ (xs.map (Value.int .u8)) (fun j v hj=>?_)
    ·rwa [List.length_map] at this
    ·rw[List.getElem?_map] at hj
     cases pg:xs[j]? with
     |none=>rw[pg] at hj;cases hj
     |some n=>
      rw[pg] at hj
      simp only[Option.map_some,Option.some.injEq] at hj
      subst hj
      have rU:=(List.getElem?_eq_some_iff.1 pg).1
      have h3:=u6 j rU
      have hn:xs[j]=n:=(List.getElem?_eq_some_iff.1 pg).2
      simp only[K,Ty.size,Nat.mul_one] at h3
      rw[hn] at h3
      have h4:(cur.toList.drop (off+j)).head?=some (.int .u8 n):=by
       cases hd:cur.toList.drop (off+j) with
       |nil=>rw[hd] at h3;simp at h3
       |cons y r=>rw[hd] at h3;simp at h3;simp[h3]
      rw[List.head?_drop] at h4
      rw[Addr.add_lit]
      simp only[World.cell?,rH]
      rw[←Array.getElem?_toList,h4]
      rfl
  ·have:xs=[]:=List.eq_nil_of_length_eq_zero (by omega)
   subst this
   cases X with
   |none=>simp[Conv.bytesToString,bytesOf,Sem.run_pure]
   |some A=>
    show((Conv.bytesToString (Value.slice (some A) 0 c)).run P w2).andThen _=_
    rw[run_bytesToString w2 A 0 c [] (by simpa using run_loadCells_list (P:=P) (w:=w2) A [] (fun j v hj=>by simp at hj))]
    simp[bytesOf,Sem.run_pure]
 ·cases e
theorem Yy (x y:ByteArray):(x==y)=(x.toList==y.toList):=beq_toListBytes x y
theorem HM {t:Ty} (h:isAgg t=false):t.size=1:=by cases t<;>simp[isAgg] at h<;>rfl
theorem oc (hT:cM P Θ=true) {T:TypeId} {t:Ty} (ht:Θ.is T t=true) {cs:List Value} {off:Nat} (hlen:off+t.size≤cs.length):
  ∃ u,(part T cs.toArray off).run P w=.ok u w∧an t u ((cs.drop off).take t.size):=by
 have Q5:=Rg hT ht w
 obtain⟨inf,s1,s2,_⟩:=iy hT ht
 have hso:(sizeOf T).run P w=.ok t.size w:=by simp[sizeOf,typeInfo,s1,s2]
 cases hca:isAgg t with
 |true=>
  refine⟨.agg (cs.toArray.extract off (off+t.size)),?_,?_⟩
  ·rw[hca] at Q5
   unfold part
   simp only[Sem.run_bind,Q5,Result.andThen_ok,if_true,hso]
   rfl
  ·unfold an
   rw[if_pos hca]
   congr 1
   apply Array.toList_inj.1
   rw[Array.toList_extract,List.toList_toArray,List.toList_toArray,List.extract_eq_drop_take']
   rw[List.drop_take,Nat.add_sub_cancel_left]
 |false=>
  have h1:=HM hca
  have Rh:off<cs.length:=by omega
  refine⟨cs[off],?_,?_⟩
  ·rw[hca] at Q5
   unfold part
   simp only[Sem.run_bind,Q5,Result.andThen_ok,if_neg Bool.false_ne_true]
   rw[List.getElem?_toArray,List.getElem?_eq_getElem Rh]
   rfl
  ·unfold an
   rw[if_neg (by rw[hca];exact Bool.false_ne_true),h1,List.drop_eq_getElem_cons Rh,List.take_succ_cons,List.take_zero]
theorem MT:∀ (p q:Path) (t:Ty),gl (p++q) t=(gl p t).bind (gl q):=by
 intro p
 induction p with
 |nil=>intro q t;rfl
 |cons s p ih=>intro q t;cases s<;>cases t<;>first |rfl |exact ih q _
theorem Eg:∀ (p q:Path) (t u:Ty),gl p t=some u→aK (p++q) t=aK p t+aK q u:=by
 intro p
 induction p with
 |nil=>intro q t u h;simp only[gl,Option.some.injEq] at h;subst h;simp[aK]
 |cons s p ih=>
  intro q t u h
  cases s<;>cases t<;>simp only[gl,reduceCtorEq] at h
  ·simp only[List.cons_append,aK];exact ih q _ u h
  ·simp only[List.cons_append,aK];rw[ih q _ u h];omega
theorem aqi {k n:Nat} (h2:2≤n):m7 k n=if k+1=n then List.replicate k .snd else List.replicate k .snd++[.fst]:=by
 unfold m7
 have h1:Nat.beq n 1=false:=by
  cases hb:Nat.beq n 1 with
  |false=>rfl
  |true=>have:=Nat.eq_of_beq_eq_true hb;omega
 by_cases hkn:k+1=n
 ·rw[if_pos hkn,hkn,Nat.beq_refl,h1];rfl
 ·have:Nat.beq (k+1) n=false:=by
   cases hb:Nat.beq (k+1) n with
   |false=>rfl
   |true=>exact absurd (Nat.eq_of_beq_eq_true hb) hkn
  rw[if_neg hkn,this];rfl
theorem tk {t:Ty} {v:Value} {cs:List Value} (ha:isAgg t=true) (h:an t v cs):v=.agg cs.toArray:=by simpa[an,ha] using h
theorem xl (hT:cM P Θ=true):∀ (d:Nat) (t:Ty) {T:TypeId} {x y:t.I} {r:Bool} {cs cI:List Value} {u v:Value},Θ.is T t=true→My t x y=some r→an t u cs→an t v cI→K w (fun _=>False) t x cs→K w (fun _=>False) t y cI→t.ht<d→
  (Op.equalIn d T u v).run P w=.ok r w
 |0,_,_,_,_,_,_,_,_,_,_,_,_,_,_,_,hd=>absurd hd (Nat.not_lt_zero _)
 |d+1,t,T,x,y,r,cs,cI,u,v,hT1,he,hu,hv,hx,hy,hd=>by
  obtain⟨i,hi,fw⟩:=dQ hT1
  obtain⟨_,G7,h3⟩:=cO hT hi
  cases t with
  |int k=>
   have th:=xi G7 fw
   rw[h3] at th
   simp only[My,Option.some.injEq] at he
   subst he
   obtain rfl:=c7 hu hx
   obtain rfl:=c7 hv hy
   rw[run_equalIn_int w d T k k _ _ th]
   congr 1
  |bool=>
   have th:=xj G7 fw
   rw[h3] at th
   simp only[My,Option.some.injEq] at he
   subst he
   obtain rfl:=c8 hu hx
   obtain rfl:=c8 hv hy
   exact run_equalIn_bool' w d T _ _ th
  |str=>
   have th:=pD G7 fw
   rw[h3] at th
   simp only[My,Option.some.injEq] at he
   subst he
   obtain rfl:=eY hu hx
   obtain rfl:=eY hv hy
   rw[run_equalIn_string w d T _ _ th,Yy]
  |unit=>exact absurd fw (xk G7).2.2.2
  |sl t=>simp[My] at he
  |ptr t=>simp[My] at he
  |arr n t=>simp[My] at he
  |pair pa pb=>
   obtain⟨fs,Yz,hft,iR,hg,hsh,hnb⟩:=mu G7 fw
   rw[h3] at Yz hsh
   obtain rfl:=tk rfl hu
   obtain rfl:=tk rfl hv
   have hfo:P.fieldsOf T=fs:=by unfold Program.fieldsOf;rw[Yz]
   rw[run_equalIn_struct w d T _ _ (by rw[hfo];exact Yz) hsh,hfo]
   have hlx:=(lh _ hx).1
   have hly:=(lh _ hy).1
   rw[fw] at iR
   have B7:fs.toList.length=i.fs.length:=by rw[←hft,List.length_map]
   have hU:=aoR hT hi
   unfold uOK at hU
   rw[Bool.and_eq_true,fw] at hU
   have hU:=hU.2
   rcases Nat.lt_or_ge fs.size 2 with h2 |h2
   ·match hfi:i.fs,hfe:fs.toList with
    |[],_=>rw[hfi] at hU;simp at hU
    |[T1],[f]=>
     rw[hfi] at hU
     cases pb<;>simp at hU
     rw[hfe] at iR
     have hs1:fs.size=1:=by rw[←Array.length_toList,hfe];rfl
     simp only[kU,hs1,Bool.and_true] at iR
     have e1:m7 0 1=[.fst]:=rfl
     rw[e1] at iR
     simp only[gl,aK,Bool.and_eq_true] at iR
     obtain⟨⟨k1,k2⟩,k3⟩:=iR
     have k2:=Nat.eq_of_beq_eq_true k2
     simp only[Ty.size,Nat.add_zero] at hlx hly
     obtain⟨u1,p1,p2⟩:=oc (w:=w) hT k1 (cs:=cs) (off:=0) (by omega)
     obtain⟨v1,q1,q2⟩:=oc (w:=w) hT k1 (cs:=cI) (off:=0) (by omega)
     rw[List.drop_zero,List.take_of_length_le (by omega)] at p2 q2
     simp only[My] at he
     split at he
     case h_2=>cases he
     rename_i p q hp hq
     injection hq with hq
     subst hq
     injection he with he
     subst he
     simp only[K] at hx hy
     obtain⟨c0,c1,rfl,hx0,hx1⟩:=hx
     obtain⟨c0',c1',rfl,hy0,hy1⟩:=hy
     subst hx1 hy1
     rw[List.append_nil] at p2 q2 p1 q1
     simp only[Ty.ht] at hd
     have hr:=xl hT d _ k1 hp p2 q2 hx0 hy0 (by omega)
     have U7:=hnb f (by rw[←Array.mem_toList_iff,hfe];exact List.mem_singleton.2 rfl)
     simp only[Op.eqFields,U7,ne_eq,not_false_eq_true,if_true,Sem.run_bind,k2,List.append_nil,p1,q1,Result.andThen_ok,hr]
     cases p<;>simp
    |[T1],[]=>rw[hfi,hfe] at B7;simp at B7
    |[T1],_::_::_=>rw[hfi,hfe] at B7;simp at B7
    |_::_::_,_=>rw[hfi] at B7;simp only[Array.length_toList,List.length_cons] at B7;omega
   ·have key : ∀ (l : List Field) (k : Nat) (s : Ty) (x' y' : s.I) (c c' : List Value) (r : Bool), k + l.length = fs.size → l ≠ [] → (∀ f ∈ l, f.name ≠ "_") → kU Θ (.pair pa pb) fs.size l k = true → gl (List.replicate k .snd) (.pair pa pb) = some s →
      cs.drop (aK (List.replicate k .snd) (.pair pa pb))=c→cI.drop (aK (List.replicate k .snd) (.pair pa pb))=c'→aK (List.replicate k .snd) (.pair pa pb)+s.size≤(Ty.pair pa pb).size→K w (fun _=>False) s x' c→K w (fun _=>False) s y' c'→(s.ht<d∨(1<l.length∧s.ht<d+1))→My s x' y'=some r→(Op.eqFields d cs.toArray cI.toArray l).run P w=.ok r w:=by
     intro l
     induction l with
     |nil=>intro k s x' y' c c' r _ h;exact absurd rfl h
     |cons f l ih=>
      intro k s x' y' c c' r hk _ U7 iR hs hc Yd iX hx hy hd he
      have hnf:=U7 f (List.mem_cons_self ..)
      simp only[kU,Bool.and_eq_true] at iR
      obtain⟨iR,MU⟩:=iR
      rw[aqi h2] at iR
      cases l with
      |nil=>
       rw[if_pos (by simpa using hk),hs] at iR
       simp only[Bool.and_eq_true] at iR
       obtain⟨⟨k1,k2⟩,k3⟩:=iR
       have k2:=Nat.eq_of_beq_eq_true k2
       obtain⟨u1,p1,p2⟩:=oc (w:=w) hT k1 (cs:=cs) (off:=f.offset) (by omega)
       obtain⟨v1,q1,q2⟩:=oc (w:=w) hT k1 (cs:=cI) (off:=f.offset) (by omega)
       have l1:=(lh _ hx).1
       have l2:=(lh _ hy).1
       rw[k2,hc,List.take_of_length_le (by omega)] at p2
       rw[k2,Yd,List.take_of_length_le (by omega)] at q2
       have hr:=xl hT d _ k1 he p2 q2 hx hy (by rcases hd with hd |hd;exact hd;simp at hd)
       simp only[Op.eqFields,hnf,ne_eq,not_false_eq_true,if_true,Sem.run_bind,p1,q1,Result.andThen_ok,hr]
       cases r<;>simp
      |cons f' l=>
       rw[if_neg (by simp only[List.length_cons] at hk;omega),MT,hs,Option.bind_some] at iR
       cases s with
       |pair sa sb=>
        simp only[gl,Bool.and_eq_true] at iR
        obtain⟨⟨k1,k2⟩,k3⟩:=iR
        have k2:=Nat.eq_of_beq_eq_true k2
        rw[Eg _ _ _ _ hs] at k2
        simp only[aK,Nat.add_zero] at k2
        simp only[My] at he
        split at he
        case h_2=>cases he
        rename_i p q hp hq
        injection he with he
        subst he
        simp only[K] at hx hy
        obtain⟨c0,c1,hcc,hx0,hx1⟩:=hx
        obtain⟨c0',c1',auH,hy0,hy1⟩:=hy
        have l0:=(lh _ hx0).1
        have l0':=(lh _ hy0).1
        simp only[Ty.size] at iX hlx hly
        obtain⟨u1,p1,p2⟩:=oc (w:=w) hT k1 (cs:=cs) (off:=f.offset) (by omega)
        obtain⟨v1,q1,q2⟩:=oc (w:=w) hT k1 (cs:=cI) (off:=f.offset) (by omega)
        rw[k2,hc,hcc,←l0,List.take_left] at p2
        rw[k2,Yd,auH,←l0',List.take_left] at q2
        have hdd:max sa.ht sb.ht+1<d+1:=by
         simp only[Ty.ht] at hd
         omega
        have hr:=xl hT d _ k1 hp p2 q2 hx0 hy0 (by omega)
        have auI:List.replicate (k+1) Step.snd=List.replicate k .snd++[.snd]:=List.replicate_succ'
        have aqj:aK (List.replicate (k+1) .snd) (.pair pa pb)=aK (List.replicate k .snd) (.pair pa pb)+sa.size:=by
         rw[auI,Eg _ _ _ _ hs];simp[aK]
        have hi:=ih (k+1) sb x'.2 y'.2 c1 c1' q (by simp only[List.length_cons] at hk ⊢;omega) (by simp) (fun f hf=>U7 f (List.mem_cons_of_mem _ hf)) MU (by rw[auI,MT,hs];rfl)
         (by rw[aqj,←List.drop_drop,hc,hcc,←l0,List.drop_left]) (by rw[aqj,←List.drop_drop,Yd,auH,←l0',List.drop_left]) (by rw[aqj];simp only[Ty.size];omega) hx1 hy1 (.inl (by omega)) hq
        simp only[Op.eqFields,hnf,ne_eq,not_false_eq_true,if_true,Sem.run_bind,p1,q1,Result.andThen_ok,hr]
        cases p with
        |false=>simp
        |true=>simpa[Op.eqFields] using hi
       |_=>simp[gl] at iR
    exact key fs.toList 0 _ x y cs cI r (by simp) (fun e=>by rw[←Array.length_toList,e] at h2;simp at h2) (fun f hf=>hnb f (by simpa using hf)) iR rfl rfl rfl (by simp[aK]) hx hy (.inr ⟨by rw[Array.length_toList];omega,hd⟩) he
theorem U8 (hT:cM P Θ=true) {op:BinOp} {T:TypeId} {x y:Operand} {p q r:TV} {u v:Value} {cs cI:List Value} (hp:an p.t u cs) (hq:an q.t v cI) (kp:K w (fun _=>False) p.t p.x cs) (kq:K w (fun _=>False) q.t q.x cI)
  (hi:p.t=.bool∨isAgg p.t=true→Θ.is T p.t=true) (e:gK op p q=some (true,r)):
  ∃ z,((do eqGuard op T x y u v;binOp op T u v):Sem Value).run P w=.ok z w∧Holds w A H tm S (fun _=>False) (.v r []) z:=by
 unfold gK at e
 split at e
 ·rename_i k _ x0 k' _ y0
  split at e
  ·rename_i hk
   obtain rfl:=c7 hp kp
   obtain rfl:=c7 hq kq
   obtain⟨z,h1,h2⟩:=abm (P:=P) (w:=w) (A:=A) (H:=H) (tm:=tm) (S:=S) T hk e
   exact⟨z,by rw[eqGuard_at_int];simpa using h1,h2⟩
  ·cases e
 ·obtain rfl:=eY hp kp
  obtain rfl:=eY hq kq
  obtain⟨z,h1,h2⟩:=abn (P:=P) (w:=w) (A:=A) (H:=H) (tm:=tm) (S:=S) T e
  exact⟨z,by rw[eqGuard_at_string];simpa using h1,h2⟩
 ·obtain rfl:=c8 hp kp
  obtain rfl:=c8 hq kq
  obtain⟨i,h1,h2⟩:=dQ (hi (.inl rfl))
  obtain⟨_,hu,h3⟩:=cO hT h1
  have th:=xj hu h2
  rw[h3] at th
  split at e
  ·injection e with e;injection e with _ e;subst e
   refine⟨_,?_,cC _⟩
   rw[eqGuard_at_bool]
   simp[binOp,Op.equal,Op.maxDepth,run_equalIn_bool' w 9999 T _ _ th]
  ·injection e with e;injection e with _ e;subst e
   refine⟨_,?_,cC _⟩
   rw[eqGuard_at_bool]
   simp[binOp,Op.equal,Op.maxDepth,run_equalIn_bool' w 9999 T _ _ th]
  ·cases e
 ·rename_i t t' _ x0 t2 _ y0
  split at e
  ·rename_i ht
   subst ht
   have hTT:=hi (.inr rfl)
   obtain⟨i,h1,h2⟩:=dQ hTT
   obtain⟨fh,hu,h3⟩:=cO hT h1
   obtain⟨fs,Yz,_,_,hg,_,_⟩:=mu hu h2
   rw[h3] at hg
   have eu:=tk rfl hp
   have ev:=tk rfl hq
   have iX:(Ty.pair t t').ht<10000:=Nat.lt_of_le_of_lt (show(Ty.pair t t').ht≤9000 from by
    have hs:=aoR hT h1
    unfold uOK at hs
    rw[Bool.and_eq_true,h2] at hs
    exact Nat.le_of_ble_eq_true hs.1) (by decide)
   split at e
   ·rename_i r0 h0
    injection e with e;injection e with _ e;subst e
    have hr:=xl (P:=P) hT 10000 (.pair t t') hTT h0 hp hq kp kq iX
    rw[eu,ev] at hr ⊢
    refine⟨_,?_,cC _⟩
    simp only[Sem.run_bind,run_eqGuard_agg (P:=P) w _ T x y _ _ hg,Result.andThen_ok,run_eql_struct,hr]
   ·rename_i r0 h0
    injection e with e;injection e with _ e;subst e
    have hr:=xl (P:=P) hT 10000 (.pair t t') hTT h0 hp hq kp kq iX
    rw[eu,ev] at hr ⊢
    refine⟨_,?_,cC _⟩
    simp only[Sem.run_bind,run_eqGuard_agg (P:=P) w _ T x y _ _ hg,Result.andThen_ok,run_neq_struct,hr]
   ·cases e
  ·cases e
 ·cases e
theorem IS {op:BinOp} {p q r:TV} {g:Bool} (e:gK op p q=some (g,r)):scalar r.t=true:=by
 unfold gK at e
 split at e
 ·split at e
  ·unfold ahY at e
   split at e<;>first |(injection e with e;injection e with _ e;subst e;rfl) |cases e
  ·cases e
 ·unfold ahZ at e
  split at e<;>first |(injection e with e;injection e with _ e;subst e;rfl) |cases e
 ·split at e<;>first |(injection e with e;injection e with _ e;subst e;rfl) |cases e
 ·split at e
  ·split at e<;>first |(injection e with e;injection e with _ e;subst e;rfl) |cases e
  ·cases e
 ·cases e
theorem od:∀ (t:Ty) {x y:t.I} {r:Bool},My t x y=some r→∀ {z:t.I} {cs:List Value},K w A t z cs→K w' A t z cs
 | .int _,_,_,_,_,_,_,h=>h
 | .bool,_,_,_,_,_,_,h=>h
 | .str,_,_,_,_,_,_,h=>h
 | .unit,_,_,_,_,_,_,h=>h
 | .pair a b,x,y,r,e,z,cs,h=>by
  simp only[My] at e
  split at e
  ·rename_i p q hp hq
   obtain⟨c0,c1,h0,h1,h2⟩:=h
   exact⟨c0,c1,h0,od a hp h1,od b hq h2⟩
  ·cases e
 | .sl _,_,_,_,e,_,_,_=>by simp[My] at e
 | .ptr _,_,_,_,e,_,_,_=>by simp[My] at e
 | .arr _ _,_,_,_,e,_,_,_=>by simp[My] at e
theorem Ri {op:BinOp} {p q:TV} {gr:Bool×TV} (e:gK op p q=some gr) {cs:List Value} (h:K w A p.t p.x cs):K w' A p.t p.x cs:=by
 obtain⟨t,m,x⟩:=p
 obtain⟨t',m',y⟩:=q
 cases t with
 |int k=>exact h
 |bool=>exact h
 |str=>exact h
 |unit=>exact h
 |pair a b=>
  simp only[gK] at e
  split at e
  case isFalse=>cases e
  rename_i ht
  subst ht
  split at e
  ·rename_i hr;exact od _ hr h
  ·rename_i hr;exact od _ hr h
  ·cases e
 |_=>simp[gK] at e
theorem MV {op:BinOp} {p q:TV} {gr:Bool×TV} (e:gK op p q=some gr) {cs:List Value} (h:K w A q.t q.x cs):K w' A q.t q.x cs:=by
 obtain⟨t,m,x⟩:=p
 obtain⟨t',m',y⟩:=q
 cases t with
 |pair a b=>
  simp only[gK] at e
  split at e
  case isFalse=>cases e
  rename_i ht
  subst ht
  split at e
  ·rename_i hr;exact od _ hr h
  ·rename_i hr;exact od _ hr h
  ·cases e
 |int k=>cases t'<;>first |exact h |(simp[gK] at e;done)
 |bool=>cases t'<;>first |exact h |(simp[gK] at e;done)
 |str=>cases t'<;>first |exact h |(simp[gK] at e;done)
 |_=>simp[gK] at e
theorem abo (hT:cM P Θ=true) (h:aW σ w0 W0 Z H S a w) {o:Oper} {op:BinOp} {T T':TypeId} {x y:Operand} (ho:o.op=.binOp op T x y T') (e:DQ Θ S o.dst op T x y=some (true,S')):mv P w0 W0 Z H S' a o.dst w (execOp a.eval o):=by
 unfold DQ at e
 split at e
 ·rename_i p q hp hq
  obtain⟨cs,h1,h2,_⟩:=iz h hp
  obtain⟨cI,h1',h2',_⟩:=iz h hq
  have fin:∀ (r:TV),(p.t=.bool∨isAgg p.t=true→Θ.is T p.t=true)→gK op p q=some (true,r)→mv P w0 W0 Z H (S.put o.dst (.v r [])) a o.dst w (execOp a.eval o):=by
   intro r hi hb
   obtain⟨z,h3,h4⟩:=U8 (P:=P) (A:=Av σ Z) (H:=H) (tm:=bR a) (S:=S) (x:=x) (y:=y) hT h1 h1' h2 h2' hi hb
   have hsc:scalar r.t=true:=IS hb
   refine b6 h (v:=z) (fun w2=>?_) h4
   obtain⟨z2,k3,k4⟩:=U8 (w:=w2) (P:=P) (A:=Av σ Z) (H:=H) (tm:=bR a) (S:=S) (x:=x) (y:=y) hT h1 h1' (Ri hb h2) (MV hb h2') hi hb
   rw[Ee hsc h4 k4]
   simp only[execOp,ho]
   simp only[Sem.run_bind] at k3 ⊢
   rw[k3]
   rfl
  split at e
  ·rename_i ht
   cases hc:Θ.is T .bool with
   |false=>rw[hc] at e;cases e
   |true=>
    rw[hc] at e
    simp only[cond_true] at e
    split at e
    ·rename_i g r hb
     injection e with e;injection e with e1 e;subst e e1
     exact fin r (fun _=>by rw[ht];exact hc) hb
    ·cases e
  ·rename_i t t' ht
   cases hc:Θ.is T p.t with
   |false=>rw[hc] at e;cases e
   |true=>
    rw[hc] at e
    simp only[cond_true] at e
    split at e
    ·rename_i g r hb
     injection e with e;injection e with e1 e;subst e e1
     exact fin r (fun _=>hc) hb
    ·cases e
  ·rename_i n1 n2
   split at e
   ·rename_i g r hb
    injection e with e;injection e with e1 e;subst e e1
    refine fin r (fun hh=>?_) hb
    rcases hh with hh |hh
    ·exact absurd hh n1
    ·obtain⟨pt,pm,px⟩:=p
     simp only at hh n1 n2
     cases pt<;>simp[isAgg] at hh
     ·exact absurd rfl (n2 _ _)
     ·simp[gK] at hb
     ·simp[gK] at hb
   ·cases e
 ·cases e
end Go.Pv
namespace Go.Pv
set_option linter.unusedVariables false
set_option linter.unusedSimpArgs false
variable {P:Program} {w w':World} {A A':Nat→Prop} {H:Nat→Value} {tm rC:Nat→Value} {S S':St} {σ:Nat→Option Nat} {w0:World} {W0 Z:Nat→Prop} {a:Act} {own:Nat→Prop} {v:Value} {Θ:da} {dst:Option Nat} {g:Bool}
theorem rV {n:Int} {len:Nat} (h:aQ n len=true):0≤n∧n<(len:Int):=by
 simpa[aQ] using h
theorem abp (hT:cM P Θ=true) (h:aW σ w0 W0 Z H S a w) {o:Oper} {T:TypeId} {x ix:Operand} (ho:o.op=.index T x ix) (e:IF Θ S o.dst T x ix=some (true,S')):gY P w0 W0 Z H S' a o.dst w (execOp a.eval o):=by
 unfold IF at e
 split at e
 ·rename_i m s n hb hn
  cases hc:Θ.is T .str with
  |false=>rw[hc] at e;cases e
  |true=>
   rw[hc] at e
   simp only[cond_true,Option.some.injEq,Prod.mk.injEq] at e
   obtain⟨e1,e⟩:=e
   subst e
   obtain⟨b1,b2⟩:=rV e1
   obtain⟨cs,h1,h2,_⟩:=iz h hb
   have hv:=eY h1 h2
   obtain⟨k,hk⟩:=iF h hn
   obtain⟨i,hi,fw⟩:=dQ hc
   obtain⟨_,hu,zK⟩:=cO hT hi
   have th:=pD hu fw
   rw[zK] at th
   refine cn h (v:=.int .u8 (bt s n)) (fun w2 _=>?_) (cU _ _)
   have cf:n.toNat<s.size:=by omega
   have eS:s[n.toNat]?=some s[n.toNat]:=ByteArray.getElem?_lt' s _ cf
   have zP:bt s n=(s[n.toNat].toNat:Int):=by unfold bt;rw[dif_pos cf]
   simp[execOp,ho,hv,hk,Instr.index,asIntOf,run_underlying th,b1,eS,zP]
 ·cases e
theorem dM {s:Nat} {p:Path} {b:TV} (h:S.cZ s p=some b):∃ r ex,S.at s=.v r ex∧(∀ q∈ex,under q p=false)∧aY p r.t r.m r.x=some b:=by
 unfold St.cZ at h
 split at h
 ·rename_i r ex he
  cases hc:ex.all fun q=>!under q p with
  |true=>
   rw[hc] at h
   exact⟨r,ex,he,fun q hq=>by simpa using List.all_eq_true.1 hc q hq,h⟩
  |false=>rw[hc] at h;cases h
 ·cases h
theorem mc:∀ (q:Path) (s:Step) (r:Path),under q (q++s::r)=true
 |[],_,_=>by simp[under]
 | .idx i::q,s,r=>by simp[under];exact mc q s r
 | .deref::q,s,r=>by simp[under];exact mc q s r
 | .fst::q,s,r=>by simp[under];exact mc q s r
 | .snd::q,s,r=>by simp[under];exact mc q s r
theorem eM {p:Path} {ex:List Path} (h:∀ q∈ex,under q p=false):open_ p ex:=fun q hq s r e=>by
 have:=h q hq
 rw[e,mc] at this
 cases this
theorem pG {s:Nat} {p:Path} {b:TV} (h:S.place s p=some b):∃ r ex,S.at s=.v r ex∧(∀ q∈ex,gp q p=false)∧aY p r.t r.m r.x=some b:=by
 unfold St.place at h
 split at h
 ·rename_i r ex he
  cases hc:ex.all fun q=>!gp q p with
  |true=>
   rw[hc] at h
   exact⟨r,ex,he,fun q hq=>by simpa using List.all_eq_true.1 hc q hq,h⟩
  |false=>rw[hc] at h;cases h
 ·cases h
theorem abq (hT:cM P Θ=true) (h:aW σ w0 W0 Z H S a w) {o:Oper} {as:Array Operand} {ts:Array TypeId} (ho:o.op=.call { callee:=.builtin .len,args:=as,argTypes:=ts }) (e:aa3 Θ S o.dst ts.toList as.toList=some (true,S')):mv P w0 W0 Z H S' a o.dst w (execOp a.eval o):=by
 obtain⟨as⟩:=as
 obtain⟨ts⟩:=ts
 simp only at e
 unfold aa3 at e
 split at e
 ·rename_i x T
  split at e
  ·rename_i b hb
   cases hc:Θ.is T b.t with
   |false=>rw[hc] at e;cases e
   |true=>
    rw[hc] at e
    simp only[cond_true] at e
    split at e
    ·rename_i n hn
     injection e with e;injection e with _ e;subst e
     have jk:(∃ xs:ByteArray,b.t=.str∧a.eval x=.string xs∧n=(xs.size:Int))∨∃ t X c,∃ m:Nat,b.t=.sl t∧a.eval x=.slice X m c∧n=(m:Int):=by
      obtain⟨bt,bm,bx⟩:=b
      unfold aoK at hn
      split at hn
      ·rename_i t m xs heq
       cases heq
       injection hn with hn
       right
       split at hb
       ·rename_i b' ex dG
        cases hx:ex.any List.isEmpty with
        |true=>rw[hx] at hb;cases hb
        |false=>
         rw[hx] at hb
         simp only[cond_false,Option.some.injEq] at hb
         subst hb
         obtain⟨cs,h1,h2⟩:=bu h dG
         simp only[M] at h2
         rcases h2 with⟨nM,_⟩ |⟨_,h2⟩ |⟨T',tag,me,X,c,_,rfl,_⟩
         ·have:ex.any List.isEmpty=true:=List.any_eq_true.2 ⟨[],nM,rfl⟩
          rw[hx] at this;cases this
         ·obtain⟨X,c,hv,_⟩:=ob h1 h2
          exact⟨_,X,c,_,rfl,hv,hn.symm⟩
         ·exact⟨_,X,c,_,rfl,by simpa[an,isAgg] using h1.symm,hn.symm⟩
       ·rename_i t0 s0 p0 dG
        split at hb
        ·rename_i b' U9
         injection hb with hb
         subst hb
         obtain⟨cs,h1,h2,_⟩:=rT (av:=.al t0 s0 p0) h (bu h dG) (by simpa[St.ta] using U9)
         obtain⟨X,c,hv,_⟩:=ob h1 h2
         exact⟨_,X,c,_,rfl,hv,hn.symm⟩
        ·split at hb
         ·rename_i t1 m1 xs1 B6
          injection hb with hb
          cases hb
          obtain⟨r,cL,cs,hr,iY,hm⟩:=bu h dG
          obtain⟨ex,b2,cI,ow0,j1,j2,j3,j4,hM,j5,j6,j7⟩:=fS h hr
          rw[iY] at j5
          injection j5 with j5
          subst j5
          obtain⟨r2,ex2,q1,q2,q3⟩:=dM B6
          rw[j1] at q1
          injection q1 with q1 Eh
          subst q1 Eh
          rw[j3] at q3
          injection q3 with q3
          subst q3
          simp only at j4
          subst j4
          simp only[M] at j7
          rcases j7 with⟨_,_,X,c,rfl⟩ |⟨_,h2⟩ |⟨T',tag,me,X,c,_,rfl,_⟩
          ·exact⟨_,X,c,_,rfl,by simpa[an,isAgg] using hm.symm,hn.symm⟩
          ·obtain⟨X,c,hv,_⟩:=ob hm h2
           exact⟨_,X,c,_,rfl,hv,hn.symm⟩
          ·exact⟨_,X,c,_,rfl,by simpa[an,isAgg] using hm.symm,hn.symm⟩
         ·cases hb
       ·rename_i a' _ _ dG
        obtain⟨cs,h1,h2,_⟩:=rT h (bu h dG) hb
        obtain⟨X,c,hv,_⟩:=ob h1 h2
        exact⟨_,X,c,_,rfl,hv,hn.symm⟩
       ·cases hb
      ·rename_i m xs heq
       cases heq
       injection hn with hn
       left
       split at hb
       ·rename_i b' ex dG
        cases hx:ex.any List.isEmpty with
        |true=>rw[hx] at hb;cases hb
        |false=>
         rw[hx] at hb
         simp only[cond_false,Option.some.injEq] at hb
         subst hb
         obtain⟨cs,h1,h2⟩:=bu h dG
         simp only[M] at h2
         exact⟨_,rfl,eY h1 h2.2,hn.symm⟩
       ·rename_i t0 s0 p0 dG
        split at hb
        ·rename_i b' U9
         injection hb with hb
         subst hb
         obtain⟨cs,h1,h2,_⟩:=rT (av:=.al t0 s0 p0) h (bu h dG) (by simpa[St.ta] using U9)
         exact⟨_,rfl,eY h1 h2,hn.symm⟩
        ·split at hb
         ·injection hb with hb;cases hb
         ·cases hb
       ·rename_i a' _ _ dG
        obtain⟨cs,h1,h2,_⟩:=rT h (bu h dG) hb
        exact⟨_,rfl,eY h1 h2,hn.symm⟩
       ·cases hb
      ·cases hn
     obtain⟨i,hi,fw⟩:=dQ hc
     obtain⟨_,hu,zK⟩:=cO hT hi
     rcases jk with⟨xs,ht,hv,rfl⟩ |⟨t,X,c,m,ht,hv,rfl⟩
     ·have th:=pD hu (fw.trans ht)
      rw[zK] at th
      refine b6 h (v:=.int .i64 xs.size) (fun w2=>?_) (cU _ _)
      simp[execOp,ho,hv,resolve,invoke,builtin,Builtin.len_,run_underlying th,goInt]
     ·have th:=(lr hu (fw.trans ht)).1
      rw[zK] at th
      refine b6 h (v:=.int .i64 m) (fun w2=>?_) (cU _ _)
      simp[execOp,ho,hv,resolve,invoke,builtin,Builtin.len_,run_underlying th,goInt]
    ·cases e
  ·cases e
 ·cases e
theorem aic (h:aW σ w0 W0 Z H S a w) {o:Oper} {c x y:Operand} (ho:o.op=.pick c x y) (e:QS Θ S o.dst o.type c x y=some (true,S')):gY P w0 W0 Z H S' a o.dst w (execOp a.eval o):=by
 unfold QS at e
 split at e
 ·rename_i m q hq
  obtain⟨cs,h1,h2,_⟩:=iz h hq
  have hv:=c8 h1 h2
  have b7:∀ w2,Ext w w2→(execOp a.eval o).run P w2=.ok (.value (if q=true then a.eval x else a.eval y)) w2:=fun w2 _=>by
   simp only[execOp,ho,hv,asBool]
   rfl
  split at e
  ·rename_i m1 x1 e1 m2 y1 e2 hx hy
   injection e with e;injection e with _ e;subst e
   refine cn h b7 ?_
   obtain⟨c1,k1,k2⟩:=bu h hx
   obtain⟨c2,k3,k4⟩:=bu h hy
   simp only[M] at k2 k4
   have:=c8 k1 k2.2
   have:=c8 k3 k4.2
   cases q<;>simp_all<;>exact cC _
  ·rename_i p r nM hx hy
   cases q with
   |true=>
    simp only[cond_true] at e
    split at e
    ·rename_i av dG
     injection e with e;injection e with _ e;subst e
     exact cn h (fun w2 hw=>by simpa using b7 w2 hw) (pF h hx dG)
    ·cases e
   |false=>
    simp only[cond_false] at e
    split at e
    ·rename_i av dG
     injection e with e;injection e with _ e;subst e
     exact cn h (fun w2 hw=>by simpa using b7 w2 hw) (pF h hy dG)
    ·cases e
  ·cases e
 ·cases e
end Go.Pv
