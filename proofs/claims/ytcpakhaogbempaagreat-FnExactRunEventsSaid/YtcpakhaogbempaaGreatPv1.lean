/- A verified evaluator of the program's form over pure values, part 1: what it tells of a function holds. -/
import Derived.Test.YtcpakhaogbempaaGreatPv0
import Derived.Laws.BytesString
import Derived.Laws.Entries
import Derived.Laws.Shifts
import Derived.Laws.Strings
import Derived.Laws.StructEq
namespace Go.Pv
set_option linter.unusedVariables false
set_option linter.unusedSimpArgs false
variable {h:Hint} {O:jr} {ops:Array Oper} {Θ:de}
structure qz where
 b8:List Nat
 d:Nat
 v:AV
def bK:List Nat→St→St
 |[],S=>S
 |x::r,S=>bK r (S.put (some x) .dead)
def qz.app (E:qz) (S:St):St:=(bK E.b8 S).put (some E.d) E.v
def nu (a:AV):Prop:=∀ d,a.refs d=false
theorem qZ {S:St} {x:Operand} (hx:gK S x=true) (T:TypeId):(∃ i a,x=.tmp i∧S.at i=.v a []∧S.dP Θ T x=some (.v a []))∨∃ c,x=.const c:=by
 cases x with
 |tmp i=>
  simp only[gK] at hx
  split at hx
  ·rename_i a ha
   exact .inl ⟨i,a,rfl,ha,by simp[St.dP,ha]⟩
  ·cases hx
 |const c=>exact .inr ⟨c,rfl⟩
 |func f=>simp[gK] at hx
 |global g=>simp[gK] at hx
def nO (S S':St) (l:List Nat):Prop:=∀ r∈l,S'.at r=S.at r
theorem DA {S S':St} {x:Operand} (ha:nO S S' (aS x)) (T:TypeId):S'.dP Θ T x=S.dP Θ T x:=by
 cases x with
 |tmp i=>simp only[St.dP];rw[ha i (by simp[aS])]
 |const c=>rfl
 |func f=>rfl
 |global g=>rfl
theorem IK {S S':St} {x:Operand} (hx:gK S x=true) (ha:nO S S' (aS x)) (T:TypeId):S'.rd Θ T x=S.rd Θ T x:=by
 unfold St.rd
 rw[DA ha]
 rcases qZ (Θ:=Θ) hx T with⟨i,a,rfl,h1,h2⟩ |⟨c,rfl⟩
 ·rw[h2];rfl
 ·simp only[St.dP]
  cases mK Θ T c<;>rfl
theorem lK {S S':St}:∀ (xs:List Operand) (Ts:List TypeId) (l:List (Option TV)),(∀ x∈xs,gK S x=true)→nO S S' (xs.flatMap aS)→reads Θ S' xs Ts l=reads Θ S xs Ts l
 |[],_,_,_,_=>rfl
 |x::xs,[],l,_,_=>rfl
 |x::xs,T::Ts,[],_,_=>rfl
 |x::xs,T::Ts,p::ps,hx,ha=>by
  have ih:=lK xs Ts ps (fun y hy=>hx y (by simp[hy])) (fun r hr=>ha r (by simp[hr]))
  have ho:=DA (Θ:=Θ) (x:=x) (fun r hr=>ha r (by simp[hr])) T
  simp only[reads,ih,ho]
  cases p with
  |some a=>rfl
  |none=>
   simp only
   rcases qZ (Θ:=Θ) (hx x (by simp)) T with⟨i,a,rfl,h1,h2⟩ |⟨c,rfl⟩
   ·rw[h2];rfl
   ·simp only[St.dP]
    cases mK Θ T c<;>rfl
theorem Ag {S S':St}:∀ (xs:List Operand) (l:List (Option TV)) (as:List Arg),nO S S' (xs.flatMap aS)→iK S' xs l as=iK S xs l as
 |[],_,_,_=>rfl
 |x::xs,[],_,_=>rfl
 |x::xs,p::ps,[],_=>rfl
 |x::xs,p::ps,r::rs,ha=>by
  have ih:=Ag xs ps rs (fun r hr=>ha r (by simp[hr]))
  have hf:tJ S' x=tJ S x:=by
   cases x with
   |tmp i=>simp only[tJ];rw[ha i (by simp[aS])]
   |const c=>rfl
   |func f=>rfl
   |global g=>rfl
  simp only[iK,ih,hf]
theorem Hz:∀ (xs:List Operand) (Ts:List TypeId) (ps:List Pass),(ps.all fun p=>match p with
   | .val=>true
   |_=>false)=true→(∀ S,fM Θ S xs Ts ps=none)∨∃ l,∀ S,fM Θ S xs Ts ps=some (l,S)
 |[],_,_,_=>.inr ⟨[],fun S=>by simp[fM]⟩
 |x::xs,[],_,_=>.inl fun S=>by simp[fM]
 |x::xs,T::Ts,[],_=>.inl fun S=>by simp[fM]
 |x::xs,T::Ts,p::ps,h=>by
  simp only[List.all_cons,Bool.and_eq_true] at h
  cases p with
  |take=>cases h.1
  |ns=>cases h.1
  |val=>
   rcases Hz xs Ts ps h.2 with h1 |⟨l,h1⟩
   ·exact .inl fun S=>by simp only[fM,h1]
   ·exact .inr ⟨none::l,fun S=>by simp only[fM,h1]⟩
theorem Cn:∀ (l:List Pass) (n:Nat),(l.all fun p=>match p with
   | .val=>true
   |_=>false)=true→uk l n=none
 |[],_,_=>rfl
 | .val::r,n,h=>by simp only[uk];exact Cn r (n+1) (by simpa using h)
 | .take::r,n,h=>by simp at h
 | .ns::r,n,h=>by simp at h
theorem Ep (l:List TV):nu (Ht l):=by
 intro d
 unfold Ht
 split<;>rfl
theorem adf (hO:nL O) {i:Nat} {o:Oper} (ho:ops[i]?=some o) (hg:o.guard=none) {d:Nat} (hd:o.dst=some d) {f:FuncId} {as:Array Operand} {ts:Array TypeId} (bU:o.op=.call { callee:=.value (.func f),args:=as,argTypes:=ts })
  (hv:ac7 O f=true) {S:St} (hx:∀ x∈as.toList,gK S x=true):
  ∃ oE:Option qz,(∀ E,oE=some E→E.d=d∧E.b8=[]∧nu E.v)∧∀ S',nO S S' (as.toList.flatMap aS)→∀ K,aW h O ops i S' K=oE.bind fun E=>K (E.app S'):=by
 have jz:∀ S' K,aW h O ops i S' K=gF h O o f none as.toList ts.toList S' K:=by
  intro S' K
  unfold aW
  rw[ho]
  simp only[hg]
  unfold gG
  rw[bU]
  simp only[Cn _ 0 hv]
 rcases Hz (Θ:=h.tab) as.toList ts.toList (O.sig f) hv with ht |⟨l,ht⟩
 ·exact⟨none,fun E hE=>(by cases hE),fun S' _ K=>by rw[jz];unfold gF;simp only[ht];rfl⟩
 ·cases hr:reads h.tab S as.toList ts.toList l with
  |none=>exact⟨none,fun E hE=>(by cases hE),fun S' ha K=>by rw[jz];unfold gF;simp only[ht,lK _ _ _ hx ha,hr];rfl⟩
  |some args=>
   obtain⟨oR,hR⟩:=hO f (args++([]:List TV).map .tv)
   cases oR with
   |none=>
    refine⟨none,fun E hE=>(by cases hE),fun S' ha K=>?_⟩
    rw[jz];unfold gF
    simp only[ht,lK _ _ _ hx ha,hr,qV,hR]
    rfl
   |some ret=>
    cases hrefs:ret.refs with
    |nil=>
     cases hc:(ret.res.all (fun d=>fw d.t d.m)||(([]:List TV).isEmpty&&iK S as.toList l args)) with
     |false=>
      refine⟨none,fun E hE=>(by cases hE),fun S' ha K=>?_⟩
      rw[jz];unfold gF
      simp only[ht,lK _ _ _ hx ha,Ag _ _ _ ha,hr,qV,hR,Option.bind_some,hrefs,hc]
      rfl
     |true=>
      refine⟨some ⟨[],d,Ht ret.res⟩,fun E hE=>?_,fun S' ha K=>?_⟩
      ·injection hE with hE
       subst hE
       exact⟨rfl,rfl,Ep _⟩
      ·rw[jz];unfold gF
       simp only[ht,lK _ _ _ hx ha,Ag _ _ _ ha,hr,qV,hR,Option.bind_some,hrefs,hd,hc]
       rfl
    |cons _ _=>
     refine⟨none,fun E hE=>(by cases hE),fun S' ha K=>?_⟩
     rw[jz];unfold gF
     simp only[ht,lK _ _ _ hx ha,hr,qV,hR,Option.bind_some,hrefs]
     rfl
def VD (a:AV):Prop:=(∃ b,a=.v b [])∨a=.dead
def Z8 (S:St):Operand→Prop
 | .tmp i=>VD (S.at i)
 | .const _=>True
 |_=>False
theorem WA {S:St} {x:Operand} (h:gK S x=true):Z8 S x:=by
 cases x with
 |tmp i=>
  simp only[gK] at h
  split at h
  ·rename_i a ha;exact .inl ⟨a,ha⟩
  ·cases h
 |const c=>trivial
 |func f=>simp[gK] at h
 |global g=>simp[gK] at h
theorem HA {S:St} {x:Operand} (hx:Z8 S x) (T:TypeId):∃ oB:Option (TV×List Nat),(∀ b ks,oB=some (b,ks)→ks.Nodup∧∀ r∈ks,r∈aS x∧∃ a,S.at r=.v a [])∧∀ S',nO S S' (aS x)→S'.take Θ T x=oB.map fun q=>(q.1,bK q.2 S'):=by
 cases x with
 |tmp i=>
  rcases hx with⟨a,ha⟩ |ha
  ·cases hk:a.m.bP with
   |true=>
    refine⟨some (a,[]),fun b ks e=>?_,fun S' hs=>?_⟩
    ·injection e with e
     injection e with _ e
     subst e
     exact⟨List.nodup_nil,fun r hr=>by cases hr⟩
    ·have h2:=(hs i (by simp[aS])).trans ha
     unfold St.take
     simp[St.dP,h2,St.dD,hk,bK]
   |false=>
    refine⟨some (a,[i]),fun b ks e=>?_,fun S' hs=>?_⟩
    ·injection e with e
     injection e with _ e
     subst e
     refine⟨by simp,fun r hr=>?_⟩
     simp only[List.mem_singleton] at hr
     subst hr
     exact⟨by simp[aS],a,ha⟩
    ·have h2:=(hs i (by simp[aS])).trans ha
     unfold St.take
     simp[St.dP,h2,St.dD,hk,bK]
  ·refine⟨none,fun b ks e=>(by cases e),fun S' hs=>?_⟩
   have h2:=(hs i (by simp[aS])).trans ha
   unfold St.take
   simp[St.dP,h2,St.dD]
 |const c=>
  cases hc:mK Θ T c with
  |none=>exact⟨none,fun b ks e=>(by cases e),fun S' ha=>(by unfold St.take;simp[St.dP,hc])⟩
  |some a=>
   refine⟨some (a,[]),fun b ks e=>?_,fun S' ha=>?_⟩
   ·injection e with e
    injection e with _ e
    subst e
    exact⟨List.nodup_nil,fun r hr=>by cases hr⟩
   ·unfold St.take
    simp only[St.dP,hc,St.dD]
    cases a.m.bP<;>simp[bK]
 |func f=>exact hx.elim
 |global g=>exact hx.elim
theorem MM {S:St} {x:Operand} (hx:gK S x=true) (T:TypeId):∃ oB:Option (TV×List Nat),(∀ b ks,oB=some (b,ks)→ks.Nodup∧∀ r∈ks,r∈aS x)∧∀ S',nO S S' (aS x)→S'.take Θ T x=oB.map fun q=>(q.1,bK q.2 S'):=by
 obtain⟨oB,h1,h2⟩:=HA (Θ:=Θ) (WA hx) T
 exact⟨oB,fun b ks e=>⟨(h1 b ks e).1,fun r hr=>((h1 b ks e).2 r hr).1⟩,h2⟩
theorem Ah {S:St} {i j:Nat} {a:TV} (h:S.at j=.v a []) (uq:j≠i):(S.put (some i) .dead).at j=.v a []:=by
 rw[dF,if_neg (fun e=>uq e.1),h]
 simp[AV.refs]
theorem HB {S:St} {i:Nat} {a:TV} (h:S.at i=.v a []):(S.put (some i) .dead).at i=.dead:=by
 have hl:i<S.length:=by
  rcases Nat.lt_or_ge i S.length with hl |hl
  ·exact hl
  ·unfold St.at at h
   rw[List.getD_eq_getElem?_getD,List.getElem?_eq_none hl] at h
   cases h
 rw[dF,if_pos ⟨rfl,hl⟩]
 simp[AV.refs]
theorem RO {ks:List Nat} {S:St} {j:Nat} {a:TV} (h:S.at j=.v a []) (hj:j∉ks):(bK ks S).at j=.v a []:=by
 induction ks generalizing S with
 |nil=>exact h
 |cons x r ih=>exact ih (Ah h (fun e=>hj (by simp[e]))) (fun e=>hj (by simp[e]))
theorem Z9 {ks:List Nat} {S S':St} {y:Operand} (hy:gK S y=true) (ha:nO S S' (aS y)) (hn:∀ r∈aS y,r∉ks):nO S (bK ks S') (aS y):=by
 intro r hr
 cases y with
 |tmp j=>
  simp only[aS,List.mem_singleton] at hr
  subst hr
  rcases qZ (Θ:=[]) hy 0 with⟨i,a,e,h1,_⟩ |⟨c,e⟩
  ·injection e with e
   subst e
   rw[h1]
   exact RO ((ha r (by simp[aS])).trans h1) (hn r (by simp[aS]))
  ·cases e
 |const c=>simp[aS] at hr
 |func f=>simp[aS] at hr
 |global g=>simp[aS] at hr
theorem RP {ks:List Nat} {S:St} {j:Nat} {a:TV} (h:S.at j=.v a []) (hj:j∈ks):(bK ks S).at j=.dead:=by
 have dead:∀ (ks:List Nat) (S:St),S.at j=.dead→(bK ks S).at j=.dead:=by
  intro ks
  induction ks with
  |nil=>intro S h;exact h
  |cons x r ih=>
   intro S h
   refine ih _ ?_
   rw[dF]
   split
   ·simp[AV.refs]
   ·rw[h];simp[AV.refs]
 induction ks generalizing S with
 |nil=>cases hj
 |cons x r ih=>
  by_cases hx:j=x
  ·subst hx
   exact dead r _ (HB h)
  ·exact ih (Ah h hx) (by rcases List.mem_cons.1 hj with e |e;exact absurd e hx;exact e)
theorem Co (a b:List Nat) (S:St):bK (a++b) S=bK b (bK a S):=by
 induction a generalizing S with
 |nil=>rfl
 |cons x r ih=>exact ih _
theorem RQ {S:St} {d:Nat} {x y:Operand} {T T':TypeId} (hx:gK S x=true) (hy:gK S y=true):
  ∃ oG:Option (Bool×qz),(∀ g E,oG=some (g,E)→E.d=d∧nu E.v∧E.b8.Nodup∧∀ r∈E.b8,r∈aS x++aS y)∧∀ S',nO S S' (aS x++aS y)→cl Θ S' (some d) [T,T'] [x,y]=oG.map fun q=>(q.1,q.2.app S'):=by
 obtain⟨oB,hB1,hB2⟩:=MM (Θ:=Θ) hx T
 have WB:∀ {S':St},nO S S' (aS x++aS y)→nO S S' (aS x):=fun ha r hr=>ha r (by simp[hr])
 have hay:∀ {S':St},nO S S' (aS x++aS y)→nO S S' (aS y):=fun ha r hr=>ha r (by simp[hr])
 cases oB with
 |none=>exact⟨none,fun g E e=>(by cases e),fun S' ha=>by unfold cl;simp only[hB2 S' (WB ha)];rfl⟩
 |some q=>
  obtain⟨b,ks⟩:=q
  obtain⟨MN,z6⟩:=hB1 b ks rfl
  -- is the second gone?
  by_cases asP:∃ r∈aS y,r∈ks
  ·obtain⟨r,hr,hrk⟩:=asP
   cases y with
   |const c=>simp[aS] at hr
   |func f=>simp[aS] at hr
   |global g=>simp[aS] at hr
   |tmp j=>
    simp only[aS,List.mem_singleton] at hr
    subst hr
    refine⟨none,fun g E e=>(by cases e),fun S' ha=>?_⟩
    rcases qZ (Θ:=Θ) hy 0 with⟨i,a,e,h1,_⟩ |⟨c,e⟩
    ·injection e with e
     subst e
     have qy:=RP (ks:=ks) ((ha r (by simp[aS])).trans h1) hrk
     unfold cl
     simp only[hB2 S' (WB ha),Option.map_some]
     have WC:(bK ks S').rd Θ T' (.tmp r)=none:=by unfold St.rd;simp only[St.dP,qy,St.sy]
     have htk:(bK ks S').take Θ T' (.tmp r)=none:=by unfold St.take;simp only[St.dP,qy,St.dD]
     split
     ·rename_i t e1 tg me xs S1 i heq hf
      simp only[Option.some.injEq,Prod.mk.injEq] at heq
      obtain⟨rfl,rfl⟩:=heq
      simp only[WC,htk,cond_false]
      cases me.bP<;>cases (decide (i.ty=t.sl)&&Nat.beq i.e e1&&Θ.is T' t.sl)<;>rfl
     ·rfl
    ·cases e
  ·have hn:∀ r∈aS y,r∉ks:=fun r hr hk=>asP ⟨r,hr,hk⟩
   obtain⟨oC,hC1,hC2⟩:=MM (Θ:=Θ) hy T'
   cases hf:Θ.find T with
   |none=>exact⟨none,fun g E e=>(by cases e),fun S' ha=>by unfold cl;simp only[hB2 S' (WB ha),hf];split<;>simp_all⟩
   |some ti=>
   by_cases Cp:∃ (t:Ty) (e1:TypeId) (tg:Option Nat) (me:Md) (xs:List t.I),b=⟨.sl t,.o e1 tg me,xs⟩
   rotate_left
   ·refine⟨none,fun g E e=>(by cases e),fun S' ha=>?_⟩
    unfold cl
    simp only[hB2 S' (WB ha),hf,Option.map_some]
    split
    ·rename_i t e1 tg me xs S1 i heq aBU
     simp only[Option.some.injEq,Prod.mk.injEq] at heq
     exact absurd ⟨t,e1,tg,me,xs,heq.1⟩ Cp
    ·rfl
   obtain⟨t,e1,tg,me,xs,rfl⟩:=Cp
   have hS:∀ S',nO S S' (aS x++aS y)→nO S (bK ks S') (aS y):=fun S' ha=>Z9 hy (hay ha) hn
   cases hc:(decide (ti.ty=.sl t)&&Nat.beq ti.e e1&&Θ.is T' (.sl t)) with
   |false=>exact⟨none,fun g E e=>(by cases e),fun S' ha=>by unfold cl;simp only[hB2 S' (WB ha),hf,Option.map_some,hc,cond_false];rfl⟩
   |true=>
   cases hk:me.bP with
   |true=>
    have G3:∀ S',nO S S' (aS x++aS y)→cl Θ S' (some d) [T,T'] [x,y]=(match S.rd Θ T' y with
     |some ⟨.sl t',m',ys⟩=>bif m'.Hq.bP then(if h:t'=t then
       some (decide ((xs.length+ys.length)*t.size≤4398046511104),(bK ks S').put (some d) (.v ⟨.sl t,.o e1 none me,xs++(h▸ys)⟩ [])) else none) else none
     |_=>none):=fun S' ha=>by
     unfold cl
     simp only[hB2 S' (WB ha),hf,Option.map_some,hc,cond_true,hk,IK hy (hS S' ha)]
     rfl
    cases hr:S.rd Θ T' y with
    |none=>exact⟨none,fun g E e=>(by cases e),fun S' ha=>by rw[G3 S' ha,hr];rfl⟩
    |some c=>
     by_cases hf2:∃ (m':Md) (ys:List t.I),c=⟨.sl t,m',ys⟩∧m'.Hq.bP=true
     ·obtain⟨m',ys,rfl,hm⟩:=hf2
      refine⟨some (decide ((List.length xs+List.length ys)*t.size≤4398046511104),⟨ks,d,.v ⟨.sl t,.o e1 none me,xs++ys⟩ []⟩),fun g E e=>?_,fun S' ha=>?_⟩
      rotate_left
      ·rw[G3 S' ha,hr]
       simp only[hm,cond_true,dite_true,Option.map_some,qz.app]
      ·injection e with e
       injection e with _ e
       subst e
       exact⟨rfl,fun _=>rfl,MN,fun r hr=>by simp[z6 r hr]⟩
     ·refine⟨none,fun g E e=>(by cases e),fun S' ha=>?_⟩
      rw[G3 S' ha,hr]
      split
      ·rename_i t' m' ys heq
       injection heq with heq
       subst heq
       cases hm:m'.Hq.bP with
       |false=>rfl
       |true=>
        simp only[cond_true]
        by_cases ht:t'=t
        ·subst ht
         exact absurd ⟨m',ys,rfl,hm⟩ hf2
        ·rw[dif_neg ht];rfl
      ·rfl
   |false=>
    have G3:∀ S',nO S S' (aS x++aS y)→cl Θ S' (some d) [T,T'] [x,y]=(match oC.map (fun q=>(q.1,bK q.2 (bK ks S'))) with
     |some (⟨.sl t',m',ys⟩,S2)=>if h:t'=t then
       (if m'.Hq=me then some (decide ((xs.length+ys.length)*t.size≤4398046511104),S2.put (some d) (.v ⟨.sl t,.o e1 none me,xs++(h▸ys)⟩ [])) else none) else none
     |_=>none):=fun S' ha=>by
     unfold cl
     simp only[hB2 S' (WB ha),hf,Option.map_some,hc,cond_true,cond_false,hk,hC2 _ (hS S' ha)]
     rfl
    cases oC with
    |none=>exact⟨none,fun g E e=>(by cases e),fun S' ha=>by rw[G3 S' ha];rfl⟩
    |some c=>
     obtain⟨c,ks2⟩:=c
     obtain⟨adg,adh⟩:=hC1 c ks2 rfl
     by_cases hf2:∃ (m':Md) (ys:List t.I),c=⟨.sl t,m',ys⟩∧m'.Hq=me
     ·obtain⟨m',ys,rfl,hm⟩:=hf2
      refine⟨some (decide ((List.length xs+List.length ys)*t.size≤4398046511104),⟨ks++ks2,d,.v ⟨.sl t,.o e1 none me,xs++ys⟩ []⟩),fun g E e=>?_,fun S' ha=>?_⟩
      rotate_left
      ·rw[G3 S' ha]
       simp only[Option.map_some,dite_true,hm,if_true,qz.app,Co]
      ·injection e with e
       injection e with _ e
       subst e
       refine⟨rfl,fun _=>rfl,List.nodup_append.2 ⟨MN,adg,fun a ha b hb e=>by subst e;exact hn a (adh a hb) ha⟩,fun r hr=>?_⟩
       rcases List.mem_append.1 hr with hr |hr
       ·simp[z6 r hr]
       ·simp[adh r hr]
     ·refine⟨none,fun g E e=>(by cases e),fun S' ha=>?_⟩
      rw[G3 S' ha]
      simp only[Option.map_some]
      split
      ·rename_i t' m' ys S2 heq
       injection heq with heq
       injection heq with heq _
       by_cases ht:t'=t
       ·subst ht
        by_cases hm:m'.Hq=me
        ·exact absurd ⟨m',ys,heq,hm⟩ hf2
        ·rw[dif_pos rfl,if_neg hm];rfl
       ·rw[dif_neg ht];rfl
      ·rfl
theorem Cq (ks:List Nat) (S:St):(bK ks S).length=S.length:=by
 induction ks generalizing S with
 |nil=>rfl
 |cons x r ih=>simp only[bK,ih,cd]
theorem ur:∀ (ks:List Nat) (S:St),ks.Nodup→(∀ x∈ks,∃ a,S.at x=.v a [])→∀ i,(bK ks S).at i=if i∈ks then .dead else bif ks.any (S.at i).refs then .dead else S.at i
 |[],S,_,_,i=>by simp[bK]
 |x::r,S,hn,hv,i=>by
  obtain⟨a,ha⟩:=hv x (by simp)
  simp only[List.nodup_cons] at hn
  have hv':∀ y∈r,∃ b,(S.put (some x) .dead).at y=.v b []:=fun y hy=>by
   obtain⟨b,hb⟩:=hv y (by simp[hy])
   exact⟨b,Ah hb (fun e=>hn.1 (by rw[←e];exact hy))⟩
  simp only[bK]
  rw[ur r _ hn.2 hv' i]
  by_cases hir:i∈r
  ·simp[hir]
  ·by_cases hix:i=x
   ·subst hix
    simp only[hir,if_false,HB ha,List.mem_cons,true_or,if_true]
    simp[AV.refs]
   ·simp only[hir,if_false,List.mem_cons,hix,or_self]
    rw[dF,if_neg (fun e=>hix e.1),ha]
    simp only[AV.z8,Bool.and_true,List.any_cons]
    cases hr:(S.at i).refs x<;>simp[AV.refs]
structure qz.In (E:qz) (S:St):Prop where
 nd:E.b8.Nodup
 cv:∀ x∈E.b8,∃ a,S.at x=.v a []
 slot:(S.at E.d).z8=false
 lt:E.d<S.length
 refs:nu E.v
 out:E.d∉E.b8
theorem qz.IL (E:qz) (S:St):(E.app S).length=S.length:=by unfold qz.app;rw[cd,Cq]
theorem qz.q7 {E:qz} {S:St} (h:E.In S) (i:Nat):(E.app S).at i=if i=E.d then E.v else if i∈E.b8 then .dead else bif E.b8.any (S.at i).refs then .dead else S.at i:=by
 unfold qz.app
 have hd:((bK E.b8 S).at E.d).z8=false:=by
  rw[ur _ _ h.nd h.cv]
  split
  ·rfl
  ·cases E.b8.any (S.at E.d).refs with
   |true=>rfl
   |false=>exact h.slot
 rw[dF,Cq,hd]
 by_cases hi:i=E.d
 ·rw[if_pos ⟨hi,h.lt⟩,if_pos hi,h.refs]
  rfl
 ·rw[if_neg (fun e=>hi e.1),if_neg hi]
  simp only[Bool.and_false,cond_false]
  exact ur _ _ h.nd h.cv i
theorem nw {S S':St} (hl:S.length=S'.length) (h:∀ i,S.at i=S'.at i):S=S':=by
 apply List.ext_getElem hl
 intro i h1 h2
 have:=h i
 unfold St.at at this
 rw[List.getD_eq_getElem?_getD,List.getD_eq_getElem?_getD,List.getElem?_eq_getElem h1,List.getElem?_eq_getElem h2] at this
 exact this
theorem qz.comm {E F:qz} {S:St} (hE:E.In S) (hF:F.In S) (hd:E.d≠F.d) (h1:E.d∉F.b8) (h2:F.d∉E.b8) (hEF:E.In (F.app S)) (hFE:F.In (E.app S)):E.app (F.app S)=F.app (E.app S):=by
 refine nw (by simp[qz.IL]) fun i=>?_
 rw[qz.q7 hEF,qz.q7 hFE,qz.q7 hF,qz.q7 hE]
 by_cases hiE:i=E.d
 ·subst hiE
  have hv:F.b8.any E.v.refs=false:=List.any_eq_false.2 fun x _=>by rw[hE.refs];simp
  simp[hd,h1,hv]
 ·by_cases hiF:i=F.d
  ·subst hiF
   have hv:E.b8.any F.v.refs=false:=List.any_eq_false.2 fun x _=>by rw[hF.refs];simp
   simp[hiE,h2,hv]
  ·simp only[hiE,hiF,if_false]
   by_cases hkE:i∈E.b8
   ·by_cases hkF:i∈F.b8
    ·simp[hkE,hkF]
    ·have hv:F.b8.any AV.dead.refs=false:=List.any_eq_false.2 fun x _=>by simp[AV.refs]
     simp[hkE,hkF,hv]
   ·by_cases hkF:i∈F.b8
    ·have hv:E.b8.any AV.dead.refs=false:=List.any_eq_false.2 fun x _=>by simp[AV.refs]
     simp[hkE,hkF,hv]
    ·have hvE:E.b8.any AV.dead.refs=false:=List.any_eq_false.2 fun x _=>by simp[AV.refs]
     have hvF:F.b8.any AV.dead.refs=false:=List.any_eq_false.2 fun x _=>by simp[AV.refs]
     simp only[hkE,hkF,if_false]
     cases hE':E.b8.any (S.at i).refs<;>cases hF':F.b8.any (S.at i).refs<;>simp[hE',hF',hvE,hvF]
theorem MO {S:St} {r x:Nat} (h:VD (S.at r)):(S.put (some x) .dead).at r=if r=x then .dead else S.at r:=by
 have hr:(S.at r).refs x=false:=by rcases h with⟨a,h⟩ |h<;>rw[h]<;>rfl
 rw[dF,hr]
 by_cases hx:r=x
 ·subst hx
  by_cases hl:r<S.length
  ·simp[hl,AV.refs]
  ·have:S.at r=.dead:=by unfold St.at;rw[List.getD_eq_getElem?_getD,List.getElem?_eq_none (by omega)];rfl
   simp[hl,this]
 ·simp[hx]
theorem q8:∀ (ks:List Nat) {S:St} {r:Nat},VD (S.at r)→(bK ks S).at r=if r∈ks then .dead else S.at r
 |[],S,r,h=>by simp[bK]
 |x::l,S,r,h=>by
  have h1:=MO (x:=x) h
  have hv:VD ((S.put (some x) .dead).at r):=by rw[h1];split;exact .inr rfl;exact h
  simp only[bK]
  rw[q8 l hv,h1]
  by_cases hx:r=x<;>by_cases hl:r∈l<;>simp[hx,hl]
theorem RR {S:St} {ks:List Nat} {x:Operand} (h:Z8 S x):Z8 (bK ks S) x:=by
 cases x with
 |tmp i=>
  simp only[Z8] at h ⊢
  rw[q8 ks h]
  split
  ·exact .inr rfl
  ·exact h
 |const c=>trivial
 |func f=>exact h
 |global g=>exact h
theorem Ai {ps:List (Nat×Operand)}:∀ (r:List TypeId) (j:Nat) {S:St},(∀ q∈ps,Z8 S q.2)→∃ oL:Option (List TV×List Nat),(∀ l ks,oL=some (l,ks)→ks.Nodup∧∀ x∈ks,x∈ps.flatMap (fun q=>aS q.2)∧∃ a,S.at x=.v a [])∧
  ∀ S',nO S S' (ps.flatMap fun q=>aS q.2)→S'.parts Θ ps r j=oL.map fun q=>(q.1,bK q.2 S')
 |[],j,S,hx=>⟨some ([],[]),fun l ks e=>by
   injection e with e
   injection e with _ e
   subst e
   exact⟨List.nodup_nil,fun x hx=>by cases hx⟩,fun S' ha=>rfl⟩
 |T::r,j,S,hx=>by
  cases hf:ps.find? (fun q=>Nat.beq q.1 j) with
  |none=>
   cases hz:qQ Θ T with
   |none=>exact⟨none,fun l ks e=>(by cases e),fun S' ha=>by simp only[St.parts,hf,hz];rfl⟩
   |some a=>
    obtain⟨oL,h1,h2⟩:=Ai r (j+1) hx
    cases oL with
    |none=>exact⟨none,fun l ks e=>(by cases e),fun S' ha=>by simp only[St.parts,hf,hz,h2 S' ha];rfl⟩
    |some q=>
     refine⟨some (a::q.1,q.2),fun l ks e=>?_,fun S' ha=>by simp only[St.parts,hf,hz,h2 S' ha];rfl⟩
     injection e with e
     injection e with _ e
     subst e
     exact h1 q.1 q.2 rfl
  |some q=>
   have hq:q∈ps:=List.mem_of_find?_eq_some hf
   have G8:∀ r∈aS q.2,r∈ps.flatMap fun q=>aS q.2:=fun r hr=>List.mem_flatMap.2 ⟨q,hq,hr⟩
   obtain⟨oB,b1,b2⟩:=HA (Θ:=Θ) (hx q hq) T
   cases oB with
   |none=>exact⟨none,fun l ks e=>(by cases e),fun S' ha=>by simp only[St.parts,hf,b2 S' fun r hr=>ha r (G8 r hr)];rfl⟩
   |some bk=>
    obtain⟨b,ks⟩:=bk
    obtain⟨MN,z6⟩:=b1 b ks rfl
    obtain⟨oL,h1,h2⟩:=Ai r (j+1) (S:=bK ks S) (fun q hq=>RR (hx q hq))
    have RS:∀ S',nO S S' (ps.flatMap fun q=>aS q.2)→nO (bK ks S) (bK ks S') (ps.flatMap fun q=>aS q.2):=fun S' ha r hr=>by
     obtain⟨q',qM,Aj⟩:=List.mem_flatMap.1 hr
     have hv:VD (S.at r):=by
      have:=hx q' qM
      cases HC:q'.2 with
      |tmp i=>
       rw[HC] at this Aj
       simp only[aS,List.mem_singleton] at Aj
       subst Aj
       exact this
      |const c=>rw[HC] at Aj;simp[aS] at Aj
      |func f=>rw[HC] at Aj;simp[aS] at Aj
      |global g=>rw[HC] at Aj;simp[aS] at Aj
     rw[q8 ks hv,q8 ks (by rw[ha r hr];exact hv),ha r hr]
    cases oL with
    |none=>exact⟨none,fun l ks e=>(by cases e),fun S' ha=>by simp only[St.parts,hf,b2 S' fun r hr=>ha r (G8 r hr),Option.map_some,h2 _ (RS S' ha)];rfl⟩
    |some lk=>
     obtain⟨l,ks2⟩:=lk
     obtain⟨adg,adh⟩:=h1 l ks2 rfl
     refine⟨some (b::l,ks++ks2),fun l' ks' e=>?_,fun S' ha=>by simp only[St.parts,hf,b2 S' fun r hr=>ha r (G8 r hr),Option.map_some,h2 _ (RS S' ha),Co]⟩
     injection e with e
     injection e with _ e
     subst e
     have MP:∀ x∈ks2,x∉ks∧∃ a,S.at x=.v a []:=fun x wV=>by
      obtain⟨m1,a,m2⟩:=adh x wV
      have hv:VD (S.at x):=by
       obtain⟨q',qM,Aj⟩:=List.mem_flatMap.1 m1
       have:=hx q' qM
       cases HC:q'.2 with
       |tmp i=>
        rw[HC] at this Aj
        simp only[aS,List.mem_singleton] at Aj
        subst Aj
        exact this
       |const c=>rw[HC] at Aj;simp[aS] at Aj
       |func f=>rw[HC] at Aj;simp[aS] at Aj
       |global g=>rw[HC] at Aj;simp[aS] at Aj
      rw[q8 ks hv] at m2
      by_cases hk:x∈ks
      ·rw[if_pos hk] at m2;cases m2
      ·rw[if_neg hk] at m2;exact⟨hk,a,m2⟩
     refine⟨List.nodup_append.2 ⟨MN,adg,fun a ha b hb e=>by subst e;exact(MP a hb).1 ha⟩,fun x wV=>?_⟩
     rcases List.mem_append.1 wV with wV |wV
     ·exact⟨G8 x (z6 x wV).1,(z6 x wV).2⟩
     ·exact⟨(adh x wV).1,(MP x wV).2⟩
theorem Z' {S:St} {d:Nat} {T:TypeId} {n:Nat} {hn:Hn} {ps:List (Nat×Operand)} (hx:∀ q∈ps,gK S q.2=true):
  ∃ oG:Option (Bool×qz),(∀ g E,oG=some (g,E)→E.d=d∧nu E.v∧E.b8.Nodup∧∀ r∈E.b8,r∈ps.flatMap fun q=>aS q.2)∧∀ S',nO S S' (ps.flatMap fun q=>aS q.2)→bH Θ hn S' (some d) T n ps=oG.map fun q=>(q.1,q.2.app S'):=by
 cases hf:Θ.find T with
 |none=>exact⟨none,fun g E e=>(by cases e),fun S' ha=>by unfold bH;simp only[hf];rfl⟩
 |some i=>
  by_cases Cp:∃ t,i.ty=.sl t
  rotate_left
  ·refine⟨none,fun g E e=>(by cases e),fun S' ha=>?_⟩
   unfold bH
   simp only[hf]
   split
   ·rename_i heq
    injection heq with heq
    subst heq
    exact absurd ⟨_,rfl⟩ Cp
   ·rfl
  obtain⟨t,ht⟩:=Cp
  obtain⟨q1,ty,e,q4⟩:=i
  simp only at ht
  subst ht
  obtain⟨oL,l1,l2⟩:=Ai (Θ:=Θ) (List.replicate n e) 0 (fun q hq=>WA (hx q hq))
  cases hc:(jX n ps&&Nat.ble n 1800) with
  |false=>exact⟨none,fun g E e=>(by cases e),fun S' ha=>by unfold bH;simp only[hf,hc,cond_false];rfl⟩
  |true=>
   cases oL with
   |none=>exact⟨none,fun g E e=>(by cases e),fun S' ha=>by unfold bH;simp only[hf,hc,cond_true,l2 S' ha];rfl⟩
   |some q=>
    obtain⟨l,ks⟩:=q
    obtain⟨MN,z6⟩:=l1 l ks rfl
    cases l with
    |nil=>
     refine⟨some (true,⟨ks,d,.v ⟨.sl t,bif hn.Z1 (some d) then .k else .o e none (hn.find (some d) .k),[]⟩ []⟩),fun g E e=>?_,fun S' ha=>by unfold bH;simp only[hf,hc,cond_true,l2 S' ha];rfl⟩
     injection e with e
     injection e with _ e
     subst e
     exact⟨rfl,fun _=>rfl,MN,fun r hr=>(z6 r hr).1⟩
    |cons a l=>
     cases hl:qR t a.m (a::l) with
     |none=>exact⟨none,fun g E e=>(by cases e),fun S' ha=>by unfold bH;simp only[hf,hc,cond_true,l2 S' ha,Option.map_some,hl];rfl⟩
     |some xs=>
      refine⟨some (true,⟨ks,d,.v ⟨.sl t,bif hn.Z1 (some d)&&a.m.bP then .k else .o e none a.m,xs⟩ []⟩),fun g E e=>?_,fun S' ha=>by unfold bH;simp only[hf,hc,cond_true,l2 S' ha,Option.map_some,hl];rfl⟩
      injection e with e
      injection e with _ e
      subst e
      exact⟨rfl,fun _=>rfl,MN,fun r hr=>(z6 r hr).1⟩
theorem RT {S:St} {x:Operand} (h:RJ S x=true):gK S x=true:=by
 cases x with
 |tmp i=>
  simp only[RJ] at h
  simp only[gK]
  split at h
  ·rename_i ha;rw[ha]
  ·cases h
 |const c=>rfl
 |func f=>exact h
 |global g=>exact h
theorem Es {S S':St} {d:Int} {x:Option Operand} (h:Cl S x=true) (ha:nO S S' (eN x)):gD Θ S' d x=gD Θ S d x:=by
 cases x with
 |none=>rfl
 |some x=>
  simp only[gD,St.kY,IK h ha]
theorem akh {S:St} {d:Nat} {T:TypeId} {x:Operand} {lo hi:Option Operand} (hx:RJ S x=true) (hlo:Cl S lo=true) (Et:Cl S hi=true):
  ∃ o:Option (Bool×TV),∀ S',nO S S' (aS x++(eN lo++eN hi))→dX Θ S' (some d) T x lo hi none=o.map fun q=>(q.1,S'.put (some d) (.v q.2 [])):=by
 have ag:∀ {S':St},nO S S' (aS x++(eN lo++eN hi))→S'.dP Θ 0 x=S.dP Θ 0 x∧S'.rd Θ 0 x=S.rd Θ 0 x∧gD Θ S' 0 lo=gD Θ S 0 lo∧∀ n,gD Θ S' n hi=gD Θ S n hi:=fun ha=>
  ⟨DA (fun r hr=>ha r (by simp[hr])) 0,IK (RT hx) (fun r hr=>ha r (by simp[hr])) 0,Es hlo fun r hr=>ha r (by simp[hr]),fun n=>Es Et fun r hr=>ha r (by simp[hr])⟩
 have dA:(∃ t y,S.dP Θ 0 x=some (.v ⟨t,.k,y⟩ [])∧S.rd Θ 0 x=some ⟨t,.k,y⟩)∨∃ c,x=.const c:=by
  cases x with
  |tmp i=>
   simp only[RJ] at hx
   split at hx
   ·rename_i t y ha
    exact .inl ⟨t,y,by simp[St.dP,ha],by simp[St.rd,St.dP,ha,St.sy]⟩
   ·cases hx
  |const c=>exact .inr ⟨c,rfl⟩
  |func f=>simp[RJ] at hx
  |global g=>simp[RJ] at hx
 have iM:(∃ a,S.dP Θ 0 x=some (.v a [])∧S.rd Θ 0 x=some a∧(a.m=.k∨∃ c,x=.const c))∨S.dP Θ 0 x=none:=by
  rcases dA with⟨t,y,h1,h2⟩ |⟨c,rfl⟩
  ·exact .inl ⟨_,h1,h2,.inl rfl⟩
  ·simp only[St.rd,St.dP]
   cases mK Θ 0 c with
   |none=>exact .inr rfl
   |some a=>exact .inl ⟨a,rfl,rfl,.inr ⟨c,rfl⟩⟩
 rcases iM with⟨a,h1,h2,hm⟩ |h1
 rotate_left
 ·exact⟨none,fun S' ha=>by unfold dX;rw[(ag ha).1,h1];rfl⟩
 cases hl:gD Θ S 0 lo with
 |none=>
  refine⟨none,fun S' ha=>?_⟩
  obtain⟨e1,e2,e3,e4⟩:=ag ha
  unfold dX
  rw[e1,e2,e3,h1,h2,hl]
  obtain⟨t,m,y⟩:=a
  cases t<;>rfl
 |some l=>
  obtain⟨t,m,y⟩:=a
  have aBN:(∀ S',dX Θ S' (some d) T x lo hi none=none)→∃ o:Option (Bool×TV),∀ S',nO S S' (aS x++(eN lo++eN hi))→dX Θ S' (some d) T x lo hi none=o.map fun q=>(q.1,S'.put (some d) (.v q.2 [])):=fun h=>⟨none,fun S' _=>h S'⟩
  cases t with
  |str=>
   cases hh:gD Θ S (ByteArray.size y:Int) hi with
   |none=>
    refine⟨none,fun S' ha=>?_⟩
    obtain⟨e1,e2,e3,e4⟩:=ag ha
    unfold dX
    rw[e1,e2,e3,h1,h2,hl]
    simp only[e4,hh]
    rfl
   |some h'=>
    cases hT:Θ.is T .str with
    |false=>
     refine⟨none,fun S' ha=>?_⟩
     obtain⟨e1,e2,e3,e4⟩:=ag ha
     unfold dX
     rw[e1,e2,e3,h1,h2,hl]
     simp only[e4,hh,hT]
     rfl
    |true=>
     refine⟨some (decide (0≤l)&&decide (l≤h')&&decide (h'≤(ByteArray.size y:Int)),⟨.str,.k,ByteArray.extract y l.toNat h'.toNat⟩),fun S' ha=>?_⟩
     obtain⟨e1,e2,e3,e4⟩:=ag ha
     unfold dX
     rw[e1,e2,e3,h1,h2,hl]
     simp only[e4,hh,hT]
     rfl
  |sl t=>
   cases hT:Θ.is T (.sl t) with
   |false=>
    refine⟨none,fun S' ha=>?_⟩
    obtain⟨e1,e2,e3,e4⟩:=ag ha
    unfold dX
    rw[e1,e2,e3,h1,h2,hl]
    simp only[hT]
    rfl
   |true=>
    cases hh:gD Θ S (List.length y:Int) hi with
    |none=>
     refine⟨none,fun S' ha=>?_⟩
     obtain⟨e1,e2,e3,e4⟩:=ag ha
     unfold dX
     rw[e1,e2,e3,h1,h2,hl]
     simp only[hT,e4,hh]
     rfl
    |some h'=>
     by_cases hk:m=.k
     ·subst hk
      refine⟨some (decide (0≤l)&&decide (l≤h')&&decide (h'≤(List.length y:Int)),⟨.sl t,.k,(List.take h'.toNat y).drop l.toNat⟩),fun S' ha=>?_⟩
      obtain⟨e1,e2,e3,e4⟩:=ag ha
      unfold dX
      rw[e1,e2,e3,h1,h2,hl]
      simp only[hT,e4,hh]
      rfl
     ·obtain⟨c,rfl⟩:=hm.resolve_left hk
      refine⟨none,fun S' ha=>?_⟩
      obtain⟨e1,e2,e3,e4⟩:=ag ha
      unfold dX
      rw[e1,e2,e3,h1,h2,hl]
      simp only[hT,e4,hh,cond_true]
      cases m<;>first |exact absurd rfl hk |rfl
  |_=>
   refine⟨none,fun S' ha=>?_⟩
   obtain⟨e1,e2,e3,e4⟩:=ag ha
   unfold dX
   rw[e1,e2,e3,h1,h2,hl]
   rfl
theorem aaa {S:St} {d:Nat} {T:TypeId} {x ix:Operand} (hx:RJ S x=true) (hix:gK S ix=true):
  ∃ o:Option (Bool×TV),∀ S',nO S S' (aS x++aS ix)→ck Θ S' (some d) T x ix=o.map fun q=>(q.1,S'.put (some d) (.v q.2 [])):=by
 have ag:∀ {S':St},nO S S' (aS x++aS ix)→S'.dP Θ 0 x=S.dP Θ 0 x∧S'.kY Θ ix=S.kY Θ ix:=fun ha=>
  ⟨DA (fun r hr=>ha r (by simp[hr])) 0,by unfold St.kY;rw[IK hix (fun r hr=>ha r (by simp[hr])) 0]⟩
 have iM:(∃ a,S.dP Θ 0 x=some (.v a [])∧(a.m=.k∨∃ c,x=.const c))∨S.dP Θ 0 x=none:=by
  cases x with
  |tmp i=>
   simp only[RJ] at hx
   split at hx
   ·rename_i t y ha
    exact .inl ⟨⟨t,.k,y⟩,by simp[St.dP,ha],.inl rfl⟩
   ·cases hx
  |const c=>
   simp only[St.dP]
   cases mK Θ 0 c with
   |none=>exact .inr rfl
   |some a=>exact .inl ⟨a,rfl,.inr ⟨c,rfl⟩⟩
  |func f=>simp[RJ] at hx
  |global g=>simp[RJ] at hx
 rcases iM with⟨a,h1,hm⟩ |h1
 rotate_left
 ·exact⟨none,fun S' ha=>by unfold ck;rw[(ag ha).1,h1];rfl⟩
 cases hn:S.kY Θ ix with
 |none=>
  refine⟨none,fun S' ha=>?_⟩
  obtain⟨e1,e2⟩:=ag ha
  unfold ck
  rw[e1,e2,h1,hn]
  obtain⟨t,m,y⟩:=a
  cases t<;>rfl
 |some n=>
  obtain⟨t,m,y⟩:=a
  cases t with
  |sl t=>
   cases hT:Θ.is T (.sl t) with
   |false=>
    refine⟨none,fun S' ha=>?_⟩
    obtain⟨e1,e2⟩:=ag ha
    unfold ck
    rw[e1,e2,h1,hn]
    simp only[hT]
    rfl
   |true=>
    by_cases hk:m=.k
    ·subst hk
     refine⟨some (aM n (List.length y),⟨.ptr t,.k,List.getD y n.toNat t.z⟩),fun S' ha=>?_⟩
     obtain⟨e1,e2⟩:=ag ha
     unfold ck
     rw[e1,e2,h1,hn]
     simp only[hT]
     rfl
    ·obtain⟨c,rfl⟩:=hm.resolve_left hk
     refine⟨none,fun S' ha=>?_⟩
     obtain⟨e1,e2⟩:=ag ha
     unfold ck
     rw[e1,e2,h1,hn]
     simp only[hT,cond_true]
     cases m<;>first |exact absurd rfl hk |rfl
  |_=>
   refine⟨none,fun S' ha=>?_⟩
   obtain⟨e1,e2⟩:=ag ha
   unfold ck
   rw[e1,e2,h1,hn]
   rfl
theorem w5 {S:St} {o:Oper} (hg:jx O ops S o=true):o.guard=none∧∃ d,o.dst=some d∧(S.at d).z8=false∧d<S.length:=by
 unfold jx at hg
 simp only[Bool.and_eq_true] at hg
 obtain⟨⟨h1,h2⟩,_⟩:=hg
 refine⟨?_,?_⟩
 ·split at h1
  ·assumption
  ·cases h1
 ·split at h2
  ·rename_i d hd
   simp only[Bool.and_eq_true,Bool.not_eq_true'] at h2
   exact⟨d,hd,h2.1,Nat.lt_of_lt_of_le (Nat.lt_succ_self _) (Nat.le_of_ble_eq_true h2.2)⟩
  ·cases h2
theorem ib {S:St} {x:Operand} (h:gK S x=true):∀ r∈aS x,∃ a,S.at r=.v a []:=by
 intro r hr
 rcases qZ (Θ:=[]) h 0 with⟨i,a,rfl,h1,_⟩ |⟨c,rfl⟩
 ·simp only[aS,List.mem_singleton] at hr
  subst hr
  exact⟨a,h1⟩
 ·simp[aS] at hr
theorem IM {S S':St} {Θ:de} {dst:Option Nat}:∀ {as:List Operand} {ts:List TypeId},(∀ x∈as,gK S x=true)→nO S S' (as.flatMap aS)→fE Θ S' dst ts as=none:=by
 intro as ts bU ha
 unfold fE
 split
 ·rename_i x y T T'
  split
  ·rename_i tt s st pp dA
   exfalso
   have h1:=bU x (by simp)
   cases x with
   |tmp i=>
    have h2:=ha i (by simp[aS])
    simp only[St.dP,Option.some.injEq] at dA
    rw[h2] at dA
    simp only[gK,dA] at h1
    cases h1
   |const c=>
    simp only[St.dP] at dA
    split at dA<;>cases dA
   |func f=>simp[gK] at h1
   |global g=>simp[gK] at h1
  ·rfl
 ·rfl
theorem WD (hO:nL O) {i:Nat} {o:Oper} (ho:ops[i]?=some o) {S:St} (hg:jx O ops S o=true) {d:Nat} (hd:o.dst=some d):
  ∃ oE:Option qz,(∀ E,oE=some E→E.d=d∧nu E.v∧E.b8.Nodup∧(∀ r∈E.b8,r∈aV ops o)∧(jy o=true→E.b8=[]))∧∀ S',nO S S' (aV ops o)→∀ K,aW h O ops i S' K=oE.bind fun E=>K (E.app S'):=by
 have hgd:=(w5 hg).1
 have val:∀ {o':Option (Bool×TV)} {G4:St→z'},jy o=true→(∀ S' K,aW h O ops i S' K=match G4 S' with
    |some (g,S1)=>bif g then K S1 else none
    |none=>none)→(∀ S',nO S S' (aV ops o)→G4 S'=o'.map fun q=>(q.1,S'.put (some d) (.v q.2 [])))→
   ∃ oE:Option qz,(∀ E,oE=some E→E.d=d∧nu E.v∧E.b8.Nodup∧(∀ r∈E.b8,r∈aV ops o)∧(jy o=true→E.b8=[]))∧∀ S',nO S S' (aV ops o)→∀ K,aW h O ops i S' K=oE.bind fun E=>K (E.app S'):=by
  intro o' G4 hc b5 G3
  cases o' with
  |none=>exact⟨none,fun E e=>(by cases e),fun S' ha K=>by rw[b5,G3 S' ha];rfl⟩
  |some q=>
   obtain⟨g,r⟩:=q
   cases g with
   |false=>exact⟨none,fun E e=>(by cases e),fun S' ha K=>by rw[b5,G3 S' ha];rfl⟩
   |true=>
    refine⟨some ⟨[],d,.v r []⟩,fun E e=>?_,fun S' ha K=>by rw[b5,G3 S' ha];rfl⟩
    injection e with e
    subst e
    exact⟨rfl,fun _=>rfl,List.nodup_nil,fun r hr=>(by cases hr),fun _=>rfl⟩
 unfold jx at hg
 simp only[Bool.and_eq_true] at hg
 have bU:=hg.2
 split at bU
 ·rename_i f as ts cF
  simp only[Bool.and_eq_true,List.all_eq_true] at bU
  obtain⟨oE,h1,h2⟩:=adf (h:=h) hO ho hgd hd cF bU.1 bU.2
  have hl:aV ops o=as.toList.flatMap aS:=by unfold aV;rw[cF]
  refine⟨oE,fun E hE=>?_,fun S' ha=>h2 S' (by rw[hl] at ha;exact ha)⟩
  obtain⟨e1,e2,e3⟩:=h1 E hE
  exact⟨e1,e3,by rw[e2];exact List.nodup_nil,fun r hr=>by rw[e2] at hr;(cases hr),fun _=>e2⟩
 ·rename_i as ts cF
  simp only[List.all_eq_true] at bU
  have hl:aV ops o=as.toList.flatMap aS:=by unfold aV;rw[cF]
  have hcb:jy o=false:=by unfold jy;rw[cF]
  have jz:∀ S' K,nO S S' (as.toList.flatMap aS)→aW h O ops i S' K=match cl h.tab S' (some d) ts.toList as.toList with
    |some (g,S1)=>bif g then K S1 else none
    |none=>none:=by
   intro S' K ha
   unfold aW
   rw[ho]
   simp only[hgd]
   unfold gG
   rw[cF]
   simp only[ev,cF,hd]
   rcases cl h.tab S' (some d) ts.toList as.toList with _ |⟨g,S1⟩
   ·simp only[IM bU ha]
   ·rfl
  have fin:∀ oG:Option (Bool×qz),(∀ g E,oG=some (g,E)→E.d=d∧nu E.v∧E.b8.Nodup∧∀ r∈E.b8,r∈as.toList.flatMap aS)→(∀ S',nO S S' (as.toList.flatMap aS)→cl h.tab S' (some d) ts.toList as.toList=oG.map fun q=>(q.1,q.2.app S'))→
    ∃ oE:Option qz,(∀ E,oE=some E→E.d=d∧nu E.v∧E.b8.Nodup∧(∀ r∈E.b8,r∈aV ops o)∧(jy o=true→E.b8=[]))∧∀ S',nO S S' (aV ops o)→∀ K,aW h O ops i S' K=oE.bind fun E=>K (E.app S'):=by
   intro oG h1 h2
   cases oG with
   |none=>exact⟨none,fun E e=>(by cases e),fun S' ha K=>by rw[jz S' K (by rw[hl] at ha;exact ha),h2 S' (by rw[hl] at ha;exact ha)];rfl⟩
   |some q=>
    obtain⟨g,E⟩:=q
    cases g with
    |false=>exact⟨none,fun E e=>(by cases e),fun S' ha K=>by rw[jz S' K (by rw[hl] at ha;exact ha),h2 S' (by rw[hl] at ha;exact ha)];rfl⟩
    |true=>
     refine⟨some E,fun E' e=>?_,fun S' ha K=>by rw[jz S' K (by rw[hl] at ha;exact ha),h2 S' (by rw[hl] at ha;exact ha)];rfl⟩
     injection e with e
     subst e
     obtain⟨e1,e2,e3,e4⟩:=h1 true E rfl
     exact⟨e1,e2,e3,by rw[hl];exact e4,fun hc=>by rw[hcb] at hc;cases hc⟩
  by_cases Cp:∃ x y T T',as.toList=[x,y]∧ts.toList=[T,T']
  ·obtain⟨x,y,T,T',ha,ht⟩:=Cp
   rw[ha] at bU
   obtain⟨oG,h1,h2⟩:=RQ (Θ:=h.tab) (d:=d) (T:=T) (T':=T') (bU x (by simp)) (bU y (by simp))
   refine fin oG ?_ ?_
   ·intro g E e
    obtain⟨e1,e2,e3,e4⟩:=h1 g E e
    exact⟨e1,e2,e3,fun r hr=>by rw[ha];simpa using e4 r hr⟩
   ·intro S' hs
    rw[ha,ht]
    exact h2 S' (by rw[ha] at hs;simpa using hs)
  ·refine fin none (fun g E e=>(by cases e)) fun S' hs=>?_
   unfold cl
   split
   ·rename_i x y T T' ha ht
    exact absurd ⟨x,y,T,T',ha,ht⟩ Cp
   ·rfl
 ·rename_i T n ps cF
  simp only[List.all_eq_true] at bU
  have hl:aV ops o=ps.toList.flatMap fun q=>aS q.2:=by unfold aV;rw[cF]
  have hcb:jy o=false:=by unfold jy;rw[cF]
  have jz:∀ S' K,aW h O ops i S' K=match bH h.tab h.hn S' (some d) T n ps.toList with
    |some (g,S1)=>bif g then K S1 else none
    |none=>none:=by
   intro S' K
   unfold aW
   rw[ho]
   simp only[hgd]
   unfold gG
   rw[cF]
   simp only[ev,cF,hd]
   rcases bH h.tab h.hn S' (some d) T n ps.toList with _ |⟨g,S1⟩<;>rfl
  obtain⟨oG,h1,h2⟩:=Z' (Θ:=h.tab) (d:=d) (T:=T) (n:=n) (hn:=h.hn) bU
  cases oG with
  |none=>exact⟨none,fun E e=>(by cases e),fun S' ha K=>by rw[jz,h2 S' (by rw[hl] at ha;exact ha)];rfl⟩
  |some q=>
   obtain⟨g,E⟩:=q
   cases g with
   |false=>exact⟨none,fun E e=>(by cases e),fun S' ha K=>by rw[jz,h2 S' (by rw[hl] at ha;exact ha)];rfl⟩
   |true=>
    refine⟨some E,fun E' e=>?_,fun S' ha K=>by rw[jz,h2 S' (by rw[hl] at ha;exact ha)];rfl⟩
    injection e with e
    subst e
    obtain⟨e1,e2,e3,e4⟩:=h1 true E rfl
    exact⟨e1,e2,e3,by rw[hl];exact e4,fun hc=>by rw[hcb] at hc;cases hc⟩
 ·rename_i T x cF
  split at bU
  case h_4=>cases bU
  case h_2=>
   rename_i t y hb hx
   have hl:aV ops o=[x]:=by unfold aV;rw[cF];simp only[hb]
   refine val (G4:=fun S'=>fZ h.tab S' (some d) T (.tmp x)) (o':=(bif h.tab.is T t then some (true,⟨t,.k,y⟩) else none)) (by unfold jy;rw[cF]) (fun S' K=>by unfold aW;rw[ho];simp only[hgd];unfold gG;rw[cF];simp only[ev,cF,hd];rcases fZ h.tab S' (some d) T (.tmp x) with _ |⟨g,S1⟩<;>rfl) fun S' ha=>?_
   rw[hl] at ha
   have h1:S'.at x=.v ⟨.ptr t,.k,y⟩ []:=(ha x (by simp)).trans hx
   unfold fZ
   simp only[St.dP,h1,St.Hr,St.loadAt,Tgt.ty,RG]
   cases h.tab.is T t<;>rfl
  case h_3=>
   rename_i t T1 tg me y hb hx
   have hl:aV ops o=[x]:=by unfold aV;rw[cF];simp only[hb]
   split at bU
   case h_2=>cases bU
   rename_i b Cr
   refine val (G4:=fun S'=>fZ h.tab S' (some d) T (.tmp x)) (o':=match S.place x [.deref] with
    |some c=>bif h.tab.is T t then some (true,RG c) else none
    |none=>none) (by unfold jy;rw[cF]) (fun S' K=>by unfold aW;rw[ho];simp only[hgd];unfold gG;rw[cF];simp only[ev,cF,hd];rcases fZ h.tab S' (some d) T (.tmp x) with _ |⟨g,S1⟩<;>rfl) fun S' ha=>?_
   rw[hl] at ha
   have h1:S'.at x=.v ⟨.ptr t,.o T1 tg me,y⟩ []:=(ha x (by simp)).trans hx
   have h2:S'.c9 x [.deref]=some b:=by rw[←Cr];unfold St.c9;rw[ha x (by simp)]
   have h3:S'.place x [.deref]=S.place x [.deref]:=by unfold St.place;rw[ha x (by simp)]
   unfold fZ
   simp only[St.dP,h1,St.Hr,St.loadAt,h2,bU,cond_true,h3,Tgt.ty]
   cases S.place x [.deref] with
   |none=>rfl
   |some c=>simp only;cases h.tab.is T t<;>rfl
  rename_i s t s' p hb hx
  simp only[Bool.and_eq_true] at bU
  obtain⟨hs,hk⟩:=bU
  have:=Nat.eq_of_beq_eq_true hs
  subst this
  have hl:aV ops o=[x,s']:=by unfold aV;rw[cF];simp only[hb]
  have jz:∀ S' K,aW h O ops i S' K=match fZ h.tab S' (some d) T (.tmp x) with
    |some (g,S1)=>bif g then K S1 else none
    |none=>none:=by
   intro S' K
   unfold aW
   rw[ho]
   simp only[hgd]
   unfold gG
   rw[cF]
   simp only[ev,cF,hd]
   rcases fZ h.tab S' (some d) T (.tmp x) with _ |⟨g,S1⟩<;>rfl
  split at hk
  case h_2=>cases hk
  rename_i b Cr
  have G3:∀ S',nO S S' [x,s']→fZ h.tab S' (some d) T (.tmp x)=match S.place s' p with
    |some c=>bif h.tab.is T t then some (true,S'.put (some d) (.v (RG c) [])) else none
    |none=>none:=by
   intro S' ha
   have h1:S'.at x=.ad t s' p:=(ha x (by simp)).trans hx
   have h2:S'.c9 s' p=some b:=by rw[←Cr];unfold St.c9;rw[ha s' (by simp)]
   have h3:S'.place s' p=S.place s' p:=by unfold St.place;rw[ha s' (by simp)]
   unfold fZ
   simp only[St.dP,h1,St.Hr,St.loadAt,h2,hk,cond_true,h3]
   cases S.place s' p<;>rfl
  cases hp:S.place s' p with
  |none=>exact⟨none,fun E e=>(by cases e),fun S' ha K=>by rw[jz,G3 S' (by rw[hl] at ha;exact ha),hp];rfl⟩
  |some c=>
   cases hT:h.tab.is T t with
   |false=>exact⟨none,fun E e=>(by cases e),fun S' ha K=>by rw[jz,G3 S' (by rw[hl] at ha;exact ha),hp];simp only[hT];rfl⟩
   |true=>
    refine⟨some ⟨[],d,.v (RG c) []⟩,fun E e=>?_,fun S' ha K=>by rw[jz,G3 S' (by rw[hl] at ha;exact ha),hp];simp only[hT];rfl⟩
    injection e with e
    subst e
    exact⟨rfl,fun _=>rfl,List.nodup_nil,fun r hr=>(by cases hr),fun _=>rfl⟩
 ·rename_i T x lo hi cF
  simp only[Bool.and_eq_true] at bU
  obtain⟨o',h1⟩:=akh (Θ:=h.tab) (d:=d) (T:=T) bU.1 bU.2.1 bU.2.2
  have hl:aV ops o=aS x++(eN lo++eN hi):=by unfold aV;rw[cF]
  exact val (o':=o') (by unfold jy;rw[cF]) (fun S' K=>by unfold aW;rw[ho];simp only[hgd];unfold gG;rw[cF];simp only[ev,cF,hd];rcases dX h.tab S' (some d) T x lo hi none with _ |⟨g,S1⟩<;>rfl) fun S' ha=>h1 S' (by rw[hl] at ha;exact ha)
 ·rename_i T x ix cF
  simp only[Bool.and_eq_true] at bU
  obtain⟨o',h1⟩:=aaa (Θ:=h.tab) (d:=d) (T:=T) bU.1 bU.2
  have hl:aV ops o=aS x++aS ix:=by unfold aV;rw[cF]
  exact val (o':=o') (by unfold jy;rw[cF]) (fun S' K=>by unfold aW;rw[ho];simp only[hgd];unfold gG;rw[cF];simp only[ev,cF,hd];rcases ck h.tab S' (some d) T x ix with _ |⟨g,S1⟩<;>rfl) fun S' ha=>h1 S' (by rw[hl] at ha;exact ha)
 ·cases bU
theorem Ak {S:St} {o:Oper} (hg:jx O ops S o=true):(jy o=true∨∀ r∈aV ops o,∃ a,S.at r=.v a [])∧∀ r∈aV ops o,S.at r≠ .dead∧∀ x,(S.at r).refs x=true→x∈aV ops o:=by
 have key:(∀ r∈aV ops o,∃ a,S.at r=.v a [])→(jy o=true∨∀ r∈aV ops o,∃ a,S.at r=.v a [])∧∀ r∈aV ops o,S.at r≠ .dead∧∀ x,(S.at r).refs x=true→x∈aV ops o:=fun h=>by
  refine⟨.inr h,fun r hr=>?_⟩
  obtain⟨a,ha⟩:=h r hr
  rw[ha]
  exact⟨fun e=>(by cases e),fun x hx=>by simp[AV.refs] at hx⟩
 unfold jx at hg
 simp only[Bool.and_eq_true] at hg
 have bU:=hg.2
 split at bU
 ·rename_i f as ts cF
  simp only[Bool.and_eq_true,List.all_eq_true] at bU
  refine key fun r hr=>?_
  unfold aV at hr
  rw[cF] at hr
  obtain⟨x,hx,hr⟩:=List.mem_flatMap.1 hr
  exact ib (bU.2 x hx) r hr
 ·rename_i as ts cF
  simp only[List.all_eq_true] at bU
  refine key fun r hr=>?_
  unfold aV at hr
  rw[cF] at hr
  obtain⟨x,hx,hr⟩:=List.mem_flatMap.1 hr
  exact ib (bU x hx) r hr
 ·rename_i T n ps cF
  simp only[List.all_eq_true] at bU
  refine key fun r hr=>?_
  unfold aV at hr
  rw[cF] at hr
  obtain⟨x,hx,hr⟩:=List.mem_flatMap.1 hr
  exact ib (bU x hx) r hr
 ·rename_i T x cF
  split at bU
  case h_4=>cases bU
  case h_2=>
   rename_i t y hb hx
   have hl:aV ops o=[x]:=by unfold aV;rw[cF];simp only[hb]
   refine key fun r hr=>?_
   rw[hl] at hr
   simp only[List.mem_singleton] at hr
   subst hr
   exact⟨_,hx⟩
  case h_3=>
   rename_i t T1 tg me y hb hx
   have hl:aV ops o=[x]:=by unfold aV;rw[cF];simp only[hb]
   refine key fun r hr=>?_
   rw[hl] at hr
   simp only[List.mem_singleton] at hr
   subst hr
   exact⟨_,hx⟩
  rename_i s t s' p hb hx
  simp only[Bool.and_eq_true] at bU
  obtain⟨hs,hk⟩:=bU
  have:=Nat.eq_of_beq_eq_true hs
  subst this
  have hl:aV ops o=[x,s']:=by unfold aV;rw[cF];simp only[hb]
  refine⟨.inl (by unfold jy;rw[cF]),fun r hr=>?_⟩
  rw[hl] at hr ⊢
  simp only[List.mem_cons,List.not_mem_nil,or_false] at hr
  rcases hr with rfl |rfl
  ·rw[hx]
   refine⟨fun e=>(by cases e),fun y hy=>?_⟩
   simp only[AV.refs] at hy
   have:=Nat.eq_of_beq_eq_true hy
   simp[this]
  ·split at hk
   case h_2=>cases hk
   rename_i b Cr
   unfold St.c9 at Cr
   split at Cr
   ·rename_i a ex ha
    rw[ha]
    exact⟨fun e=>(by cases e),fun y hy=>by simp[AV.refs] at hy⟩
   ·cases Cr
 ·rename_i T x lo hi cF
  simp only[Bool.and_eq_true] at bU
  have hl:aV ops o=aS x++(eN lo++eN hi):=by unfold aV;rw[cF]
  refine key fun r hr=>?_
  rw[hl] at hr
  have adi:∀ {y:Option Operand},Cl S y=true→r∈eN y→∃ a,S.at r=.v a []:=fun {y} h hr=>by
   cases y with
   |none=>simp[eN] at hr
   |some y=>exact ib h r hr
  rcases List.mem_append.1 hr with hr |hr
  ·exact ib (RT bU.1) r hr
  ·rcases List.mem_append.1 hr with hr |hr
   ·exact adi bU.2.1 hr
   ·exact adi bU.2.2 hr
 ·rename_i T x ix cF
  simp only[Bool.and_eq_true] at bU
  have hl:aV ops o=aS x++aS ix:=by unfold aV;rw[cF]
  refine key fun r hr=>?_
  rw[hl] at hr
  rcases List.mem_append.1 hr with hr |hr
  ·exact ib (RT bU.1) r hr
  ·exact ib bU.2 r hr
 ·cases bU
theorem q9 {S S':St} {x:Operand} (h:gK S x=true) (ha:nO S S' (aS x)):gK S' x=true:=by
 cases x with
 |tmp i=>simp only[gK,ha i (by simp[aS])] at h ⊢;exact h
 |const c=>rfl
 |func f=>exact h
 |global g=>exact h
theorem WE {S S':St} {x:Operand} (h:RJ S x=true) (ha:nO S S' (aS x)):RJ S' x=true:=by
 cases x with
 |tmp i=>simp only[RJ,ha i (by simp[aS])] at h ⊢;exact h
 |const c=>rfl
 |func f=>exact h
 |global g=>exact h
theorem HD {S S':St} {o:Oper} (hg:jx O ops S o=true) (ha:nO S S' (aV ops o)) (hl:S'.length=S.length) (hd:∀ d,o.dst=some d→(S'.at d).z8=false):jx O ops S' o=true:=by
 obtain⟨h1,d,h2,h3,h4⟩:=w5 hg
 unfold jx at hg ⊢
 simp only[Bool.and_eq_true] at hg ⊢
 refine⟨⟨hg.1.1,?_⟩,?_⟩
 ·rw[h2]
  simp only[hd d h2,Bool.not_false,Bool.true_and]
  rw[hl]
  exact Nat.ble_eq_true_of_le h4
 ·have bU:=hg.2
  split at bU
  ·rename_i f as ts cF
   have RU:aV ops o=as.toList.flatMap aS:=by unfold aV;rw[cF]
   rw[RU] at ha
   simp only[Bool.and_eq_true,List.all_eq_true] at bU
   simp only[Bool.and_eq_true,List.all_eq_true]
   exact⟨bU.1,fun x hx=>q9 (bU.2 x hx) fun r hr=>ha r (List.mem_flatMap.2 ⟨x,hx,hr⟩)⟩
  ·rename_i as ts cF
   have RU:aV ops o=as.toList.flatMap aS:=by unfold aV;rw[cF]
   rw[RU] at ha
   simp only[List.all_eq_true] at bU
   simp only[List.all_eq_true]
   exact fun x hx=>q9 (bU x hx) fun r hr=>ha r (List.mem_flatMap.2 ⟨x,hx,hr⟩)
  ·rename_i T n ps cF
   have RU:aV ops o=ps.toList.flatMap fun q=>aS q.2:=by unfold aV;rw[cF]
   rw[RU] at ha
   simp only[List.all_eq_true] at bU
   simp only[List.all_eq_true]
   exact fun x hx=>q9 (bU x hx) fun r hr=>ha r (List.mem_flatMap.2 ⟨x,hx,hr⟩)
  ·rename_i T x cF
   split at bU
   case h_4=>cases bU
   case h_2=>
    rename_i t y hb hx
    have RU:aV ops o=[x]:=by unfold aV;rw[cF];simp only[hb]
    rw[RU] at ha
    rw[hb,(ha x (by simp)).trans hx]
   case h_3=>
    rename_i t T1 tg me y hb hx
    have RU:aV ops o=[x]:=by unfold aV;rw[cF];simp only[hb]
    rw[RU] at ha
    have h2:S'.c9 x [.deref]=S.c9 x [.deref]:=by unfold St.c9;rw[ha x (by simp)]
    rw[hb,(ha x (by simp)).trans hx]
    simp only[h2]
    exact bU
   rename_i s t s' p hb hx
   simp only[Bool.and_eq_true] at bU
   obtain⟨hs,hk⟩:=bU
   have:=Nat.eq_of_beq_eq_true hs
   subst this
   have RU:aV ops o=[x,s']:=by unfold aV;rw[cF];simp only[hb]
   rw[RU] at ha
   have h1:S'.at x=.ad t s' p:=(ha x (by simp)).trans hx
   have h2:S'.c9 s' p=S.c9 s' p:=by unfold St.c9;rw[ha s' (by simp)]
   rw[hb,h1]
   simp only[Bool.and_eq_true,h2]
   exact⟨Nat.beq_refl _,hk⟩
  ·rename_i T x lo hi cF
   simp only[Bool.and_eq_true] at bU
   have RU:aV ops o=aS x++(eN lo++eN hi):=by unfold aV;rw[cF]
   rw[RU] at ha
   simp only[Bool.and_eq_true]
   have adi:∀ {y:Option Operand},Cl S y=true→(∀ r∈eN y,r∈aS x++(eN lo++eN hi))→Cl S' y=true:=fun {y} h hs=>by
    cases y with
    |none=>rfl
    |some y=>exact q9 h fun r hr=>ha r (hs r hr)
   exact⟨WE bU.1 fun r hr=>ha r (by simp[hr]),adi bU.2.1 fun r hr=>by simp[hr],adi bU.2.2 fun r hr=>by simp[hr]⟩
  ·rename_i T x ix cF
   simp only[Bool.and_eq_true] at bU
   have RU:aV ops o=aS x++aS ix:=by unfold aV;rw[cF]
   rw[RU] at ha
   simp only[Bool.and_eq_true]
   exact⟨WE bU.1 fun r hr=>ha r (by simp[hr]),q9 bU.2 fun r hr=>ha r (by simp[hr])⟩
  ·cases bU
theorem IN {S:St} {o:Oper} (hg:jx O ops S o=true) {d:Nat} (hd:o.dst=some d) {E:qz} (he:E.d=d∧nu E.v∧E.b8.Nodup∧(∀ r∈E.b8,r∈aV ops o)∧(jy o=true→E.b8=[])):E.In S:=by
 obtain⟨_,d',h2,h3,h4⟩:=w5 hg
 rw[hd] at h2
 injection h2 with h2
 subst h2
 obtain⟨e1,e2,e3,e4,e5⟩:=he
 have hv:∀ r∈E.b8,∃ a,S.at r=.v a []:=fun r hr=>by
  rcases(Ak hg).1 with hc |hv
  ·rw[e5 hc] at hr;cases hr
  ·exact hv r (e4 r hr)
 refine⟨e3,hv,by rw[e1];exact h3,by rw[e1];exact h4,e2,fun hk=>?_⟩
 obtain⟨a,ha⟩:=hv _ hk
 rw[e1] at ha
 rw[ha] at h3
 cases h3
theorem aab {a:AV} {x:Nat} (h:a.refs x=true):a.z8=false:=by cases a<;>first |rfl |(simp[AV.refs] at h)
theorem aki {E:qz} {S:St} (h:E.In S) {i:Nat} (hi:i≠E.d) (hv:(S.at i).z8=false):((E.app S).at i).z8=false:=by
 rw[qz.q7 h,if_neg hi]
 split
 ·rfl
 ·cases E.b8.any (S.at i).refs with
  |true=>rfl
  |false=>exact hv
theorem adj {E:qz} {S:St} (h:E.In S) {i:Nat} (hi:i≠E.d) (hk:i∉E.b8) (hv:((E.app S).at i).z8=false):(S.at i).z8=false:=by
 rw[qz.q7 h,if_neg hi,if_neg hk] at hv
 cases ha:E.b8.any (S.at i).refs with
 |true=>
  obtain⟨x,_,hx⟩:=List.any_eq_true.1 ha
  exact aab hx
 |false=>rw[ha] at hv;exact hv
theorem azh {E:qz} {S:St} (h:E.In S) {i:Nat} (hi:i≠E.d) (hv:(E.app S).at i≠ .dead):S.at i=(E.app S).at i:=by
 rw[qz.q7 h,if_neg hi] at hv ⊢
 split at hv
 ·exact absurd rfl hv
 ·rename_i hk
  rw[if_neg hk]
  cases ha:E.b8.any (S.at i).refs with
  |true=>rw[ha] at hv;exact absurd rfl hv
  |false=>rfl
theorem azi {E:qz} {S:St} (h:E.In S) {i:Nat} (hi:i≠E.d) (hk:i∉E.b8) (hr:∀ x,(S.at i).refs x=true→x∉E.b8):(E.app S).at i=S.at i:=by
 rw[qz.q7 h,if_neg hi,if_neg hk]
 have:E.b8.any (S.at i).refs=false:=List.any_eq_false.2 fun x hx wV=>hr x wV hx
 rw[this]
 rfl
theorem adk (hO:nL O) {i j:Nat} {oi oj:Oper} (hi:ops[i]?=some oi) (hj:ops[j]?=some oj) (hd:Hu ops oi oj=true) {r:List Nat} {S:St} {K:St→Option aa} {ret:aa} (e:mP h O ops (i::j::r) S K=some ret):mP h O ops (j::i::r) S K=some ret:=by
 simp only[mP,hi,hj] at e ⊢
 cases gi:jx O ops S oi with
 |false=>rw[gi] at e;cases e
 |true=>
 rw[gi] at e
 simp only[cond_true] at e
 obtain⟨_,di,RV,hvi,_⟩:=w5 gi
 obtain⟨oE,E1,E2⟩:=WD (h:=h) hO hi gi RV
 rw[E2 S (fun _ _=>rfl)] at e
 cases oE with
 |none=>cases e
 |some E=>
 simp only[Option.bind_some] at e
 have EI:=IN gi RV (E1 E rfl)
 obtain⟨Ed,Er,En,Ek,Ec⟩:=E1 E rfl
 cases gj:jx O ops (E.app S) oj with
 |false=>rw[gj] at e;cases e
 |true=>
 rw[gj] at e
 simp only[cond_true] at e
 obtain⟨_,dj,hdj,hvj,_⟩:=w5 gj
 obtain⟨oF,F1,F2⟩:=WD (h:=h) hO hj gj hdj
 rw[F2 _ (fun _ _=>rfl)] at e
 cases oF with
 |none=>cases e
 |some F=>
 simp only[Option.bind_some] at e
 have FI1:=IN gj hdj (F1 F rfl)
 obtain⟨Fd,Fr,Fn,Fk,Fc⟩:=F1 F rfl
 unfold Hu at hd
 rw[RV,hdj] at hd
 simp only[Bool.and_eq_true,Bool.not_eq_true',Bool.or_eq_true] at hd
 obtain⟨⟨⟨d1,d2⟩,d3⟩,d4⟩:=hd
 have d1:di≠dj:=fun e=>by subst e;rw[Nat.beq_refl] at d1;cases d1
 have d2:di∉aV ops oj:=fun hm=>by
  have:=List.any_eq_false.1 d2 di hm
  rw[Nat.beq_refl] at this
  exact this rfl
 have d3:dj∉aV ops oi:=fun hm=>by
  have:=List.any_eq_false.1 d3 dj hm
  rw[Nat.beq_refl] at this
  exact this rfl
 have d5:∀ r∈aV ops oi,r∉F.b8:=fun r hr hk=>by
  rcases d4 with d4 |d4
  ·rw[Fc d4.2] at hk;cases hk
  ·have h1:=List.any_eq_false.1 d4 r hr
   have h2:(aV ops oj).any (Nat.beq r)=true:=List.any_eq_true.2 ⟨r,Fk r hk,Nat.beq_refl r⟩
   exact h1 h2
 have ag1:nO (E.app S) S (aV ops oj):=fun r hr=>by
  exact azh EI (fun e=>d2 (by rw[←Ed,←e];exact hr)) ((Ak gj).2 r hr).1
 have aA2:dj∉E.b8:=fun hk=>d3 (Ek dj hk)
 have gj0:jx O ops S oj=true:=HD gj ag1 (qz.IL E S).symm (fun d hd=>by
  rw[hdj] at hd
  injection hd with hd
  subst hd
  exact adj EI (fun e=>d1 (by rw[←Ed,←e])) aA2 hvj)
 have FI:=IN gj0 hdj (F1 F rfl)
 have ag2:nO S (F.app S) (aV ops oi):=fun r hr=>by
  exact azi FI (fun e=>d3 (by rw[←Fd,←e];exact hr)) (d5 r hr) fun x hx=>d5 x (((Ak gi).2 r hr).2 x hx)
 have gi1:jx O ops (F.app S) oi=true:=HD gi ag2 (qz.IL F S) (fun d hd=>by
  rw[RV] at hd
  injection hd with hd
  subst hd
  exact aki FI (fun e=>d1 (by rw[←Fd,←e])) hvi)
 have EI1:=IN gi1 RV (E1 E rfl)
 rw[gj0]
 simp only[cond_true]
 rw[F2 S ag1]
 simp only[Option.bind_some]
 rw[gi1]
 simp only[cond_true]
 rw[E2 _ ag2]
 simp only[Option.bind_some]
 rw[qz.comm EI FI (by rw[Ed,Fd];exact d1) (fun hk=>by rw[Ed] at hk;exact d2 (Fk _ hk)) (fun hk=>by rw[Fd] at hk;exact d3 (Ek _ hk)) EI1 FI1]
 exact e
theorem HE (hO:nL O) {j:Nat} {oj:Oper} (hj:ops[j]?=some oj):∀ (p r:List Nat) {S:St} {K:St→Option aa} {ret:aa},(∀ x∈p,∃ ox,ops[x]?=some ox∧Hu ops ox oj=true)→mP h O ops (p++j::r) S K=some ret→mP h O ops (j::(p++r)) S K=some ret
 |[],r,S,K,ret,_,e=>e
 |x::p,r,S,K,ret,hp,e=>by
  obtain⟨ox,hox,hdx⟩:=hp x (by simp)
  refine adk hO hox hj hdx ?_
  simp only[List.cons_append] at e
  unfold mP at e ⊢
  rw[hox] at e ⊢
  simp only at e ⊢
  cases gx:jx O ops S ox with
  |false=>rw[gx] at e;cases e
  |true=>
   rw[gx] at e
   simp only[cond_true] at e ⊢
   obtain⟨o,ho⟩:=ia (h:=h) (ops:=ops) hO x (fun o' G6=>by
    rw[hox] at G6
    injection G6 with G6
    subst G6
    unfold jx at gx
    simp only[Bool.and_eq_true] at gx
    have g2:=gx.2
    split at g2<;>first |(rename_i bU;rw[bU];rfl) |cases g2) S
   rw[ho] at e ⊢
   cases o with
   |none=>cases e
   |some S1=>
    simp only[Option.bind_some] at e ⊢
    exact HE hO hj p r (fun y hy=>hp y (by simp[hy])) e
end Go.Pv
namespace Go.Pv
set_option linter.unusedVariables false
set_option linter.unusedSimpArgs false
variable {h:Hint} {O:jr} {Θ:de} {ops:Array Oper} {ret:aa}
theorem Eu {a:AV} {s:Nat}:a.refs s=true↔s∈slotsOf a:=by
 cases a with
 |al t s' p=>simp only[AV.refs,slotsOf,List.mem_singleton,Nat.beq_eq];exact eq_comm
 |ad t s' p=>simp only[AV.refs,slotsOf,List.mem_singleton,Nat.beq_eq];exact eq_comm
 |cut t s' p lo hi=>simp only[AV.refs,slotsOf,List.mem_singleton,Nat.beq_eq];exact eq_comm
 |ld f cy=>
  simp only[AV.refs,slotsOf,List.any_eq_true,List.mem_filterMap]
  constructor
  ·rintro⟨c,hc,h⟩
   refine⟨c,hc,?_⟩
   cases c with
   |kv b=>cases h
   |pl t s' p=>simp at h;simp[h]
  ·rintro⟨c,hc,h⟩
   refine⟨c,hc,?_⟩
   cases c with
   |kv b=>cases h
   |pl t s' p=>simp at h;simp[h]
 |_=>simp[AV.refs,slotsOf]
def aX (Δ:Nat→Bool) (S:St):Prop:=∀ i s,(S.at i).refs s=true→Δ i=Δ s
theorem oU {Δ:Nat→Bool}:∀ {S:St} {k:Nat},jY Δ S k=true↔∀ i s,(S.at i).refs s=true→Δ (k+i)=Δ s
 |[],k=>by simp[jY,St.at,AV.refs]
 |a::r,k=>by
  simp only[jY,Bool.and_eq_true,List.all_eq_true,beq_iff_eq]
  constructor
  ·rintro⟨h1,h2⟩ i s hs
   cases i with
   |zero=>exact h1 s (Eu.1 (by simpa[St.at] using hs))
   |succ i=>
    have:=(oU.1 h2) i s (by simpa[St.at] using hs)
    rw[←this];congr 1;omega
  ·intro hh
   refine⟨fun s hs=>by simpa using hh 0 s (by simpa[St.at] using Eu.2 hs),oU.2 fun i s hs=>?_⟩
   have:=hh (i+1) s (by simpa[St.at] using hs)
   rw[←this];congr 1;omega
theorem iw {Δ:Nat→Bool} {S:St}:jY Δ S 0=true↔aX Δ S:=by
 rw[oU]
 simp only[Nat.zero_add,aX]
def mix (Δ:Nat→Bool) (A B:St):St:=(List.range A.length).map fun i=>bif Δ i then A.at i else B.at i
theorem HF {S:St} {i:Nat} (h:S.length≤i):S.at i=.dead:=by
 unfold St.at
 rw[List.getD_eq_getElem?_getD,List.getElem?_eq_none h];rfl
theorem fN (Δ:Nat→Bool) (A B:St):(mix Δ A B).length=A.length:=by simp[mix]
theorem jI {Δ:Nat→Bool} {A B:St} (hl:B.length=A.length) (i:Nat):(mix Δ A B).at i=bif Δ i then A.at i else B.at i:=by
 by_cases hi:i<A.length
 ·unfold mix
  conv=>lhs;unfold St.at
  rw[List.getD_eq_getElem?_getD,List.getElem?_map,List.getElem?_range hi]
  rfl
 ·rw[HF (by rw[fN];omega),HF (S:=A) (by omega),HF (S:=B) (by omega)]
  cases Δ i<;>rfl
theorem kO {Δ:Nat→Bool} {A B:St} (hl:B.length=A.length) {i:Nat} (hi:Δ i=true):(mix Δ A B).at i=A.at i:=by rw[jI hl,hi];rfl
theorem Ev (Δ:Nat→Bool) (S:St):mix Δ S S=S:=nw (fN _ _ _) fun i=>by rw[jI rfl];cases Δ i<;>rfl
theorem IP {Δ:Nat→Bool} {A B:St} (hl:B.length=A.length):mix (fun i=>!Δ i) B A=mix Δ A B:=nw (by rw[fN,fN,hl]) fun i=>by
 rw[jI hl,jI hl.symm];cases Δ i<;>rfl
theorem aX.not {Δ:Nat→Bool} {S:St} (h:aX Δ S):aX (fun i=>!Δ i) S:=fun i s hs=>by simp only[h i s hs]
section
variable {Δ:Nat→Bool} {A B:St}
theorem Al (hB:aX Δ B) {i d:Nat} (hi:Δ i=false) (hd:Δ d=true):(B.at i).refs d=false:=by
 cases hr:(B.at i).refs d with
 |false=>rfl
 |true=>have:=hB i d hr;rw[hi,hd] at this;cases this
theorem sB (hl:B.length=A.length) (hB:aX Δ B) {d:Nat} (hd:Δ d=true) (a:AV):(mix Δ A B).put (some d) a=mix Δ (A.put (some d) a) B:=by
 refine nw (by rw[cd,fN,fN,cd]) fun i=>?_
 rw[jI (by rw[cd,hl]),dF,dF,fN,jI hl,kO hl hd]
 cases hi:Δ i with
 |true=>rfl
 |false=>
  have hid: ¬(i=d∧d<A.length):=fun e=>by rw[e.1,hd] at hi;cases hi
  rw[if_neg hid]
  simp only[cond_false]
  rw[Al hB hi hd];rfl
theorem w6 (hl:B.length=A.length) {d:Nat} (hd:Δ d=true) (a:AV):(mix Δ A B).set d a=mix Δ (A.set d a) B:=by
 refine nw (by rw[List.length_set,fN,fN,List.length_set]) fun i=>?_
 rw[jI (by rw[List.length_set,hl]),cS,cS,fN,jI hl]
 cases hi:Δ i with
 |true=>rfl
 |false=>
  have hid: ¬(i=d∧d<A.length):=fun e=>by rw[e.1,hd] at hi;cases hi
  rw[if_neg hid]
  rfl
theorem RW {a:AV} {d:Nat} (h:a.refs d=false):a.eL d=false:=by
 cases a with
 |al t s p=>simp only[AV.refs] at h;simp only[AV.eL,h];rfl
 |ad t s p=>simp only[AV.refs] at h;simp only[AV.eL,h];rfl
 |cut t s p lo hi=>simpa only[AV.refs,AV.eL] using h
 |ld f cy=>
  simp only[AV.refs,AV.eL,List.any_eq_false] at h ⊢
  intro c hc
  have:=h c hc
  cases c with
  |kv b=>simp
  |pl t s p=>cases p<;>simp_all
 |_=>rfl
theorem uu (hl:B.length=A.length) (hB:aX Δ B) {d:Nat} (hd:Δ d=true):(mix Δ A B).weaken d=mix Δ (A.weaken d) B:=by
 refine nw (by simp[St.weaken,fN]) fun i=>?_
 rw[jI (by simp[St.weaken,hl]),jH,jH,jI hl]
 cases hi:Δ i with
 |true=>rfl
 |false=>simp only[cond_false];rw[RW (Al hB hi hd)];rfl
theorem Am (S:St) (d:Nat) (p:Path) (i:Nat):(S.cover d p).at i=match S.at i with
  | .ad t s q=>bif Nat.beq s d&&under p q then .dead else .ad t s q
  |a=>a:=Eo S _ rfl i
theorem HG (hl:B.length=A.length) (hB:aX Δ B) {d:Nat} (hd:Δ d=true) (p:Path):(mix Δ A B).cover d p=mix Δ (A.cover d p) B:=by
 refine nw (by simp[St.cover,fN]) fun i=>?_
 rw[jI (by simp[St.cover,hl]),Am,Am,jI hl]
 cases hi:Δ i with
 |true=>rfl
 |false=>
  simp only[cond_false]
  have:=Al hB hi hd
  cases hb:B.at i with
  |ad t s q=>rw[hb] at this;simp only[AV.refs] at this;simp only[this];rfl
  |_=>rfl
theorem w7 {c:Bool} {a:AV} {s:Nat} (h:(bif c then AV.dead else a).refs s=true):a.refs s=true:=by
 cases c with
 |true=>simp[AV.refs] at h
 |false=>exact h
theorem jJ (hA:aX Δ A) {d:Nat} (hd:Δ d=true) {a:AV} (ha:∀ s,a.refs s=true→Δ s=true):aX Δ (A.put (some d) a):=fun i s hs=>by
 rw[dF] at hs
 split at hs
 ·rename_i hi
  rw[hi.1,hd]
  exact(ha s (w7 hs)).symm
 ·exact hA i s (w7 hs)
theorem lU (hA:aX Δ A) {d:Nat} (hd:Δ d=true) {a:AV} (ha:∀ s,a.refs s=true→Δ s=true):aX Δ (A.set d a):=fun i s hs=>by
 rw[cS] at hs
 split at hs
 ·rename_i hi
  rw[hi.1,hd]
  exact(ha s hs).symm
 ·exact hA i s hs
theorem nx (hA:aX Δ A) (d:Nat):aX Δ (A.weaken d):=fun i s hs=>by
 rw[jH] at hs
 exact hA i s (w7 hs)
theorem w8 (hA:aX Δ A) (d:Nat) (p:Path):aX Δ (A.cover d p):=fun i s hs=>by
 rw[Am] at hs
 refine hA i s ?_
 cases hb:A.at i with
 |ad t s' q=>rw[hb] at hs;exact w7 hs
 |_=>rw[hb] at hs;exact hs
theorem iN (hl:B.length=A.length) {x:Operand} (hx:lJ Δ x=true) (T:TypeId):(mix Δ A B).dP Θ T x=A.dP Θ T x:=by
 cases x with
 |tmp i=>simp only[St.dP];rw[kO hl hx]
 |_=>rfl
theorem gd (hA:aX Δ A) {x:Operand} (hx:lJ Δ x=true) {T:TypeId} {a:AV} (e:A.dP Θ T x=some a):∀ s,a.refs s=true→Δ s=true:=fun s hs=>by
 cases x with
 |tmp i=>
  simp only[St.dP,Option.some.injEq] at e
  subst e
  rw[←hA i s hs];exact hx
 |const c=>
  simp only[St.dP] at e
  split at e
  ·injection e with e;subst e;simp[AV.refs] at hs
  ·cases e
 |func f=>
  simp only[St.dP,Option.some.injEq] at e
  subst e
  simp[AV.refs] at hs
 |global g=>cases e
theorem lL (hl:B.length=A.length) {s:Nat} (hs:Δ s=true) (p:Path):(mix Δ A B).place s p=A.place s p:=by unfold St.place;rw[kO hl hs]
theorem jK (hl:B.length=A.length) {s:Nat} (hs:Δ s=true) (p:Path):(mix Δ A B).c9 s p=A.c9 s p:=by unfold St.c9;rw[kO hl hs]
theorem mQ {t:Ty} {s:Nat} {p:Path}:(AV.al t s p).refs s=true:=by simp[AV.refs]
theorem akj {t:Ty} {s:Nat} {p:Path}:(AV.ad t s p).refs s=true:=by simp[AV.refs]
theorem MQ {t:Ty} {s:Nat} {p:Path} {lo hi:Nat}:(AV.cut t s p lo hi).refs s=true:=by simp[AV.refs]
theorem WG (hl:B.length=A.length) {a:AV} (ha:∀ s,a.refs s=true→Δ s=true):(mix Δ A B).sy a=A.sy a:=by
 cases a with
 |al t s p=>simp only[St.sy];exact lL hl (ha s mQ) p
 |cut t s p lo hi=>simp only[St.sy];rw[lL hl (ha s MQ) p]
 |v b ex=>cases ex<;>rfl
 |_=>rfl
theorem An (hl:B.length=A.length) (hA:aX Δ A) {x:Operand} (hx:lJ Δ x=true) (T:TypeId):(mix Δ A B).rd Θ T x=A.rd Θ T x:=by
 unfold St.rd
 rw[iN hl hx]
 cases e:A.dP Θ T x with
 |none=>rfl
 |some a=>exact WG hl (gd hA hx e)
theorem Ao (hl:B.length=A.length) (hA:aX Δ A) {x:Operand} (hx:lJ Δ x=true):(mix Δ A B).kY Θ x=A.kY Θ x:=by
 unfold St.kY
 rw[An hl hA hx]
theorem cz {b:TV} {ex:List Path}:∀ s,(AV.v b ex).refs s=true→Δ s=true:=fun s hs=>by simp[AV.refs] at hs
def Mx (Δ:Nat→Bool) (A B:St) {α:Type} (X Y:Option (α×St)):Prop:=Y=X.map (fun q=>(q.1,mix Δ q.2 B))∧∀ q,X=some q→aX Δ q.2∧q.2.length=A.length
theorem aC {α:Type}:Mx Δ A B (α:=α) none none:=⟨rfl,fun _ h=>by cases h⟩
theorem fO {α:Type} {c:α} {A1 S1:St} (h:S1=mix Δ A1 B) (hc:aX Δ A1) (hl:A1.length=A.length):Mx Δ A B (some (c,A1)) (some (c,S1)):=⟨by rw[h];rfl,fun q hq=>by injection hq with hq;subst hq;exact⟨hc,hl⟩⟩
theorem dv {α:Type} {c:α} {d:Nat} {a:AV} (hl:B.length=A.length) (hB:aX Δ B) {A1:St} (hA:aX Δ A1) (Ap:A1.length=A.length) (hd:Δ d=true) (ha:∀ s,a.refs s=true→Δ s=true):
  Mx Δ A B (some (c,A1.put (some d) a)) (some (c,(mix Δ A1 B).put (some d) a)):=fO (sB (by rw[hl,Ap]) hB hd a) (jJ hA hd ha) (by rw[cd,Ap])
theorem HI (hl:B.length=A.length) (hA:aX Δ A) (hB:aX Δ B) {x:Operand} (hx:lJ Δ x=true) {a:AV} (ha:∀ s,a.refs s=true→Δ s=true):Mx Δ A B (A.dD x a) ((mix Δ A B).dD x a):=by
 have qy:∀ s,AV.dead.refs s=true→Δ s=true:=fun s hs=>by simp[AV.refs] at hs
 cases a with
 |v b ex=>
  simp only[St.dD]
  cases b.m.bP with
  |true=>exact fO rfl hA rfl
  |false=>
   simp only[cond_false]
   cases ex with
   |nil=>
    cases x with
    |tmp i=>exact dv hl hB hA rfl hx qy
    |const c=>exact fO rfl hA rfl
    |func f=>exact fO rfl hA rfl
    |global g=>exact fO rfl hA rfl
   |cons _ _=>cases x<;>exact aC
 |al t s p=>
  have hs:=ha s mQ
  simp only[St.dD]
  rw[lL hl hs]
  cases hp:A.place s p with
  |none=>exact aC
  |some b=>
   simp only
   cases b.m.bP with
   |true=>exact fO rfl hA rfl
   |false=>
    simp only[cond_false]
    cases p with
    |nil=>exact dv hl hB hA rfl hs qy
    |cons st pp=>
     rw[kO hl hs]
     cases A.at s with
     |v r ex=>
      have h1:=w8 (nx hA s) s (st::pp)
      have l1:B.length=(A.weaken s).length:=by simp[St.weaken,hl]
      have l2:B.length=((A.weaken s).cover s (st::pp)).length:=by simp[St.weaken,St.cover,hl]
      refine fO ?_ (lU h1 hs cz) (by simp[St.weaken,St.cover])
      rw[uu hl hB hs,HG l1 hB hs,w6 l2 hs]
     |_=>exact aC
 |cut t s p lo hi=>
  have hs:=ha s MQ
  cases p with
  |cons _ _=>exact aC
  |nil=>
   simp only[St.dD]
   rw[lL hl hs]
   split
   ·cases Nat.beq lo 0 with
    |true=>exact dv hl hB hA rfl hs qy
    |false=>exact aC
   ·exact aC
 |_=>exact aC
theorem ra (hl:B.length=A.length) (hA:aX Δ A) (hB:aX Δ B) {x:Operand} (hx:lJ Δ x=true) (T:TypeId):Mx Δ A B (A.take Θ T x) ((mix Δ A B).take Θ T x):=by
 unfold St.take
 rw[iN hl hx]
 cases e:A.dP Θ T x with
 |none=>exact aC
 |some a=>exact HI hl hA hB hx (gd hA hx e)
theorem Aq (hB:aX Δ B) {ps:List (Nat×Operand)} (hx:∀ q∈ps,lJ Δ q.2=true):∀ (r:List TypeId) (j:Nat) {A:St},B.length=A.length→aX Δ A→Mx Δ A B (A.parts Θ ps r j) ((mix Δ A B).parts Θ ps r j)
 |[],j,A,hl,hA=>fO rfl hA rfl
 |T::r,j,A,hl,hA=>by
  simp only[St.parts]
  cases hf:ps.find? (fun q=>Nat.beq q.1 j) with
  |some q=>
   simp only
   obtain⟨h1,h2⟩:=ra (Θ:=Θ) hl hA hB (hx q (List.mem_of_find?_eq_some hf)) T
   rw[h1]
   cases ht:A.take Θ T q.2 with
   |none=>exact aC
   |some b=>
    obtain⟨b,A1⟩:=b
    obtain⟨c1,c2⟩:=h2 _ ht
    simp only[Option.map_some]
    obtain⟨k1,k2⟩:=Aq hB hx r (j+1) (by rw[c2,hl]) c1
    rw[k1]
    cases hp:St.parts Θ A1 ps r (j+1) with
    |none=>exact aC
    |some l=>
     obtain⟨d1,d2⟩:=k2 _ hp
     exact fO rfl d1 (by rw[d2,c2])
  |none=>
   simp only
   cases qQ Θ T with
   |none=>exact aC
   |some z=>
    simp only
    obtain⟨k1,k2⟩:=Aq hB hx r (j+1) hl hA
    rw[k1]
    cases hp:St.parts Θ A ps r (j+1) with
    |none=>exact aC
    |some l=>
     obtain⟨d1,d2⟩:=k2 _ hp
     exact fO rfl d1 d2
end
end Go.Pv
namespace Go.Pv
set_option linter.unusedVariables false
set_option linter.unusedSimpArgs false
variable {h:Hint} {O:jr} {Θ:de} {hn:Hn} {ops:Array Oper} {ret:aa} {Δ:Nat→Bool} {A B:St}
theorem aac (S S':St) (x:Operand) (a:AV):S.copy x a=S'.copy x a:=by cases a<;>rfl
theorem aad {x:Operand} (hx:lJ Δ x=true) {a a':AV} (ha:∀ s,a.refs s=true→Δ s=true) (e:A.copy x a=some a'):∀ s,a'.refs s=true→Δ s=true:=fun s hs=>by
 cases a with
 |v b ex=>
  simp only[St.copy] at e
  cases hk:b.m.bP with
  |true=>rw[hk] at e;simp only[cond_true,Option.some.injEq] at e;subst e;simp[AV.refs] at hs
  |false=>
   rw[hk] at e
   simp only[cond_false] at e
   cases x with
   |tmp i=>
    simp only[Option.some.injEq] at e
    subst e
    simp only[AV.refs,Nat.beq_eq] at hs
    subst hs
    exact hx
   |_=>
    simp only at e
    split at e
    ·injection e with e;subst e;simp[AV.refs] at hs
    ·cases e
 |tz l=>cases e
 |dead=>cases e
 |_=>simp only[St.copy,Option.some.injEq] at e;subst e;exact ha s hs
theorem IQ (hl:B.length=A.length) {x:Operand} {a:AV} (ha:∀ s,a.refs s=true→Δ s=true):(mix Δ A B).Hr x a=A.Hr x a:=by
 cases a with
 |v b ex=>
  obtain⟨t,m,y⟩:=b
  cases t<;>cases m<;>cases ex<;>rfl
 |al t s p=>
  cases t with
  |ptr t=>simp only[St.Hr];rw[jK hl (ha s mQ)]
  |_=>rfl
 |_=>rfl
theorem Ew {x:Operand} (hx:lJ Δ x=true) {a:AV} (ha:∀ s,a.refs s=true→Δ s=true) {t:Ty} {s:Nat} {p:Path} (e:A.Hr x a=some (.pl t s p)):Δ s=true:=by
 cases a with
 |v b ex=>
  obtain⟨t',m,y⟩:=b
  simp only[St.Hr] at e
  split at e
  ·rename_i heq
   injection heq with h1 h2
   split at e
   ·cases e
   ·injection e with e;injection e with _ e _;subst e;exact hx
   ·cases e
  ·split at e
   ·injection e with e;injection e with _ e _;subst e;exact hx
   ·cases e
  all_goals first |(rename_i heq;cases heq;done) |(cases e;done)
 |al t' s' p'=>
  simp only[St.Hr] at e
  split at e
  ·rename_i heq;cases heq
  ·rename_i heq;cases heq
  ·rename_i heq
   injection heq with h1 h2 h3
   subst h2
   split at e
   ·cases e
   ·injection e with e;injection e with _ e _;subst e;exact ha _ mQ
   ·cases e
  ·rename_i heq;cases heq
  ·cases e
 |ad t' s' p'=>
  simp only[St.Hr,Option.some.injEq,Tgt.pl.injEq] at e
  rw[←e.2.1];exact ha _ akj
 |_=>simp[St.Hr] at e
theorem RX (hl:B.length=A.length) {g:Tgt} (hg:∀ t s p,g=.pl t s p→Δ s=true):(mix Δ A B).loadAt g=A.loadAt g:=by
 cases g with
 |k a=>rfl
 |pl t s p=>simp only[St.loadAt];rw[jK hl (hg t s p rfl),lL hl (hg t s p rfl)]
theorem MR {g:Tgt} (hg:∀ t s p,g=.pl t s p→Δ s=true) {a:AV} (e:A.loadAt g=some a):∀ s,a.refs s=true→Δ s=true:=fun s hs=>by
 cases g with
 |k b=>simp only[St.loadAt,Option.some.injEq] at e;subst e;simp[AV.refs] at hs
 |pl t s' p=>
  simp only[St.loadAt] at e
  split at e
  case h_2=>cases e
  rename_i b hb
  cases hk:b.m.bP with
  |true=>
   rw[hk] at e
   simp only[cond_true] at e
   split at e
   ·injection e with e;subst e;simp[AV.refs] at hs
   ·cases e
  |false=>
   rw[hk] at e
   simp only[cond_false,Option.some.injEq] at e
   subst e
   simp only[AV.refs,Nat.beq_eq] at hs
   subst hs
   exact hg _ _ _ rfl
section
variable (hl:B.length=A.length) (hA:aX Δ A) (hB:aX Δ B) {d:Nat} (hd:Δ d=true)
include hl hA hB hd
theorem aae (T:TypeId):Mx Δ A B (oK Θ hn A (some d) T) (oK Θ hn (mix Δ A B) (some d) T):=by
 unfold oK
 cases qQ Θ T with
 |none=>exact aC
 |some z=>
  simp only
  cases ug z.t (hn.find (some d) z.m) with
  |true=>exact dv hl hB hA rfl hd cz
  |false=>exact aC
theorem adl (T:TypeId) {x:Operand} (hx:lJ Δ x=true):Mx Δ A B (fZ Θ A (some d) T x) (fZ Θ (mix Δ A B) (some d) T x):=by
 unfold fZ
 rw[iN hl hx]
 cases e:A.dP Θ 0 x with
 |none=>exact aC
 |some a=>
  simp only
  have ha:=gd hA hx e
  rw[IQ hl ha]
  cases et:A.Hr x a with
  |none=>exact aC
  |some g=>
   simp only
   have hg:∀ t s p,g=.pl t s p→Δ s=true:=fun t s p eg=>by subst eg;exact Ew hx ha et
   rw[RX hl hg]
   cases el:A.loadAt g with
   |none=>exact aC
   |some r=>
    simp only
    cases Θ.is T g.ty with
    |true=>exact dv hl hB hA rfl hd (MR hg el)
    |false=>exact aC
theorem adm (T:TypeId) {x:Operand} (hx:lJ Δ x=true):Mx Δ A B (oJ Θ A (some d) T x) (oJ Θ (mix Δ A B) (some d) T x):=by
 unfold oJ
 rw[iN hl hx,fN]
 have qy:∀ s,AV.dead.refs s=true→Δ s=true:=fun s hs=>by simp[AV.refs] at hs
 cases e:A.dP Θ T x with
 |none=>exact aC
 |some a=>
  have ha:=gd hA hx e
  cases a with
  |tz l=>
   cases x with
   |tmp i=>
    simp only
    cases (Nat.beq d i|| !Nat.blt d A.length) with
    |true=>exact aC
    |false=>
     simp only[cond_false]
     have h1:(mix Δ A B).put (some i) .dead=mix Δ (A.put (some i) .dead) B:=sB hl hB hx .dead
     rw[h1]
     exact dv hl hB (jJ hA hx qy) (cd _ _ _) hd (fun s hs=>by simp[AV.refs] at hs)
   |_=>exact aC
  |_=>
   simp only
   rw[aac (mix Δ A B) A]
   split
   ·rename_i a' hc
    exact dv hl hB hA rfl hd (aad hx ha hc)
   ·exact aC
theorem MS {x:Operand} (hx:lJ Δ x=true) (j:Nat):Mx Δ A B (fD A (some d) x j) (fD (mix Δ A B) (some d) x j):=by
 unfold fD
 cases x with
 |tmp i=>
  simp only
  rw[kO hl hx]
  split
  ·rename_i l hi
   split
   ·rename_i a ha
    cases a.m.bP with
    |true=>exact dv hl hB hA rfl hd cz
    |false=>
     simp only[cond_false]
     cases Nat.beq d i with
     |true=>exact aC
     |false=>
      simp only[cond_false]
      have h1:(mix Δ A B).set i (.tz (l.set j none))=mix Δ (A.set i (.tz (l.set j none))) B:=w6 hl hx _
      rw[h1]
      exact dv hl hB (lU hA hx (fun s hs=>by simp[AV.refs] at hs)) (by simp) hd cz
   ·exact aC
  ·exact aC
 |_=>exact aC
theorem Ey (T:TypeId) (n:Nat) {ps:List (Nat×Operand)} (hx:∀ q∈ps,lJ Δ q.2=true):Mx Δ A B (bH Θ hn A (some d) T n ps) (bH Θ hn (mix Δ A B) (some d) T n ps):=by
 unfold bH
 split
 ·cases (jX n ps&&Nat.ble n 1800) with
  |false=>exact aC
  |true=>
   simp only[cond_true]
   rename_i t e fs _
   obtain⟨k1,k2⟩:=Aq (Θ:=Θ) hB hx (List.replicate n e) 0 hl hA
   rw[k1]
   cases hp:St.parts Θ A ps (List.replicate n e) 0 with
   |none=>exact aC
   |some q=>
    obtain⟨l,A1⟩:=q
    obtain⟨c1,c2⟩:=k2 _ hp
    simp only[Option.map_some]
    cases l with
    |nil=>exact dv hl hB c1 c2 hd cz
    |cons a l=>
     simp only
     cases qR t a.m (a::l) with
     |none=>exact aC
     |some xs=>exact dv hl hB c1 c2 hd cz
 ·exact aC
theorem RY {ts:List TypeId} {as:List Operand} (hx:∀ x∈as,lJ Δ x=true):Mx Δ A B (cl Θ A (some d) ts as) (cl Θ (mix Δ A B) (some d) ts as):=by
 unfold cl
 split
 ·rename_i x y T T'
  obtain⟨k1,k2⟩:=ra (Θ:=Θ) hl hA hB (hx x (by simp)) T
  rw[k1]
  cases ht:A.take Θ T x with
  |none=>exact aC
  |some q=>
   obtain⟨⟨t,m,xs⟩,A1⟩:=q
   obtain⟨c1,c2⟩:=k2 _ ht
   have Ap:B.length=A1.length:=by rw[c2,hl]
   simp only[Option.map_some]
   cases t with
   |sl t=>
    cases m with
    |o e tag me=>
     cases hf:Θ.find T with
     |none=>exact aC
     |some i=>
      simp only
      cases (decide (i.ty=.sl t)&&Nat.beq i.e e&&Θ.is T' (.sl t)) with
      |false=>exact aC
      |true=>
       simp only[cond_true]
       cases me.bP with
       |true=>
        simp only[cond_true]
        rw[An Ap c1 (hx y (by simp))]
        split
        ·rename_i t' m' ys _
         cases m'.Hq.bP with
         |false=>exact aC
         |true=>
          simp only[cond_true]
          split
          ·exact dv hl hB c1 c2 hd cz
          ·exact aC
        ·exact aC
       |false=>
        simp only[cond_false]
        obtain⟨j1,j2⟩:=ra (Θ:=Θ) Ap c1 hB (hx y (by simp)) T'
        rw[j1]
        cases hy:A1.take Θ T' y with
        |none=>exact aC
        |some q=>
         obtain⟨⟨t',m',ys⟩,A2⟩:=q
         obtain⟨d1,d2⟩:=j2 _ hy
         simp only[Option.map_some]
         cases t' with
         |sl t'=>
          simp only
          split
          ·split
           ·exact dv hl hB d1 (by rw[d2,c2]) hd cz
           ·exact aC
          ·exact aC
         |_=>exact aC
    |_=>exact aC
   |_=>exact aC
 ·exact aC
theorem MT {ts:List TypeId} {as:List Operand} (hx:∀ x∈as,lJ Δ x=true):Mx Δ A B (fE Θ A (some d) ts as) (fE Θ (mix Δ A B) (some d) ts as):=by
 unfold fE
 split
 ·rename_i x y T T'
  rw[iN hl (hx x (by simp))]
  split
  ·rename_i t s st pp dA
   have hs:=gd hA (hx x (by simp)) dA s mQ
   rw[kO hl hs]
   split
   ·rename_i r ex du
    split
    ·rename_i t e tag me xs i _ _
     cases (decide (i.ty=.sl t)&&Nat.beq i.e e&&Θ.is T' (.sl t)&&me.bP) with
     |false=>exact aC
     |true=>
      simp only[cond_true]
      have l1:B.length=(A.weaken s).length:=by simp[St.weaken,hl]
      have l2:B.length=((A.weaken s).cover s (st::pp)).length:=by simp[St.weaken,St.cover,hl]
      have l3:B.length=(((A.weaken s).cover s (st::pp)).set s (.v r (ex++[st::pp]))).length:=by simp[St.weaken,St.cover,hl]
      have e1:List.set (((mix Δ A B).weaken s).cover s (st::pp)) s (.v r (ex++[st::pp]))=mix Δ (((A.weaken s).cover s (st::pp)).set s (.v r (ex++[st::pp]))) B:=by
       rw[uu hl hB hs,HG l1 hB hs,w6 l2 hs]
      have c1:aX Δ (((A.weaken s).cover s (st::pp)).set s (.v r (ex++[st::pp]))):=lU (w8 (nx hA s) s _) hs cz
      rw[e1,An l3 c1 (hx y (by simp))]
      split
      ·rename_i t' m' ys _
       cases m'.Hq.bP with
       |false=>exact aC
       |true=>
        simp only[cond_true]
        split
        ·exact dv hl hB c1 (by simp[St.weaken,St.cover]) hd cz
        ·exact aC
      ·exact aC
    ·exact aC
   ·exact aC
  ·exact aC
 ·exact aC
theorem akk (op:BinOp) (T:TypeId) {x y:Operand} (hx:lJ Δ x=true) (hy:lJ Δ y=true):Mx Δ A B (D9 Θ A (some d) op T x y) (D9 Θ (mix Δ A B) (some d) op T x y):=by
 unfold D9
 rw[An hl hA hx,An hl hA hy]
 have fin:∀ a b:TV,Mx Δ A B (match gz op a b with
   |some (g,r)=>some (g,A.put (some d) (.v r []))
   |none=>none) (match gz op a b with
   |some (g,r)=>some (g,(mix Δ A B).put (some d) (.v r []))
   |none=>none):=fun a b=>by
  cases gz op a b with
  |none=>exact aC
  |some q=>exact dv hl hB hA rfl hd cz
 cases A.rd Θ T x with
 |none=>exact aC
 |some a=>
  cases A.rd Θ T y with
  |none=>exact aC
  |some b=>
   simp only
   split
   ·cases Θ.is T .bool with
    |true=>exact fin a b
    |false=>exact aC
   ·cases Θ.is T a.t with
    |true=>exact fin a b
    |false=>exact aC
   ·exact fin a b
theorem G9 (T:TypeId) {x:Operand} (hx:lJ Δ x=true) (f:Nat):Mx Δ A B (ga Θ A (some d) T x f) (ga Θ (mix Δ A B) (some d) T x f):=by
 unfold ga
 rw[iN hl hx]
 cases e:A.dP Θ 0 x with
 |none=>exact aC
 |some a=>
  have ha:=gd hA hx e
  cases Θ.find T with
  |none=>exact aC
  |some i=>
   simp only
   cases Nat.blt f i.fs.length with
   |false=>exact aC
   |true=>
    simp only[cond_true]
    rw[IQ hl ha]
    cases et:A.Hr x a with
    |none=>exact aC
    |some g=>
     cases g with
     |k b=>
      obtain⟨t,m,y⟩:=b
      simp only
      cases decide (i.ty=t) with
      |false=>exact aC
      |true=>
       simp only[cond_true]
       split
       ·exact dv hl hB hA rfl hd cz
       ·exact aC
     |pl t s p=>
      have hs:=Ew hx ha et
      simp only
      cases decide (i.ty=t) with
      |false=>exact aC
      |true=>
       simp only[cond_true]
       rw[jK hl hs]
       split
       ·exact dv hl hB hA rfl hd (fun s' h'=>by simp only[AV.refs,Nat.beq_eq] at h';rw[←h'];exact hs)
       ·exact aC
theorem G' (T:TypeId) {x ix:Operand} (hx:lJ Δ x=true) (hi:lJ Δ ix=true):Mx Δ A B (ck Θ A (some d) T x ix) (ck Θ (mix Δ A B) (some d) T x ix):=by
 unfold ck
 rw[iN hl hx,Ao hl hA hi]
 have hr:∀ {t:Ty} {s:Nat} {p:Path},Δ s=true→∀ s',(AV.ad t s p).refs s'=true→Δ s'=true:=fun hs s' h'=>by simp only[AV.refs,Nat.beq_eq] at h';rw[←h'];exact hs
 split
 ·rename_i t m xs ex n dA _
  cases Θ.is T (.sl t) with
  |false=>exact aC
  |true=>
   simp only[cond_true]
   split
   ·exact dv hl hB hA rfl hd cz
   ·rename_i j
    rw[jK hl hx]
    split
    ·exact dv hl hB hA rfl hd (hr hx)
    ·exact aC
   ·exact aC
 ·rename_i t s p n dA _
  have hs:=gd hA hx dA s mQ
  cases Θ.is T (.sl t) with
  |false=>exact aC
  |true=>
   simp only[cond_true]
   rw[jK hl hs,jK hl hs]
   split
   ·exact dv hl hB hA rfl hd cz
   ·split
    ·exact dv hl hB hA rfl hd (hr hs)
    ·exact aC
   ·exact aC
 ·exact aC
theorem Ha (T:TypeId) {l c:Operand} (hx:lJ Δ l=true) (hc:lJ Δ c=true):Mx Δ A B (gb Θ A (some d) T l c) (gb Θ (mix Δ A B) (some d) T l c):=by
 unfold gb
 rw[Ao hl hA hx,Ao hl hA hc]
 split
 ·split
  ·split
   ·exact dv hl hB hA rfl hd cz
   ·exact aC
  ·exact aC
 ·exact aC
theorem MU (T T':TypeId) {x:Operand} (hx:lJ Δ x=true):Mx Δ A B (gp Θ A (some d) T T' x) (gp Θ (mix Δ A B) (some d) T T' x):=by
 unfold gp
 rw[An hl hA hx]
 split
 ·exact dv hl hB hA rfl hd cz
 ·exact dv hl hB hA rfl hd cz
 ·exact aC
end
theorem aaf (hl:B.length=A.length) (hA:aX Δ A) (hB:aX Δ B) (T:TypeId) {x y:Operand} (hx:lJ Δ x=true) (hy:lJ Δ y=true):Mx Δ A B (lf Θ A T x y) (lf Θ (mix Δ A B) T x y):=by
 unfold lf
 rw[iN hl hx]
 cases e:A.dP Θ 0 x with
 |none=>exact aC
 |some a=>
  have ha:=gd hA hx e
  simp only
  rw[IQ hl ha]
  cases et:A.Hr x a with
  |none=>exact aC
  |some g=>
   cases g with
   |k b=>exact aC
   |pl t s p=>
    have hs:=Ew hx ha et
    simp only
    obtain⟨k1,k2⟩:=ra (Θ:=Θ) hl hA hB hy T
    rw[k1]
    cases ht:A.take Θ T y with
    |none=>exact aC
    |some q=>
     obtain⟨b,A1⟩:=q
     obtain⟨c1,c2⟩:=k2 _ ht
     have Ap:B.length=A1.length:=by rw[c2,hl]
     simp only[Option.map_some]
     cases Θ.is T b.t with
     |false=>exact aC
     |true=>
      simp only[cond_true]
      rw[kO Ap hs]
      cases A1.at s with
      |v r ex=>
       simp only
       cases fX b p r.t r.m r.x with
       |none=>exact aC
       |some mz=>
        simp only
        cases ex.all (fun h=>!under h p) with
        |false=>exact aC
        |true=>
         simp only[cond_true]
         have l2:B.length=(A1.weaken s).length:=by simp[St.weaken,Ap]
         refine fO ?_ (lU (nx c1 s) hs cz) (by simp[St.weaken,c2])
         rw[uu Ap hB hs,w6 l2 hs]
      |_=>exact aC
theorem RZ (hl:B.length=A.length) (hA:aX Δ A) (hB:aX Δ B) (T:TypeId) {y:Operand} (hy:lJ Δ y=true) {A1:St} (Ap:A1.length=A.length) (hA1:aX Δ A1):
  oM Θ (mix Δ A B) (mix Δ A1 B) T y=mix Δ (oM Θ A A1 T y) B∧aX Δ (oM Θ A A1 T y)∧(oM Θ A A1 T y).length=A.length:=by
 unfold oM
 rw[iN hl hy]
 split
 ·rename_i t s dA
  have hs:=gd hA hy dA s mQ
  rw[kO hl hs,kO (by rw[hl,Ap]) hs]
  split
  ·rename_i t m xs _ _
   cases m.bP with
   |true=>exact⟨rfl,hA1,Ap⟩
   |false=>exact⟨w6 (by rw[hl,Ap]) hs _,lU hA1 hs cz,by simp[Ap]⟩
  ·exact⟨rfl,hA1,Ap⟩
 ·exact⟨rfl,hA1,Ap⟩
end Go.Pv
namespace Go.Pv
set_option linter.unusedVariables false
set_option linter.unusedSimpArgs false
variable {h:Hint} {O:jr} {Θ:de} {hn:Hn} {ops:Array Oper} {ret:aa} {Δ:Nat→Bool} {A B:St}
theorem Ar (hB:aX Δ B):∀ (xs:List Operand) (Ts:List TypeId) (ps:List Pass) {A:St},B.length=A.length→aX Δ A→(∀ x∈xs,lJ Δ x=true)→Mx Δ A B (fM Θ A xs Ts ps) (fM Θ (mix Δ A B) xs Ts ps)
 |[],_,_,A,hl,hA,_=>by simp only[fM];exact fO rfl hA rfl
 |x::xs,[],_,A,hl,hA,_=>by simp only[fM];exact aC
 |x::xs,T::Ts,[],A,hl,hA,_=>by simp only[fM];exact aC
 |x::xs,T::Ts,p::ps,A,hl,hA,hx=>by
  simp only[fM]
  cases p with
  |val=>
   simp only
   obtain⟨k1,k2⟩:=Ar hB xs Ts ps hl hA (fun y hy=>hx y (by simp[hy]))
   rw[k1]
   cases ht:fM Θ A xs Ts ps with
   |none=>exact aC
   |some q=>obtain⟨c1,c2⟩:=k2 _ ht;exact fO rfl c1 c2
  |take=>
   simp only
   obtain⟨j1,j2⟩:=ra (Θ:=Θ) hl hA hB (hx x (by simp)) T
   rw[j1]
   cases hk:A.take Θ T x with
   |none=>exact aC
   |some q=>
    obtain⟨a,A1⟩:=q
    obtain⟨d1,d2⟩:=j2 _ hk
    simp only[Option.map_some]
    obtain⟨k1,k2⟩:=Ar hB xs Ts ps (by rw[d2,hl]) d1 (fun y hy=>hx y (by simp[hy]))
    rw[k1]
    cases ht:fM Θ A1 xs Ts ps with
    |none=>exact aC
    |some q=>obtain⟨c1,c2⟩:=k2 _ ht;exact fO rfl c1 (by rw[c2,d2])
  |ns=>exact aC
theorem Ez (hl:B.length=A.length):∀ {cy:List IF},(∀ c∈cy,∀ t s p,c=.pl t s p→Δ s=true)→oQ (mix Δ A B) cy=oQ A cy
 |[],_=>rfl
 |c::r,hc=>by
  simp only[oQ]
  rw[Ez hl (fun c' h'=>hc c' (by simp[h']))]
  have:Hs (mix Δ A B) c=Hs A c:=by
   cases c with
   |pl t s p=>simp only[Hs];rw[lL hl (hc _ (by simp) t s p rfl)]
   |kv a=>rfl
  rw[this]
theorem As (hl:B.length=A.length) (hA:aX Δ A):∀ (xs:List Operand) (Ts:List TypeId) (l:List (Option TV)),(∀ x∈xs,lJ Δ x=true)→reads Θ (mix Δ A B) xs Ts l=reads Θ A xs Ts l
 |[],_,_,_=>by simp[reads]
 |x::xs,[],_,_=>by simp[reads]
 |x::xs,T::Ts,[],_=>by simp[reads]
 |x::xs,T::Ts,p::ps,hx=>by
  simp only[reads]
  rw[As hl hA xs Ts ps (fun y hy=>hx y (by simp[hy])),iN hl (hx x (by simp))]
  cases p with
  |some a=>rfl
  |none=>
   simp only
   cases e:A.dP Θ T x with
   |none=>rfl
   |some a=>
    have ha:=gd hA (hx x (by simp)) e
    cases a with
    |ld f cy=>
     simp only
     rw[Ez hl (fun c hc t s p ec=>ha s (by
      simp only[AV.refs,List.any_eq_true]
      exact⟨c,hc,by rw[ec];simp⟩))]
    |_=>simp only;rw[WG hl ha]
theorem aag (hl:B.length=A.length) {x:Operand} (hx:lJ Δ x=true):tJ (mix Δ A B) x=tJ A x:=by
 cases x with
 |tmp i=>simp only[tJ];rw[kO hl hx]
 |_=>rfl
theorem Au (hl:B.length=A.length):∀ (xs:List Operand) (l:List (Option TV)) (as:List Arg),(∀ x∈xs,lJ Δ x=true)→iK (mix Δ A B) xs l as=iK A xs l as
 |[],_,_,_=>rfl
 |x::xs,[],_,_=>rfl
 |x::xs,p::ps,[],_=>rfl
 |x::xs,p::ps,r::rs,hx=>by simp only[iK,Au hl xs ps rs (fun y hy=>hx y (by simp[hy])),aag hl (hx x (by simp))]
def adn (Δ:Nat→Bool) (A B:St) (K K':St→Option aa):Prop:=∀ A1,aX Δ A1→A1.length=A.length→K' (mix Δ A1 B)=K A1
theorem w9 (l:List TV):∀ s,(Ht l).refs s=true→Δ s=true:=fun s hs=>by rw[Ep] at hs;cases hs
theorem ado (hl:B.length=A.length) (hA:aX Δ A) (hB:aX Δ B) {o:Oper} {d:Nat} (mH:o.dst=some d) (hd:Δ d=true) {f:FuncId} {as:List Operand} {ts:List TypeId} (hx:∀ x∈as,lJ Δ x=true) {K K':St→Option aa} (hK:adn Δ A B K K'):
  gF h O o f none as ts (mix Δ A B) K'=gF h O o f none as ts A K:=by
 unfold gF
 obtain⟨k1,k2⟩:=Ar (Θ:=h.tab) hB as ts (O.sig f) hl hA hx
 rw[k1]
 cases ht:fM h.tab A as ts (O.sig f) with
 |none=>rfl
 |some q=>
  obtain⟨l,A1⟩:=q
  obtain⟨c1,c2⟩:=k2 _ ht
  have Ap:B.length=A1.length:=by rw[c2,hl]
  simp only[Option.map_some,qV]
  rw[As Ap c1 as ts l hx]
  cases reads h.tab A1 as ts l with
  |none=>rfl
  |some args=>
   simp only
   congr 1
   funext rt
   cases rt.refs with
   |cons _ _=>rfl
   |nil=>
    simp only
    rw[Au Ap as l args hx,mH,sB Ap hB hd]
    rw[hK _ (jJ c1 hd (w9 _)) (by rw[cd,c2])]
theorem R0 (hl:B.length=A.length) (hA:aX Δ A) (hB:aX Δ B) {s:Nat} (hs:Δ s=true) (b:TV) (p:Path):(mix Δ A B).oS s b p=(A.oS s b p).map (fun S=>mix Δ S B)∧∀ S,A.oS s b p=some S→aX Δ S∧S.length=A.length:=by
 cases p with
 |nil=>
  simp only[St.oS]
  refine⟨by rw[sB hl hB hs];rfl,fun S e=>?_⟩
  injection e with e
  subst e
  exact⟨jJ hA hs cz,cd _ _ _⟩
 |cons st pp=>
  simp only[St.oS]
  rw[kO hl hs]
  cases A.at s with
  |v r ex=>
   simp only
   cases fX b (st::pp) r.t r.m r.x with
   |none=>exact⟨rfl,fun _ e=>by cases e⟩
   |some q=>
    simp only
    refine⟨by rw[sB hl hB hs];rfl,fun S e=>?_⟩
    injection e with e
    subst e
    exact⟨jJ hA hs cz,cd _ _ _⟩
  |_=>exact⟨rfl,fun _ e=>by cases e⟩
theorem adp (hl:B.length=A.length) (hA:aX Δ A) (hB:aX Δ B) {o:Oper} {d:Nat} (mH:o.dst=some d) (hd:Δ d=true) {f:FuncId} {j:Nat} {as:List Operand} {ts:List TypeId} (hx:∀ x∈as,lJ Δ x=true) {K K':St→Option aa} (hK:adn Δ A B K K'):
  qX h O o f j as ts (mix Δ A B) K'=qX h O o f j as ts A K:=by
 unfold qX
 split
 case h_2=>rfl
 rename_i x T hxj _
 have hxx:=hx x (List.mem_of_getElem? hxj)
 rw[iN hl hxx]
 cases e:A.dP h.tab T x with
 |none=>rfl
 |some av=>
  simp only
  have ha:=gd hA hxx e
  obtain⟨k1,k2⟩:=HI hl hA hB hxx ha
  rw[k1]
  cases hp:jF x av with
  |none=>cases A.dD x av<;>rfl
  |some sp=>
   obtain⟨s,p⟩:=sp
   have hs:Δ s=true:=by
    cases av with
    |v b ex=>
     cases x with
     |tmp i=>simp only[jF,Option.some.injEq,Prod.mk.injEq] at hp;rw[←hp.1];exact hxx
     |_=>simp[jF] at hp
    |al t s' p'=>simp only[jF,Option.some.injEq,Prod.mk.injEq] at hp;rw[←hp.1];exact ha _ mQ
    |_=>simp[jF] at hp
   cases ht:A.dD x av with
   |none=>rfl
   |some q=>
    obtain⟨b,A1⟩:=q
    obtain⟨c1,c2⟩:=k2 _ ht
    have Ap:B.length=A1.length:=by rw[c2,hl]
    simp only[Option.map_some]
    cases (!b.m.bP&&eM b.t b.m) with
    |false=>rfl
    |true=>
     simp only[cond_true]
     rw[As Ap c1 as ts _ hx]
     cases reads h.tab A1 as ts ((List.replicate as.length none).set j (some ⟨b.t,iL b.t b.m 0,b.x⟩)) with
     |none=>rfl
     |some args=>
      simp only
      rw[Au Ap as _ args hx]
      cases (qW b.t b.m||iK A1 as ((List.replicate as.length none).set j (some ⟨b.t,iL b.t b.m 0,b.x⟩)) args) with
      |false=>rfl
      |true=>
       simp only[cond_true]
       congr 1
       funext rt
       split
       case h_2=>rfl
       rename_i c _
       cases (rt.res.all fun d=>fw d.t d.m&&qw d.m) with
       |false=>rfl
       |true=>
        simp only[cond_true]
        split
        case isFalse=>rfl
        split
        case isFalse=>rfl
        obtain⟨r1,r2⟩:=R0 Ap c1 hB hs ⟨b.t,b.m,fe b.t b.m b.x (‹c.t=b.t›▸c.x)⟩ p
        rw[r1]
        cases hr:A1.oS s ⟨b.t,b.m,fe b.t b.m b.x (‹c.t=b.t›▸c.x)⟩ p with
        |none=>rfl
        |some A2=>
         obtain⟨d1,d2⟩:=r2 _ hr
         simp only[Option.map_some]
         rw[mH,sB (by rw[d2,c2,hl]) hB hd]
         exact hK _ (jJ d1 hd (w9 _)) (by rw[cd,d2,c2])
theorem nP (hl:B.length=A.length) (hA:aX Δ A) (hB:aX Δ B) {i:Nat} {o:Oper} (ho:ops[i]?=some o) (ht:dM Δ o=true) {K K':St→Option aa} (hK:adn Δ A B K K'):
  aW h O ops i (mix Δ A B) K'=aW h O ops i A K:=by
 unfold dM at ht
 simp only[Bool.and_eq_true] at ht
 obtain⟨⟨hg,hd⟩,hx⟩:=ht
 have hg:o.guard=none:=by
  cases hq:o.guard with
  |none=>rfl
  |some _=>rw[hq] at hg;cases hg
 by_cases b5:∃ T x y,o.op=.store T x y
 ·obtain⟨T,x,y,bU⟩:=b5
  have hdn:o.dst=none:=by
   cases hq:o.dst with
   |none=>rfl
   |some d=>unfold akd at hd;rw[hq,bU] at hd;cases hd
  rw[bU] at hx
  simp only[Bool.and_eq_true] at hx
  have e1:∀ S K,aW h O ops i S K=match lf h.tab S T x y with
    |some (g,S1)=>bif g then K (oM h.tab S S1 T y) else none
    |none=>none:=fun S K=>by
   unfold aW
   rw[ho]
   simp only[hg]
   unfold gG
   rw[bU]
   simp only[ev,bU,hdn]
   cases lf h.tab S T x y with
   |none=>rfl
   |some q=>rfl
  have hm:=aaf (Θ:=h.tab) hl hA hB T hx.1 hx.2
  rw[e1,e1,hm.1]
  cases he:lf h.tab A T x y with
  |none=>rfl
  |some q=>
   obtain⟨g,A1⟩:=q
   obtain⟨c1,c2⟩:=hm.2 _ he
   simp only[Option.map_some]
   obtain⟨s1,s2,s3⟩:=RZ (Θ:=h.tab) (A1:=A1) hl hA hB T hx.2 c2 c1
   rw[s1,hK _ s2 s3]
 obtain⟨d,mH⟩:∃ d,o.dst=some d:=by
  cases hq:o.dst with
  |none=>
   exfalso
   cases bU:o.op with
   |store T x y=>exact b5 ⟨T,x,y,bU⟩
   |_=>simp[akd,hq,bU] at hd
  |some d=>exact⟨d,rfl⟩
 have hd:Δ d=true:=by
  cases bU:o.op with
  |store T x y=>exact absurd ⟨T,x,y,bU⟩ b5
  |_=>simpa[akd,mH,bU] using hd
 have key:∀ {G4:St→z'},Mx Δ A B (G4 A) (G4 (mix Δ A B))→(∀ S K,aW h O ops i S K=match G4 S with
   |some (g,S1)=>bif g then K S1 else none
   |none=>none)→aW h O ops i (mix Δ A B) K'=aW h O ops i A K:=by
  intro G4 hm hs
  rw[hs,hs,hm.1]
  cases he:G4 A with
  |none=>rfl
  |some q=>
   obtain⟨g,A1⟩:=q
   obtain⟨c1,c2⟩:=hm.2 _ he
   simp only[Option.map_some]
   rw[hK A1 c1 c2]
 have EA:∀ S K,aW h O ops i S K=gG h O o S K:=fun S K=>by
  unfold aW
  rw[ho]
  simp only[hg]
 split at hx
 ·rename_i T x y bU;exact absurd ⟨T,x,y,bU⟩ b5
 ·rename_i T l c bU
  simp only[Bool.and_eq_true] at hx
  refine key (G4:=fun S=>gb h.tab S (some d) T l c) (Ha hl hA hB hd T hx.1 hx.2) fun S K=>?_
  rw[EA];unfold gG;rw[bU];simp only[ev,bU,mH];try rfl
 ·rename_i T bU
  refine key (G4:=fun S=>oK h.tab h.hn S (some d) T) (aae hl hA hB hd T) fun S K=>?_
  rw[EA];unfold gG;rw[bU];simp only[ev,bU,mH];try rfl
 ·rename_i T n ps bU
  refine key (G4:=fun S=>bH h.tab h.hn S (some d) T n ps.toList) (Ey hl hA hB hd T n (List.all_eq_true.1 hx)) fun S K=>?_
  rw[EA];unfold gG;rw[bU];simp only[ev,bU,mH];try rfl
 ·rename_i T x bU
  refine key (G4:=fun S=>fZ h.tab S (some d) T x) (adl hl hA hB hd T hx) fun S K=>?_
  rw[EA];unfold gG;rw[bU];simp only[ev,bU,mH];try rfl
 ·rename_i x bU
  refine key (G4:=fun S=>oJ h.tab S (some d) o.type x) (adm hl hA hB hd _ hx) fun S K=>?_
  rw[EA];unfold gG;rw[bU];simp only[ev,bU,mH];try rfl
 ·rename_i x j bU
  refine key (G4:=fun S=>fD S (some d) x j) (MS hl hA hB hd hx j) fun S K=>?_
  rw[EA];unfold gG;rw[bU];simp only[ev,bU,mH];try rfl
 ·rename_i op T x y T' bU
  simp only[Bool.and_eq_true,Bool.not_eq_true'] at hx
  obtain⟨h1,h2,h3⟩:=hx
  refine key (G4:=fun S=>D9 h.tab S (some d) op T x y) (akk hl hA hB hd op T h1 h2) fun S K=>?_
  rw[EA]
  unfold gG
  split
  ·rename_i e;rw[bU] at e;cases e
  ·rename_i e;rw[bU] at e;cases e
  ·rename_i e;rw[bU] at e;rw[bU] at h3;injection e with e1 e2 e3 e4 e5;subst e4;simp[oT] at h3
  ·rename_i e;rw[bU] at e;rw[bU] at h3;injection e with e1 e2 e3 e4 e5;subst e4;simp[oT] at h3
  ·simp only[ev,bU,mH];try rfl
 ·rename_i T x f bU
  refine key (G4:=fun S=>ga h.tab S (some d) T x f) (G9 hl hA hB hd T hx f) fun S K=>?_
  rw[EA];unfold gG;rw[bU];simp only[ev,bU,mH];try rfl
 ·rename_i T x ix bU
  simp only[Bool.and_eq_true] at hx
  refine key (G4:=fun S=>ck h.tab S (some d) T x ix) (G' hl hA hB hd T hx.1 hx.2) fun S K=>?_
  rw[EA];unfold gG;rw[bU];simp only[ev,bU,mH];try rfl
 ·rename_i T T' x bU
  refine key (G4:=fun S=>gp h.tab S (some d) T T' x) (MU hl hA hB hd T T' hx) fun S K=>?_
  rw[EA];unfold gG;rw[bU];simp only[ev,bU,mH];try rfl
 ·rename_i as ts bU
  have xa:=List.all_eq_true.1 hx
  refine key (G4:=fun S=>match cl h.tab S (some d) ts.toList as.toList with
   |some r=>some r
   |none=>fE h.tab S (some d) ts.toList as.toList) ?_ fun S K=>?_
  ·have h1:=RY (Θ:=h.tab) (ts:=ts.toList) hl hA hB hd xa
   have h2:=MT (Θ:=h.tab) (ts:=ts.toList) hl hA hB hd xa
   refine⟨?_,fun q hq=>?_⟩
   ·show(match cl h.tab (mix Δ A B) (some d) ts.toList as.toList with
     |some r=>some r
     |none=>fE h.tab (mix Δ A B) (some d) ts.toList as.toList)=_
    rw[h1.1]
    cases cl h.tab A (some d) ts.toList as.toList with
    |none=>exact h2.1
    |some r=>rfl
   ·split at hq
    ·rename_i r hr
     injection hq with hq
     subst hq
     exact h1.2 _ hr
    ·exact h2.2 _ hq
  ·rw[EA];unfold gG;rw[bU];simp only[ev,bU,mH];try rfl
 ·rename_i f as ts bU
  have xa:=List.all_eq_true.1 hx
  rw[EA,EA]
  unfold gG
  rw[bU]
  simp only
  cases uk (O.sig f) 0 with
  |none=>exact ado hl hA hB mH hd xa hK
  |some j=>exact adp hl hA hB mH hd xa hK
 ·cases hx
end Go.Pv
namespace Go.Pv
set_option linter.unusedVariables false
set_option linter.unusedSimpArgs false
variable {h:Hint} {O:jr} {Θ:de} {ops:Array Oper} {ret:aa} {Δ:Nat→Bool} {A B S:St} {K:St→Option aa}
theorem HJ {o:Oper} (ht:dM Δ o=true):oT o.op=false:=by
 unfold dM at ht
 simp only[Bool.and_eq_true] at ht
 have hx:=ht.2
 split at hx
 all_goals first |(rename_i bU;rw[bU];rfl) |(simp only[Bool.and_eq_true,Bool.not_eq_true'] at hx;exact hx.2.2) |cases hx
theorem R1 (hl:B.length=A.length) (hA:aX Δ A) (hB:aX Δ B):aX Δ (mix Δ A B):=fun i s hs=>by
 rw[jI hl] at hs
 cases hi:Δ i with
 |true=>rw[hi] at hs;rw[←hi];exact hA i s hs
 |false=>rw[hi] at hs;rw[←hi];exact hB i s hs
theorem MV (d:List Nat):(fun i=>!RK d i)=Z4 d:=by funext i;simp[RK]
theorem uv {d:List Nat}:aX (RK d) S↔aX (Z4 d) S:=
 ⟨fun h=>by have:=h.not;rwa [MV] at this,fun h=>h.not⟩
theorem EB (hS:aX Δ S) {i:Nat} {o:Oper} (ho:ops[i]?=some o) (ht:dM Δ o=true) (c:St→Bool) (hc:∀ X,aX Δ X→c X=true):
  aW h O ops i S K=aW h O ops i S (fun X=>bif c X then K X else none):=by
 have h1:=nP (h:=h) (O:=O) (A:=S) (B:=S) rfl hS hS ho ht (K:=fun A1=>open Classical in if aX Δ A1 then K (mix Δ A1 S) else none) (K':=K) (fun A1 hA hl=>(if_pos hA).symm)
 have h2:=nP (h:=h) (O:=O) (A:=S) (B:=S) rfl hS hS ho ht (K:=fun A1=>open Classical in if aX Δ A1 then K (mix Δ A1 S) else none) (K':=fun X=>bif c X then K X else none) (fun A1 hA hl=>by
  show(bif c (mix Δ A1 S) then K (mix Δ A1 S) else none)=open Classical in if aX Δ A1 then K (mix Δ A1 S) else none
  rw[if_pos hA,hc _ (R1 (by rw[hl]) hA hS)];rfl)
 rw[Ev] at h1 h2
 rw[h1,h2]
theorem MW (hS:aX Δ S) {i:Nat} {o:Oper} (ho:ops[i]?=some o) (ht:dM Δ o=true):
  aW h O ops i S K=aW h O ops i S (fun X=>bif Nat.beq X.length S.length then K X else none):=by
 have h1:=nP (h:=h) (O:=O) (A:=S) (B:=S) rfl hS hS ho ht (K:=fun A1=>K (mix Δ A1 S)) (K':=K) (fun A1 hA hl=>rfl)
 have h2:=nP (h:=h) (O:=O) (A:=S) (B:=S) rfl hS hS ho ht (K:=fun A1=>K (mix Δ A1 S)) (K':=fun X=>bif Nat.beq X.length S.length then K X else none) (fun A1 hA hl=>by
  show(bif Nat.beq (mix Δ A1 S).length S.length then K (mix Δ A1 S) else none)=K (mix Δ A1 S)
  rw[fN,hl,Nat.beq_refl];rfl)
 rw[Ev] at h1 h2
 rw[h1,h2]
theorem HK (hS:aX Δ S) {i j:Nat} {oi oj:Oper} (hi:ops[i]?=some oi) (hj:ops[j]?=some oj) (ti:dM Δ oi=true) (tj:dM (fun i=>!Δ i) oj=true):
  aW h O ops i S (fun S1=>aW h O ops j S1 K)=aW h O ops i S (fun A1=>aW h O ops j S (fun B1=>K (mix Δ A1 B1))):=by
 have h1:=nP (h:=h) (O:=O) (A:=S) (B:=S) rfl hS hS hi ti (K':=fun S1=>aW h O ops j S1 K) (K:=fun A1=>aW h O ops j S (fun B1=>K (mix Δ A1 B1))) (fun A1 hA hl=>by
  have h2:=nP (h:=h) (O:=O) (Δ:=fun i=>!Δ i) (A:=S) (B:=A1) hl hS.not hA.not hj tj (K':=K) (K:=fun B1=>K (mix Δ A1 B1)) (fun B1 hB hlB=>by rw[IP (by rw[hl,hlB])])
  rw[IP (by rw[hl])] at h2
  exact h2)
 rw[Ev] at h1
 exact h1
theorem EC (hO:nL O) (hS:aX Δ S) {i j:Nat} {oi oj:Oper} (hi:ops[i]?=some oi) (hj:ops[j]?=some oj) (ti:dM Δ oi=true) (tj:dM (fun i=>!Δ i) oj=true):
  aW h O ops i S (fun S1=>aW h O ops j S1 K)=aW h O ops j S (fun S1=>aW h O ops i S1 K):=by
 have tn:(fun i=>!(!Δ i))=Δ:=by funext i;simp
 rw[HK hS hi hj ti tj,HK (Δ:=fun i=>!Δ i) hS.not hj hi tj (by rw[tn];exact ti)]
 obtain⟨ri,h1⟩:=ia (h:=h) (O:=O) (ops:=ops) hO i (fun o ho=>by rw[hi] at ho;injection ho with ho;subst ho;exact HJ ti) S
 obtain⟨rj,h2⟩:=ia (h:=h) (O:=O) (ops:=ops) hO j (fun o ho=>by rw[hj] at ho;injection ho with ho;subst ho;exact HJ tj) S
 -- the lengths are the same
 have l1:=fun K=>MW (h:=h) (O:=O) (K:=K) hS hi ti
 have l2:=fun K=>MW (h:=h) (O:=O) (K:=K) hS.not hj tj
 cases ri with
 |none=>simp only[h1,h2,Option.bind_none];cases rj<;>rfl
 |some A1=>
  cases rj with
  |none=>simp only[h1,h2,Option.bind_none,Option.bind_some]
  |some B1=>
   simp only[h1,h2,Option.bind_some] at l1 l2 ⊢
   have hA:A1.length=S.length:=by
    have:=l1 (fun _=>some ⟨[],[]⟩)
    cases hq:Nat.beq A1.length S.length with
    |true=>exact Nat.eq_of_beq_eq_true hq
    |false=>rw[hq] at this;cases this
   have hB:B1.length=S.length:=by
    have:=l2 (fun _=>some ⟨[],[]⟩)
    cases hq:Nat.beq B1.length S.length with
    |true=>exact Nat.eq_of_beq_eq_true hq
    |false=>rw[hq] at this;cases this
   rw[IP (by rw[hA,hB])]
theorem aah {S:St} {d:Nat} {a:AV} (h:S.at d=a) (hd:a≠ .dead):S.set d a=S:=by
 refine nw (List.length_set) fun i=>?_
 rw[cS]
 split
 ·rename_i hi
  rw[hi.1,h]
 ·rfl
theorem put_comm {S:St} {a b:Nat} {u v:AV} (Ry:a≠b) (hu:∀ d,u.refs d=false) (hv:∀ d,v.refs d=false):(S.put (some a) u).put (some b) v=(S.put (some b) v).put (some a) u:=by
 refine nw (by simp only[cd]) fun i=>?_
 have hV:∀ (S:St) (a b:Nat) (u:AV),a≠b→((S.put (some a) u).at b).z8=(S.at b).z8:=fun S a b u Ry=>by
  rw[dF,if_neg (fun e=>Ry e.1.symm)]
  cases hr:(S.at b).refs a with
  |false=>rfl
  |true=>
   have:(S.at b).z8=false:=by cases hx:S.at b<;>first |rfl |(rw[hx] at hr;simp[AV.refs] at hr)
   rw[this]
   cases (S.at a).z8 with
   |true=>rfl
   |false=>exact this
 simp only[dF,cd,hu,hv,cond_false]
 have hVa:=hV S b a v (Ne.symm Ry)
 have hVb:=hV S a b u Ry
 simp only[dF,hu,hv,cond_false] at hVa hVb
 rw[hVa,hVb]
 by_cases h1:i=a
 ·subst h1
  by_cases hl:i<S.length
  ·rw[if_neg (fun e=>Ry e.1),if_pos ⟨rfl,hl⟩,if_pos ⟨rfl,hl⟩,hu];rfl
  ·rw[if_neg (fun e=>Ry e.1),if_neg (fun e=>hl e.2),if_neg (fun e=>hl e.2),if_neg (fun e=>Ry e.1),HF (S:=S) (i:=i) (by omega)]
   simp[AV.refs]
 ·by_cases h2:i=b
  ·subst h2
   by_cases hl:i<S.length
   ·rw[if_pos ⟨rfl,hl⟩,if_neg (fun e=>h1 e.1),if_pos ⟨rfl,hl⟩,hv];rfl
   ·rw[if_neg (fun e=>hl e.2),if_neg (fun e=>h1 e.1),if_neg (fun e=>h1 e.1),if_neg (fun e=>hl e.2),HF (S:=S) (i:=i) (by omega)]
    simp[AV.refs]
  ·rw[if_neg (fun e=>h2 e.1),if_neg (fun e=>h1 e.1),if_neg (fun e=>h1 e.1),if_neg (fun e=>h2 e.1)]
   have dr:∀ d,AV.dead.refs d=false:=fun _=>rfl
   cases hra:(S.at i).refs a<;>cases hrb:(S.at i).refs b<;>cases (S.at a).z8<;>cases (S.at b).z8<;>simp only[hra,hrb,dr,Bool.and_true,Bool.and_false,Bool.true_and,Bool.false_and,cond_true,cond_false]
theorem xb {S:St} {a x:Nat} {u t:AV} (WB:a≠x) (ht:∀ d,t.refs d=false) (hx:∀ d,(S.at x).refs d=false):List.set (S.put (some a) u) x t=St.put (S.set x t) (some a) u:=by
 refine nw (by simp only[cd,List.length_set]) fun i=>?_
 have h1:(St.at (S.set x t) a).z8=(S.at a).z8:=by rw[cS,if_neg (fun e=>WB e.1)]
 rw[cS,cd,dF,dF,List.length_set,h1]
 by_cases hi:i=x∧x<S.length
 ·rw[if_pos hi,if_neg (fun e=>WB (e.1.symm.trans hi.1)),cS,if_pos hi,ht];rfl
 ·rw[if_neg hi,cS,if_neg hi]
theorem WH {i:Nat} {o:Oper} {a x p:Nat} (ho:ops[i]?=some o) (hg:o.guard=none) (hd:o.dst=some a) (bU:o.op=.extract (.tmp x) p) (S:St) (K:St→Option aa):aW h O ops i S K=match fD S (some a) (.tmp x) p with
  |some (g,S1)=>bif g then K S1 else none
  |none=>none:=by
 unfold aW
 rw[ho]
 simp only[hg]
 unfold gG
 rw[bU]
 simp only[ev,bU,hd]
 try rfl
theorem akl {i j:Nat} {oi oj:Oper} (hi:ops[i]?=some oi) (hj:ops[j]?=some oj) (hx:exB oi oj=true) (S:St) (K:St→Option aa):
  aW h O ops i S (fun S1=>aW h O ops j S1 K)=aW h O ops j S (fun S1=>aW h O ops i S1 K):=by
 unfold exB at hx
 split at hx
 case h_2=>cases hx
 rename_i a b x p y q g1 g2 d1 d2 o1 o2
 simp only[Bool.and_eq_true,Bool.not_eq_true'] at hx
 obtain⟨e1,e2,e3,e4,e5⟩:=hx
 have e1:=Nat.eq_of_beq_eq_true e1
 subst e1
 have e2:p≠q:=fun e=>by rw[e,Nat.beq_refl] at e2;cases e2
 have e3:a≠b:=fun e=>by rw[e,Nat.beq_refl] at e3;cases e3
 have e4:a≠x:=fun e=>by rw[e,Nat.beq_refl] at e4;cases e4
 have e5:b≠x:=fun e=>by rw[e,Nat.beq_refl] at e5;cases e5
 have bf:∀ {a x:Nat},a≠x→Nat.beq a x=false:=fun {a x} nH=>by
  cases hq:Nat.beq a x with
  |false=>rfl
  |true=>exact absurd (Nat.eq_of_beq_eq_true hq) nH
 -- one extraction,on its own
 have one:∀ (S:St) (a p:Nat),a≠x→fD S (some a) (.tmp x) p=match S.at x with
   | .tz l=>(match l.getD p none with
    |some u=>some (true,St.put (S.set x (.tz (bif u.m.bP then l else l.set p none))) (some a) (.v u []))
    |none=>none)
   |_=>none:=fun S a p WB=>by
  unfold fD
  simp only
  cases du:S.at x with
  |tz l=>
   simp only
   cases l.getD p none with
   |none=>rfl
   |some u=>
    simp only
    cases u.m.bP with
    |true=>simp only[cond_true];rw[aah du (fun e=>by cases e)]
    |false=>simp only[cond_false,bf WB]
  |_=>rfl
 simp only[WH hi g1 d1 o1,WH hj g2 d2 o2,one _ _ _ e4,one _ _ _ e5]
 cases du:S.at x with
 |tz l=>
  simp only
  have hxl:x<S.length:=by
   refine Classical.byContradiction fun hl=>?_
   rw[HF (S:=S) (i:=x) (Nat.le_of_not_lt hl)] at du
   cases du
  -- the tuple,behind the first
  have after:∀ (t:AV) (u:TV) (a:Nat),(∀ d,t.refs d=false)→a≠x→(St.put (S.set x t) (some a) (.v u [])).at x=t:=fun t u a ht WB=>by
   rw[dF,if_neg (fun e=>WB e.1.symm),cS,if_pos ⟨rfl,hxl⟩,ht];rfl
  have ny:∀ (l:List (Option TV)) (p q:Nat) (c:Bool),p≠q→(bif c then l else l.set p none).getD q none=l.getD q none:=fun l p q c hpq=>by
   cases c with
   |true=>rfl
   |false=>simp only[cond_false,List.getD_eq_getElem?_getD];rw[List.getElem?_set_ne hpq]
  have MX:∀ (l:List (Option TV)) (d:Nat),(AV.tz l).refs d=false:=fun _ _=>rfl
  have nv:∀ (b:TV) (d:Nat),(AV.v b []).refs d=false:=fun _ _=>rfl
  cases hp:l.getD p none with
  |none=>
   cases hq:l.getD q none with
   |none=>rfl
   |some w=>
    simp only[cond_true,after _ _ _ (MX _) e5,ny _ _ _ _ (Ne.symm e2),hp]
  |some u=>
   cases hq:l.getD q none with
   |none=>simp only[cond_true,after _ _ _ (MX _) e4,ny _ _ _ _ e2,hq]
   |some w=>
    simp only[cond_true,after _ _ _ (MX _) e4,after _ _ _ (MX _) e5,ny _ _ _ _ e2,ny _ _ _ _ (Ne.symm e2),hp,hq]
    congr 1
    rw[xb e4 (MX _) (by rw[cS,if_pos ⟨rfl,hxl⟩];exact MX _),xb e5 (MX _) (by rw[cS,if_pos ⟨rfl,hxl⟩];exact MX _),List.set_set,List.set_set,put_comm e3 (nv _) (nv _)]
    congr 3
    cases u.m.bP<;>cases w.m.bP<;>simp only[cond_true,cond_false]
    rw[List.set_comm _ _ e2]
 |_=>rfl
theorem uw {ds:List (List Nat)}:kN ds S=true↔∀ d∈ds,aX (Z4 d) S:=by
 unfold kN
 rw[List.all_eq_true]
 exact⟨fun h d hd=>iw.1 (h d hd),fun h d hd=>iw.2 (h d hd)⟩
theorem adq {ds:List (List Nat)} {o:Oper} {d:List Nat} (hd:d∈ds) (hs:Ef ds o=true):dM (Z4 d) o=true∨dM (RK d) o=true:=by
 unfold Ef at hs
 simpa using List.all_eq_true.1 hs d hd
theorem ux (hO:nL O) {ds:List (List Nat)} (hw:kN ds S=true) {i:Nat} {o:Oper} (ho:ops[i]?=some o) (hs:Ef ds o=true) (hn:oT o.op=false) (e:aW h O ops i S K=some ret):∃ X,(∀ K,aW h O ops i S K=K X)∧kN ds X=true∧K X=some ret:=by
 obtain⟨ro,h1⟩:=ia (h:=h) (O:=O) (ops:=ops) hO i (fun o' G6=>by rw[ho] at G6;injection G6 with G6;subst G6;exact hn) S
 cases ro with
 |none=>rw[h1] at e;cases e
 |some X=>
  refine⟨X,fun K=>h1 K,uw.2 fun d hd=>?_,by rw[h1] at e;exact e⟩
  have hS:=uw.1 hw d hd
  rcases adq hd hs with ht |ht
  ·have:=EB (h:=h) (O:=O) (K:=fun _=>some ⟨[],[]⟩) hS ho ht (fun X=>jY (Z4 d) X 0) (fun X hX=>iw.2 hX)
   simp only[h1,Option.bind_some] at this
   cases hc:jY (Z4 d) X 0 with
   |true=>exact iw.1 hc
   |false=>rw[hc] at this;cases this
  ·have:=EB (h:=h) (O:=O) (K:=fun _=>some ⟨[],[]⟩) (uv.2 hS) ho ht (fun X=>jY (Z4 d) X 0) (fun X hX=>iw.2 (uv.1 hX))
   simp only[h1,Option.bind_some] at this
   cases hc:jY (Z4 d) X 0 with
   |true=>exact iw.1 hc
   |false=>rw[hc] at this;cases this
theorem aai (hO:nL O) {ds:List (List Nat)} (hw:kN ds S=true) {i j:Nat} {oi oj:Oper} (hi:ops[i]?=some oi) (hj:ops[j]?=some oj) (hp:Z5 ds oi oj=true∨exB oi oj=true):
  aW h O ops i S (fun S1=>aW h O ops j S1 K)=aW h O ops j S (fun S1=>aW h O ops i S1 K):=by
 rcases hp with hp |hp
 ·unfold Z5 at hp
  obtain⟨d,hd,hp⟩:=List.any_eq_true.1 hp
  have hS:=uw.1 hw d hd
  simp only[Bool.or_eq_true,Bool.and_eq_true] at hp
  rcases hp with⟨h1,h2⟩ |⟨h1,h2⟩
  ·exact EC hO hS hi hj h1 h2
  ·exact EC hO (uv.2 hS) hi hj h1 (by rw[MV];exact h2)
 ·exact akl hi hj hp S K
theorem HL (hO:nL O) {ds:List (List Nat)} {j:Nat} {oj:Oper} (hj:ops[j]?=some oj):∀ (p r:List Nat) {S:St} {K:St→Option aa} {ret:aa},kN ds S=true→(∀ x∈p,∃ ox,ops[x]?=some ox∧Ef ds ox=true∧oT ox.op=false∧(Z5 ds ox oj=true∨exB ox oj=true))→
  mO h O ops (p++j::r) S K=some ret→aW h O ops j S (fun S1=>mO h O ops (p++r) S1 K)=some ret
 |[],r,S,K,ret,hw,hp,e=>e
 |x::p,r,S,K,ret,hw,hp,e=>by
  obtain⟨ox,hx,hs,hn,hc⟩:=hp x (by simp)
  simp only[List.cons_append,mO] at e ⊢
  obtain⟨X,h1,h2,h3⟩:=ux hO hw hx hs hn e
  have h4:=HL hO hj p r h2 (fun y hy=>hp y (by simp[hy])) h3
  rw[←aai hO hw hx hj hc,h1]
  exact h4
def asQ (ops:Array Oper) (as:List Nat) (ds:List (List Nat)) (i j:Nat):Prop:=∃ oi oj,ops[i]?=some oi∧ops[j]?=some oj∧i≠j∧(Nat.testBit (bw i as 0 0) j=true∨Z5 ds oi oj=true∨exB oi oj=true)
theorem nz {as:List Nat} {ds:List (List Nat)}:∀ {l:List Nat},qY ops as ds l=true↔l.Pairwise (asQ ops as ds)
 |[]=>by simp[qY]
 |i::r=>by
  simp only[qY,Bool.and_eq_true,List.all_eq_true,List.pairwise_cons]
  rw[nz]
  refine and_congr ?_ Iff.rfl
  refine forall_congr' fun j=>?_
  refine imp_congr Iff.rfl ?_
  unfold asQ
  cases hi:ops[i]? with
  |none=>simp
  |some oi=>
   cases hj:ops[j]? with
   |none=>simp
   |some oj=>
    simp only[Bool.and_eq_true,Bool.not_eq_true',Bool.or_eq_true,Option.some.injEq]
    constructor
    ·rintro⟨h1,h2⟩
     exact⟨oi,oj,rfl,rfl,(fun e=>by rw[e,Nat.beq_refl] at h1;cases h1),h2⟩
    ·rintro⟨_,_,rfl,rfl,h1,h2⟩
     refine⟨?_,h2⟩
     cases hq:Nat.beq i j with
     |false=>rfl
     |true=>exact absurd (Nat.eq_of_beq_eq_true hq) h1
end Go.Pv
namespace Go.Pv
set_option linter.unusedVariables false
set_option linter.unusedSimpArgs false
def zc:Ty→List Value
 | .int k=>[.int k 0] | .bool=>[.bool false] | .str=>[.string ByteArray.empty] | .sl _=>[.slice none 0 0] | .ptr _=>[.pointer none]
 | .pair a b=>zc a++zc b | .unit=>[] | .arr n t=>(List.replicate n (zc t)).flatten
def fT:Path→Ty→Option Ty
 |[],t=>some t
 | .fst::p,.pair a _=>fT p a
 | .snd::p,.pair _ b=>fT p b
 |_,_=>none
def veq:Value→Value→Bool
 | .int k n,.int k' n'=>decide (k=k')&&decide (n=n')
 | .bool a,.bool b=>a==b
 | .string a,.string b=>a.data.toList==b.data.toList
 | .slice none a b,.slice none c d=>Nat.beq a c&&Nat.beq b d
 | .pointer none,.pointer none=>true
 |_,_=>false
def R2:List Value→List Value→Bool
 |[],[]=>true
 |a::r,b::s=>veq a b&&R2 r s
 |_,_=>false
theorem auo {a b:Value} (h:veq a b=true):a=b:=by
 unfold veq at h
 split at h<;>simp at h
 ·obtain⟨rfl,rfl⟩:=h;rfl
 ·subst h;rfl
 ·rename_i a b
  cases a;cases b
  simp at h
  rw[h]
 ·obtain⟨rfl,rfl⟩:=h;rfl
 ·rfl
theorem IS:∀ {a b:List Value},R2 a b=true→a=b
 |[],[],_=>rfl
 |a::r,b::s,h=>by
  simp only[R2,Bool.and_eq_true] at h
  rw[auo h.1,IS h.2]
 |[],_::_,h=>by simp[R2] at h
 |_::_,[],h=>by simp[R2] at h
def zOK (t:Ty) (z:Value):Bool:=match isAgg t,z with
 |true,.agg cs=>R2 cs.toList (zc t)
 |true,_=>false
 |false,z=>R2 [z] (zc t)
theorem aaj {t:Ty} {z:Value} (h:zOK t z=true):az t z (zc t):=by
 unfold zOK at h
 unfold az
 split at h
 ·rename_i ha
  rw[if_pos ha,←IS h]
 ·cases h
 ·rename_i ha
  rw[if_neg (by simp[ha]),←IS h]
def ky (Θ:de) (ty:Ty) (n:Nat):List Field→Nat→Bool
 |[],_=>true
 |f::r,k=>(match fT (mL k n) ty with
  |some t=>Θ.is f.type t&&Nat.beq f.offset (aQ (mL k n) ty)&&Nat.blt 0 t.size
  |none=>false)&&ky Θ ty n r (k+1)
def lV (P:Program) (Θ:de) (i:TI):Bool:=match i.ty,P.underlying i.T with
 | .int k,some (.int k')=>decide (k=k')
 | .bool,some .bool=>true
 | .str,some .string=>true
 | .sl t,some (.slice e)=>Nat.beq e i.e&&Θ.is e t&&Nat.blt 0 t.size
 | .pair _ _, some (.struct fs) => decide (fs.toList.map (·.type) = i.fs) && ky Θ i.ty fs.size fs.toList 0 && !P.eqGuardType P.depth i.T && !P.stoodInHeld i.T && fs.toList.all (fun f => f.name != "_")
 |_,_=>false
def asR (i:TI) (inf:TypeInfo):Bool:=Nat.beq inf.size i.ty.size&&Nat.ble i.ty.size 9000&&Nat.ble inf.bytes (32*i.ty.size)&&Nat.ble inf.bytes 256&&Nat.blt 0 inf.bytes&&match inf.zero with
 |some z=>zOK i.ty z
 |none=>false
def Ty.ht:Ty→Nat
 | .pair a b=>max a.ht b.ht+1
 |_=>0
def uOK (i:TI):Bool:=Nat.ble i.ty.ht 9000&&match i.fs,i.ty with
 |[_],.pair _ .unit=>true
 |[_],_=>false
 |[],.pair _ _=>false
 |_,_=>true
def aup (P:Program) (Θ:de) (i:TI):Bool:=((match P.info? i.T with
 |some inf=>asR i inf
 |none=>false)&&lV P Θ i)&&uOK i
def cP (P:Program) (Θ:de):Bool:=Θ.all (aup P Θ)
structure azj (P:Program) (i:TI):Prop where
 small:i.ty.size≤9000
 out:∃ inf z,P.info? i.T=some inf∧inf.size=i.ty.size∧inf.bytes≤32*i.ty.size∧inf.bytes≤256∧0<inf.bytes∧inf.zero=some z∧az i.ty z (zc i.ty)
theorem xc {Θ:de} {T:TypeId} {i:TI} (h:Θ.find T=some i):i∈Θ∧i.T=T:=by
 induction Θ with
 |nil=>simp[de.find] at h
 |cons j r ih=>
  simp only[de.find] at h
  cases hb:Nat.beq j.T T with
  |true=>
   rw[hb] at h
   simp only[cond_true,Option.some.injEq] at h
   subst h
   exact⟨by simp,Nat.eq_of_beq_eq_true hb⟩
  |false=>
   rw[hb] at h
   simp only[cond_false] at h
   exact⟨List.mem_cons_of_mem _ (ih h).1,(ih h).2⟩
theorem cT {P:Program} {Θ:de} (hT:cP P Θ=true) {T:TypeId} {i:TI} (h:Θ.find T=some i):azj P i∧lV P Θ i=true∧i.T=T:=by
 have h1:=List.all_eq_true.1 hT i (xc h).1
 simp only[aup,Bool.and_eq_true] at h1
 refine⟨?_,h1.1.2,(xc h).2⟩
 have h2:=h1.1.1
 split at h2
 ·rename_i inf hi
  simp only[asR,Bool.and_eq_true] at h2
  obtain⟨⟨⟨⟨⟨a,sm⟩,b⟩,b'⟩,b''⟩,c⟩:=h2
  split at c
  ·rename_i z hz
   exact⟨Nat.le_of_ble_eq_true sm,⟨inf,z,hi,Nat.eq_of_beq_eq_true a,Nat.le_of_ble_eq_true b,Nat.le_of_ble_eq_true b',Nat.lt_of_succ_le (Nat.le_of_ble_eq_true b''),hz,aaj c⟩⟩
  ·cases c
 ·cases h2
theorem asS {P:Program} {Θ:de} (hT:cP P Θ=true) {T:TypeId} {i:TI} (h:Θ.find T=some i):uOK i=true:=by
 have h1:=List.all_eq_true.1 hT i (xc h).1
 simp only[aup,Bool.and_eq_true] at h1
 exact h1.2
theorem dN {Θ:de} {T:TypeId} {t:Ty} (h:Θ.is T t=true):∃ i,Θ.find T=some i∧i.ty=t:=by
 unfold de.is at h
 split at h
 ·rename_i i hi;exact⟨i,hi,by simpa using h⟩
 ·cases h
theorem kP {P:Program} {Θ:de} {i:TI} {t:Ty} (h:lV P Θ i=true) (ht:i.ty=.sl t):P.underlying i.T=some (.slice i.e)∧Θ.is i.e t=true∧0<t.size:=by
 unfold lV at h
 rw[ht] at h
 split at h<;>simp_all
 obtain⟨⟨a,b⟩,c⟩:=h
 rw[←a]
 exact b
theorem xd {P:Program} {Θ:de} {i:TI} {k:IntKind} (h:lV P Θ i=true) (ht:i.ty=.int k):P.underlying i.T=some (.int k):=by
 unfold lV at h
 rw[ht] at h
 split at h<;>simp_all
theorem xe {P:Program} {Θ:de} {i:TI} (h:lV P Θ i=true) (ht:i.ty=.bool):P.underlying i.T=some .bool:=by
 unfold lV at h
 rw[ht] at h
 split at h<;>simp_all
theorem oV {P:Program} {Θ:de} {i:TI} (h:lV P Θ i=true) (ht:i.ty=.str):P.underlying i.T=some .string:=by
 unfold lV at h
 rw[ht] at h
 split at h<;>simp_all
theorem lW {P : Program} {Θ : de} {i : TI} {a b : Ty} (h : lV P Θ i = true) (ht : i.ty = .pair a b) : ∃ fs, P.underlying i.T = some (.struct fs) ∧ fs.toList.map (·.type) = i.fs ∧ ky Θ i.ty fs.size fs.toList 0 = true ∧ P.eqGuardType P.depth i.T = false ∧ P.stoodInHeld i.T = false ∧ ∀ f ∈ fs, f.name ≠ "_" := by
 unfold lV at h
 rw[ht] at h
 split at h<;>simp_all
 intro f hf
 obtain⟨k,hk,rfl⟩:=Array.mem_iff_getElem.1 hf
 exact h.2 k hk
theorem xf {P:Program} {Θ:de} {i:TI} (h:lV P Θ i=true):(∃ d,P.underlying i.T=some d)∧(∀ t,i.ty≠ .ptr t)∧(∀ n t,i.ty≠ .arr n t)∧i.ty≠ .unit:=by
 unfold lV at h
 split at h<;>simp_all
theorem iy {Θ:de} {ty:Ty} {n:Nat}:∀ {l:List Field} {k0:Nat},ky Θ ty n l k0=true→∀ k f,l[k]?=some f→∃ t,fT (mL (k0+k) n) ty=some t∧Θ.is f.type t=true∧f.offset=aQ (mL (k0+k) n) ty∧0<t.size
 |[],_,_,k,f,h=>by simp at h
 |g::r,k0,iz,k,f,h=>by
  simp only[ky,Bool.and_eq_true] at iz
  cases k with
  |zero=>
   simp only[List.getElem?_cons_zero,Option.some.injEq] at h
   subst h
   have:=iz.1
   split at this
   ·rename_i t ht
    simp only[Bool.and_eq_true] at this
    exact⟨t,ht,this.1.1,Nat.eq_of_beq_eq_true this.1.2,Nat.lt_of_succ_le (Nat.le_of_ble_eq_true this.2)⟩
   ·cases this
  |succ k=>
   simp only[List.getElem?_cons_succ] at h
   have:=iy iz.2 k f h
   rw[show k0+1+k=k0+(k+1) from by omega] at this
   exact this
theorem gY {P:Program} {Θ:de} (hT:cP P Θ=true) {T:TypeId} {t:Ty} (h:Θ.is T t=true):∃ inf,P.info? T=some inf∧inf.size=t.size∧P.cellsOf T=t.size:=by
 obtain⟨i,hi,rfl⟩:=dN h
 obtain⟨⟨_,inf,z,h1,h2,_⟩,_,rfl⟩:=cT hT hi
 exact⟨inf,h1,h2,by simp[Program.cellsOf,h1,h2]⟩
theorem R3 {P:Program} {Θ:de} (hT:cP P Θ=true) {T:TypeId} {t:Ty} (h:Θ.is T t=true) (w:World):(Go.isAgg T).run P w=.ok (isAgg t) w:=by
 obtain⟨i,hi,rfl⟩:=dN h
 obtain⟨_,hu,rfl⟩:=cT hT hi
 have hn:=xf hu
 unfold lV at hu
 unfold Go.isAgg
 split at hu<;>simp_all [underlying,program,isAgg,Sem.run]
end Go.Pv
namespace Go.Pv
set_option linter.unusedVariables false
set_option linter.unusedSimpArgs false
variable {w w':World} {A A':Nat→Prop} {H:Nat→Value} {tm qP:Nat→Value} {S S':St} {σ:Nat→Option Nat} {w0:World} {W0 Z:Nat→Prop} {a:Act} {own:Nat→Prop} {v:Value} {Θ:de}
theorem iO (g off n:Nat):(⟨g,off,none⟩:Addr).add n=⟨g,off+n,none⟩:=by
 unfold Addr.add
 split
 ·rename_i h;subst h;rfl
 ·rfl
theorem WI {t:Ty} {xs:List t.I} {X:Option Addr} {c lo hi:Nat} (h:K w A (.sl t) xs [.slice X xs.length c]) (h1:lo≤hi) (h2:hi≤xs.length):
  K w A (.sl t) ((xs.take hi).drop lo) [.slice (if c=lo then X else X.map (·.add (lo*t.size))) (hi - lo) (c - lo)]:=by
 simp only[K] at h ⊢
 obtain⟨X',c',e,hc,h⟩:=h
 simp only[List.cons.injEq,Value.slice.injEq,and_true,true_and] at e
 obtain⟨rfl,rfl⟩:=e
 have hl:((xs.take hi).drop lo).length=hi - lo:=by rw[List.length_drop,List.length_take];omega
 refine⟨_,_,by rw[hl],by omega,fun hp=>?_⟩
 rw[hl] at hp
 obtain⟨g,off,cur,T,fr,rfl,hg,hw,ho,hj⟩:=h (by omega)
 have e1:(lo+(hi - lo))*t.size≤xs.length*t.size:=Nat.mul_le_mul_right _ (by omega)
 rw[Nat.add_mul] at e1
 refine⟨g,off+lo*t.size,cur,T,fr,?_,hg,hw,by rw[hl];omega,fun j G2=>?_⟩
 rotate_left
 ·have oH:j<hi - lo:=by rw[←hl];exact G2
  have:=hj (lo+j) (by omega)
  rw[show((xs.take hi).drop lo)[j]=xs[lo+j]'(by omega) from by simp]
  rw[show off+lo*t.size+j*t.size=off+(lo+j)*t.size from by rw[Nat.add_mul];omega]
  exact this
 ·rw[if_neg (by omega)]
  simp only[Option.map_some,iO]
theorem fF (h:a7 σ w0 W0 Z H S a w) {t:Ty} {s:Nat} {p:Path} {r:TV} {cO:List Value} (hr:Ref (b9 a) S t s p r cO):
  ∃ ex b cM cE,S.at s=.v r ex∧open_ p ex∧bd p r.t r.m r.x=some b∧b.t=t∧M w (Av σ Z) H r.t r.m r.x cO (fun g=>σ g=some s) ex∧
   aT w p r.t cO=some cM∧(∀ g,cE g→σ g=some s)∧M w (Av σ Z) H b.t b.m b.x cM cE (wX p ex):=by
 obtain⟨⟨ex,h1,h2⟩,h3,⟨b,h4,h5⟩,h6⟩:=hr
 have hh:=h.holds s
 rw[h1] at hh
 obtain⟨cs,hm,hM⟩:=hh
 obtain rfl:=eB h6 hm
 obtain⟨cM,cE,k1,k2,k3⟩:=focus p hM h2 h3 h4
 exact⟨ex,b,cM,cE,h1,h2,h4,h5,hM,k1,k2,k3⟩
theorem da (h:a7 σ w0 W0 Z H S a w) {t:Ty} {s:Nat} {p:Path} {r:TV} {cO cs:List Value} {b:TV} (hr:Ref (b9 a) S t s p r cO) (hc:aT w p r.t cO=some cs) (hp:S.place s p=some b):
  b.t=t∧∃ cE,(∀ g,cE g→σ g=some s)∧M w (Av σ Z) H b.t b.m b.x cs cE []:=by
 obtain⟨ex,b',cM,cE,h1,h2,h3,h4,hM,k1,k2,k3⟩:=fF h hr
 unfold St.place at hp
 rw[h1] at hp
 simp only at hp
 cases gq:ex.all fun q=>!fY q p with
 |false=>rw[gq] at hp;cases hp
 |true=>
  rw[gq] at hp
  simp only[cond_true] at hp
  rw[h3] at hp
  injection hp with hp
  subst hp
  rw[k1] at hc
  injection hc with hc
  subst hc
  rw[tL (fun q hq=>by simpa using List.all_eq_true.1 gq q hq)] at k3
  exact⟨h4,cE,k2,k3⟩
theorem rb (h:a7 σ w0 W0 Z H S a w) {av:AV} {b:TV} (hh:Holds w (Av σ Z) H (b9 a) S own av v) (e:S.sy av=some b):
  ∃ cs,az b.t v cs∧K w (fun _=>False) b.t b.x cs∧(b.m.bP=true→K w (Av σ Z) b.t b.x cs):=by
 cases av with
 |v a ex=>
  cases ex with
  |cons _ _=>simp[St.sy] at e
  |nil=>
   simp only[St.sy,Option.some.injEq] at e
   subst e
   obtain⟨cs,h1,h2⟩:=hh
   exact⟨cs,h1,RN h2,fun hk=>fv _ hk h2⟩
 |al t s p=>
  simp only[St.sy] at e
  obtain⟨r,cO,cs,hr,hc,hm⟩:=hh
  obtain⟨rfl,cE,k2,k3⟩:=da h hr hc e
  exact⟨cs,hm,RN k3,fun hk=>fv _ hk k3⟩
 |cut t s p lo hi=>
  simp only[St.sy] at e
  obtain⟨r,cO,t',X,n,c,hr,rfl,hc,hlo,Et,rfl⟩:=hh
  cases hp:S.place s p with
  |none=>rw[hp] at e;cases e
  |some b'=>
   obtain⟨ht,cE,k2,k3⟩:=da h hr hc hp
   obtain⟨bt,bm,bx⟩:=b'
   simp only at ht
   subst ht
   rw[hp] at e
   simp only[Option.some.injEq] at e
   subst e
   have hK:=RN k3
   have hn:n=List.length bx:=by
    simp only[K] at hK
    obtain⟨_,_,e,_⟩:=hK
    simp only[List.cons.injEq,Value.slice.injEq,and_true] at e
    exact e.2.1
   subst hn
   exact⟨_,by simp[az,isAgg],WI hK hlo Et,fun hk=>WI (fv _ hk k3) hlo Et⟩
 |_=>simp[St.sy] at e
theorem gZ (h:a7 σ w0 W0 Z H S a w) {T:TypeId} {x:Operand} {b:TV} (e:S.rd Θ T x=some b):
  ∃ cs,az b.t (a.eval x) cs∧K w (fun _=>False) b.t b.x cs∧(b.m.bP=true→K w (Av σ Z) b.t b.x cs):=by
 unfold St.rd at e
 split at e
 ·rename_i av dA
  exact rb h (bD h dA) e
 ·cases e
theorem db {k:IntKind} {v:Value} {cs:List Value} {x:Int} (h:az (.int k) v cs) (hk:K w A (.int k) x cs):v=.int k x:=by
 simp only[K] at hk;simp only[az,isAgg] at h;subst hk;simpa using h.symm
theorem dd {v:Value} {cs:List Value} {x:Bool} (h:az .bool v cs) (hk:K w A .bool x cs):v=.bool x:=by
 simp only[K] at hk;simp only[az,isAgg] at h;subst hk;simpa using h.symm
theorem eP {v:Value} {cs:List Value} {x:ByteArray} (h:az .str v cs) (hk:K w A .str x cs):v=.string x:=by
 simp only[K] at hk;simp only[az,isAgg] at h;subst hk;simpa using h.symm
theorem nQ {t:Ty} {v:Value} {cs:List Value} {x:List t.I} (h:az (.sl t) v cs) (hk:K w A (.sl t) x cs):∃ X c,v=.slice X x.length c∧cs=[.slice X x.length c]∧x.length≤c:=by
 have fW:=hk
 simp only[K] at fW
 obtain⟨X,c,rfl,hc,_⟩:=fW
 simp only[az,isAgg] at h
 exact⟨X,c,by simpa using h.symm,rfl,hc⟩
theorem ic (h:a7 σ w0 W0 Z H S a w) {x:Operand} {n:Int} (e:S.kY Θ x=some n):∃ k,a.eval x=.int k n:=by
 unfold St.kY at e
 split at e
 ·rename_i k m n' hb
  injection e with e
  subst e
  obtain⟨cs,h1,h2,_⟩:=gZ h hb
  exact⟨k,db h1 h2⟩
 ·cases e
theorem oW {t:Ty} {x:t.I} {v:Value} {cs:List Value} (h:az t v cs) (hk:K w A t x cs):Holds w A H tm S (fun _=>False) (.v ⟨t,.k,x⟩ []) v:=⟨cs,h,fJ t hk⟩
theorem cZ (k:IntKind) (n:Int):Holds w A H tm S (fun _=>False) (.v ⟨.int k,.k,n⟩ []) (.int k n):=oW (cs:=[.int k n]) (by simp[az,isAgg]) (by simp[K])
theorem cG (b:Bool):Holds w A H tm S (fun _=>False) (.v ⟨.bool,.k,b⟩ []) (.bool b):=oW (cs:=[.bool b]) (by simp[az,isAgg]) (by simp[K])
theorem HM (b:ByteArray):Holds w A H tm S (fun _=>False) (.v ⟨.str,.k,b⟩ []) (.string b):=oW (cs:=[.string b]) (by simp[az,isAgg]) (by simp[K])
end Go.Pv
namespace Go.Pv
set_option linter.unusedVariables false
set_option linter.unusedSimpArgs false
variable {P:Program} {w w':World} {A A':Nat→Prop} {H:Nat→Value} {tm qP:Nat→Value} {S S':St} {σ:Nat→Option Nat} {w0:World} {W0 Z:Nat→Prop} {a:Act} {own:Nat→Prop} {v:Value} {Θ:de} {dst:Option Nat} {g:Bool}
def IT (P:Program) (w0:World) (W0 Z:Nat→Prop) (H:Nat→Value) (S':St) (a:Act) (dst:Option Nat) (w:World) (s:Sem Next):Prop:=
 ∃ w' v,(s.run P w=.ok (.value v) w'∨(v=undef∧s.run P w=.ok .skip w'))∧Rel w0 W0 Z H S' (a.put dst v) w'
def Ext (w w':World):Prop:=∀ g,g<w.heap.size→w'.heap[g]?=w.heap[g]?
theorem Ext.refl (w:World):Ext w w:=fun _ _=>rfl
theorem Ext.stays (h:Ext w w'):aU w w' A A:=⟨fun g _ hg=>h g hg,fun _ _ h=>h⟩
def gL (P:Program) (w0:World) (W0 Z:Nat→Prop) (H:Nat→Value) (S':St) (a:Act) (dst:Option Nat) (w:World) (s:Sem Next):Prop:=
 ∃ v,(∀ w2,Ext w w2→s.run P w2=.ok (.value v) w2)∧Rel w0 W0 Z H S' (a.put dst v) w
theorem gL.azk {s:Sem Next} (h:gL P w0 W0 Z H S' a dst w s):IT P w0 W0 Z H S' a dst w s:=by
 obtain⟨v,h1,h2⟩:=h
 exact⟨w,v,.inl (h1 w (Ext.refl w)),h2⟩
theorem cw {s:Sem Next} {av:AV} (h:a7 σ w0 W0 Z H S a w) (hr:∀ w2,Ext w w2→s.run P w2=.ok (.value v) w2) (hv:Holds w (Av σ Z) H (b9 a) S (fun _=>False) av v):
  gL P w0 W0 Z H (S.put dst av) a dst w s:=⟨v,hr,_,h.pure hv⟩
def lX (P:Program) (w0:World) (W0 Z:Nat→Prop) (H:Nat→Value) (S':St) (a:Act) (dst:Option Nat) (w:World) (s:Sem Next):Prop:=
 ∃ v,(∀ w2,s.run P w2=.ok (.value v) w2)∧Rel w0 W0 Z H S' (a.put dst v) w
theorem lX.q {s:Sem Next} (h:lX P w0 W0 Z H S' a dst w s):gL P w0 W0 Z H S' a dst w s:=by
 obtain⟨v,h1,h2⟩:=h
 exact⟨v,fun w2 _=>h1 w2,h2⟩
theorem cn {s:Sem Next} {av:AV} (h:a7 σ w0 W0 Z H S a w) (hr:∀ w2,s.run P w2=.ok (.value v) w2) (hv:Holds w (Av σ Z) H (b9 a) S (fun _=>False) av v):
  lX P w0 W0 Z H (S.put dst av) a dst w s:=⟨v,hr,_,h.pure hv⟩
def scalar:Ty→Bool
 | .int _=>true | .bool=>true | .str=>true |_=>false
theorem ED {II:Nat→Prop} {tm1:Nat→Value} {S2:St} {r:TV} {v1 v2:Value} (hs:scalar r.t=true) (h1:Holds w A H tm S own (.v r []) v1) (h2:Holds w' A' H tm1 S2 II (.v r []) v2):v1=v2:=by
 obtain⟨rt,rm,rx⟩:=r
 obtain⟨cs,a1,a2⟩:=h1
 obtain⟨cM,b1,b2⟩:=h2
 cases rt<;>simp[scalar] at hs<;>simp only[M] at a2 b2
 ·rw[db a1 a2.2,db b1 b2.2]
 ·rw[dd a1 a2.2,dd b1 b2.2]
 ·rw[eP a1 a2.2,eP b1 b2.2]
theorem oX (h:a7 σ w0 W0 Z H S a w) {T:TypeId} {x:Operand} {a' av:AV} (ho:S.dP Θ T x=some a') (hc:S.copy x a'=some av):
  Holds w (Av σ Z) H (b9 a) S (fun _=>False) av (a.eval x):=by
 have hh:=bD h ho
 cases a' with
 |v b ex=>
  simp only[St.copy] at hc
  cases hk:b.m.bP with
  |true=>
   simp only[hk,cond_true,Option.some.injEq] at hc
   subst hc
   obtain⟨cs,h1,h2⟩:=hh
   obtain⟨bt,bm,bx⟩:=b
   refine⟨cs,h1,?_⟩
   exact nG hk (fv _ hk h2)
  |false=>
   simp only[hk,cond_false] at hc
   cases x with
   |tmp i=>
    simp only[Option.some.injEq] at hc
    subst hc
    simp only[St.dP,Option.some.injEq] at ho
    obtain⟨cs,h1,h2⟩:=hh
    exact⟨b,cs,cs,⟨⟨ex,ho,fun q _ s r e=>by cases q<;>simp at e⟩,trivial,⟨b,rfl,rfl⟩,h1⟩,rfl,h1⟩
   |const c=>
    cases ex with
    |cons _ _=>simp at hc
    |nil=>
     simp only[Option.some.injEq] at hc
     subst hc
     obtain⟨cs,h1,h2⟩:=hh
     exact⟨cs,h1,aK (aU.refl _ _) _ (fun _ _ _=>rfl) (fun g hg _=>by obtain⟨i,hi,_⟩:=hg;cases hi) (fun _ h=>h) h2⟩
   |func f=>
    cases ex with
    |cons _ _=>simp at hc
    |nil=>simp[St.dP] at ho
   |global f=>
    cases ex with
    |cons _ _=>simp at hc
    |nil=>simp[St.dP] at ho
 |dead=>simp[St.copy] at hc
 |tz l=>simp[St.copy] at hc
 |undef=>simp only[St.copy,Option.some.injEq] at hc;subst hc;exact hh
 |al t s p=>simp only[St.copy,Option.some.injEq] at hc;subst hc;exact hh
 |ad t s p=>simp only[St.copy,Option.some.injEq] at hc;subst hc;exact hh
 |cut t s p lo hi=>simp only[St.copy,Option.some.injEq] at hc;subst hc;exact hh
 |ld f c=>simp only[St.copy,Option.some.injEq] at hc;subst hc;exact hh
theorem akm (h:a7 σ w0 W0 Z H S a w) {o:Oper} {x:Operand} (ho:o.op=.move x) (hnt:∀ l,S.dP Θ o.type x≠some (.tz l)) (e:oJ Θ S o.dst o.type x=some (true,S')):lX P w0 W0 Z H S' a o.dst w (execOp a.eval o):=by
 unfold oJ at e
 split at e
 ·rename_i l hl
  exact absurd hl (hnt l)
 ·rename_i a' _ ha
  split at e
  ·rename_i av hv
   injection e with e
   injection e with _ e
   subst e
   exact cn h (fun w2=>by simp only[execOp,ho];rfl) (oX h ha hv)
  ·cases e
 ·cases e
theorem adr {op:BinOp} {k k':IntKind} {x y:Int} {r:TV} (T:TypeId) (hk:k=k'∨op=.shl∨op=.shr) (e:aj9 op k x y=some (true,r)):
  ∃ v,(binOp op T (.int k x) (.int k' y)).run P w=.ok v w∧Holds w A H tm S (fun _=>False) (.v r []) v:=by
 cases op<;>simp only[aj9,Option.some.injEq,Prod.mk.injEq,reduceCtorEq,true_and] at e
 case add=>
  obtain rfl:k=k':=by simpa using hk
  subst e;exact⟨_,by simp[binOp,Op.intArith],cZ _ _⟩
 case sub=>
  obtain rfl:k=k':=by simpa using hk
  subst e;exact⟨_,by simp[binOp,Op.intArith],cZ _ _⟩
 case mul=>
  obtain rfl:k=k':=by simpa using hk
  subst e;exact⟨_,by simp[binOp,Op.intArith],cZ _ _⟩
 case quo=>
  obtain rfl:k=k':=by simpa using hk
  obtain⟨e0,rfl⟩:=e
  have h0: ¬y=0:=by simpa using e0
  exact⟨_,by simp[binOp,Op.intDiv,h0],cZ _ _⟩
 case rem=>
  obtain rfl:k=k':=by simpa using hk
  obtain⟨e0,rfl⟩:=e
  have h0: ¬y=0:=by simpa using e0
  exact⟨_,by simp[binOp,Op.intDiv,h0],cZ _ _⟩
 case and=>
  obtain rfl:k=k':=by simpa using hk
  subst e;exact⟨_,by simp[binOp,Op.intBits],cZ _ _⟩
 case or=>
  obtain rfl:k=k':=by simpa using hk
  subst e;exact⟨_,by simp[binOp,Op.intBits],cZ _ _⟩
 case xor=>
  obtain rfl:k=k':=by simpa using hk
  subst e;exact⟨_,by simp[binOp,Op.intBits],cZ _ _⟩
 case eql=>
  obtain rfl:k=k':=by simpa using hk
  subst e;exact⟨_,by simp[binOp,Op.intCmp],cG _⟩
 case neq=>
  obtain rfl:k=k':=by simpa using hk
  subst e;exact⟨_,by simp[binOp,Op.intCmp],cG _⟩
 case lss=>
  obtain rfl:k=k':=by simpa using hk
  subst e;exact⟨_,by simp[binOp,Op.intCmp],cG _⟩
 case leq=>
  obtain rfl:k=k':=by simpa using hk
  subst e;exact⟨_,by simp[binOp,Op.intCmp],cG _⟩
 case gtr=>
  obtain rfl:k=k':=by simpa using hk
  subst e;exact⟨_,by simp[binOp,Op.intCmp],cG _⟩
 case geq=>
  obtain rfl:k=k':=by simpa using hk
  subst e;exact⟨_,by simp[binOp,Op.intCmp],cG _⟩
 case shl=>
  obtain⟨e0,rfl⟩:=e
  have h0: ¬y<0:=by
   have:0≤y:=by simpa using e0
   omega
  exact⟨_,by simp[binOp,Op.shift,h0],cZ _ _⟩
 case shr=>
  obtain⟨e0,rfl⟩:=e
  have h0: ¬y<0:=by
   have:0≤y:=by simpa using e0
   omega
  exact⟨_,by simp[binOp,Op.shift,h0],cZ _ _⟩
theorem ads {op:BinOp} {x y:ByteArray} {r:TV} (T:TypeId) (e:aj' op x y=some (true,r)):
  ∃ v,(binOp op T (.string x) (.string y)).run P w=.ok v w∧Holds w A H tm S (fun _=>False) (.v r []) v:=by
 cases op<;>simp only[aj',Option.some.injEq,Prod.mk.injEq,reduceCtorEq,true_and] at e
 case add=>
  obtain⟨e0,rfl⟩:=e
  have h0:x.size+y.size≤9223372036854775807:=by simpa using e0
  refine⟨_,?_,HM _⟩
  rw[binOp_string_add]
  simp only[Op.stringOp,IntKind.max_i64]
  rw[if_neg (by omega)]
  rfl
 case eql=>subst e;exact⟨_,by rw[binOp_string_eql];rfl,cG _⟩
 case neq=>subst e;exact⟨_,by rw[binOp_string_neq];rfl,cG _⟩
theorem MY {op:UnOp} {b r:TV} {v:Value} {cs:List Value} (hm:az b.t v cs) (hK:K w (fun _=>False) b.t b.x cs) (e:aka op b=some r):
  ∃ u,(Op.unary op v).run P w=.ok u w∧Holds w A H tm S (fun _=>False) (.v r []) u:=by
 unfold aka at e
 split at e
 ·injection e with e;subst e
  obtain rfl:=dd hm hK
  exact⟨_,rfl,cG _⟩
 ·injection e with e;subst e
  obtain rfl:=db hm hK
  exact⟨_,rfl,cZ _ _⟩
 ·injection e with e;subst e
  obtain rfl:=db hm hK
  exact⟨_,by simp[Op.unary,Op.intBits],cZ _ _⟩
 ·cases e
theorem azl (h:a7 σ w0 W0 Z H S a w) {o:Oper} {op:UnOp} {T:TypeId} {x:Operand} (ho:o.op=.unOp op T x) (e:aui Θ S o.dst op x=some (true,S')):gL P w0 W0 Z H S' a o.dst w (execOp a.eval o):=by
 unfold aui at e
 split at e
 ·rename_i b hb
  split at e
  ·rename_i r hr
   injection e with e;injection e with _ e;subst e
   obtain⟨cs,h1,h2,_⟩:=gZ h hb
   obtain⟨u,h3,h4⟩:=MY (P:=P) (A:=Av σ Z) (H:=H) (tm:=b9 a) (S:=S) h1 h2 hr
   have hsc:scalar r.t=true:=by
    unfold aka at hr
    split at hr<;>first |(injection hr with hr;subst hr;rfl) |cases hr
   refine cw h (fun w2 hw=>?_) h4
   obtain⟨u2,k3,k4⟩:=MY (w:=w2) (P:=P) (A:=Av σ Z) (H:=H) (tm:=b9 a) (S:=S) h1 (b6 hw.stays _ h2) hr
   rw[ED hsc h4 k4]
   simp[execOp,ho,k3]
  ·cases e
 ·cases e
theorem EE (hT:cP P Θ=true) (h:a7 σ w0 W0 Z H S a w) {o:Oper} {T T':TypeId} {x:Operand} (ho:o.op=.convert T T' x) (hk:(match Θ.find T' with
  |some i=>(match i.ty with
   | .int _=>true
   |_=>false)
  |none=>false)=true) (e:gp Θ S o.dst T T' x=some (true,S')):lX P w0 W0 Z H S' a o.dst w (execOp a.eval o):=by
 unfold gp at e
 split at e
 ·rename_i k m n i _ k' _ _ hb hi hj
  injection e with e;injection e with _ e;subst e
  obtain⟨cs,h1,h2,_⟩:=gZ h hb
  have hv:=db h1 h2
  obtain⟨_,hu,rfl⟩:=cT hT hi
  obtain⟨_,sC,hT'⟩:=cT hT hj
  obtain⟨d,hd⟩:=(xf hu).1
  have WJ:=xd sC rfl
  rw[hT'] at WJ
  refine cn h (v:=.int k' (k'.wrap n)) (fun w2=>?_) (cZ _ _)
  simp[execOp,ho,hv,convert,run_underlying hd,run_underlying WJ,Conv.intToInt]
 ·rename_i hj
  rw[hj] at hk
  cases hk
 ·cases e
theorem MZ (hT:cP P Θ=true) (h:a7 σ w0 W0 Z H S a w) {o:Oper} {T T':TypeId} {x:Operand} (ho:o.op=.convert T T' x) (e:gp Θ S o.dst T T' x=some (true,S')):gL P w0 W0 Z H S' a o.dst w (execOp a.eval o):=by
 have e0:=e
 unfold gp at e
 split at e
 ·rename_i hj
  exact(EE hT h ho (by rw[hj]) e0).q
 ·rename_i m xs _ _ _ _ _ _ hb hi hj
  injection e with e;injection e with _ e;subst e
  obtain⟨cs,h1,h2,_⟩:=gZ h hb
  obtain⟨X,c,hv,rfl,hc⟩:=nQ h1 h2
  obtain⟨_,hu,hT0⟩:=cT hT hi
  obtain⟨_,sC,hT'⟩:=cT hT hj
  obtain⟨hd,he,_⟩:=kP hu rfl
  have WJ:=oV sC rfl
  obtain⟨ie,hie,fh⟩:=dN he
  obtain⟨_,hue,hTe⟩:=cT hT hie
  have hde:=xd hue fh
  simp only at hT0 hT' hd WJ
  rw[hT0] at hd
  rw[hT'] at WJ
  rw[hTe] at hde
  refine cw h (v:=.string (bytesOf xs)) (fun w2 hw=>?_) ⟨[.string (bytesOf xs)],by simp[az,isAgg],by simp[M,K,Md.bP]⟩
  have hK:=b6 hw.stays _ h2
  simp only[execOp,ho,hv,Sem.run_bind]
  rw[run_convert_bytes_string w2 T T' _ X xs.length c hd hde WJ]
  simp only[K] at hK
  obtain⟨X',c',e1,_,hx⟩:=hK
  simp only[List.cons.injEq,Value.slice.injEq,and_true] at e1
  obtain⟨rfl,_,rfl⟩:=e1
  by_cases h0:0<xs.length
  ·obtain⟨g,off,cur,T2,fr,rfl,_,qT,hlen,uy⟩:=hx h0
   rw[run_bytesToString w2 ⟨g,off,none⟩ xs.length c xs ?_]
   ·simp[bytesOf,Sem.run_pure]
   ·have:=run_loadCells_list (P:=P) (w:=w2) ⟨g,off,none⟩ (xs.map (Value.int .u8)) (fun j v hj=>?_)
    ·rwa [List.length_map] at this
    ·rw[List.getElem?_map] at hj
     cases oH:xs[j]? with
     |none=>rw[oH] at hj;cases hj
     |some n=>
      rw[oH] at hj
      simp only[Option.map_some,Option.some.injEq] at hj
      subst hj
      have sD:=(List.getElem?_eq_some_iff.1 oH).1
      have h3:=uy j sD
      have hn:xs[j]=n:=(List.getElem?_eq_some_iff.1 oH).2
      simp only[K,Ty.size,Nat.mul_one] at h3
      rw[hn] at h3
      have h4:(cur.toList.drop (off+j)).head?=some (.int .u8 n):=by
       cases hd:cur.toList.drop (off+j) with
       |nil=>rw[hd] at h3;simp at h3
       |cons y r=>rw[hd] at h3;simp at h3;simp[h3]
      rw[List.head?_drop] at h4
      rw[Addr.add_lit]
      simp only[World.cell?,qT]
      rw[←Array.getElem?_toList,h4]
      rfl
  ·have:xs=[]:=List.eq_nil_of_length_eq_zero (by omega)
   subst this
   cases X with
   |none=>simp[Conv.bytesToString,bytesOf,Sem.run_pure]
   |some A=>
    show((Conv.bytesToString (Value.slice (some A) 0 c)).run P w2).andThen _=_
    rw[run_bytesToString w2 A 0 c [] (by simpa using run_loadCells_list (P:=P) (w:=w2) A [] (fun j v hj=>by simp at hj))]
    simp[bytesOf,Sem.run_pure]
 ·cases e
theorem aak (x y:ByteArray):(x==y)=(x.toList==y.toList):=beq_toListBytes x y
theorem HN {t:Ty} (h:isAgg t=false):t.size=1:=by cases t<;>simp[isAgg] at h<;>rfl
theorem nR (hT:cP P Θ=true) {T:TypeId} {t:Ty} (ht:Θ.is T t=true) {cs:List Value} {off:Nat} (hlen:off+t.size≤cs.length):
  ∃ u,(part T cs.toArray off).run P w=.ok u w∧az t u ((cs.drop off).take t.size):=by
 have RS:=R3 hT ht w
 obtain⟨inf,s1,s2,_⟩:=gY hT ht
 have hso:(sizeOf T).run P w=.ok t.size w:=by simp[sizeOf,typeInfo,s1,s2]
 cases hca:isAgg t with
 |true=>
  refine⟨.agg (cs.toArray.extract off (off+t.size)),?_,?_⟩
  ·rw[hca] at RS
   unfold part
   simp only[Sem.run_bind,RS,Result.andThen_ok,if_true,hso]
   rfl
  ·unfold az
   rw[if_pos hca]
   congr 1
   apply Array.toList_inj.1
   rw[Array.toList_extract,List.toList_toArray,List.toList_toArray,List.extract_eq_drop_take']
   rw[List.drop_take,Nat.add_sub_cancel_left]
 |false=>
  have h1:=HN hca
  have R4:off<cs.length:=by omega
  refine⟨cs[off],?_,?_⟩
  ·rw[hca] at RS
   unfold part
   simp only[Sem.run_bind,RS,Result.andThen_ok,if_neg Bool.false_ne_true]
   rw[List.getElem?_toArray,List.getElem?_eq_getElem R4]
   rfl
  ·unfold az
   rw[if_neg (by rw[hca];exact Bool.false_ne_true),h1,List.drop_eq_getElem_cons R4,List.take_succ_cons,List.take_zero]
theorem M0:∀ (p q:Path) (t:Ty),fT (p++q) t=(fT p t).bind (fT q):=by
 intro p
 induction p with
 |nil=>intro q t;rfl
 |cons s p ih=>intro q t;cases s<;>cases t<;>first |rfl |exact ih q _
theorem EF:∀ (p q:Path) (t u:Ty),fT p t=some u→aQ (p++q) t=aQ p t+aQ q u:=by
 intro p
 induction p with
 |nil=>intro q t u h;simp only[fT,Option.some.injEq] at h;subst h;simp[aQ]
 |cons s p ih=>
  intro q t u h
  cases s<;>cases t<;>simp only[fT,reduceCtorEq] at h
  ·simp only[List.cons_append,aQ];exact ih q _ u h
  ·simp only[List.cons_append,aQ];rw[ih q _ u h];omega
theorem auq {k n:Nat} (h2:2≤n):mL k n=if k+1=n then List.replicate k .snd else List.replicate k .snd++[.fst]:=by
 unfold mL
 have h1:Nat.beq n 1=false:=by
  cases hb:Nat.beq n 1 with
  |false=>rfl
  |true=>have:=Nat.eq_of_beq_eq_true hb;omega
 by_cases hkn:k+1=n
 ·rw[if_pos hkn,hkn,Nat.beq_refl,h1];rfl
 ·have:Nat.beq (k+1) n=false:=by
   cases hb:Nat.beq (k+1) n with
   |false=>rfl
   |true=>exact absurd (Nat.eq_of_beq_eq_true hb) hkn
  rw[if_neg hkn,this];rfl
theorem sE {t:Ty} {v:Value} {cs:List Value} (ha:isAgg t=true) (h:az t v cs):v=.agg cs.toArray:=by simpa[az,ha] using h
theorem xg (hT:cP P Θ=true):∀ (d:Nat) (t:Ty) {T:TypeId} {x y:t.I} {r:Bool} {cs cM:List Value} {u v:Value},Θ.is T t=true→ME t x y=some r→az t u cs→az t v cM→K w (fun _=>False) t x cs→K w (fun _=>False) t y cM→t.ht<d→
  (Op.equalIn d T u v).run P w=.ok r w
 |0,_,_,_,_,_,_,_,_,_,_,_,_,_,_,_,hd=>absurd hd (Nat.not_lt_zero _)
 |d+1,t,T,x,y,r,cs,cM,u,v,hT1,he,hu,hv,hx,hy,hd=>by
  obtain⟨i,hi,fh⟩:=dN hT1
  obtain⟨_,Hb,h3⟩:=cT hT hi
  cases t with
  |int k=>
   have sC:=xd Hb fh
   rw[h3] at sC
   simp only[ME,Option.some.injEq] at he
   subst he
   obtain rfl:=db hu hx
   obtain rfl:=db hv hy
   rw[run_equalIn_int w d T k k _ _ sC]
   congr 1
  |bool=>
   have sC:=xe Hb fh
   rw[h3] at sC
   simp only[ME,Option.some.injEq] at he
   subst he
   obtain rfl:=dd hu hx
   obtain rfl:=dd hv hy
   exact run_equalIn_bool' w d T _ _ sC
  |str=>
   have sC:=oV Hb fh
   rw[h3] at sC
   simp only[ME,Option.some.injEq] at he
   subst he
   obtain rfl:=eP hu hx
   obtain rfl:=eP hv hy
   rw[run_equalIn_string w d T _ _ sC,aak]
  |unit=>exact absurd fh (xf Hb).2.2.2
  |sl t=>simp[ME] at he
  |ptr t=>simp[ME] at he
  |arr n t=>simp[ME] at he
  |pair pa pb=>
   obtain⟨fs,hfs,hft,iz,hg,hsh,hnb⟩:=lW Hb fh
   rw[h3] at hfs hsh
   obtain rfl:=sE rfl hu
   obtain rfl:=sE rfl hv
   have hfo:P.fieldsOf T=fs:=by unfold Program.fieldsOf;rw[hfs]
   rw[run_equalIn_struct w d T _ _ (by rw[hfo];exact hfs) hsh,hfo]
   have hlx:=(kK _ hx).1
   have hly:=(kK _ hy).1
   rw[fh] at iz
   have Cs:fs.toList.length=i.fs.length:=by rw[←hft,List.length_map]
   have hU:=asS hT hi
   unfold uOK at hU
   rw[Bool.and_eq_true,fh] at hU
   have hU:=hU.2
   rcases Nat.lt_or_ge fs.size 2 with h2 |h2
   ·match hfi:i.fs,hfe:fs.toList with
    |[],_=>rw[hfi] at hU;simp at hU
    |[T1],[f]=>
     rw[hfi] at hU
     cases pb<;>simp at hU
     rw[hfe] at iz
     have hs1:fs.size=1:=by rw[←Array.length_toList,hfe];rfl
     simp only[ky,hs1,Bool.and_true] at iz
     have e1:mL 0 1=[.fst]:=rfl
     rw[e1] at iz
     simp only[fT,aQ,Bool.and_eq_true] at iz
     obtain⟨⟨k1,k2⟩,k3⟩:=iz
     have k2:=Nat.eq_of_beq_eq_true k2
     simp only[Ty.size,Nat.add_zero] at hlx hly
     obtain⟨u1,p1,p2⟩:=nR (w:=w) hT k1 (cs:=cs) (off:=0) (by omega)
     obtain⟨v1,q1,q2⟩:=nR (w:=w) hT k1 (cs:=cM) (off:=0) (by omega)
     rw[List.drop_zero,List.take_of_length_le (by omega)] at p2 q2
     simp only[ME] at he
     split at he
     case h_2=>cases he
     rename_i p q hp hq
     injection hq with hq
     subst hq
     injection he with he
     subst he
     simp only[K] at hx hy
     obtain⟨c0,c1,rfl,hx0,hx1⟩:=hx
     obtain⟨c0',c1',rfl,hy0,hy1⟩:=hy
     subst hx1 hy1
     rw[List.append_nil] at p2 q2 p1 q1
     simp only[Ty.ht] at hd
     have hr:=xg hT d _ k1 hp p2 q2 hx0 hy0 (by omega)
     have WK:=hnb f (by rw[←Array.mem_toList_iff,hfe];exact List.mem_singleton.2 rfl)
     simp only[Op.eqFields,WK,ne_eq,not_false_eq_true,if_true,Sem.run_bind,k2,List.append_nil,p1,q1,Result.andThen_ok,hr]
     cases p<;>simp
    |[T1],[]=>rw[hfi,hfe] at Cs;simp at Cs
    |[T1],_::_::_=>rw[hfi,hfe] at Cs;simp at Cs
    |_::_::_,_=>rw[hfi] at Cs;simp only[Array.length_toList,List.length_cons] at Cs;omega
   ·have key : ∀ (l : List Field) (k : Nat) (s : Ty) (x' y' : s.I) (c c' : List Value) (r : Bool), k + l.length = fs.size → l ≠ [] → (∀ f ∈ l, f.name ≠ "_") → ky Θ (.pair pa pb) fs.size l k = true → fT (List.replicate k .snd) (.pair pa pb) = some s →
      cs.drop (aQ (List.replicate k .snd) (.pair pa pb))=c→cM.drop (aQ (List.replicate k .snd) (.pair pa pb))=c'→aQ (List.replicate k .snd) (.pair pa pb)+s.size≤(Ty.pair pa pb).size→K w (fun _=>False) s x' c→K w (fun _=>False) s y' c'→(s.ht<d∨(1<l.length∧s.ht<d+1))→ME s x' y'=some r→(Op.eqFields d cs.toArray cM.toArray l).run P w=.ok r w:=by
     intro l
     induction l with
     |nil=>intro k s x' y' c c' r _ h;exact absurd rfl h
     |cons f l ih=>
      intro k s x' y' c c' r hk _ WK iz hs hc hc' iD hx hy hd he
      have hnf:=WK f (List.mem_cons_self ..)
      simp only[ky,Bool.and_eq_true] at iz
      obtain⟨iz,M1⟩:=iz
      rw[auq h2] at iz
      cases l with
      |nil=>
       rw[if_pos (by simpa using hk),hs] at iz
       simp only[Bool.and_eq_true] at iz
       obtain⟨⟨k1,k2⟩,k3⟩:=iz
       have k2:=Nat.eq_of_beq_eq_true k2
       obtain⟨u1,p1,p2⟩:=nR (w:=w) hT k1 (cs:=cs) (off:=f.offset) (by omega)
       obtain⟨v1,q1,q2⟩:=nR (w:=w) hT k1 (cs:=cM) (off:=f.offset) (by omega)
       have l1:=(kK _ hx).1
       have l2:=(kK _ hy).1
       rw[k2,hc,List.take_of_length_le (by omega)] at p2
       rw[k2,hc',List.take_of_length_le (by omega)] at q2
       have hr:=xg hT d _ k1 he p2 q2 hx hy (by rcases hd with hd |hd;exact hd;simp at hd)
       simp only[Op.eqFields,hnf,ne_eq,not_false_eq_true,if_true,Sem.run_bind,p1,q1,Result.andThen_ok,hr]
       cases r<;>simp
      |cons f' l=>
       rw[if_neg (by simp only[List.length_cons] at hk;omega),M0,hs,Option.bind_some] at iz
       cases s with
       |pair sa sb=>
        simp only[fT,Bool.and_eq_true] at iz
        obtain⟨⟨k1,k2⟩,k3⟩:=iz
        have k2:=Nat.eq_of_beq_eq_true k2
        rw[EF _ _ _ _ hs] at k2
        simp only[aQ,Nat.add_zero] at k2
        simp only[ME] at he
        split at he
        case h_2=>cases he
        rename_i p q hp hq
        injection he with he
        subst he
        simp only[K] at hx hy
        obtain⟨c0,c1,hcc,hx0,hx1⟩:=hx
        obtain⟨c0',c1',azm,hy0,hy1⟩:=hy
        have l0:=(kK _ hx0).1
        have l0':=(kK _ hy0).1
        simp only[Ty.size] at iD hlx hly
        obtain⟨u1,p1,p2⟩:=nR (w:=w) hT k1 (cs:=cs) (off:=f.offset) (by omega)
        obtain⟨v1,q1,q2⟩:=nR (w:=w) hT k1 (cs:=cM) (off:=f.offset) (by omega)
        rw[k2,hc,hcc,←l0,List.take_left] at p2
        rw[k2,hc',azm,←l0',List.take_left] at q2
        have hdd:max sa.ht sb.ht+1<d+1:=by
         simp only[Ty.ht] at hd
         omega
        have hr:=xg hT d _ k1 hp p2 q2 hx0 hy0 (by omega)
        have azn:List.replicate (k+1) Step.snd=List.replicate k .snd++[.snd]:=List.replicate_succ'
        have aur:aQ (List.replicate (k+1) .snd) (.pair pa pb)=aQ (List.replicate k .snd) (.pair pa pb)+sa.size:=by
         rw[azn,EF _ _ _ _ hs];simp[aQ]
        have hi:=ih (k+1) sb x'.2 y'.2 c1 c1' q (by simp only[List.length_cons] at hk ⊢;omega) (by simp) (fun f hf=>WK f (List.mem_cons_of_mem _ hf)) M1 (by rw[azn,M0,hs];rfl)
         (by rw[aur,←List.drop_drop,hc,hcc,←l0,List.drop_left]) (by rw[aur,←List.drop_drop,hc',azm,←l0',List.drop_left]) (by rw[aur];simp only[Ty.size];omega) hx1 hy1 (.inl (by omega)) hq
        simp only[Op.eqFields,hnf,ne_eq,not_false_eq_true,if_true,Sem.run_bind,p1,q1,Result.andThen_ok,hr]
        cases p with
        |false=>simp
        |true=>simpa[Op.eqFields] using hi
       |_=>simp[fT] at iz
    exact key fs.toList 0 _ x y cs cM r (by simp) (fun e=>by rw[←Array.length_toList,e] at h2;simp at h2) (fun f hf=>hnb f (by simpa using hf)) iz rfl rfl rfl (by simp[aQ]) hx hy (.inr ⟨by rw[Array.length_toList];omega,hd⟩) he
theorem WL (hT:cP P Θ=true) {op:BinOp} {T:TypeId} {x y:Operand} {p q r:TV} {u v:Value} {cs cM:List Value} (hp:az p.t u cs) (hq:az q.t v cM) (kp:K w (fun _=>False) p.t p.x cs) (kq:K w (fun _=>False) q.t q.x cM)
  (hi:p.t=.bool∨isAgg p.t=true→Θ.is T p.t=true) (e:gz op p q=some (true,r)):
  ∃ z,((do eqGuard op T x y u v;binOp op T u v):Sem Value).run P w=.ok z w∧Holds w A H tm S (fun _=>False) (.v r []) z:=by
 unfold gz at e
 split at e
 ·rename_i k _ x0 k' _ y0
  split at e
  ·rename_i hk
   obtain rfl:=db hp kp
   obtain rfl:=db hq kq
   obtain⟨z,h1,h2⟩:=adr (P:=P) (w:=w) (A:=A) (H:=H) (tm:=tm) (S:=S) T hk e
   exact⟨z,by rw[eqGuard_at_int];simpa using h1,h2⟩
  ·cases e
 ·obtain rfl:=eP hp kp
  obtain rfl:=eP hq kq
  obtain⟨z,h1,h2⟩:=ads (P:=P) (w:=w) (A:=A) (H:=H) (tm:=tm) (S:=S) T e
  exact⟨z,by rw[eqGuard_at_string];simpa using h1,h2⟩
 ·obtain rfl:=dd hp kp
  obtain rfl:=dd hq kq
  obtain⟨i,h1,h2⟩:=dN (hi (.inl rfl))
  obtain⟨_,hu,h3⟩:=cT hT h1
  have sC:=xe hu h2
  rw[h3] at sC
  split at e
  ·injection e with e;injection e with _ e;subst e
   refine⟨_,?_,cG _⟩
   rw[eqGuard_at_bool]
   simp[binOp,Op.equal,Op.maxDepth,run_equalIn_bool' w 9999 T _ _ sC]
  ·injection e with e;injection e with _ e;subst e
   refine⟨_,?_,cG _⟩
   rw[eqGuard_at_bool]
   simp[binOp,Op.equal,Op.maxDepth,run_equalIn_bool' w 9999 T _ _ sC]
  ·cases e
 ·rename_i t t' _ x0 t2 _ y0
  split at e
  ·rename_i ht
   subst ht
   have hTT:=hi (.inr rfl)
   obtain⟨i,h1,h2⟩:=dN hTT
   obtain⟨e7,hu,h3⟩:=cT hT h1
   obtain⟨fs,hfs,_,_,hg,_,_⟩:=lW hu h2
   rw[h3] at hg
   have eu:=sE rfl hp
   have ev:=sE rfl hq
   have iD:(Ty.pair t t').ht<10000:=Nat.lt_of_le_of_lt (show(Ty.pair t t').ht≤9000 from by
    have hs:=asS hT h1
    unfold uOK at hs
    rw[Bool.and_eq_true,h2] at hs
    exact Nat.le_of_ble_eq_true hs.1) (by decide)
   split at e
   ·rename_i r0 h0
    injection e with e;injection e with _ e;subst e
    have hr:=xg (P:=P) hT 10000 (.pair t t') hTT h0 hp hq kp kq iD
    rw[eu,ev] at hr ⊢
    refine⟨_,?_,cG _⟩
    simp only[Sem.run_bind,run_eqGuard_agg (P:=P) w _ T x y _ _ hg,Result.andThen_ok,run_eql_struct,hr]
   ·rename_i r0 h0
    injection e with e;injection e with _ e;subst e
    have hr:=xg (P:=P) hT 10000 (.pair t t') hTT h0 hp hq kp kq iD
    rw[eu,ev] at hr ⊢
    refine⟨_,?_,cG _⟩
    simp only[Sem.run_bind,run_eqGuard_agg (P:=P) w _ T x y _ _ hg,Result.andThen_ok,run_neq_struct,hr]
   ·cases e
  ·cases e
 ·cases e
theorem IU {op:BinOp} {p q r:TV} {g:Bool} (e:gz op p q=some (g,r)):scalar r.t=true:=by
 unfold gz at e
 split at e
 ·split at e
  ·unfold aj9 at e
   split at e<;>first |(injection e with e;injection e with _ e;subst e;rfl) |cases e
  ·cases e
 ·unfold aj' at e
  split at e<;>first |(injection e with e;injection e with _ e;subst e;rfl) |cases e
 ·split at e<;>first |(injection e with e;injection e with _ e;subst e;rfl) |cases e
 ·split at e
  ·split at e<;>first |(injection e with e;injection e with _ e;subst e;rfl) |cases e
  ·cases e
 ·cases e
theorem nS:∀ (t:Ty) {x y:t.I} {r:Bool},ME t x y=some r→∀ {z:t.I} {cs:List Value},K w A t z cs→K w' A t z cs
 | .int _,_,_,_,_,_,_,h=>h
 | .bool,_,_,_,_,_,_,h=>h
 | .str,_,_,_,_,_,_,h=>h
 | .unit,_,_,_,_,_,_,h=>h
 | .pair a b,x,y,r,e,z,cs,h=>by
  simp only[ME] at e
  split at e
  ·rename_i p q hp hq
   obtain⟨c0,c1,h0,h1,h2⟩:=h
   exact⟨c0,c1,h0,nS a hp h1,nS b hq h2⟩
  ·cases e
 | .sl _,_,_,_,e,_,_,_=>by simp[ME] at e
 | .ptr _,_,_,_,e,_,_,_=>by simp[ME] at e
 | .arr _ _,_,_,_,e,_,_,_=>by simp[ME] at e
theorem R5 {op:BinOp} {p q:TV} {gr:Bool×TV} (e:gz op p q=some gr) {cs:List Value} (h:K w A p.t p.x cs):K w' A p.t p.x cs:=by
 obtain⟨t,m,x⟩:=p
 obtain⟨t',m',y⟩:=q
 cases t with
 |int k=>exact h
 |bool=>exact h
 |str=>exact h
 |unit=>exact h
 |pair a b=>
  simp only[gz] at e
  split at e
  case isFalse=>cases e
  rename_i ht
  subst ht
  split at e
  ·rename_i hr;exact nS _ hr h
  ·rename_i hr;exact nS _ hr h
  ·cases e
 |_=>simp[gz] at e
theorem M3 {op:BinOp} {p q:TV} {gr:Bool×TV} (e:gz op p q=some gr) {cs:List Value} (h:K w A q.t q.x cs):K w' A q.t q.x cs:=by
 obtain⟨t,m,x⟩:=p
 obtain⟨t',m',y⟩:=q
 cases t with
 |pair a b=>
  simp only[gz] at e
  split at e
  case isFalse=>cases e
  rename_i ht
  subst ht
  split at e
  ·rename_i hr;exact nS _ hr h
  ·rename_i hr;exact nS _ hr h
  ·cases e
 |int k=>cases t'<;>first |exact h |(simp[gz] at e;done)
 |bool=>cases t'<;>first |exact h |(simp[gz] at e;done)
 |str=>cases t'<;>first |exact h |(simp[gz] at e;done)
 |_=>simp[gz] at e
theorem adt (hT:cP P Θ=true) (h:a7 σ w0 W0 Z H S a w) {o:Oper} {op:BinOp} {T T':TypeId} {x y:Operand} (ho:o.op=.binOp op T x y T') (e:D9 Θ S o.dst op T x y=some (true,S')):lX P w0 W0 Z H S' a o.dst w (execOp a.eval o):=by
 unfold D9 at e
 split at e
 ·rename_i p q hp hq
  obtain⟨cs,h1,h2,_⟩:=gZ h hp
  obtain⟨cM,h1',h2',_⟩:=gZ h hq
  have fin:∀ (r:TV),(p.t=.bool∨isAgg p.t=true→Θ.is T p.t=true)→gz op p q=some (true,r)→lX P w0 W0 Z H (S.put o.dst (.v r [])) a o.dst w (execOp a.eval o):=by
   intro r hi hb
   obtain⟨z,h3,h4⟩:=WL (P:=P) (A:=Av σ Z) (H:=H) (tm:=b9 a) (S:=S) (x:=x) (y:=y) hT h1 h1' h2 h2' hi hb
   have hsc:scalar r.t=true:=IU hb
   refine cn h (v:=z) (fun w2=>?_) h4
   obtain⟨z2,k3,k4⟩:=WL (w:=w2) (P:=P) (A:=Av σ Z) (H:=H) (tm:=b9 a) (S:=S) (x:=x) (y:=y) hT h1 h1' (R5 hb h2) (M3 hb h2') hi hb
   rw[ED hsc h4 k4]
   simp only[execOp,ho]
   simp only[Sem.run_bind] at k3 ⊢
   rw[k3]
   rfl
  split at e
  ·rename_i ht
   cases hc:Θ.is T .bool with
   |false=>rw[hc] at e;cases e
   |true=>
    rw[hc] at e
    simp only[cond_true] at e
    split at e
    ·rename_i g r hb
     injection e with e;injection e with e1 e;subst e e1
     exact fin r (fun _=>by rw[ht];exact hc) hb
    ·cases e
  ·rename_i t t' ht
   cases hc:Θ.is T p.t with
   |false=>rw[hc] at e;cases e
   |true=>
    rw[hc] at e
    simp only[cond_true] at e
    split at e
    ·rename_i g r hb
     injection e with e;injection e with e1 e;subst e e1
     exact fin r (fun _=>hc) hb
    ·cases e
  ·rename_i n1 n2
   split at e
   ·rename_i g r hb
    injection e with e;injection e with e1 e;subst e e1
    refine fin r (fun hh=>?_) hb
    rcases hh with hh |hh
    ·exact absurd hh n1
    ·obtain⟨pt,pm,px⟩:=p
     simp only at hh n1 n2
     cases pt<;>simp[isAgg] at hh
     ·exact absurd rfl (n2 _ _)
     ·simp[gz] at hb
     ·simp[gz] at hb
   ·cases e
 ·cases e
end Go.Pv
namespace Go.Pv
set_option linter.unusedVariables false
set_option linter.unusedSimpArgs false
variable {P:Program} {w w':World} {A A':Nat→Prop} {H:Nat→Value} {tm qP:Nat→Value} {S S':St} {σ:Nat→Option Nat} {w0:World} {W0 Z:Nat→Prop} {a:Act} {own:Nat→Prop} {v:Value} {Θ:de} {dst:Option Nat} {g:Bool}
theorem rf {n:Int} {len:Nat} (h:aM n len=true):0≤n∧n<(len:Int):=by
 simpa[aM] using h
theorem adu (hT:cP P Θ=true) (h:a7 σ w0 W0 Z H S a w) {o:Oper} {T:TypeId} {x ix:Operand} (ho:o.op=.index T x ix) (e:IH Θ S o.dst T x ix=some (true,S')):gL P w0 W0 Z H S' a o.dst w (execOp a.eval o):=by
 unfold IH at e
 split at e
 ·rename_i m s n hb hn
  cases hc:Θ.is T .str with
  |false=>rw[hc] at e;cases e
  |true=>
   rw[hc] at e
   simp only[cond_true,Option.some.injEq,Prod.mk.injEq] at e
   obtain⟨e1,e⟩:=e
   subst e
   obtain⟨b1,b2⟩:=rf e1
   obtain⟨cs,h1,h2,_⟩:=gZ h hb
   have hv:=eP h1 h2
   obtain⟨k,hk⟩:=ic h hn
   obtain⟨i,hi,fh⟩:=dN hc
   obtain⟨_,hu,z7⟩:=cT hT hi
   have sC:=oV hu fh
   rw[z7] at sC
   refine cw h (v:=.int .u8 (bt s n)) (fun w2 _=>?_) (cZ _ _)
   have cR:n.toNat<s.size:=by omega
   have eH:s[n.toNat]?=some s[n.toNat]:=ByteArray.getElem?_lt' s _ cR
   have Ab:bt s n=(s[n.toNat].toNat:Int):=by unfold bt;rw[dif_pos cR]
   simp[execOp,ho,hv,hk,Instr.index,asIntOf,run_underlying sC,b1,eH,Ab]
 ·cases e
theorem dG {s:Nat} {p:Path} {b:TV} (h:S.c9 s p=some b):∃ r ex,S.at s=.v r ex∧(∀ q∈ex,under q p=false)∧bd p r.t r.m r.x=some b:=by
 unfold St.c9 at h
 split at h
 ·rename_i r ex he
  cases hc:ex.all fun q=>!under q p with
  |true=>
   rw[hc] at h
   exact⟨r,ex,he,fun q hq=>by simpa using List.all_eq_true.1 hc q hq,h⟩
  |false=>rw[hc] at h;cases h
 ·cases h
theorem lM:∀ (q:Path) (s:Step) (r:Path),under q (q++s::r)=true
 |[],_,_=>by simp[under]
 | .idx i::q,s,r=>by simp[under];exact lM q s r
 | .deref::q,s,r=>by simp[under];exact lM q s r
 | .fst::q,s,r=>by simp[under];exact lM q s r
 | .snd::q,s,r=>by simp[under];exact lM q s r
theorem eC {p:Path} {ex:List Path} (h:∀ q∈ex,under q p=false):open_ p ex:=fun q hq s r e=>by
 have:=h q hq
 rw[e,lM] at this
 cases this
theorem oY {s:Nat} {p:Path} {b:TV} (h:S.place s p=some b):∃ r ex,S.at s=.v r ex∧(∀ q∈ex,fY q p=false)∧bd p r.t r.m r.x=some b:=by
 unfold St.place at h
 split at h
 ·rename_i r ex he
  cases hc:ex.all fun q=>!fY q p with
  |true=>
   rw[hc] at h
   exact⟨r,ex,he,fun q hq=>by simpa using List.all_eq_true.1 hc q hq,h⟩
  |false=>rw[hc] at h;cases h
 ·cases h
theorem adv (hT:cP P Θ=true) (h:a7 σ w0 W0 Z H S a w) {o:Oper} {as:Array Operand} {ts:Array TypeId} (ho:o.op=.call { callee:=.builtin .len,args:=as,argTypes:=ts }) (e:ac6 Θ S o.dst ts.toList as.toList=some (true,S')):lX P w0 W0 Z H S' a o.dst w (execOp a.eval o):=by
 obtain⟨as⟩:=as
 obtain⟨ts⟩:=ts
 simp only at e
 unfold ac6 at e
 split at e
 ·rename_i x T
  split at e
  ·rename_i b hb
   cases hc:Θ.is T b.t with
   |false=>rw[hc] at e;cases e
   |true=>
    rw[hc] at e
    simp only[cond_true] at e
    split at e
    ·rename_i n hn
     injection e with e;injection e with _ e;subst e
     have iM:(∃ xs:ByteArray,b.t=.str∧a.eval x=.string xs∧n=(xs.size:Int))∨∃ t X c,∃ m:Nat,b.t=.sl t∧a.eval x=.slice X m c∧n=(m:Int):=by
      obtain⟨bt,bm,bx⟩:=b
      unfold asL at hn
      split at hn
      ·rename_i t m xs heq
       cases heq
       injection hn with hn
       right
       split at hb
       ·rename_i b' ex dA
        cases hx:ex.any List.isEmpty with
        |true=>rw[hx] at hb;cases hb
        |false=>
         rw[hx] at hb
         simp only[cond_false,Option.some.injEq] at hb
         subst hb
         obtain⟨cs,h1,h2⟩:=bD h dA
         simp only[M] at h2
         rcases h2 with⟨nH,_⟩ |⟨_,h2⟩ |⟨T',tag,me,X,c,_,rfl,_⟩
         ·have:ex.any List.isEmpty=true:=List.any_eq_true.2 ⟨[],nH,rfl⟩
          rw[hx] at this;cases this
         ·obtain⟨X,c,hv,_⟩:=nQ h1 h2
          exact⟨_,X,c,_,rfl,hv,hn.symm⟩
         ·exact⟨_,X,c,_,rfl,by simpa[az,isAgg] using h1.symm,hn.symm⟩
       ·rename_i t0 s0 p0 dA
        split at hb
        ·rename_i b' hpl
         injection hb with hb
         subst hb
         obtain⟨cs,h1,h2,_⟩:=rb (av:=.al t0 s0 p0) h (bD h dA) (by simpa[St.sy] using hpl)
         obtain⟨X,c,hv,_⟩:=nQ h1 h2
         exact⟨_,X,c,_,rfl,hv,hn.symm⟩
        ·split at hb
         ·rename_i t1 m1 xs1 Cr
          injection hb with hb
          cases hb
          obtain⟨r,cO,cs,hr,jq,hm⟩:=bD h dA
          obtain⟨ex,b2,cM,ow0,j1,j2,j3,j4,hM,j5,j6,j7⟩:=fF h hr
          rw[jq] at j5
          injection j5 with j5
          subst j5
          obtain⟨r2,ex2,q1,q2,q3⟩:=dG Cr
          rw[j1] at q1
          injection q1 with q1 EG
          subst q1 EG
          rw[j3] at q3
          injection q3 with q3
          subst q3
          simp only at j4
          subst j4
          simp only[M] at j7
          rcases j7 with⟨_,_,X,c,rfl⟩ |⟨_,h2⟩ |⟨T',tag,me,X,c,_,rfl,_⟩
          ·exact⟨_,X,c,_,rfl,by simpa[az,isAgg] using hm.symm,hn.symm⟩
          ·obtain⟨X,c,hv,_⟩:=nQ hm h2
           exact⟨_,X,c,_,rfl,hv,hn.symm⟩
          ·exact⟨_,X,c,_,rfl,by simpa[az,isAgg] using hm.symm,hn.symm⟩
         ·cases hb
       ·rename_i a' _ _ dA
        obtain⟨cs,h1,h2,_⟩:=rb h (bD h dA) hb
        obtain⟨X,c,hv,_⟩:=nQ h1 h2
        exact⟨_,X,c,_,rfl,hv,hn.symm⟩
       ·cases hb
      ·rename_i m xs heq
       cases heq
       injection hn with hn
       left
       split at hb
       ·rename_i b' ex dA
        cases hx:ex.any List.isEmpty with
        |true=>rw[hx] at hb;cases hb
        |false=>
         rw[hx] at hb
         simp only[cond_false,Option.some.injEq] at hb
         subst hb
         obtain⟨cs,h1,h2⟩:=bD h dA
         simp only[M] at h2
         exact⟨_,rfl,eP h1 h2.2,hn.symm⟩
       ·rename_i t0 s0 p0 dA
        split at hb
        ·rename_i b' hpl
         injection hb with hb
         subst hb
         obtain⟨cs,h1,h2,_⟩:=rb (av:=.al t0 s0 p0) h (bD h dA) (by simpa[St.sy] using hpl)
         exact⟨_,rfl,eP h1 h2,hn.symm⟩
        ·split at hb
         ·injection hb with hb;cases hb
         ·cases hb
       ·rename_i a' _ _ dA
        obtain⟨cs,h1,h2,_⟩:=rb h (bD h dA) hb
        exact⟨_,rfl,eP h1 h2,hn.symm⟩
       ·cases hb
      ·cases hn
     obtain⟨i,hi,fh⟩:=dN hc
     obtain⟨_,hu,z7⟩:=cT hT hi
     rcases iM with⟨xs,ht,hv,rfl⟩ |⟨t,X,c,m,ht,hv,rfl⟩
     ·have sC:=oV hu (fh.trans ht)
      rw[z7] at sC
      refine cn h (v:=.int .i64 xs.size) (fun w2=>?_) (cZ _ _)
      simp[execOp,ho,hv,resolve,invoke,builtin,Builtin.len_,run_underlying sC,goInt]
     ·have sC:=(kP hu (fh.trans ht)).1
      rw[z7] at sC
      refine cn h (v:=.int .i64 m) (fun w2=>?_) (cZ _ _)
      simp[execOp,ho,hv,resolve,invoke,builtin,Builtin.len_,run_underlying sC,goInt]
    ·cases e
  ·cases e
 ·cases e
theorem akn (h:a7 σ w0 W0 Z H S a w) {o:Oper} {c x y:Operand} (ho:o.op=.pick c x y) (e:RH Θ S o.dst o.type c x y=some (true,S')):gL P w0 W0 Z H S' a o.dst w (execOp a.eval o):=by
 unfold RH at e
 split at e
 ·rename_i m q hq
  obtain⟨cs,h1,h2,_⟩:=gZ h hq
  have hv:=dd h1 h2
  have cp:∀ w2,Ext w w2→(execOp a.eval o).run P w2=.ok (.value (if q=true then a.eval x else a.eval y)) w2:=fun w2 _=>by
   simp only[execOp,ho,hv,asBool]
   rfl
  split at e
  ·rename_i m1 x1 e1 m2 y1 e2 hx hy
   injection e with e;injection e with _ e;subst e
   refine cw h cp ?_
   obtain⟨c1,k1,k2⟩:=bD h hx
   obtain⟨c2,k3,k4⟩:=bD h hy
   simp only[M] at k2 k4
   have:=dd k1 k2.2
   have:=dd k3 k4.2
   cases q<;>simp_all<;>exact cG _
  ·rename_i p r nH hx hy
   cases q with
   |true=>
    simp only[cond_true] at e
    split at e
    ·rename_i av dA
     injection e with e;injection e with _ e;subst e
     exact cw h (fun w2 hw=>by simpa using cp w2 hw) (oX h hx dA)
    ·cases e
   |false=>
    simp only[cond_false] at e
    split at e
    ·rename_i av dA
     injection e with e;injection e with _ e;subst e
     exact cw h (fun w2 hw=>by simpa using cp w2 hw) (oX h hy dA)
    ·cases e
  ·cases e
 ·cases e
end Go.Pv
