/- A verified evaluator of the program's form over pure values, part 1: what it tells of a function holds. -/
import Derived.Test.YtcpakhaogbempaaGreatPv0
import Derived.Laws.BytesString
import Derived.Laws.Entries
import Derived.Laws.Shifts
import Derived.Laws.Strings
import Derived.Laws.StructEq
namespace Go.Pv
set_option linter.unusedVariables false
set_option linter.unusedSimpArgs false
variable {h:Hint} {O:jr} {ops:Array Oper} {Θ:db}
structure qq where
 bX:List Nat
 d:Nat
 v:AV
def bJ:List Nat→St→St
 |[],S=>S
 |x::r,S=>bJ r (S.put (some x) .dead)
def qq.app (E:qq) (S:St):St:=(bJ E.bX S).put (some E.d) E.v
def nr (a:AV):Prop:=∀ d,a.refs d=false
theorem qQ {S:St} {x:Operand} (hx:gF S x=true) (T:TypeId):(∃ i a,x=.tmp i∧S.at i=.v a []∧S.dM Θ T x=some (.v a []))∨∃ c,x=.const c:=by
 cases x with
 |tmp i=>
  simp only[gF] at hx
  split at hx
  ·rename_i a ha
   exact .inl ⟨i,a,rfl,ha,by simp[St.dM,ha]⟩
  ·cases hx
 |const c=>exact .inr ⟨c,rfl⟩
 |func f=>simp[gF] at hx
 |global g=>simp[gF] at hx
def nN (S S':St) (l:List Nat):Prop:=∀ r∈l,S'.at r=S.at r
theorem Db {S S':St} {x:Operand} (ha:nN S S' (aR x)) (T:TypeId):S'.dM Θ T x=S.dM Θ T x:=by
 cases x with
 |tmp i=>simp only[St.dM];rw[ha i (by simp[aR])]
 |const c=>rfl
 |func f=>rfl
 |global g=>rfl
theorem H8 {S S':St} {x:Operand} (hx:gF S x=true) (ha:nN S S' (aR x)) (T:TypeId):S'.rd Θ T x=S.rd Θ T x:=by
 unfold St.rd
 rw[Db ha]
 rcases qQ (Θ:=Θ) hx T with⟨i,a,rfl,h1,h2⟩ |⟨c,rfl⟩
 ·rw[h2];rfl
 ·simp only[St.dM]
  cases mH Θ T c<;>rfl
theorem lJ {S S':St}:∀ (xs:List Operand) (Ts:List TypeId) (l:List (Option TV)),(∀ x∈xs,gF S x=true)→nN S S' (xs.flatMap aR)→reads Θ S' xs Ts l=reads Θ S xs Ts l
 |[],_,_,_,_=>rfl
 |x::xs,[],l,_,_=>rfl
 |x::xs,T::Ts,[],_,_=>rfl
 |x::xs,T::Ts,p::ps,hx,ha=>by
  have ih:=lJ xs Ts ps (fun y hy=>hx y (by simp[hy])) (fun r hr=>ha r (by simp[hr]))
  have ho:=Db (Θ:=Θ) (x:=x) (fun r hr=>ha r (by simp[hr])) T
  simp only[reads,ih,ho]
  cases p with
  |some a=>rfl
  |none=>
   simp only
   rcases qQ (Θ:=Θ) (hx x (by simp)) T with⟨i,a,rfl,h1,h2⟩ |⟨c,rfl⟩
   ·rw[h2];rfl
   ·simp only[St.dM]
    cases mH Θ T c<;>rfl
theorem zY {S S':St}:∀ (xs:List Operand) (l:List (Option TV)) (as:List Arg),nN S S' (xs.flatMap aR)→iH S' xs l as=iH S xs l as
 |[],_,_,_=>rfl
 |x::xs,[],_,_=>rfl
 |x::xs,p::ps,[],_=>rfl
 |x::xs,p::ps,r::rs,ha=>by
  have ih:=zY xs ps rs (fun r hr=>ha r (by simp[hr]))
  have hf:tz S' x=tz S x:=by
   cases x with
   |tmp i=>simp only[tz];rw[ha i (by simp[aR])]
   |const c=>rfl
   |func f=>rfl
   |global g=>rfl
  simp only[iH,ih,hf]
theorem GZ:∀ (xs:List Operand) (Ts:List TypeId) (ps:List Pass),(ps.all fun p=>match p with
   | .val=>true
   |_=>false)=true→(∀ S,fL Θ S xs Ts ps=none)∨∃ l,∀ S,fL Θ S xs Ts ps=some (l,S)
 |[],_,_,_=>.inr ⟨[],fun S=>by simp[fL]⟩
 |x::xs,[],_,_=>.inl fun S=>by simp[fL]
 |x::xs,T::Ts,[],_=>.inl fun S=>by simp[fL]
 |x::xs,T::Ts,p::ps,h=>by
  simp only[List.all_cons,Bool.and_eq_true] at h
  cases p with
  |take=>cases h.1
  |nH=>cases h.1
  |val=>
   rcases GZ xs Ts ps h.2 with h1 |⟨l,h1⟩
   ·exact .inl fun S=>by simp only[fL,h1]
   ·exact .inr ⟨none::l,fun S=>by simp only[fL,h1]⟩
theorem B7:∀ (l:List Pass) (n:Nat),(l.all fun p=>match p with
   | .val=>true
   |_=>false)=true→uc l n=none
 |[],_,_=>rfl
 | .val::r,n,h=>by simp only[uc];exact B7 r (n+1) (by simpa using h)
 | .take::r,n,h=>by simp at h
 | .nH::r,n,h=>by simp at h
theorem DX (l:List TV):nr (GU l):=by
 intro d
 unfold GU
 split<;>rfl
theorem acp (hO:nK O) {i:Nat} {o:Oper} (ho:ops[i]?=some o) (hg:o.guard=none) {d:Nat} (hd:o.dst=some d) {f:FuncId} {as:Array Operand} {ts:Array TypeId} (bO:o.op=.call { callee:=.value (.func f),args:=as,argTypes:=ts })
  (hv:ach O f=true) {S:St} (hx:∀ x∈as.toList,gF S x=true):
  ∃ oE:Option qq,(∀ E,oE=some E→E.d=d∧E.bX=[]∧nr E.v)∧∀ S',nN S S' (as.toList.flatMap aR)→∀ K,aW h O ops i S' K=oE.bind fun E=>K (E.app S'):=by
 have jx:∀ S' K,aW h O ops i S' K=gA h O o f none as.toList ts.toList S' K:=by
  intro S' K
  unfold aW
  rw[ho]
  simp only[hg]
  unfold gB
  rw[bO]
  simp only[B7 _ 0 hv]
 rcases GZ (Θ:=h.tab) as.toList ts.toList (O.sig f) hv with ht |⟨l,ht⟩
 ·exact⟨none,fun E hE=>(by cases hE),fun S' _ K=>by rw[jx];unfold gA;simp only[ht];rfl⟩
 ·cases hr:reads h.tab S as.toList ts.toList l with
  |none=>exact⟨none,fun E hE=>(by cases hE),fun S' ha K=>by rw[jx];unfold gA;simp only[ht,lJ _ _ _ hx ha,hr];rfl⟩
  |some args=>
   obtain⟨oR,hR⟩:=hO f (args++([]:List TV).map .tv)
   cases oR with
   |none=>
    refine⟨none,fun E hE=>(by cases hE),fun S' ha K=>?_⟩
    rw[jx];unfold gA
    simp only[ht,lJ _ _ _ hx ha,hr,qM,hR]
    rfl
   |some ret=>
    cases hrefs:ret.refs with
    |nil=>
     cases hc:(ret.res.all (fun d=>fu d.t d.m)||(([]:List TV).isEmpty&&iH S as.toList l args)) with
     |false=>
      refine⟨none,fun E hE=>(by cases hE),fun S' ha K=>?_⟩
      rw[jx];unfold gA
      simp only[ht,lJ _ _ _ hx ha,zY _ _ _ ha,hr,qM,hR,Option.bind_some,hrefs,hc]
      rfl
     |true=>
      refine⟨some ⟨[],d,GU ret.res⟩,fun E hE=>?_,fun S' ha K=>?_⟩
      ·injection hE with hE
       subst hE
       exact⟨rfl,rfl,DX _⟩
      ·rw[jx];unfold gA
       simp only[ht,lJ _ _ _ hx ha,zY _ _ _ ha,hr,qM,hR,Option.bind_some,hrefs,hd,hc]
       rfl
    |cons _ _=>
     refine⟨none,fun E hE=>(by cases hE),fun S' ha K=>?_⟩
     rw[jx];unfold gA
     simp only[ht,lJ _ _ _ hx ha,hr,qM,hR,Option.bind_some,hrefs]
     rfl
def VD (a:AV):Prop:=(∃ b,a=.v b [])∨a=.dead
def Zf (S:St):Operand→Prop
 | .tmp i=>VD (S.at i)
 | .const _=>True
 |_=>False
theorem VT {S:St} {x:Operand} (h:gF S x=true):Zf S x:=by
 cases x with
 |tmp i=>
  simp only[gF] at h
  split at h
  ·rename_i a ha;exact .inl ⟨a,ha⟩
  ·cases h
 |const c=>trivial
 |func f=>simp[gF] at h
 |global g=>simp[gF] at h
theorem G0 {S:St} {x:Operand} (hx:Zf S x) (T:TypeId):∃ oB:Option (TV×List Nat),(∀ b ks,oB=some (b,ks)→ks.Nodup∧∀ r∈ks,r∈aR x∧∃ a,S.at r=.v a [])∧∀ S',nN S S' (aR x)→S'.take Θ T x=oB.map fun q=>(q.1,bJ q.2 S'):=by
 cases x with
 |tmp i=>
  rcases hx with⟨a,ha⟩ |ha
  ·cases hk:a.m.bM with
   |true=>
    refine⟨some (a,[]),fun b ks e=>?_,fun S' hs=>?_⟩
    ·injection e with e
     injection e with _ e
     subst e
     exact⟨List.nodup_nil,fun r hr=>by cases hr⟩
    ·have h2:=(hs i (by simp[aR])).trans ha
     unfold St.take
     simp[St.dM,h2,St.dB,hk,bJ]
   |false=>
    refine⟨some (a,[i]),fun b ks e=>?_,fun S' hs=>?_⟩
    ·injection e with e
     injection e with _ e
     subst e
     refine⟨by simp,fun r hr=>?_⟩
     simp only[List.mem_singleton] at hr
     subst hr
     exact⟨by simp[aR],a,ha⟩
    ·have h2:=(hs i (by simp[aR])).trans ha
     unfold St.take
     simp[St.dM,h2,St.dB,hk,bJ]
  ·refine⟨none,fun b ks e=>(by cases e),fun S' hs=>?_⟩
   have h2:=(hs i (by simp[aR])).trans ha
   unfold St.take
   simp[St.dM,h2,St.dB]
 |const c=>
  cases hc:mH Θ T c with
  |none=>exact⟨none,fun b ks e=>(by cases e),fun S' ha=>(by unfold St.take;simp[St.dM,hc])⟩
  |some a=>
   refine⟨some (a,[]),fun b ks e=>?_,fun S' ha=>?_⟩
   ·injection e with e
    injection e with _ e
    subst e
    exact⟨List.nodup_nil,fun r hr=>by cases hr⟩
   ·unfold St.take
    simp only[St.dM,hc,St.dB]
    cases a.m.bM<;>simp[bJ]
 |func f=>exact hx.elim
 |global g=>exact hx.elim
theorem Mi {S:St} {x:Operand} (hx:gF S x=true) (T:TypeId):∃ oB:Option (TV×List Nat),(∀ b ks,oB=some (b,ks)→ks.Nodup∧∀ r∈ks,r∈aR x)∧∀ S',nN S S' (aR x)→S'.take Θ T x=oB.map fun q=>(q.1,bJ q.2 S'):=by
 obtain⟨oB,h1,h2⟩:=G0 (Θ:=Θ) (VT hx) T
 exact⟨oB,fun b ks e=>⟨(h1 b ks e).1,fun r hr=>((h1 b ks e).2 r hr).1⟩,h2⟩
theorem zZ {S:St} {i j:Nat} {a:TV} (h:S.at j=.v a []) (uf:j≠i):(S.put (some i) .dead).at j=.v a []:=by
 rw[dD,if_neg (fun e=>uf e.1),h]
 simp[AV.refs]
theorem G1 {S:St} {i:Nat} {a:TV} (h:S.at i=.v a []):(S.put (some i) .dead).at i=.dead:=by
 have hl:i<S.length:=by
  rcases Nat.lt_or_ge i S.length with hl |hl
  ·exact hl
  ·unfold St.at at h
   rw[List.getD_eq_getElem?_getD,List.getElem?_eq_none hl] at h
   cases h
 rw[dD,if_pos ⟨rfl,hl⟩]
 simp[AV.refs]
theorem Rh {ks:List Nat} {S:St} {j:Nat} {a:TV} (h:S.at j=.v a []) (hj:j∉ks):(bJ ks S).at j=.v a []:=by
 induction ks generalizing S with
 |nil=>exact h
 |cons x r ih=>exact ih (zZ h (fun e=>hj (by simp[e]))) (fun e=>hj (by simp[e]))
theorem Zg {ks:List Nat} {S S':St} {y:Operand} (hy:gF S y=true) (ha:nN S S' (aR y)) (hn:∀ r∈aR y,r∉ks):nN S (bJ ks S') (aR y):=by
 intro r hr
 cases y with
 |tmp j=>
  simp only[aR,List.mem_singleton] at hr
  subst hr
  rcases qQ (Θ:=[]) hy 0 with⟨i,a,e,h1,_⟩ |⟨c,e⟩
  ·injection e with e
   subst e
   rw[h1]
   exact Rh ((ha r (by simp[aR])).trans h1) (hn r (by simp[aR]))
  ·cases e
 |const c=>simp[aR] at hr
 |func f=>simp[aR] at hr
 |global g=>simp[aR] at hr
theorem Ri {ks:List Nat} {S:St} {j:Nat} {a:TV} (h:S.at j=.v a []) (hj:j∈ks):(bJ ks S).at j=.dead:=by
 have dead:∀ (ks:List Nat) (S:St),S.at j=.dead→(bJ ks S).at j=.dead:=by
  intro ks
  induction ks with
  |nil=>intro S h;exact h
  |cons x r ih=>
   intro S h
   refine ih _ ?_
   rw[dD]
   split
   ·simp[AV.refs]
   ·rw[h];simp[AV.refs]
 induction ks generalizing S with
 |nil=>cases hj
 |cons x r ih=>
  by_cases hx:j=x
  ·subst hx
   exact dead r _ (G1 h)
  ·exact ih (zZ h hx) (by rcases List.mem_cons.1 hj with e |e;exact absurd e hx;exact e)
theorem B8 (a b:List Nat) (S:St):bJ (a++b) S=bJ b (bJ a S):=by
 induction a generalizing S with
 |nil=>rfl
 |cons x r ih=>exact ih _
theorem Rj {S:St} {d:Nat} {x y:Operand} {T T':TypeId} (hx:gF S x=true) (hy:gF S y=true):
  ∃ oG:Option (Bool×qq),(∀ g E,oG=some (g,E)→E.d=d∧nr E.v∧E.bX.Nodup∧∀ r∈E.bX,r∈aR x++aR y)∧∀ S',nN S S' (aR x++aR y)→cc Θ S' (some d) [T,T'] [x,y]=oG.map fun q=>(q.1,q.2.app S'):=by
 obtain⟨oB,hB1,hB2⟩:=Mi (Θ:=Θ) hx T
 have VU:∀ {S':St},nN S S' (aR x++aR y)→nN S S' (aR x):=fun ha r hr=>ha r (by simp[hr])
 have hay:∀ {S':St},nN S S' (aR x++aR y)→nN S S' (aR y):=fun ha r hr=>ha r (by simp[hr])
 cases oB with
 |none=>exact⟨none,fun g E e=>(by cases e),fun S' ha=>by unfold cc;simp only[hB2 S' (VU ha)];rfl⟩
 |some q=>
  obtain⟨b,ks⟩:=q
  obtain⟨Mj,zO⟩:=hB1 b ks rfl
  -- is the second gone?
  by_cases arH:∃ r∈aR y,r∈ks
  ·obtain⟨r,hr,hrk⟩:=arH
   cases y with
   |const c=>simp[aR] at hr
   |func f=>simp[aR] at hr
   |global g=>simp[aR] at hr
   |tmp j=>
    simp only[aR,List.mem_singleton] at hr
    subst hr
    refine⟨none,fun g E e=>(by cases e),fun S' ha=>?_⟩
    rcases qQ (Θ:=Θ) hy 0 with⟨i,a,e,h1,_⟩ |⟨c,e⟩
    ·injection e with e
     subst e
     have qp:=Ri (ks:=ks) ((ha r (by simp[aR])).trans h1) hrk
     unfold cc
     simp only[hB2 S' (VU ha),Option.map_some]
     have VV:(bJ ks S').rd Θ T' (.tmp r)=none:=by unfold St.rd;simp only[St.dM,qp,St.so]
     have htk:(bJ ks S').take Θ T' (.tmp r)=none:=by unfold St.take;simp only[St.dM,qp,St.dB]
     split
     ·rename_i t e1 tg me xs S1 i heq hf
      simp only[Option.some.injEq,Prod.mk.injEq] at heq
      obtain⟨rfl,rfl⟩:=heq
      simp only[VV,htk,cond_false]
      cases me.bM<;>cases (decide (i.ty=t.sl)&&Nat.beq i.e e1&&Θ.is T' t.sl)<;>rfl
     ·rfl
    ·cases e
  ·have hn:∀ r∈aR y,r∉ks:=fun r hr hk=>arH ⟨r,hr,hk⟩
   obtain⟨oC,hC1,hC2⟩:=Mi (Θ:=Θ) hy T'
   cases hf:Θ.find T with
   |none=>exact⟨none,fun g E e=>(by cases e),fun S' ha=>by unfold cc;simp only[hB2 S' (VU ha),hf];split<;>simp_all⟩
   |some ti=>
   by_cases B9:∃ (t:Ty) (e1:TypeId) (tg:Option Nat) (me:Md) (xs:List t.I),b=⟨.sl t,.o e1 tg me,xs⟩
   rotate_left
   ·refine⟨none,fun g E e=>(by cases e),fun S' ha=>?_⟩
    unfold cc
    simp only[hB2 S' (VU ha),hf,Option.map_some]
    split
    ·rename_i t e1 tg me xs S1 i heq aAg
     simp only[Option.some.injEq,Prod.mk.injEq] at heq
     exact absurd ⟨t,e1,tg,me,xs,heq.1⟩ B9
    ·rfl
   obtain⟨t,e1,tg,me,xs,rfl⟩:=B9
   have hS:∀ S',nN S S' (aR x++aR y)→nN S (bJ ks S') (aR y):=fun S' ha=>Zg hy (hay ha) hn
   cases hc:(decide (ti.ty=.sl t)&&Nat.beq ti.e e1&&Θ.is T' (.sl t)) with
   |false=>exact⟨none,fun g E e=>(by cases e),fun S' ha=>by unfold cc;simp only[hB2 S' (VU ha),hf,Option.map_some,hc,cond_false];rfl⟩
   |true=>
   cases hk:me.bM with
   |true=>
    have Gt:∀ S',nN S S' (aR x++aR y)→cc Θ S' (some d) [T,T'] [x,y]=(match S.rd Θ T' y with
     |some ⟨.sl t',m',ys⟩=>bif m'.GQ.bM then(if h:t'=t then
       some (decide ((xs.length+ys.length)*t.size≤4398046511104),(bJ ks S').put (some d) (.v ⟨.sl t,.o e1 none me,xs++(h▸ys)⟩ [])) else none) else none
     |_=>none):=fun S' ha=>by
     unfold cc
     simp only[hB2 S' (VU ha),hf,Option.map_some,hc,cond_true,hk,H8 hy (hS S' ha)]
     rfl
    cases hr:S.rd Θ T' y with
    |none=>exact⟨none,fun g E e=>(by cases e),fun S' ha=>by rw[Gt S' ha,hr];rfl⟩
    |some c=>
     by_cases hf2:∃ (m':Md) (ys:List t.I),c=⟨.sl t,m',ys⟩∧m'.GQ.bM=true
     ·obtain⟨m',ys,rfl,hm⟩:=hf2
      refine⟨some (decide ((List.length xs+List.length ys)*t.size≤4398046511104),⟨ks,d,.v ⟨.sl t,.o e1 none me,xs++ys⟩ []⟩),fun g E e=>?_,fun S' ha=>?_⟩
      rotate_left
      ·rw[Gt S' ha,hr]
       simp only[hm,cond_true,dite_true,Option.map_some,qq.app]
      ·injection e with e
       injection e with _ e
       subst e
       exact⟨rfl,fun _=>rfl,Mj,fun r hr=>by simp[zO r hr]⟩
     ·refine⟨none,fun g E e=>(by cases e),fun S' ha=>?_⟩
      rw[Gt S' ha,hr]
      split
      ·rename_i t' m' ys heq
       injection heq with heq
       subst heq
       cases hm:m'.GQ.bM with
       |false=>rfl
       |true=>
        simp only[cond_true]
        by_cases ht:t'=t
        ·subst ht
         exact absurd ⟨m',ys,rfl,hm⟩ hf2
        ·rw[dif_neg ht];rfl
      ·rfl
   |false=>
    have Gt:∀ S',nN S S' (aR x++aR y)→cc Θ S' (some d) [T,T'] [x,y]=(match oC.map (fun q=>(q.1,bJ q.2 (bJ ks S'))) with
     |some (⟨.sl t',m',ys⟩,S2)=>if h:t'=t then
       (if m'.GQ=me then some (decide ((xs.length+ys.length)*t.size≤4398046511104),S2.put (some d) (.v ⟨.sl t,.o e1 none me,xs++(h▸ys)⟩ [])) else none) else none
     |_=>none):=fun S' ha=>by
     unfold cc
     simp only[hB2 S' (VU ha),hf,Option.map_some,hc,cond_true,cond_false,hk,hC2 _ (hS S' ha)]
     rfl
    cases oC with
    |none=>exact⟨none,fun g E e=>(by cases e),fun S' ha=>by rw[Gt S' ha];rfl⟩
    |some c=>
     obtain⟨c,ks2⟩:=c
     obtain⟨acq,acr⟩:=hC1 c ks2 rfl
     by_cases hf2:∃ (m':Md) (ys:List t.I),c=⟨.sl t,m',ys⟩∧m'.GQ=me
     ·obtain⟨m',ys,rfl,hm⟩:=hf2
      refine⟨some (decide ((List.length xs+List.length ys)*t.size≤4398046511104),⟨ks++ks2,d,.v ⟨.sl t,.o e1 none me,xs++ys⟩ []⟩),fun g E e=>?_,fun S' ha=>?_⟩
      rotate_left
      ·rw[Gt S' ha]
       simp only[Option.map_some,dite_true,hm,if_true,qq.app,B8]
      ·injection e with e
       injection e with _ e
       subst e
       refine⟨rfl,fun _=>rfl,List.nodup_append.2 ⟨Mj,acq,fun a ha b hb e=>by subst e;exact hn a (acr a hb) ha⟩,fun r hr=>?_⟩
       rcases List.mem_append.1 hr with hr |hr
       ·simp[zO r hr]
       ·simp[acr r hr]
     ·refine⟨none,fun g E e=>(by cases e),fun S' ha=>?_⟩
      rw[Gt S' ha]
      simp only[Option.map_some]
      split
      ·rename_i t' m' ys S2 heq
       injection heq with heq
       injection heq with heq _
       by_cases ht:t'=t
       ·subst ht
        by_cases hm:m'.GQ=me
        ·exact absurd ⟨m',ys,heq,hm⟩ hf2
        ·rw[dif_pos rfl,if_neg hm];rfl
       ·rw[dif_neg ht];rfl
      ·rfl
theorem B' (ks:List Nat) (S:St):(bJ ks S).length=S.length:=by
 induction ks generalizing S with
 |nil=>rfl
 |cons x r ih=>simp only[bJ,ih,b5]
theorem ug:∀ (ks:List Nat) (S:St),ks.Nodup→(∀ x∈ks,∃ a,S.at x=.v a [])→∀ i,(bJ ks S).at i=if i∈ks then .dead else bif ks.any (S.at i).refs then .dead else S.at i
 |[],S,_,_,i=>by simp[bJ]
 |x::r,S,hn,hv,i=>by
  obtain⟨a,ha⟩:=hv x (by simp)
  simp only[List.nodup_cons] at hn
  have hv':∀ y∈r,∃ b,(S.put (some x) .dead).at y=.v b []:=fun y hy=>by
   obtain⟨b,hb⟩:=hv y (by simp[hy])
   exact⟨b,zZ hb (fun e=>hn.1 (by rw[←e];exact hy))⟩
  simp only[bJ]
  rw[ug r _ hn.2 hv' i]
  by_cases hir:i∈r
  ·simp[hir]
  ·by_cases hix:i=x
   ·subst hix
    simp only[hir,if_false,G1 ha,List.mem_cons,true_or,if_true]
    simp[AV.refs]
   ·simp only[hir,if_false,List.mem_cons,hix,or_self]
    rw[dD,if_neg (fun e=>hix e.1),ha]
    simp only[AV.zQ,Bool.and_true,List.any_cons]
    cases hr:(S.at i).refs x<;>simp[AV.refs]
structure qq.In (E:qq) (S:St):Prop where
 nd:E.bX.Nodup
 cu:∀ x∈E.bX,∃ a,S.at x=.v a []
 slot:(S.at E.d).zQ=false
 lt:E.d<S.length
 refs:nr E.v
 out:E.d∉E.bX
theorem qq.H9 (E:qq) (S:St):(E.app S).length=S.length:=by unfold qq.app;rw[b5,B']
theorem qq.qR {E:qq} {S:St} (h:E.In S) (i:Nat):(E.app S).at i=if i=E.d then E.v else if i∈E.bX then .dead else bif E.bX.any (S.at i).refs then .dead else S.at i:=by
 unfold qq.app
 have hd:((bJ E.bX S).at E.d).zQ=false:=by
  rw[ug _ _ h.nd h.cu]
  split
  ·rfl
  ·cases E.bX.any (S.at E.d).refs with
   |true=>rfl
   |false=>exact h.slot
 rw[dD,B',hd]
 by_cases hi:i=E.d
 ·rw[if_pos ⟨hi,h.lt⟩,if_pos hi,h.refs]
  rfl
 ·rw[if_neg (fun e=>hi e.1),if_neg hi]
  simp only[Bool.and_false,cond_false]
  exact ug _ _ h.nd h.cu i
theorem ns {S S':St} (hl:S.length=S'.length) (h:∀ i,S.at i=S'.at i):S=S':=by
 apply List.ext_getElem hl
 intro i h1 h2
 have:=h i
 unfold St.at at this
 rw[List.getD_eq_getElem?_getD,List.getD_eq_getElem?_getD,List.getElem?_eq_getElem h1,List.getElem?_eq_getElem h2] at this
 exact this
theorem qq.comm {E F:qq} {S:St} (hE:E.In S) (hF:F.In S) (hd:E.d≠F.d) (h1:E.d∉F.bX) (h2:F.d∉E.bX) (hEF:E.In (F.app S)) (hFE:F.In (E.app S)):E.app (F.app S)=F.app (E.app S):=by
 refine ns (by simp[qq.H9]) fun i=>?_
 rw[qq.qR hEF,qq.qR hFE,qq.qR hF,qq.qR hE]
 by_cases hiE:i=E.d
 ·subst hiE
  have hv:F.bX.any E.v.refs=false:=List.any_eq_false.2 fun x _=>by rw[hE.refs];simp
  simp[hd,h1,hv]
 ·by_cases hiF:i=F.d
  ·subst hiF
   have hv:E.bX.any F.v.refs=false:=List.any_eq_false.2 fun x _=>by rw[hF.refs];simp
   simp[hiE,h2,hv]
  ·simp only[hiE,hiF,if_false]
   by_cases hkE:i∈E.bX
   ·by_cases hkF:i∈F.bX
    ·simp[hkE,hkF]
    ·have hv:F.bX.any AV.dead.refs=false:=List.any_eq_false.2 fun x _=>by simp[AV.refs]
     simp[hkE,hkF,hv]
   ·by_cases hkF:i∈F.bX
    ·have hv:E.bX.any AV.dead.refs=false:=List.any_eq_false.2 fun x _=>by simp[AV.refs]
     simp[hkE,hkF,hv]
    ·have hvE:E.bX.any AV.dead.refs=false:=List.any_eq_false.2 fun x _=>by simp[AV.refs]
     have hvF:F.bX.any AV.dead.refs=false:=List.any_eq_false.2 fun x _=>by simp[AV.refs]
     simp only[hkE,hkF,if_false]
     cases hE':E.bX.any (S.at i).refs<;>cases hF':F.bX.any (S.at i).refs<;>simp[hE',hF',hvE,hvF]
theorem Mk {S:St} {r x:Nat} (h:VD (S.at r)):(S.put (some x) .dead).at r=if r=x then .dead else S.at r:=by
 have hr:(S.at r).refs x=false:=by rcases h with⟨a,h⟩ |h<;>rw[h]<;>rfl
 rw[dD,hr]
 by_cases hx:r=x
 ·subst hx
  by_cases hl:r<S.length
  ·simp[hl,AV.refs]
  ·have:S.at r=.dead:=by unfold St.at;rw[List.getD_eq_getElem?_getD,List.getElem?_eq_none (by omega)];rfl
   simp[hl,this]
 ·simp[hx]
theorem qS:∀ (ks:List Nat) {S:St} {r:Nat},VD (S.at r)→(bJ ks S).at r=if r∈ks then .dead else S.at r
 |[],S,r,h=>by simp[bJ]
 |x::l,S,r,h=>by
  have h1:=Mk (x:=x) h
  have hv:VD ((S.put (some x) .dead).at r):=by rw[h1];split;exact .inr rfl;exact h
  simp only[bJ]
  rw[qS l hv,h1]
  by_cases hx:r=x<;>by_cases hl:r∈l<;>simp[hx,hl]
theorem Rk {S:St} {ks:List Nat} {x:Operand} (h:Zf S x):Zf (bJ ks S) x:=by
 cases x with
 |tmp i=>
  simp only[Zf] at h ⊢
  rw[qS ks h]
  split
  ·exact .inr rfl
  ·exact h
 |const c=>trivial
 |func f=>exact h
 |global g=>exact h
theorem z6 {ps:List (Nat×Operand)}:∀ (r:List TypeId) (j:Nat) {S:St},(∀ q∈ps,Zf S q.2)→∃ oL:Option (List TV×List Nat),(∀ l ks,oL=some (l,ks)→ks.Nodup∧∀ x∈ks,x∈ps.flatMap (fun q=>aR q.2)∧∃ a,S.at x=.v a [])∧
  ∀ S',nN S S' (ps.flatMap fun q=>aR q.2)→S'.parts Θ ps r j=oL.map fun q=>(q.1,bJ q.2 S')
 |[],j,S,hx=>⟨some ([],[]),fun l ks e=>by
   injection e with e
   injection e with _ e
   subst e
   exact⟨List.nodup_nil,fun x hx=>by cases hx⟩,fun S' ha=>rfl⟩
 |T::r,j,S,hx=>by
  cases hf:ps.find? (fun q=>Nat.beq q.1 j) with
  |none=>
   cases hz:qI Θ T with
   |none=>exact⟨none,fun l ks e=>(by cases e),fun S' ha=>by simp only[St.parts,hf,hz];rfl⟩
   |some a=>
    obtain⟨oL,h1,h2⟩:=z6 r (j+1) hx
    cases oL with
    |none=>exact⟨none,fun l ks e=>(by cases e),fun S' ha=>by simp only[St.parts,hf,hz,h2 S' ha];rfl⟩
    |some q=>
     refine⟨some (a::q.1,q.2),fun l ks e=>?_,fun S' ha=>by simp only[St.parts,hf,hz,h2 S' ha];rfl⟩
     injection e with e
     injection e with _ e
     subst e
     exact h1 q.1 q.2 rfl
  |some q=>
   have hq:q∈ps:=List.mem_of_find?_eq_some hf
   have Gy:∀ r∈aR q.2,r∈ps.flatMap fun q=>aR q.2:=fun r hr=>List.mem_flatMap.2 ⟨q,hq,hr⟩
   obtain⟨oB,b1,b2⟩:=G0 (Θ:=Θ) (hx q hq) T
   cases oB with
   |none=>exact⟨none,fun l ks e=>(by cases e),fun S' ha=>by simp only[St.parts,hf,b2 S' fun r hr=>ha r (Gy r hr)];rfl⟩
   |some bk=>
    obtain⟨b,ks⟩:=bk
    obtain⟨Mj,zO⟩:=b1 b ks rfl
    obtain⟨oL,h1,h2⟩:=z6 r (j+1) (S:=bJ ks S) (fun q hq=>Rk (hx q hq))
    have Rl:∀ S',nN S S' (ps.flatMap fun q=>aR q.2)→nN (bJ ks S) (bJ ks S') (ps.flatMap fun q=>aR q.2):=fun S' ha r hr=>by
     obtain⟨q',qE,z7⟩:=List.mem_flatMap.1 hr
     have hv:VD (S.at r):=by
      have:=hx q' qE
      cases G2:q'.2 with
      |tmp i=>
       rw[G2] at this z7
       simp only[aR,List.mem_singleton] at z7
       subst z7
       exact this
      |const c=>rw[G2] at z7;simp[aR] at z7
      |func f=>rw[G2] at z7;simp[aR] at z7
      |global g=>rw[G2] at z7;simp[aR] at z7
     rw[qS ks hv,qS ks (by rw[ha r hr];exact hv),ha r hr]
    cases oL with
    |none=>exact⟨none,fun l ks e=>(by cases e),fun S' ha=>by simp only[St.parts,hf,b2 S' fun r hr=>ha r (Gy r hr),Option.map_some,h2 _ (Rl S' ha)];rfl⟩
    |some lk=>
     obtain⟨l,ks2⟩:=lk
     obtain⟨acq,acr⟩:=h1 l ks2 rfl
     refine⟨some (b::l,ks++ks2),fun l' ks' e=>?_,fun S' ha=>by simp only[St.parts,hf,b2 S' fun r hr=>ha r (Gy r hr),Option.map_some,h2 _ (Rl S' ha),B8]⟩
     injection e with e
     injection e with _ e
     subst e
     have Ml:∀ x∈ks2,x∉ks∧∃ a,S.at x=.v a []:=fun x wJ=>by
      obtain⟨m1,a,m2⟩:=acr x wJ
      have hv:VD (S.at x):=by
       obtain⟨q',qE,z7⟩:=List.mem_flatMap.1 m1
       have:=hx q' qE
       cases G2:q'.2 with
       |tmp i=>
        rw[G2] at this z7
        simp only[aR,List.mem_singleton] at z7
        subst z7
        exact this
       |const c=>rw[G2] at z7;simp[aR] at z7
       |func f=>rw[G2] at z7;simp[aR] at z7
       |global g=>rw[G2] at z7;simp[aR] at z7
      rw[qS ks hv] at m2
      by_cases hk:x∈ks
      ·rw[if_pos hk] at m2;cases m2
      ·rw[if_neg hk] at m2;exact⟨hk,a,m2⟩
     refine⟨List.nodup_append.2 ⟨Mj,acq,fun a ha b hb e=>by subst e;exact(Ml a hb).1 ha⟩,fun x wJ=>?_⟩
     rcases List.mem_append.1 wJ with wJ |wJ
     ·exact⟨Gy x (zO x wJ).1,(zO x wJ).2⟩
     ·exact⟨(acr x wJ).1,(Ml x wJ).2⟩
theorem Zh {S:St} {d:Nat} {T:TypeId} {n:Nat} {hn:Hn} {ps:List (Nat×Operand)} (hx:∀ q∈ps,gF S q.2=true):
  ∃ oG:Option (Bool×qq),(∀ g E,oG=some (g,E)→E.d=d∧nr E.v∧E.bX.Nodup∧∀ r∈E.bX,r∈ps.flatMap fun q=>aR q.2)∧∀ S',nN S S' (ps.flatMap fun q=>aR q.2)→bG Θ hn S' (some d) T n ps=oG.map fun q=>(q.1,q.2.app S'):=by
 cases hf:Θ.find T with
 |none=>exact⟨none,fun g E e=>(by cases e),fun S' ha=>by unfold bG;simp only[hf];rfl⟩
 |some i=>
  by_cases B9:∃ t,i.ty=.sl t
  rotate_left
  ·refine⟨none,fun g E e=>(by cases e),fun S' ha=>?_⟩
   unfold bG
   simp only[hf]
   split
   ·rename_i heq
    injection heq with heq
    subst heq
    exact absurd ⟨_,rfl⟩ B9
   ·rfl
  obtain⟨t,ht⟩:=B9
  obtain⟨q1,ty,e,q4⟩:=i
  simp only at ht
  subst ht
  obtain⟨oL,l1,l2⟩:=z6 (Θ:=Θ) (List.replicate n e) 0 (fun q hq=>VT (hx q hq))
  cases hc:(jU n ps&&Nat.ble n 1800) with
  |false=>exact⟨none,fun g E e=>(by cases e),fun S' ha=>by unfold bG;simp only[hf,hc,cond_false];rfl⟩
  |true=>
   cases oL with
   |none=>exact⟨none,fun g E e=>(by cases e),fun S' ha=>by unfold bG;simp only[hf,hc,cond_true,l2 S' ha];rfl⟩
   |some q=>
    obtain⟨l,ks⟩:=q
    obtain⟨Mj,zO⟩:=l1 l ks rfl
    cases l with
    |nil=>
     refine⟨some (true,⟨ks,d,.v ⟨.sl t,bif hn.Y9 (some d) then .k else .o e none (hn.find (some d) .k),[]⟩ []⟩),fun g E e=>?_,fun S' ha=>by unfold bG;simp only[hf,hc,cond_true,l2 S' ha];rfl⟩
     injection e with e
     injection e with _ e
     subst e
     exact⟨rfl,fun _=>rfl,Mj,fun r hr=>(zO r hr).1⟩
    |cons a l=>
     cases hl:qJ t a.m (a::l) with
     |none=>exact⟨none,fun g E e=>(by cases e),fun S' ha=>by unfold bG;simp only[hf,hc,cond_true,l2 S' ha,Option.map_some,hl];rfl⟩
     |some xs=>
      refine⟨some (true,⟨ks,d,.v ⟨.sl t,bif hn.Y9 (some d)&&a.m.bM then .k else .o e none a.m,xs⟩ []⟩),fun g E e=>?_,fun S' ha=>by unfold bG;simp only[hf,hc,cond_true,l2 S' ha,Option.map_some,hl];rfl⟩
      injection e with e
      injection e with _ e
      subst e
      exact⟨rfl,fun _=>rfl,Mj,fun r hr=>(zO r hr).1⟩
theorem Rm {S:St} {x:Operand} (h:Rb S x=true):gF S x=true:=by
 cases x with
 |tmp i=>
  simp only[Rb] at h
  simp only[gF]
  split at h
  ·rename_i ha;rw[ha]
  ·cases h
 |const c=>rfl
 |func f=>exact h
 |global g=>exact h
theorem DY {S S':St} {d:Int} {x:Option Operand} (h:B5 S x=true) (ha:nN S S' (eL x)):gy Θ S' d x=gy Θ S d x:=by
 cases x with
 |none=>rfl
 |some x=>
  simp only[gy,St.kU,H8 h ha]
theorem ajd {S:St} {d:Nat} {T:TypeId} {x:Operand} {lo hi:Option Operand} (hx:Rb S x=true) (Zi:B5 S lo=true) (DZ:B5 S hi=true):
  ∃ o:Option (Bool×TV),∀ S',nN S S' (aR x++(eL lo++eL hi))→dW Θ S' (some d) T x lo hi none=o.map fun q=>(q.1,S'.put (some d) (.v q.2 [])):=by
 have ag:∀ {S':St},nN S S' (aR x++(eL lo++eL hi))→S'.dM Θ 0 x=S.dM Θ 0 x∧S'.rd Θ 0 x=S.rd Θ 0 x∧gy Θ S' 0 lo=gy Θ S 0 lo∧∀ n,gy Θ S' n hi=gy Θ S n hi:=fun ha=>
  ⟨Db (fun r hr=>ha r (by simp[hr])) 0,H8 (Rm hx) (fun r hr=>ha r (by simp[hr])) 0,DY Zi fun r hr=>ha r (by simp[hr]),fun n=>DY DZ fun r hr=>ha r (by simp[hr])⟩
 have dz:(∃ t y,S.dM Θ 0 x=some (.v ⟨t,.k,y⟩ [])∧S.rd Θ 0 x=some ⟨t,.k,y⟩)∨∃ c,x=.const c:=by
  cases x with
  |tmp i=>
   simp only[Rb] at hx
   split at hx
   ·rename_i t y ha
    exact .inl ⟨t,y,by simp[St.dM,ha],by simp[St.rd,St.dM,ha,St.so]⟩
   ·cases hx
  |const c=>exact .inr ⟨c,rfl⟩
  |func f=>simp[Rb] at hx
  |global g=>simp[Rb] at hx
 have iJ:(∃ a,S.dM Θ 0 x=some (.v a [])∧S.rd Θ 0 x=some a∧(a.m=.k∨∃ c,x=.const c))∨S.dM Θ 0 x=none:=by
  rcases dz with⟨t,y,h1,h2⟩ |⟨c,rfl⟩
  ·exact .inl ⟨_,h1,h2,.inl rfl⟩
  ·simp only[St.rd,St.dM]
   cases mH Θ 0 c with
   |none=>exact .inr rfl
   |some a=>exact .inl ⟨a,rfl,rfl,.inr ⟨c,rfl⟩⟩
 rcases iJ with⟨a,h1,h2,hm⟩ |h1
 rotate_left
 ·exact⟨none,fun S' ha=>by unfold dW;rw[(ag ha).1,h1];rfl⟩
 cases hl:gy Θ S 0 lo with
 |none=>
  refine⟨none,fun S' ha=>?_⟩
  obtain⟨e1,e2,e3,e4⟩:=ag ha
  unfold dW
  rw[e1,e2,e3,h1,h2,hl]
  obtain⟨t,m,y⟩:=a
  cases t<;>rfl
 |some l=>
  obtain⟨t,m,y⟩:=a
  have aAa:(∀ S',dW Θ S' (some d) T x lo hi none=none)→∃ o:Option (Bool×TV),∀ S',nN S S' (aR x++(eL lo++eL hi))→dW Θ S' (some d) T x lo hi none=o.map fun q=>(q.1,S'.put (some d) (.v q.2 [])):=fun h=>⟨none,fun S' _=>h S'⟩
  cases t with
  |str=>
   cases hh:gy Θ S (ByteArray.size y:Int) hi with
   |none=>
    refine⟨none,fun S' ha=>?_⟩
    obtain⟨e1,e2,e3,e4⟩:=ag ha
    unfold dW
    rw[e1,e2,e3,h1,h2,hl]
    simp only[e4,hh]
    rfl
   |some h'=>
    cases hT:Θ.is T .str with
    |false=>
     refine⟨none,fun S' ha=>?_⟩
     obtain⟨e1,e2,e3,e4⟩:=ag ha
     unfold dW
     rw[e1,e2,e3,h1,h2,hl]
     simp only[e4,hh,hT]
     rfl
    |true=>
     refine⟨some (decide (0≤l)&&decide (l≤h')&&decide (h'≤(ByteArray.size y:Int)),⟨.str,.k,ByteArray.extract y l.toNat h'.toNat⟩),fun S' ha=>?_⟩
     obtain⟨e1,e2,e3,e4⟩:=ag ha
     unfold dW
     rw[e1,e2,e3,h1,h2,hl]
     simp only[e4,hh,hT]
     rfl
  |sl t=>
   cases hT:Θ.is T (.sl t) with
   |false=>
    refine⟨none,fun S' ha=>?_⟩
    obtain⟨e1,e2,e3,e4⟩:=ag ha
    unfold dW
    rw[e1,e2,e3,h1,h2,hl]
    simp only[hT]
    rfl
   |true=>
    cases hh:gy Θ S (List.length y:Int) hi with
    |none=>
     refine⟨none,fun S' ha=>?_⟩
     obtain⟨e1,e2,e3,e4⟩:=ag ha
     unfold dW
     rw[e1,e2,e3,h1,h2,hl]
     simp only[hT,e4,hh]
     rfl
    |some h'=>
     by_cases hk:m=.k
     ·subst hk
      refine⟨some (decide (0≤l)&&decide (l≤h')&&decide (h'≤(List.length y:Int)),⟨.sl t,.k,(List.take h'.toNat y).drop l.toNat⟩),fun S' ha=>?_⟩
      obtain⟨e1,e2,e3,e4⟩:=ag ha
      unfold dW
      rw[e1,e2,e3,h1,h2,hl]
      simp only[hT,e4,hh]
      rfl
     ·obtain⟨c,rfl⟩:=hm.resolve_left hk
      refine⟨none,fun S' ha=>?_⟩
      obtain⟨e1,e2,e3,e4⟩:=ag ha
      unfold dW
      rw[e1,e2,e3,h1,h2,hl]
      simp only[hT,e4,hh,cond_true]
      cases m<;>first |exact absurd rfl hk |rfl
  |_=>
   refine⟨none,fun S' ha=>?_⟩
   obtain⟨e1,e2,e3,e4⟩:=ag ha
   unfold dW
   rw[e1,e2,e3,h1,h2,hl]
   rfl
theorem Zj {S:St} {d:Nat} {T:TypeId} {x ix:Operand} (hx:Rb S x=true) (hix:gF S ix=true):
  ∃ o:Option (Bool×TV),∀ S',nN S S' (aR x++aR ix)→ca Θ S' (some d) T x ix=o.map fun q=>(q.1,S'.put (some d) (.v q.2 [])):=by
 have ag:∀ {S':St},nN S S' (aR x++aR ix)→S'.dM Θ 0 x=S.dM Θ 0 x∧S'.kU Θ ix=S.kU Θ ix:=fun ha=>
  ⟨Db (fun r hr=>ha r (by simp[hr])) 0,by unfold St.kU;rw[H8 hix (fun r hr=>ha r (by simp[hr])) 0]⟩
 have iJ:(∃ a,S.dM Θ 0 x=some (.v a [])∧(a.m=.k∨∃ c,x=.const c))∨S.dM Θ 0 x=none:=by
  cases x with
  |tmp i=>
   simp only[Rb] at hx
   split at hx
   ·rename_i t y ha
    exact .inl ⟨⟨t,.k,y⟩,by simp[St.dM,ha],.inl rfl⟩
   ·cases hx
  |const c=>
   simp only[St.dM]
   cases mH Θ 0 c with
   |none=>exact .inr rfl
   |some a=>exact .inl ⟨a,rfl,.inr ⟨c,rfl⟩⟩
  |func f=>simp[Rb] at hx
  |global g=>simp[Rb] at hx
 rcases iJ with⟨a,h1,hm⟩ |h1
 rotate_left
 ·exact⟨none,fun S' ha=>by unfold ca;rw[(ag ha).1,h1];rfl⟩
 cases hn:S.kU Θ ix with
 |none=>
  refine⟨none,fun S' ha=>?_⟩
  obtain⟨e1,e2⟩:=ag ha
  unfold ca
  rw[e1,e2,h1,hn]
  obtain⟨t,m,y⟩:=a
  cases t<;>rfl
 |some n=>
  obtain⟨t,m,y⟩:=a
  cases t with
  |sl t=>
   cases hT:Θ.is T (.sl t) with
   |false=>
    refine⟨none,fun S' ha=>?_⟩
    obtain⟨e1,e2⟩:=ag ha
    unfold ca
    rw[e1,e2,h1,hn]
    simp only[hT]
    rfl
   |true=>
    by_cases hk:m=.k
    ·subst hk
     refine⟨some (aN n (List.length y),⟨.ptr t,.k,List.getD y n.toNat t.z⟩),fun S' ha=>?_⟩
     obtain⟨e1,e2⟩:=ag ha
     unfold ca
     rw[e1,e2,h1,hn]
     simp only[hT]
     rfl
    ·obtain⟨c,rfl⟩:=hm.resolve_left hk
     refine⟨none,fun S' ha=>?_⟩
     obtain⟨e1,e2⟩:=ag ha
     unfold ca
     rw[e1,e2,h1,hn]
     simp only[hT,cond_true]
     cases m<;>first |exact absurd rfl hk |rfl
  |_=>
   refine⟨none,fun S' ha=>?_⟩
   obtain⟨e1,e2⟩:=ag ha
   unfold ca
   rw[e1,e2,h1,hn]
   rfl
theorem wQ {S:St} {o:Oper} (hg:jv O ops S o=true):o.guard=none∧∃ d,o.dst=some d∧(S.at d).zQ=false∧d<S.length:=by
 unfold jv at hg
 simp only[Bool.and_eq_true] at hg
 obtain⟨⟨h1,h2⟩,_⟩:=hg
 refine⟨?_,?_⟩
 ·split at h1
  ·assumption
  ·cases h1
 ·split at h2
  ·rename_i d hd
   simp only[Bool.and_eq_true,Bool.not_eq_true'] at h2
   exact⟨d,hd,h2.1,Nat.lt_of_lt_of_le (Nat.lt_succ_self _) (Nat.le_of_ble_eq_true h2.2)⟩
  ·cases h2
theorem hJ {S:St} {x:Operand} (h:gF S x=true):∀ r∈aR x,∃ a,S.at r=.v a []:=by
 intro r hr
 rcases qQ (Θ:=[]) h 0 with⟨i,a,rfl,h1,_⟩ |⟨c,rfl⟩
 ·simp only[aR,List.mem_singleton] at hr
  subst hr
  exact⟨a,h1⟩
 ·simp[aR] at hr
theorem Ia {S S':St} {Θ:db} {dst:Option Nat}:∀ {as:List Operand} {ts:List TypeId},(∀ x∈as,gF S x=true)→nN S S' (as.flatMap aR)→fD Θ S' dst ts as=none:=by
 intro as ts bO ha
 unfold fD
 split
 ·rename_i x y T T'
  split
  ·rename_i tt s st pp dz
   exfalso
   have h1:=bO x (by simp)
   cases x with
   |tmp i=>
    have h2:=ha i (by simp[aR])
    simp only[St.dM,Option.some.injEq] at dz
    rw[h2] at dz
    simp only[gF,dz] at h1
    cases h1
   |const c=>
    simp only[St.dM] at dz
    split at dz<;>cases dz
   |func f=>simp[gF] at h1
   |global g=>simp[gF] at h1
  ·rfl
 ·rfl
theorem VW (hO:nK O) {i:Nat} {o:Oper} (ho:ops[i]?=some o) {S:St} (hg:jv O ops S o=true) {d:Nat} (hd:o.dst=some d):
  ∃ oE:Option qq,(∀ E,oE=some E→E.d=d∧nr E.v∧E.bX.Nodup∧(∀ r∈E.bX,r∈aV ops o)∧(jw o=true→E.bX=[]))∧∀ S',nN S S' (aV ops o)→∀ K,aW h O ops i S' K=oE.bind fun E=>K (E.app S'):=by
 have hgd:=(wQ hg).1
 have val:∀ {o':Option (Bool×TV)} {Gu:St→zR},jw o=true→(∀ S' K,aW h O ops i S' K=match Gu S' with
    |some (g,S1)=>bif g then K S1 else none
    |none=>none)→(∀ S',nN S S' (aV ops o)→Gu S'=o'.map fun q=>(q.1,S'.put (some d) (.v q.2 [])))→
   ∃ oE:Option qq,(∀ E,oE=some E→E.d=d∧nr E.v∧E.bX.Nodup∧(∀ r∈E.bX,r∈aV ops o)∧(jw o=true→E.bX=[]))∧∀ S',nN S S' (aV ops o)→∀ K,aW h O ops i S' K=oE.bind fun E=>K (E.app S'):=by
  intro o' Gu hc bU Gt
  cases o' with
  |none=>exact⟨none,fun E e=>(by cases e),fun S' ha K=>by rw[bU,Gt S' ha];rfl⟩
  |some q=>
   obtain⟨g,r⟩:=q
   cases g with
   |false=>exact⟨none,fun E e=>(by cases e),fun S' ha K=>by rw[bU,Gt S' ha];rfl⟩
   |true=>
    refine⟨some ⟨[],d,.v r []⟩,fun E e=>?_,fun S' ha K=>by rw[bU,Gt S' ha];rfl⟩
    injection e with e
    subst e
    exact⟨rfl,fun _=>rfl,List.nodup_nil,fun r hr=>(by cases hr),fun _=>rfl⟩
 unfold jv at hg
 simp only[Bool.and_eq_true] at hg
 have bO:=hg.2
 split at bO
 ·rename_i f as ts cD
  simp only[Bool.and_eq_true,List.all_eq_true] at bO
  obtain⟨oE,h1,h2⟩:=acp (h:=h) hO ho hgd hd cD bO.1 bO.2
  have hl:aV ops o=as.toList.flatMap aR:=by unfold aV;rw[cD]
  refine⟨oE,fun E hE=>?_,fun S' ha=>h2 S' (by rw[hl] at ha;exact ha)⟩
  obtain⟨e1,e2,e3⟩:=h1 E hE
  exact⟨e1,e3,by rw[e2];exact List.nodup_nil,fun r hr=>by rw[e2] at hr;(cases hr),fun _=>e2⟩
 ·rename_i as ts cD
  simp only[List.all_eq_true] at bO
  have hl:aV ops o=as.toList.flatMap aR:=by unfold aV;rw[cD]
  have hcb:jw o=false:=by unfold jw;rw[cD]
  have jx:∀ S' K,nN S S' (as.toList.flatMap aR)→aW h O ops i S' K=match cc h.tab S' (some d) ts.toList as.toList with
    |some (g,S1)=>bif g then K S1 else none
    |none=>none:=by
   intro S' K ha
   unfold aW
   rw[ho]
   simp only[hgd]
   unfold gB
   rw[cD]
   simp only[ev,cD,hd]
   rcases cc h.tab S' (some d) ts.toList as.toList with _ |⟨g,S1⟩
   ·simp only[Ia bO ha]
   ·rfl
  have fin:∀ oG:Option (Bool×qq),(∀ g E,oG=some (g,E)→E.d=d∧nr E.v∧E.bX.Nodup∧∀ r∈E.bX,r∈as.toList.flatMap aR)→(∀ S',nN S S' (as.toList.flatMap aR)→cc h.tab S' (some d) ts.toList as.toList=oG.map fun q=>(q.1,q.2.app S'))→
    ∃ oE:Option qq,(∀ E,oE=some E→E.d=d∧nr E.v∧E.bX.Nodup∧(∀ r∈E.bX,r∈aV ops o)∧(jw o=true→E.bX=[]))∧∀ S',nN S S' (aV ops o)→∀ K,aW h O ops i S' K=oE.bind fun E=>K (E.app S'):=by
   intro oG h1 h2
   cases oG with
   |none=>exact⟨none,fun E e=>(by cases e),fun S' ha K=>by rw[jx S' K (by rw[hl] at ha;exact ha),h2 S' (by rw[hl] at ha;exact ha)];rfl⟩
   |some q=>
    obtain⟨g,E⟩:=q
    cases g with
    |false=>exact⟨none,fun E e=>(by cases e),fun S' ha K=>by rw[jx S' K (by rw[hl] at ha;exact ha),h2 S' (by rw[hl] at ha;exact ha)];rfl⟩
    |true=>
     refine⟨some E,fun E' e=>?_,fun S' ha K=>by rw[jx S' K (by rw[hl] at ha;exact ha),h2 S' (by rw[hl] at ha;exact ha)];rfl⟩
     injection e with e
     subst e
     obtain⟨e1,e2,e3,e4⟩:=h1 true E rfl
     exact⟨e1,e2,e3,by rw[hl];exact e4,fun hc=>by rw[hcb] at hc;cases hc⟩
  by_cases B9:∃ x y T T',as.toList=[x,y]∧ts.toList=[T,T']
  ·obtain⟨x,y,T,T',ha,ht⟩:=B9
   rw[ha] at bO
   obtain⟨oG,h1,h2⟩:=Rj (Θ:=h.tab) (d:=d) (T:=T) (T':=T') (bO x (by simp)) (bO y (by simp))
   refine fin oG ?_ ?_
   ·intro g E e
    obtain⟨e1,e2,e3,e4⟩:=h1 g E e
    exact⟨e1,e2,e3,fun r hr=>by rw[ha];simpa using e4 r hr⟩
   ·intro S' hs
    rw[ha,ht]
    exact h2 S' (by rw[ha] at hs;simpa using hs)
  ·refine fin none (fun g E e=>(by cases e)) fun S' hs=>?_
   unfold cc
   split
   ·rename_i x y T T' ha ht
    exact absurd ⟨x,y,T,T',ha,ht⟩ B9
   ·rfl
 ·rename_i T n ps cD
  simp only[List.all_eq_true] at bO
  have hl:aV ops o=ps.toList.flatMap fun q=>aR q.2:=by unfold aV;rw[cD]
  have hcb:jw o=false:=by unfold jw;rw[cD]
  have jx:∀ S' K,aW h O ops i S' K=match bG h.tab h.hn S' (some d) T n ps.toList with
    |some (g,S1)=>bif g then K S1 else none
    |none=>none:=by
   intro S' K
   unfold aW
   rw[ho]
   simp only[hgd]
   unfold gB
   rw[cD]
   simp only[ev,cD,hd]
   rcases bG h.tab h.hn S' (some d) T n ps.toList with _ |⟨g,S1⟩<;>rfl
  obtain⟨oG,h1,h2⟩:=Zh (Θ:=h.tab) (d:=d) (T:=T) (n:=n) (hn:=h.hn) bO
  cases oG with
  |none=>exact⟨none,fun E e=>(by cases e),fun S' ha K=>by rw[jx,h2 S' (by rw[hl] at ha;exact ha)];rfl⟩
  |some q=>
   obtain⟨g,E⟩:=q
   cases g with
   |false=>exact⟨none,fun E e=>(by cases e),fun S' ha K=>by rw[jx,h2 S' (by rw[hl] at ha;exact ha)];rfl⟩
   |true=>
    refine⟨some E,fun E' e=>?_,fun S' ha K=>by rw[jx,h2 S' (by rw[hl] at ha;exact ha)];rfl⟩
    injection e with e
    subst e
    obtain⟨e1,e2,e3,e4⟩:=h1 true E rfl
    exact⟨e1,e2,e3,by rw[hl];exact e4,fun hc=>by rw[hcb] at hc;cases hc⟩
 ·rename_i T x cD
  split at bO
  case h_4=>cases bO
  case h_2=>
   rename_i t y hb hx
   have hl:aV ops o=[x]:=by unfold aV;rw[cD];simp only[hb]
   refine val (Gu:=fun S'=>fY h.tab S' (some d) T (.tmp x)) (o':=(bif h.tab.is T t then some (true,⟨t,.k,y⟩) else none)) (by unfold jw;rw[cD]) (fun S' K=>by unfold aW;rw[ho];simp only[hgd];unfold gB;rw[cD];simp only[ev,cD,hd];rcases fY h.tab S' (some d) T (.tmp x) with _ |⟨g,S1⟩<;>rfl) fun S' ha=>?_
   rw[hl] at ha
   have h1:S'.at x=.v ⟨.ptr t,.k,y⟩ []:=(ha x (by simp)).trans hx
   unfold fY
   simp only[St.dM,h1,St.GR,St.loadAt,Tgt.ty,Q9]
   cases h.tab.is T t<;>rfl
  case h_3=>
   rename_i t T1 tg me y hb hx
   have hl:aV ops o=[x]:=by unfold aV;rw[cD];simp only[hb]
   split at bO
   case h_2=>cases bO
   rename_i b Ca
   refine val (Gu:=fun S'=>fY h.tab S' (some d) T (.tmp x)) (o':=match S.place x [.deref] with
    |some c=>bif h.tab.is T t then some (true,Q9 c) else none
    |none=>none) (by unfold jw;rw[cD]) (fun S' K=>by unfold aW;rw[ho];simp only[hgd];unfold gB;rw[cD];simp only[ev,cD,hd];rcases fY h.tab S' (some d) T (.tmp x) with _ |⟨g,S1⟩<;>rfl) fun S' ha=>?_
   rw[hl] at ha
   have h1:S'.at x=.v ⟨.ptr t,.o T1 tg me,y⟩ []:=(ha x (by simp)).trans hx
   have h2:S'.c7 x [.deref]=some b:=by rw[←Ca];unfold St.c7;rw[ha x (by simp)]
   have h3:S'.place x [.deref]=S.place x [.deref]:=by unfold St.place;rw[ha x (by simp)]
   unfold fY
   simp only[St.dM,h1,St.GR,St.loadAt,h2,bO,cond_true,h3,Tgt.ty]
   cases S.place x [.deref] with
   |none=>rfl
   |some c=>simp only;cases h.tab.is T t<;>rfl
  rename_i s t s' p hb hx
  simp only[Bool.and_eq_true] at bO
  obtain⟨hs,hk⟩:=bO
  have:=Nat.eq_of_beq_eq_true hs
  subst this
  have hl:aV ops o=[x,s']:=by unfold aV;rw[cD];simp only[hb]
  have jx:∀ S' K,aW h O ops i S' K=match fY h.tab S' (some d) T (.tmp x) with
    |some (g,S1)=>bif g then K S1 else none
    |none=>none:=by
   intro S' K
   unfold aW
   rw[ho]
   simp only[hgd]
   unfold gB
   rw[cD]
   simp only[ev,cD,hd]
   rcases fY h.tab S' (some d) T (.tmp x) with _ |⟨g,S1⟩<;>rfl
  split at hk
  case h_2=>cases hk
  rename_i b Ca
  have Gt:∀ S',nN S S' [x,s']→fY h.tab S' (some d) T (.tmp x)=match S.place s' p with
    |some c=>bif h.tab.is T t then some (true,S'.put (some d) (.v (Q9 c) [])) else none
    |none=>none:=by
   intro S' ha
   have h1:S'.at x=.ad t s' p:=(ha x (by simp)).trans hx
   have h2:S'.c7 s' p=some b:=by rw[←Ca];unfold St.c7;rw[ha s' (by simp)]
   have h3:S'.place s' p=S.place s' p:=by unfold St.place;rw[ha s' (by simp)]
   unfold fY
   simp only[St.dM,h1,St.GR,St.loadAt,h2,hk,cond_true,h3]
   cases S.place s' p<;>rfl
  cases hp:S.place s' p with
  |none=>exact⟨none,fun E e=>(by cases e),fun S' ha K=>by rw[jx,Gt S' (by rw[hl] at ha;exact ha),hp];rfl⟩
  |some c=>
   cases hT:h.tab.is T t with
   |false=>exact⟨none,fun E e=>(by cases e),fun S' ha K=>by rw[jx,Gt S' (by rw[hl] at ha;exact ha),hp];simp only[hT];rfl⟩
   |true=>
    refine⟨some ⟨[],d,.v (Q9 c) []⟩,fun E e=>?_,fun S' ha K=>by rw[jx,Gt S' (by rw[hl] at ha;exact ha),hp];simp only[hT];rfl⟩
    injection e with e
    subst e
    exact⟨rfl,fun _=>rfl,List.nodup_nil,fun r hr=>(by cases hr),fun _=>rfl⟩
 ·rename_i T x lo hi cD
  simp only[Bool.and_eq_true] at bO
  obtain⟨o',h1⟩:=ajd (Θ:=h.tab) (d:=d) (T:=T) bO.1 bO.2.1 bO.2.2
  have hl:aV ops o=aR x++(eL lo++eL hi):=by unfold aV;rw[cD]
  exact val (o':=o') (by unfold jw;rw[cD]) (fun S' K=>by unfold aW;rw[ho];simp only[hgd];unfold gB;rw[cD];simp only[ev,cD,hd];rcases dW h.tab S' (some d) T x lo hi none with _ |⟨g,S1⟩<;>rfl) fun S' ha=>h1 S' (by rw[hl] at ha;exact ha)
 ·rename_i T x ix cD
  simp only[Bool.and_eq_true] at bO
  obtain⟨o',h1⟩:=Zj (Θ:=h.tab) (d:=d) (T:=T) bO.1 bO.2
  have hl:aV ops o=aR x++aR ix:=by unfold aV;rw[cD]
  exact val (o':=o') (by unfold jw;rw[cD]) (fun S' K=>by unfold aW;rw[ho];simp only[hgd];unfold gB;rw[cD];simp only[ev,cD,hd];rcases ca h.tab S' (some d) T x ix with _ |⟨g,S1⟩<;>rfl) fun S' ha=>h1 S' (by rw[hl] at ha;exact ha)
 ·cases bO
theorem z8 {S:St} {o:Oper} (hg:jv O ops S o=true):(jw o=true∨∀ r∈aV ops o,∃ a,S.at r=.v a [])∧∀ r∈aV ops o,S.at r≠ .dead∧∀ x,(S.at r).refs x=true→x∈aV ops o:=by
 have key:(∀ r∈aV ops o,∃ a,S.at r=.v a [])→(jw o=true∨∀ r∈aV ops o,∃ a,S.at r=.v a [])∧∀ r∈aV ops o,S.at r≠ .dead∧∀ x,(S.at r).refs x=true→x∈aV ops o:=fun h=>by
  refine⟨.inr h,fun r hr=>?_⟩
  obtain⟨a,ha⟩:=h r hr
  rw[ha]
  exact⟨fun e=>(by cases e),fun x hx=>by simp[AV.refs] at hx⟩
 unfold jv at hg
 simp only[Bool.and_eq_true] at hg
 have bO:=hg.2
 split at bO
 ·rename_i f as ts cD
  simp only[Bool.and_eq_true,List.all_eq_true] at bO
  refine key fun r hr=>?_
  unfold aV at hr
  rw[cD] at hr
  obtain⟨x,hx,hr⟩:=List.mem_flatMap.1 hr
  exact hJ (bO.2 x hx) r hr
 ·rename_i as ts cD
  simp only[List.all_eq_true] at bO
  refine key fun r hr=>?_
  unfold aV at hr
  rw[cD] at hr
  obtain⟨x,hx,hr⟩:=List.mem_flatMap.1 hr
  exact hJ (bO x hx) r hr
 ·rename_i T n ps cD
  simp only[List.all_eq_true] at bO
  refine key fun r hr=>?_
  unfold aV at hr
  rw[cD] at hr
  obtain⟨x,hx,hr⟩:=List.mem_flatMap.1 hr
  exact hJ (bO x hx) r hr
 ·rename_i T x cD
  split at bO
  case h_4=>cases bO
  case h_2=>
   rename_i t y hb hx
   have hl:aV ops o=[x]:=by unfold aV;rw[cD];simp only[hb]
   refine key fun r hr=>?_
   rw[hl] at hr
   simp only[List.mem_singleton] at hr
   subst hr
   exact⟨_,hx⟩
  case h_3=>
   rename_i t T1 tg me y hb hx
   have hl:aV ops o=[x]:=by unfold aV;rw[cD];simp only[hb]
   refine key fun r hr=>?_
   rw[hl] at hr
   simp only[List.mem_singleton] at hr
   subst hr
   exact⟨_,hx⟩
  rename_i s t s' p hb hx
  simp only[Bool.and_eq_true] at bO
  obtain⟨hs,hk⟩:=bO
  have:=Nat.eq_of_beq_eq_true hs
  subst this
  have hl:aV ops o=[x,s']:=by unfold aV;rw[cD];simp only[hb]
  refine⟨.inl (by unfold jw;rw[cD]),fun r hr=>?_⟩
  rw[hl] at hr ⊢
  simp only[List.mem_cons,List.not_mem_nil,or_false] at hr
  rcases hr with rfl |rfl
  ·rw[hx]
   refine⟨fun e=>(by cases e),fun y hy=>?_⟩
   simp only[AV.refs] at hy
   have:=Nat.eq_of_beq_eq_true hy
   simp[this]
  ·split at hk
   case h_2=>cases hk
   rename_i b Ca
   unfold St.c7 at Ca
   split at Ca
   ·rename_i a ex ha
    rw[ha]
    exact⟨fun e=>(by cases e),fun y hy=>by simp[AV.refs] at hy⟩
   ·cases Ca
 ·rename_i T x lo hi cD
  simp only[Bool.and_eq_true] at bO
  have hl:aV ops o=aR x++(eL lo++eL hi):=by unfold aV;rw[cD]
  refine key fun r hr=>?_
  rw[hl] at hr
  have acs:∀ {y:Option Operand},B5 S y=true→r∈eL y→∃ a,S.at r=.v a []:=fun {y} h hr=>by
   cases y with
   |none=>simp[eL] at hr
   |some y=>exact hJ h r hr
  rcases List.mem_append.1 hr with hr |hr
  ·exact hJ (Rm bO.1) r hr
  ·rcases List.mem_append.1 hr with hr |hr
   ·exact acs bO.2.1 hr
   ·exact acs bO.2.2 hr
 ·rename_i T x ix cD
  simp only[Bool.and_eq_true] at bO
  have hl:aV ops o=aR x++aR ix:=by unfold aV;rw[cD]
  refine key fun r hr=>?_
  rw[hl] at hr
  rcases List.mem_append.1 hr with hr |hr
  ·exact hJ (Rm bO.1) r hr
  ·exact hJ bO.2 r hr
 ·cases bO
theorem qT {S S':St} {x:Operand} (h:gF S x=true) (ha:nN S S' (aR x)):gF S' x=true:=by
 cases x with
 |tmp i=>simp only[gF,ha i (by simp[aR])] at h ⊢;exact h
 |const c=>rfl
 |func f=>exact h
 |global g=>exact h
theorem VX {S S':St} {x:Operand} (h:Rb S x=true) (ha:nN S S' (aR x)):Rb S' x=true:=by
 cases x with
 |tmp i=>simp only[Rb,ha i (by simp[aR])] at h ⊢;exact h
 |const c=>rfl
 |func f=>exact h
 |global g=>exact h
theorem G3 {S S':St} {o:Oper} (hg:jv O ops S o=true) (ha:nN S S' (aV ops o)) (hl:S'.length=S.length) (hd:∀ d,o.dst=some d→(S'.at d).zQ=false):jv O ops S' o=true:=by
 obtain⟨h1,d,h2,h3,h4⟩:=wQ hg
 unfold jv at hg ⊢
 simp only[Bool.and_eq_true] at hg ⊢
 refine⟨⟨hg.1.1,?_⟩,?_⟩
 ·rw[h2]
  simp only[hd d h2,Bool.not_false,Bool.true_and]
  rw[hl]
  exact Nat.ble_eq_true_of_le h4
 ·have bO:=hg.2
  split at bO
  ·rename_i f as ts cD
   have Rn:aV ops o=as.toList.flatMap aR:=by unfold aV;rw[cD]
   rw[Rn] at ha
   simp only[Bool.and_eq_true,List.all_eq_true] at bO
   simp only[Bool.and_eq_true,List.all_eq_true]
   exact⟨bO.1,fun x hx=>qT (bO.2 x hx) fun r hr=>ha r (List.mem_flatMap.2 ⟨x,hx,hr⟩)⟩
  ·rename_i as ts cD
   have Rn:aV ops o=as.toList.flatMap aR:=by unfold aV;rw[cD]
   rw[Rn] at ha
   simp only[List.all_eq_true] at bO
   simp only[List.all_eq_true]
   exact fun x hx=>qT (bO x hx) fun r hr=>ha r (List.mem_flatMap.2 ⟨x,hx,hr⟩)
  ·rename_i T n ps cD
   have Rn:aV ops o=ps.toList.flatMap fun q=>aR q.2:=by unfold aV;rw[cD]
   rw[Rn] at ha
   simp only[List.all_eq_true] at bO
   simp only[List.all_eq_true]
   exact fun x hx=>qT (bO x hx) fun r hr=>ha r (List.mem_flatMap.2 ⟨x,hx,hr⟩)
  ·rename_i T x cD
   split at bO
   case h_4=>cases bO
   case h_2=>
    rename_i t y hb hx
    have Rn:aV ops o=[x]:=by unfold aV;rw[cD];simp only[hb]
    rw[Rn] at ha
    rw[hb,(ha x (by simp)).trans hx]
   case h_3=>
    rename_i t T1 tg me y hb hx
    have Rn:aV ops o=[x]:=by unfold aV;rw[cD];simp only[hb]
    rw[Rn] at ha
    have h2:S'.c7 x [.deref]=S.c7 x [.deref]:=by unfold St.c7;rw[ha x (by simp)]
    rw[hb,(ha x (by simp)).trans hx]
    simp only[h2]
    exact bO
   rename_i s t s' p hb hx
   simp only[Bool.and_eq_true] at bO
   obtain⟨hs,hk⟩:=bO
   have:=Nat.eq_of_beq_eq_true hs
   subst this
   have Rn:aV ops o=[x,s']:=by unfold aV;rw[cD];simp only[hb]
   rw[Rn] at ha
   have h1:S'.at x=.ad t s' p:=(ha x (by simp)).trans hx
   have h2:S'.c7 s' p=S.c7 s' p:=by unfold St.c7;rw[ha s' (by simp)]
   rw[hb,h1]
   simp only[Bool.and_eq_true,h2]
   exact⟨Nat.beq_refl _,hk⟩
  ·rename_i T x lo hi cD
   simp only[Bool.and_eq_true] at bO
   have Rn:aV ops o=aR x++(eL lo++eL hi):=by unfold aV;rw[cD]
   rw[Rn] at ha
   simp only[Bool.and_eq_true]
   have acs:∀ {y:Option Operand},B5 S y=true→(∀ r∈eL y,r∈aR x++(eL lo++eL hi))→B5 S' y=true:=fun {y} h hs=>by
    cases y with
    |none=>rfl
    |some y=>exact qT h fun r hr=>ha r (hs r hr)
   exact⟨VX bO.1 fun r hr=>ha r (by simp[hr]),acs bO.2.1 fun r hr=>by simp[hr],acs bO.2.2 fun r hr=>by simp[hr]⟩
  ·rename_i T x ix cD
   simp only[Bool.and_eq_true] at bO
   have Rn:aV ops o=aR x++aR ix:=by unfold aV;rw[cD]
   rw[Rn] at ha
   simp only[Bool.and_eq_true]
   exact⟨VX bO.1 fun r hr=>ha r (by simp[hr]),qT bO.2 fun r hr=>ha r (by simp[hr])⟩
  ·cases bO
theorem Ib {S:St} {o:Oper} (hg:jv O ops S o=true) {d:Nat} (hd:o.dst=some d) {E:qq} (he:E.d=d∧nr E.v∧E.bX.Nodup∧(∀ r∈E.bX,r∈aV ops o)∧(jw o=true→E.bX=[])):E.In S:=by
 obtain⟨_,d',h2,h3,h4⟩:=wQ hg
 rw[hd] at h2
 injection h2 with h2
 subst h2
 obtain⟨e1,e2,e3,e4,e5⟩:=he
 have hv:∀ r∈E.bX,∃ a,S.at r=.v a []:=fun r hr=>by
  rcases(z8 hg).1 with hc |hv
  ·rw[e5 hc] at hr;cases hr
  ·exact hv r (e4 r hr)
 refine⟨e3,hv,by rw[e1];exact h3,by rw[e1];exact h4,e2,fun hk=>?_⟩
 obtain⟨a,ha⟩:=hv _ hk
 rw[e1] at ha
 rw[ha] at h3
 cases h3
theorem Zk {a:AV} {x:Nat} (h:a.refs x=true):a.zQ=false:=by cases a<;>first |rfl |(simp[AV.refs] at h)
theorem aje {E:qq} {S:St} (h:E.In S) {i:Nat} (hi:i≠E.d) (hv:(S.at i).zQ=false):((E.app S).at i).zQ=false:=by
 rw[qq.qR h,if_neg hi]
 split
 ·rfl
 ·cases E.bX.any (S.at i).refs with
  |true=>rfl
  |false=>exact hv
theorem acu {E:qq} {S:St} (h:E.In S) {i:Nat} (hi:i≠E.d) (hk:i∉E.bX) (hv:((E.app S).at i).zQ=false):(S.at i).zQ=false:=by
 rw[qq.qR h,if_neg hi,if_neg hk] at hv
 cases ha:E.bX.any (S.at i).refs with
 |true=>
  obtain⟨x,_,hx⟩:=List.any_eq_true.1 ha
  exact Zk hx
 |false=>rw[ha] at hv;exact hv
theorem axA {E:qq} {S:St} (h:E.In S) {i:Nat} (hi:i≠E.d) (hv:(E.app S).at i≠ .dead):S.at i=(E.app S).at i:=by
 rw[qq.qR h,if_neg hi] at hv ⊢
 split at hv
 ·exact absurd rfl hv
 ·rename_i hk
  rw[if_neg hk]
  cases ha:E.bX.any (S.at i).refs with
  |true=>rw[ha] at hv;exact absurd rfl hv
  |false=>rfl
theorem axB {E:qq} {S:St} (h:E.In S) {i:Nat} (hi:i≠E.d) (hk:i∉E.bX) (hr:∀ x,(S.at i).refs x=true→x∉E.bX):(E.app S).at i=S.at i:=by
 rw[qq.qR h,if_neg hi,if_neg hk]
 have:E.bX.any (S.at i).refs=false:=List.any_eq_false.2 fun x hx wJ=>hr x wJ hx
 rw[this]
 rfl
theorem acv (hO:nK O) {i j:Nat} {oi oj:Oper} (hi:ops[i]?=some oi) (hj:ops[j]?=some oj) (hd:GV ops oi oj=true) {r:List Nat} {S:St} {K:St→Option aa} {ret:aa} (e:mL h O ops (i::j::r) S K=some ret):mL h O ops (j::i::r) S K=some ret:=by
 simp only[mL,hi,hj] at e ⊢
 cases gi:jv O ops S oi with
 |false=>rw[gi] at e;cases e
 |true=>
 rw[gi] at e
 simp only[cond_true] at e
 obtain⟨_,di,Ro,hvi,_⟩:=wQ gi
 obtain⟨oE,E1,E2⟩:=VW (h:=h) hO hi gi Ro
 rw[E2 S (fun _ _=>rfl)] at e
 cases oE with
 |none=>cases e
 |some E=>
 simp only[Option.bind_some] at e
 have EI:=Ib gi Ro (E1 E rfl)
 obtain⟨Ed,Er,En,Ek,Ec⟩:=E1 E rfl
 cases gj:jv O ops (E.app S) oj with
 |false=>rw[gj] at e;cases e
 |true=>
 rw[gj] at e
 simp only[cond_true] at e
 obtain⟨_,dj,hdj,hvj,_⟩:=wQ gj
 obtain⟨oF,F1,F2⟩:=VW (h:=h) hO hj gj hdj
 rw[F2 _ (fun _ _=>rfl)] at e
 cases oF with
 |none=>cases e
 |some F=>
 simp only[Option.bind_some] at e
 have FI1:=Ib gj hdj (F1 F rfl)
 obtain⟨Fd,Fr,Fn,Fk,Fc⟩:=F1 F rfl
 unfold GV at hd
 rw[Ro,hdj] at hd
 simp only[Bool.and_eq_true,Bool.not_eq_true',Bool.or_eq_true] at hd
 obtain⟨⟨⟨d1,d2⟩,d3⟩,d4⟩:=hd
 have d1:di≠dj:=fun e=>by subst e;rw[Nat.beq_refl] at d1;cases d1
 have d2:di∉aV ops oj:=fun hm=>by
  have:=List.any_eq_false.1 d2 di hm
  rw[Nat.beq_refl] at this
  exact this rfl
 have d3:dj∉aV ops oi:=fun hm=>by
  have:=List.any_eq_false.1 d3 dj hm
  rw[Nat.beq_refl] at this
  exact this rfl
 have d5:∀ r∈aV ops oi,r∉F.bX:=fun r hr hk=>by
  rcases d4 with d4 |d4
  ·rw[Fc d4.2] at hk;cases hk
  ·have h1:=List.any_eq_false.1 d4 r hr
   have h2:(aV ops oj).any (Nat.beq r)=true:=List.any_eq_true.2 ⟨r,Fk r hk,Nat.beq_refl r⟩
   exact h1 h2
 have ag1:nN (E.app S) S (aV ops oj):=fun r hr=>by
  exact axA EI (fun e=>d2 (by rw[←Ed,←e];exact hr)) ((z8 gj).2 r hr).1
 have azp:dj∉E.bX:=fun hk=>d3 (Ek dj hk)
 have gj0:jv O ops S oj=true:=G3 gj ag1 (qq.H9 E S).symm (fun d hd=>by
  rw[hdj] at hd
  injection hd with hd
  subst hd
  exact acu EI (fun e=>d1 (by rw[←Ed,←e])) azp hvj)
 have FI:=Ib gj0 hdj (F1 F rfl)
 have ag2:nN S (F.app S) (aV ops oi):=fun r hr=>by
  exact axB FI (fun e=>d3 (by rw[←Fd,←e];exact hr)) (d5 r hr) fun x hx=>d5 x (((z8 gi).2 r hr).2 x hx)
 have gi1:jv O ops (F.app S) oi=true:=G3 gi ag2 (qq.H9 F S) (fun d hd=>by
  rw[Ro] at hd
  injection hd with hd
  subst hd
  exact aje FI (fun e=>d1 (by rw[←Fd,←e])) hvi)
 have EI1:=Ib gi1 Ro (E1 E rfl)
 rw[gj0]
 simp only[cond_true]
 rw[F2 S ag1]
 simp only[Option.bind_some]
 rw[gi1]
 simp only[cond_true]
 rw[E2 _ ag2]
 simp only[Option.bind_some]
 rw[qq.comm EI FI (by rw[Ed,Fd];exact d1) (fun hk=>by rw[Ed] at hk;exact d2 (Fk _ hk)) (fun hk=>by rw[Fd] at hk;exact d3 (Ek _ hk)) EI1 FI1]
 exact e
theorem G4 (hO:nK O) {j:Nat} {oj:Oper} (hj:ops[j]?=some oj):∀ (p r:List Nat) {S:St} {K:St→Option aa} {ret:aa},(∀ x∈p,∃ ox,ops[x]?=some ox∧GV ops ox oj=true)→mL h O ops (p++j::r) S K=some ret→mL h O ops (j::(p++r)) S K=some ret
 |[],r,S,K,ret,_,e=>e
 |x::p,r,S,K,ret,hp,e=>by
  obtain⟨ox,hox,hdx⟩:=hp x (by simp)
  refine acv hO hox hj hdx ?_
  simp only[List.cons_append] at e
  unfold mL at e ⊢
  rw[hox] at e ⊢
  simp only at e ⊢
  cases gx:jv O ops S ox with
  |false=>rw[gx] at e;cases e
  |true=>
   rw[gx] at e
   simp only[cond_true] at e ⊢
   obtain⟨o,ho⟩:=gZ (h:=h) (ops:=ops) hO x (fun o' Gw=>by
    rw[hox] at Gw
    injection Gw with Gw
    subst Gw
    unfold jv at gx
    simp only[Bool.and_eq_true] at gx
    have g2:=gx.2
    split at g2<;>first |(rename_i bO;rw[bO];rfl) |cases g2) S
   rw[ho] at e ⊢
   cases o with
   |none=>cases e
   |some S1=>
    simp only[Option.bind_some] at e ⊢
    exact G4 hO hj p r (fun y hy=>hp y (by simp[hy])) e
end Go.Pv
namespace Go.Pv
set_option linter.unusedVariables false
set_option linter.unusedSimpArgs false
variable {h:Hint} {O:jr} {Θ:db} {ops:Array Oper} {ret:aa}
theorem D0 {a:AV} {s:Nat}:a.refs s=true↔s∈slotsOf a:=by
 cases a with
 |al t s' p=>simp only[AV.refs,slotsOf,List.mem_singleton,Nat.beq_eq];exact eq_comm
 |ad t s' p=>simp only[AV.refs,slotsOf,List.mem_singleton,Nat.beq_eq];exact eq_comm
 |cut t s' p lo hi=>simp only[AV.refs,slotsOf,List.mem_singleton,Nat.beq_eq];exact eq_comm
 |k8 f cw=>
  simp only[AV.refs,slotsOf,List.any_eq_true,List.mem_filterMap]
  constructor
  ·rintro⟨c,hc,h⟩
   refine⟨c,hc,?_⟩
   cases c with
   |kv b=>cases h
   |pl t s' p=>simp at h;simp[h]
  ·rintro⟨c,hc,h⟩
   refine⟨c,hc,?_⟩
   cases c with
   |kv b=>cases h
   |pl t s' p=>simp at h;simp[h]
 |_=>simp[AV.refs,slotsOf]
def aX (Δ:Nat→Bool) (S:St):Prop:=∀ i s,(S.at i).refs s=true→Δ i=Δ s
theorem oQ {Δ:Nat→Bool}:∀ {S:St} {k:Nat},jV Δ S k=true↔∀ i s,(S.at i).refs s=true→Δ (k+i)=Δ s
 |[],k=>by simp[jV,St.at,AV.refs]
 |a::r,k=>by
  simp only[jV,Bool.and_eq_true,List.all_eq_true,beq_iff_eq]
  constructor
  ·rintro⟨h1,h2⟩ i s hs
   cases i with
   |zero=>exact h1 s (D0.1 (by simpa[St.at] using hs))
   |succ i=>
    have:=(oQ.1 h2) i s (by simpa[St.at] using hs)
    rw[←this];congr 1;omega
  ·intro hh
   refine⟨fun s hs=>by simpa using hh 0 s (by simpa[St.at] using D0.2 hs),oQ.2 fun i s hs=>?_⟩
   have:=hh (i+1) s (by simpa[St.at] using hs)
   rw[←this];congr 1;omega
theorem iu {Δ:Nat→Bool} {S:St}:jV Δ S 0=true↔aX Δ S:=by
 rw[oQ]
 simp only[Nat.zero_add,aX]
def mix (Δ:Nat→Bool) (A B:St):St:=(List.range A.length).map fun i=>bif Δ i then A.at i else B.at i
theorem G5 {S:St} {i:Nat} (h:S.length≤i):S.at i=.dead:=by
 unfold St.at
 rw[List.getD_eq_getElem?_getD,List.getElem?_eq_none h];rfl
theorem fM (Δ:Nat→Bool) (A B:St):(mix Δ A B).length=A.length:=by simp[mix]
theorem jG {Δ:Nat→Bool} {A B:St} (hl:B.length=A.length) (i:Nat):(mix Δ A B).at i=bif Δ i then A.at i else B.at i:=by
 by_cases hi:i<A.length
 ·unfold mix
  conv=>lhs;unfold St.at
  rw[List.getD_eq_getElem?_getD,List.getElem?_map,List.getElem?_range hi]
  rfl
 ·rw[G5 (by rw[fM];omega),G5 (S:=A) (by omega),G5 (S:=B) (by omega)]
  cases Δ i<;>rfl
theorem kK {Δ:Nat→Bool} {A B:St} (hl:B.length=A.length) {i:Nat} (hi:Δ i=true):(mix Δ A B).at i=A.at i:=by rw[jG hl,hi];rfl
theorem D1 (Δ:Nat→Bool) (S:St):mix Δ S S=S:=ns (fM _ _ _) fun i=>by rw[jG rfl];cases Δ i<;>rfl
theorem Ic {Δ:Nat→Bool} {A B:St} (hl:B.length=A.length):mix (fun i=>!Δ i) B A=mix Δ A B:=ns (by rw[fM,fM,hl]) fun i=>by
 rw[jG hl,jG hl.symm];cases Δ i<;>rfl
theorem aX.not {Δ:Nat→Bool} {S:St} (h:aX Δ S):aX (fun i=>!Δ i) S:=fun i s hs=>by simp only[h i s hs]
section
variable {Δ:Nat→Bool} {A B:St}
theorem z' (hB:aX Δ B) {i d:Nat} (hi:Δ i=false) (hd:Δ d=true):(B.at i).refs d=false:=by
 cases hr:(B.at i).refs d with
 |false=>rfl
 |true=>have:=hB i d hr;rw[hi,hd] at this;cases this
theorem sr (hl:B.length=A.length) (hB:aX Δ B) {d:Nat} (hd:Δ d=true) (a:AV):(mix Δ A B).put (some d) a=mix Δ (A.put (some d) a) B:=by
 refine ns (by rw[b5,fM,fM,b5]) fun i=>?_
 rw[jG (by rw[b5,hl]),dD,dD,fM,jG hl,kK hl hd]
 cases hi:Δ i with
 |true=>rfl
 |false=>
  have hid: ¬(i=d∧d<A.length):=fun e=>by rw[e.1,hd] at hi;cases hi
  rw[if_neg hid]
  simp only[cond_false]
  rw[z' hB hi hd];rfl
theorem wR (hl:B.length=A.length) {d:Nat} (hd:Δ d=true) (a:AV):(mix Δ A B).set d a=mix Δ (A.set d a) B:=by
 refine ns (by rw[List.length_set,fM,fM,List.length_set]) fun i=>?_
 rw[jG (by rw[List.length_set,hl]),cQ,cQ,fM,jG hl]
 cases hi:Δ i with
 |true=>rfl
 |false=>
  have hid: ¬(i=d∧d<A.length):=fun e=>by rw[e.1,hd] at hi;cases hi
  rw[if_neg hid]
  rfl
theorem Rp {a:AV} {d:Nat} (h:a.refs d=false):a.eJ d=false:=by
 cases a with
 |al t s p=>simp only[AV.refs] at h;simp only[AV.eJ,h];rfl
 |ad t s p=>simp only[AV.refs] at h;simp only[AV.eJ,h];rfl
 |cut t s p lo hi=>simpa only[AV.refs,AV.eJ] using h
 |k8 f cw=>
  simp only[AV.refs,AV.eJ,List.any_eq_false] at h ⊢
  intro c hc
  have:=h c hc
  cases c with
  |kv b=>simp
  |pl t s p=>cases p<;>simp_all
 |_=>rfl
theorem uh (hl:B.length=A.length) (hB:aX Δ B) {d:Nat} (hd:Δ d=true):(mix Δ A B).weaken d=mix Δ (A.weaken d) B:=by
 refine ns (by simp[St.weaken,fM]) fun i=>?_
 rw[jG (by simp[St.weaken,hl]),jF,jF,jG hl]
 cases hi:Δ i with
 |true=>rfl
 |false=>simp only[cond_false];rw[Rp (z' hB hi hd)];rfl
theorem Aa (S:St) (d:Nat) (p:Path) (i:Nat):(S.cover d p).at i=match S.at i with
  | .ad t s q=>bif Nat.beq s d&&under p q then .dead else .ad t s q
  |a=>a:=DW S _ rfl i
theorem G6 (hl:B.length=A.length) (hB:aX Δ B) {d:Nat} (hd:Δ d=true) (p:Path):(mix Δ A B).cover d p=mix Δ (A.cover d p) B:=by
 refine ns (by simp[St.cover,fM]) fun i=>?_
 rw[jG (by simp[St.cover,hl]),Aa,Aa,jG hl]
 cases hi:Δ i with
 |true=>rfl
 |false=>
  simp only[cond_false]
  have:=z' hB hi hd
  cases hb:B.at i with
  |ad t s q=>rw[hb] at this;simp only[AV.refs] at this;simp only[this];rfl
  |_=>rfl
theorem wS {c:Bool} {a:AV} {s:Nat} (h:(bif c then AV.dead else a).refs s=true):a.refs s=true:=by
 cases c with
 |true=>simp[AV.refs] at h
 |false=>exact h
theorem jH (hA:aX Δ A) {d:Nat} (hd:Δ d=true) {a:AV} (ha:∀ s,a.refs s=true→Δ s=true):aX Δ (A.put (some d) a):=fun i s hs=>by
 rw[dD] at hs
 split at hs
 ·rename_i hi
  rw[hi.1,hd]
  exact(ha s (wS hs)).symm
 ·exact hA i s (wS hs)
theorem lT (hA:aX Δ A) {d:Nat} (hd:Δ d=true) {a:AV} (ha:∀ s,a.refs s=true→Δ s=true):aX Δ (A.set d a):=fun i s hs=>by
 rw[cQ] at hs
 split at hs
 ·rename_i hi
  rw[hi.1,hd]
  exact(ha s hs).symm
 ·exact hA i s hs
theorem nt (hA:aX Δ A) (d:Nat):aX Δ (A.weaken d):=fun i s hs=>by
 rw[jF] at hs
 exact hA i s (wS hs)
theorem wT (hA:aX Δ A) (d:Nat) (p:Path):aX Δ (A.cover d p):=fun i s hs=>by
 rw[Aa] at hs
 refine hA i s ?_
 cases hb:A.at i with
 |ad t s' q=>rw[hb] at hs;exact wS hs
 |_=>rw[hb] at hs;exact hs
theorem iK (hl:B.length=A.length) {x:Operand} (hx:lI Δ x=true) (T:TypeId):(mix Δ A B).dM Θ T x=A.dM Θ T x:=by
 cases x with
 |tmp i=>simp only[St.dM];rw[kK hl hx]
 |_=>rfl
theorem gb (hA:aX Δ A) {x:Operand} (hx:lI Δ x=true) {T:TypeId} {a:AV} (e:A.dM Θ T x=some a):∀ s,a.refs s=true→Δ s=true:=fun s hs=>by
 cases x with
 |tmp i=>
  simp only[St.dM,Option.some.injEq] at e
  subst e
  rw[←hA i s hs];exact hx
 |const c=>
  simp only[St.dM] at e
  split at e
  ·injection e with e;subst e;simp[AV.refs] at hs
  ·cases e
 |func f=>
  simp only[St.dM,Option.some.injEq] at e
  subst e
  simp[AV.refs] at hs
 |global g=>cases e
theorem lK (hl:B.length=A.length) {s:Nat} (hs:Δ s=true) (p:Path):(mix Δ A B).place s p=A.place s p:=by unfold St.place;rw[kK hl hs]
theorem jI (hl:B.length=A.length) {s:Nat} (hs:Δ s=true) (p:Path):(mix Δ A B).c7 s p=A.c7 s p:=by unfold St.c7;rw[kK hl hs]
theorem mM {t:Ty} {s:Nat} {p:Path}:(AV.al t s p).refs s=true:=by simp[AV.refs]
theorem ajf {t:Ty} {s:Nat} {p:Path}:(AV.ad t s p).refs s=true:=by simp[AV.refs]
theorem Mm {t:Ty} {s:Nat} {p:Path} {lo hi:Nat}:(AV.cut t s p lo hi).refs s=true:=by simp[AV.refs]
theorem VY (hl:B.length=A.length) {a:AV} (ha:∀ s,a.refs s=true→Δ s=true):(mix Δ A B).so a=A.so a:=by
 cases a with
 |al t s p=>simp only[St.so];exact lK hl (ha s mM) p
 |cut t s p lo hi=>simp only[St.so];rw[lK hl (ha s Mm) p]
 |v b ex=>cases ex<;>rfl
 |_=>rfl
theorem Ab (hl:B.length=A.length) (hA:aX Δ A) {x:Operand} (hx:lI Δ x=true) (T:TypeId):(mix Δ A B).rd Θ T x=A.rd Θ T x:=by
 unfold St.rd
 rw[iK hl hx]
 cases e:A.dM Θ T x with
 |none=>rfl
 |some a=>exact VY hl (gb hA hx e)
theorem Ac (hl:B.length=A.length) (hA:aX Δ A) {x:Operand} (hx:lI Δ x=true):(mix Δ A B).kU Θ x=A.kU Θ x:=by
 unfold St.kU
 rw[Ab hl hA hx]
theorem cy {b:TV} {ex:List Path}:∀ s,(AV.v b ex).refs s=true→Δ s=true:=fun s hs=>by simp[AV.refs] at hs
def Mx (Δ:Nat→Bool) (A B:St) {α:Type} (X Y:Option (α×St)):Prop:=Y=X.map (fun q=>(q.1,mix Δ q.2 B))∧∀ q,X=some q→aX Δ q.2∧q.2.length=A.length
theorem aC {α:Type}:Mx Δ A B (α:=α) none none:=⟨rfl,fun _ h=>by cases h⟩
theorem fN {α:Type} {c:α} {A1 S1:St} (h:S1=mix Δ A1 B) (hc:aX Δ A1) (hl:A1.length=A.length):Mx Δ A B (some (c,A1)) (some (c,S1)):=⟨by rw[h];rfl,fun q hq=>by injection hq with hq;subst hq;exact⟨hc,hl⟩⟩
theorem du {α:Type} {c:α} {d:Nat} {a:AV} (hl:B.length=A.length) (hB:aX Δ B) {A1:St} (hA:aX Δ A1) (Ad:A1.length=A.length) (hd:Δ d=true) (ha:∀ s,a.refs s=true→Δ s=true):
  Mx Δ A B (some (c,A1.put (some d) a)) (some (c,(mix Δ A1 B).put (some d) a)):=fN (sr (by rw[hl,Ad]) hB hd a) (jH hA hd ha) (by rw[b5,Ad])
theorem G7 (hl:B.length=A.length) (hA:aX Δ A) (hB:aX Δ B) {x:Operand} (hx:lI Δ x=true) {a:AV} (ha:∀ s,a.refs s=true→Δ s=true):Mx Δ A B (A.dB x a) ((mix Δ A B).dB x a):=by
 have qp:∀ s,AV.dead.refs s=true→Δ s=true:=fun s hs=>by simp[AV.refs] at hs
 cases a with
 |v b ex=>
  simp only[St.dB]
  cases b.m.bM with
  |true=>exact fN rfl hA rfl
  |false=>
   simp only[cond_false]
   cases ex with
   |nil=>
    cases x with
    |tmp i=>exact du hl hB hA rfl hx qp
    |const c=>exact fN rfl hA rfl
    |func f=>exact fN rfl hA rfl
    |global g=>exact fN rfl hA rfl
   |cons _ _=>cases x<;>exact aC
 |al t s p=>
  have hs:=ha s mM
  simp only[St.dB]
  rw[lK hl hs]
  cases hp:A.place s p with
  |none=>exact aC
  |some b=>
   simp only
   cases b.m.bM with
   |true=>exact fN rfl hA rfl
   |false=>
    simp only[cond_false]
    cases p with
    |nil=>exact du hl hB hA rfl hs qp
    |cons st pp=>
     rw[kK hl hs]
     cases A.at s with
     |v r ex=>
      have h1:=wT (nt hA s) s (st::pp)
      have l1:B.length=(A.weaken s).length:=by simp[St.weaken,hl]
      have l2:B.length=((A.weaken s).cover s (st::pp)).length:=by simp[St.weaken,St.cover,hl]
      refine fN ?_ (lT h1 hs cy) (by simp[St.weaken,St.cover])
      rw[uh hl hB hs,G6 l1 hB hs,wR l2 hs]
     |_=>exact aC
 |cut t s p lo hi=>
  have hs:=ha s Mm
  cases p with
  |cons _ _=>exact aC
  |nil=>
   simp only[St.dB]
   rw[lK hl hs]
   split
   ·cases Nat.beq lo 0 with
    |true=>exact du hl hB hA rfl hs qp
    |false=>exact aC
   ·exact aC
 |_=>exact aC
theorem qU (hl:B.length=A.length) (hA:aX Δ A) (hB:aX Δ B) {x:Operand} (hx:lI Δ x=true) (T:TypeId):Mx Δ A B (A.take Θ T x) ((mix Δ A B).take Θ T x):=by
 unfold St.take
 rw[iK hl hx]
 cases e:A.dM Θ T x with
 |none=>exact aC
 |some a=>exact G7 hl hA hB hx (gb hA hx e)
theorem Ae (hB:aX Δ B) {ps:List (Nat×Operand)} (hx:∀ q∈ps,lI Δ q.2=true):∀ (r:List TypeId) (j:Nat) {A:St},B.length=A.length→aX Δ A→Mx Δ A B (A.parts Θ ps r j) ((mix Δ A B).parts Θ ps r j)
 |[],j,A,hl,hA=>fN rfl hA rfl
 |T::r,j,A,hl,hA=>by
  simp only[St.parts]
  cases hf:ps.find? (fun q=>Nat.beq q.1 j) with
  |some q=>
   simp only
   obtain⟨h1,h2⟩:=qU (Θ:=Θ) hl hA hB (hx q (List.mem_of_find?_eq_some hf)) T
   rw[h1]
   cases ht:A.take Θ T q.2 with
   |none=>exact aC
   |some b=>
    obtain⟨b,A1⟩:=b
    obtain⟨c1,c2⟩:=h2 _ ht
    simp only[Option.map_some]
    obtain⟨k1,k2⟩:=Ae hB hx r (j+1) (by rw[c2,hl]) c1
    rw[k1]
    cases hp:St.parts Θ A1 ps r (j+1) with
    |none=>exact aC
    |some l=>
     obtain⟨d1,d2⟩:=k2 _ hp
     exact fN rfl d1 (by rw[d2,c2])
  |none=>
   simp only
   cases qI Θ T with
   |none=>exact aC
   |some z=>
    simp only
    obtain⟨k1,k2⟩:=Ae hB hx r (j+1) hl hA
    rw[k1]
    cases hp:St.parts Θ A ps r (j+1) with
    |none=>exact aC
    |some l=>
     obtain⟨d1,d2⟩:=k2 _ hp
     exact fN rfl d1 d2
end
end Go.Pv
namespace Go.Pv
set_option linter.unusedVariables false
set_option linter.unusedSimpArgs false
variable {h:Hint} {O:jr} {Θ:db} {hn:Hn} {ops:Array Oper} {ret:aa} {Δ:Nat→Bool} {A B:St}
theorem Zl (S S':St) (x:Operand) (a:AV):S.copy x a=S'.copy x a:=by cases a<;>rfl
theorem Zm {x:Operand} (hx:lI Δ x=true) {a a':AV} (ha:∀ s,a.refs s=true→Δ s=true) (e:A.copy x a=some a'):∀ s,a'.refs s=true→Δ s=true:=fun s hs=>by
 cases a with
 |v b ex=>
  simp only[St.copy] at e
  cases hk:b.m.bM with
  |true=>rw[hk] at e;simp only[cond_true,Option.some.injEq] at e;subst e;simp[AV.refs] at hs
  |false=>
   rw[hk] at e
   simp only[cond_false] at e
   cases x with
   |tmp i=>
    simp only[Option.some.injEq] at e
    subst e
    simp only[AV.refs,Nat.beq_eq] at hs
    subst hs
    exact hx
   |_=>
    simp only at e
    split at e
    ·injection e with e;subst e;simp[AV.refs] at hs
    ·cases e
 |th l=>cases e
 |dead=>cases e
 |_=>simp only[St.copy,Option.some.injEq] at e;subst e;exact ha s hs
theorem Ie (hl:B.length=A.length) {x:Operand} {a:AV} (ha:∀ s,a.refs s=true→Δ s=true):(mix Δ A B).GR x a=A.GR x a:=by
 cases a with
 |v b ex=>
  obtain⟨t,m,y⟩:=b
  cases t<;>cases m<;>cases ex<;>rfl
 |al t s p=>
  cases t with
  |ptr t=>simp only[St.GR];rw[jI hl (ha s mM)]
  |_=>rfl
 |_=>rfl
theorem D2 {x:Operand} (hx:lI Δ x=true) {a:AV} (ha:∀ s,a.refs s=true→Δ s=true) {t:Ty} {s:Nat} {p:Path} (e:A.GR x a=some (.pl t s p)):Δ s=true:=by
 cases a with
 |v b ex=>
  obtain⟨t',m,y⟩:=b
  simp only[St.GR] at e
  split at e
  ·rename_i heq
   injection heq with h1 h2
   split at e
   ·cases e
   ·injection e with e;injection e with _ e _;subst e;exact hx
   ·cases e
  ·split at e
   ·injection e with e;injection e with _ e _;subst e;exact hx
   ·cases e
  all_goals first |(rename_i heq;cases heq;done) |(cases e;done)
 |al t' s' p'=>
  simp only[St.GR] at e
  split at e
  ·rename_i heq;cases heq
  ·rename_i heq;cases heq
  ·rename_i heq
   injection heq with h1 h2 h3
   subst h2
   split at e
   ·cases e
   ·injection e with e;injection e with _ e _;subst e;exact ha _ mM
   ·cases e
  ·rename_i heq;cases heq
  ·cases e
 |ad t' s' p'=>
  simp only[St.GR,Option.some.injEq,Tgt.pl.injEq] at e
  rw[←e.2.1];exact ha _ ajf
 |_=>simp[St.GR] at e
theorem Rq (hl:B.length=A.length) {g:Tgt} (hg:∀ t s p,g=.pl t s p→Δ s=true):(mix Δ A B).loadAt g=A.loadAt g:=by
 cases g with
 |k a=>rfl
 |pl t s p=>simp only[St.loadAt];rw[jI hl (hg t s p rfl),lK hl (hg t s p rfl)]
theorem Mn {g:Tgt} (hg:∀ t s p,g=.pl t s p→Δ s=true) {a:AV} (e:A.loadAt g=some a):∀ s,a.refs s=true→Δ s=true:=fun s hs=>by
 cases g with
 |k b=>simp only[St.loadAt,Option.some.injEq] at e;subst e;simp[AV.refs] at hs
 |pl t s' p=>
  simp only[St.loadAt] at e
  split at e
  case h_2=>cases e
  rename_i b hb
  cases hk:b.m.bM with
  |true=>
   rw[hk] at e
   simp only[cond_true] at e
   split at e
   ·injection e with e;subst e;simp[AV.refs] at hs
   ·cases e
  |false=>
   rw[hk] at e
   simp only[cond_false,Option.some.injEq] at e
   subst e
   simp only[AV.refs,Nat.beq_eq] at hs
   subst hs
   exact hg _ _ _ rfl
section
variable (hl:B.length=A.length) (hA:aX Δ A) (hB:aX Δ B) {d:Nat} (hd:Δ d=true)
include hl hA hB hd
theorem Zn (T:TypeId):Mx Δ A B (oH Θ hn A (some d) T) (oH Θ hn (mix Δ A B) (some d) T):=by
 unfold oH
 cases qI Θ T with
 |none=>exact aC
 |some z=>
  simp only
  cases tZ z.t (hn.find (some d) z.m) with
  |true=>exact du hl hB hA rfl hd cy
  |false=>exact aC
theorem acw (T:TypeId) {x:Operand} (hx:lI Δ x=true):Mx Δ A B (fY Θ A (some d) T x) (fY Θ (mix Δ A B) (some d) T x):=by
 unfold fY
 rw[iK hl hx]
 cases e:A.dM Θ 0 x with
 |none=>exact aC
 |some a=>
  simp only
  have ha:=gb hA hx e
  rw[Ie hl ha]
  cases et:A.GR x a with
  |none=>exact aC
  |some g=>
   simp only
   have hg:∀ t s p,g=.pl t s p→Δ s=true:=fun t s p eg=>by subst eg;exact D2 hx ha et
   rw[Rq hl hg]
   cases el:A.loadAt g with
   |none=>exact aC
   |some r=>
    simp only
    cases Θ.is T g.ty with
    |true=>exact du hl hB hA rfl hd (Mn hg el)
    |false=>exact aC
theorem acx (T:TypeId) {x:Operand} (hx:lI Δ x=true):Mx Δ A B (oD Θ A (some d) T x) (oD Θ (mix Δ A B) (some d) T x):=by
 unfold oD
 rw[iK hl hx,fM]
 have qp:∀ s,AV.dead.refs s=true→Δ s=true:=fun s hs=>by simp[AV.refs] at hs
 cases e:A.dM Θ T x with
 |none=>exact aC
 |some a=>
  have ha:=gb hA hx e
  cases a with
  |th l=>
   cases x with
   |tmp i=>
    simp only
    cases (Nat.beq d i|| !Nat.blt d A.length) with
    |true=>exact aC
    |false=>
     simp only[cond_false]
     have h1:(mix Δ A B).put (some i) .dead=mix Δ (A.put (some i) .dead) B:=sr hl hB hx .dead
     rw[h1]
     exact du hl hB (jH hA hx qp) (b5 _ _ _) hd (fun s hs=>by simp[AV.refs] at hs)
   |_=>exact aC
  |_=>
   simp only
   rw[Zl (mix Δ A B) A]
   split
   ·rename_i a' hc
    exact du hl hB hA rfl hd (Zm hx ha hc)
   ·exact aC
theorem Mo {x:Operand} (hx:lI Δ x=true) (j:Nat):Mx Δ A B (fC A (some d) x j) (fC (mix Δ A B) (some d) x j):=by
 unfold fC
 cases x with
 |tmp i=>
  simp only
  rw[kK hl hx]
  split
  ·rename_i l hi
   split
   ·rename_i a ha
    cases a.m.bM with
    |true=>exact du hl hB hA rfl hd cy
    |false=>
     simp only[cond_false]
     cases Nat.beq d i with
     |true=>exact aC
     |false=>
      simp only[cond_false]
      have h1:(mix Δ A B).set i (.th (l.set j none))=mix Δ (A.set i (.th (l.set j none))) B:=wR hl hx _
      rw[h1]
      exact du hl hB (lT hA hx (fun s hs=>by simp[AV.refs] at hs)) (by simp) hd cy
   ·exact aC
  ·exact aC
 |_=>exact aC
theorem D3 (T:TypeId) (n:Nat) {ps:List (Nat×Operand)} (hx:∀ q∈ps,lI Δ q.2=true):Mx Δ A B (bG Θ hn A (some d) T n ps) (bG Θ hn (mix Δ A B) (some d) T n ps):=by
 unfold bG
 split
 ·cases (jU n ps&&Nat.ble n 1800) with
  |false=>exact aC
  |true=>
   simp only[cond_true]
   rename_i t e fs _
   obtain⟨k1,k2⟩:=Ae (Θ:=Θ) hB hx (List.replicate n e) 0 hl hA
   rw[k1]
   cases hp:St.parts Θ A ps (List.replicate n e) 0 with
   |none=>exact aC
   |some q=>
    obtain⟨l,A1⟩:=q
    obtain⟨c1,c2⟩:=k2 _ hp
    simp only[Option.map_some]
    cases l with
    |nil=>exact du hl hB c1 c2 hd cy
    |cons a l=>
     simp only
     cases qJ t a.m (a::l) with
     |none=>exact aC
     |some xs=>exact du hl hB c1 c2 hd cy
 ·exact aC
theorem Rr {ts:List TypeId} {as:List Operand} (hx:∀ x∈as,lI Δ x=true):Mx Δ A B (cc Θ A (some d) ts as) (cc Θ (mix Δ A B) (some d) ts as):=by
 unfold cc
 split
 ·rename_i x y T T'
  obtain⟨k1,k2⟩:=qU (Θ:=Θ) hl hA hB (hx x (by simp)) T
  rw[k1]
  cases ht:A.take Θ T x with
  |none=>exact aC
  |some q=>
   obtain⟨⟨t,m,xs⟩,A1⟩:=q
   obtain⟨c1,c2⟩:=k2 _ ht
   have Ad:B.length=A1.length:=by rw[c2,hl]
   simp only[Option.map_some]
   cases t with
   |sl t=>
    cases m with
    |o e tag me=>
     cases hf:Θ.find T with
     |none=>exact aC
     |some i=>
      simp only
      cases (decide (i.ty=.sl t)&&Nat.beq i.e e&&Θ.is T' (.sl t)) with
      |false=>exact aC
      |true=>
       simp only[cond_true]
       cases me.bM with
       |true=>
        simp only[cond_true]
        rw[Ab Ad c1 (hx y (by simp))]
        split
        ·rename_i t' m' ys _
         cases m'.GQ.bM with
         |false=>exact aC
         |true=>
          simp only[cond_true]
          split
          ·exact du hl hB c1 c2 hd cy
          ·exact aC
        ·exact aC
       |false=>
        simp only[cond_false]
        obtain⟨j1,j2⟩:=qU (Θ:=Θ) Ad c1 hB (hx y (by simp)) T'
        rw[j1]
        cases hy:A1.take Θ T' y with
        |none=>exact aC
        |some q=>
         obtain⟨⟨t',m',ys⟩,A2⟩:=q
         obtain⟨d1,d2⟩:=j2 _ hy
         simp only[Option.map_some]
         cases t' with
         |sl t'=>
          simp only
          split
          ·split
           ·exact du hl hB d1 (by rw[d2,c2]) hd cy
           ·exact aC
          ·exact aC
         |_=>exact aC
    |_=>exact aC
   |_=>exact aC
 ·exact aC
theorem Mp {ts:List TypeId} {as:List Operand} (hx:∀ x∈as,lI Δ x=true):Mx Δ A B (fD Θ A (some d) ts as) (fD Θ (mix Δ A B) (some d) ts as):=by
 unfold fD
 split
 ·rename_i x y T T'
  rw[iK hl (hx x (by simp))]
  split
  ·rename_i t s st pp dz
   have hs:=gb hA (hx x (by simp)) dz s mM
   rw[kK hl hs]
   split
   ·rename_i r ex dt
    split
    ·rename_i t e tag me xs i _ _
     cases (decide (i.ty=.sl t)&&Nat.beq i.e e&&Θ.is T' (.sl t)&&me.bM) with
     |false=>exact aC
     |true=>
      simp only[cond_true]
      have l1:B.length=(A.weaken s).length:=by simp[St.weaken,hl]
      have l2:B.length=((A.weaken s).cover s (st::pp)).length:=by simp[St.weaken,St.cover,hl]
      have l3:B.length=(((A.weaken s).cover s (st::pp)).set s (.v r (ex++[st::pp]))).length:=by simp[St.weaken,St.cover,hl]
      have e1:List.set (((mix Δ A B).weaken s).cover s (st::pp)) s (.v r (ex++[st::pp]))=mix Δ (((A.weaken s).cover s (st::pp)).set s (.v r (ex++[st::pp]))) B:=by
       rw[uh hl hB hs,G6 l1 hB hs,wR l2 hs]
      have c1:aX Δ (((A.weaken s).cover s (st::pp)).set s (.v r (ex++[st::pp]))):=lT (wT (nt hA s) s _) hs cy
      rw[e1,Ab l3 c1 (hx y (by simp))]
      split
      ·rename_i t' m' ys _
       cases m'.GQ.bM with
       |false=>exact aC
       |true=>
        simp only[cond_true]
        split
        ·exact du hl hB c1 (by simp[St.weaken,St.cover]) hd cy
        ·exact aC
      ·exact aC
    ·exact aC
   ·exact aC
  ·exact aC
 ·exact aC
theorem ajg (op:BinOp) (T:TypeId) {x y:Operand} (hx:lI Δ x=true) (hy:lI Δ y=true):Mx Δ A B (DK Θ A (some d) op T x y) (DK Θ (mix Δ A B) (some d) op T x y):=by
 unfold DK
 rw[Ab hl hA hx,Ab hl hA hy]
 have fin:∀ a b:TV,Mx Δ A B (match gp op a b with
   |some (g,r)=>some (g,A.put (some d) (.v r []))
   |none=>none) (match gp op a b with
   |some (g,r)=>some (g,(mix Δ A B).put (some d) (.v r []))
   |none=>none):=fun a b=>by
  cases gp op a b with
  |none=>exact aC
  |some q=>exact du hl hB hA rfl hd cy
 cases A.rd Θ T x with
 |none=>exact aC
 |some a=>
  cases A.rd Θ T y with
  |none=>exact aC
  |some b=>
   simp only
   split
   ·cases Θ.is T .bool with
    |true=>exact fin a b
    |false=>exact aC
   ·cases Θ.is T a.t with
    |true=>exact fin a b
    |false=>exact aC
   ·exact fin a b
theorem Gz (T:TypeId) {x:Operand} (hx:lI Δ x=true) (f:Nat):Mx Δ A B (fZ Θ A (some d) T x f) (fZ Θ (mix Δ A B) (some d) T x f):=by
 unfold fZ
 rw[iK hl hx]
 cases e:A.dM Θ 0 x with
 |none=>exact aC
 |some a=>
  have ha:=gb hA hx e
  cases Θ.find T with
  |none=>exact aC
  |some i=>
   simp only
   cases Nat.blt f i.fs.length with
   |false=>exact aC
   |true=>
    simp only[cond_true]
    rw[Ie hl ha]
    cases et:A.GR x a with
    |none=>exact aC
    |some g=>
     cases g with
     |k b=>
      obtain⟨t,m,y⟩:=b
      simp only
      cases decide (i.ty=t) with
      |false=>exact aC
      |true=>
       simp only[cond_true]
       split
       ·exact du hl hB hA rfl hd cy
       ·exact aC
     |pl t s p=>
      have hs:=D2 hx ha et
      simp only
      cases decide (i.ty=t) with
      |false=>exact aC
      |true=>
       simp only[cond_true]
       rw[jI hl hs]
       split
       ·exact du hl hB hA rfl hd (fun s' h'=>by simp only[AV.refs,Nat.beq_eq] at h';rw[←h'];exact hs)
       ·exact aC
theorem GA (T:TypeId) {x ix:Operand} (hx:lI Δ x=true) (hi:lI Δ ix=true):Mx Δ A B (ca Θ A (some d) T x ix) (ca Θ (mix Δ A B) (some d) T x ix):=by
 unfold ca
 rw[iK hl hx,Ac hl hA hi]
 have hr:∀ {t:Ty} {s:Nat} {p:Path},Δ s=true→∀ s',(AV.ad t s p).refs s'=true→Δ s'=true:=fun hs s' h'=>by simp only[AV.refs,Nat.beq_eq] at h';rw[←h'];exact hs
 split
 ·rename_i t m xs ex n dz _
  cases Θ.is T (.sl t) with
  |false=>exact aC
  |true=>
   simp only[cond_true]
   split
   ·exact du hl hB hA rfl hd cy
   ·rename_i j
    rw[jI hl hx]
    split
    ·exact du hl hB hA rfl hd (hr hx)
    ·exact aC
   ·exact aC
 ·rename_i t s p n dz _
  have hs:=gb hA hx dz s mM
  cases Θ.is T (.sl t) with
  |false=>exact aC
  |true=>
   simp only[cond_true]
   rw[jI hl hs,jI hl hs]
   split
   ·exact du hl hB hA rfl hd cy
   ·split
    ·exact du hl hB hA rfl hd (hr hs)
    ·exact aC
   ·exact aC
 ·exact aC
theorem GB (T:TypeId) {l c:Operand} (hx:lI Δ l=true) (hc:lI Δ c=true):Mx Δ A B (ga Θ A (some d) T l c) (ga Θ (mix Δ A B) (some d) T l c):=by
 unfold ga
 rw[Ac hl hA hx,Ac hl hA hc]
 split
 ·split
  ·split
   ·exact du hl hB hA rfl hd cy
   ·exact aC
  ·exact aC
 ·exact aC
theorem Mq (T T':TypeId) {x:Operand} (hx:lI Δ x=true):Mx Δ A B (gg Θ A (some d) T T' x) (gg Θ (mix Δ A B) (some d) T T' x):=by
 unfold gg
 rw[Ab hl hA hx]
 split
 ·exact du hl hB hA rfl hd cy
 ·exact du hl hB hA rfl hd cy
 ·exact aC
end
theorem Zo (hl:B.length=A.length) (hA:aX Δ A) (hB:aX Δ B) (T:TypeId) {x y:Operand} (hx:lI Δ x=true) (hy:lI Δ y=true):Mx Δ A B (k9 Θ A T x y) (k9 Θ (mix Δ A B) T x y):=by
 unfold k9
 rw[iK hl hx]
 cases e:A.dM Θ 0 x with
 |none=>exact aC
 |some a=>
  have ha:=gb hA hx e
  simp only
  rw[Ie hl ha]
  cases et:A.GR x a with
  |none=>exact aC
  |some g=>
   cases g with
   |k b=>exact aC
   |pl t s p=>
    have hs:=D2 hx ha et
    simp only
    obtain⟨k1,k2⟩:=qU (Θ:=Θ) hl hA hB hy T
    rw[k1]
    cases ht:A.take Θ T y with
    |none=>exact aC
    |some q=>
     obtain⟨b,A1⟩:=q
     obtain⟨c1,c2⟩:=k2 _ ht
     have Ad:B.length=A1.length:=by rw[c2,hl]
     simp only[Option.map_some]
     cases Θ.is T b.t with
     |false=>exact aC
     |true=>
      simp only[cond_true]
      rw[kK Ad hs]
      cases A1.at s with
      |v r ex=>
       simp only
       cases fW b p r.t r.m r.x with
       |none=>exact aC
       |some mz=>
        simp only
        cases ex.all (fun h=>!under h p) with
        |false=>exact aC
        |true=>
         simp only[cond_true]
         have l2:B.length=(A1.weaken s).length:=by simp[St.weaken,Ad]
         refine fN ?_ (lT (nt c1 s) hs cy) (by simp[St.weaken,c2])
         rw[uh Ad hB hs,wR l2 hs]
      |_=>exact aC
theorem Rs (hl:B.length=A.length) (hA:aX Δ A) (hB:aX Δ B) (T:TypeId) {y:Operand} (hy:lI Δ y=true) {A1:St} (Ad:A1.length=A.length) (hA1:aX Δ A1):
  oI Θ (mix Δ A B) (mix Δ A1 B) T y=mix Δ (oI Θ A A1 T y) B∧aX Δ (oI Θ A A1 T y)∧(oI Θ A A1 T y).length=A.length:=by
 unfold oI
 rw[iK hl hy]
 split
 ·rename_i t s dz
  have hs:=gb hA hy dz s mM
  rw[kK hl hs,kK (by rw[hl,Ad]) hs]
  split
  ·rename_i t m xs _ _
   cases m.bM with
   |true=>exact⟨rfl,hA1,Ad⟩
   |false=>exact⟨wR (by rw[hl,Ad]) hs _,lT hA1 hs cy,by simp[Ad]⟩
  ·exact⟨rfl,hA1,Ad⟩
 ·exact⟨rfl,hA1,Ad⟩
end Go.Pv
namespace Go.Pv
set_option linter.unusedVariables false
set_option linter.unusedSimpArgs false
variable {h:Hint} {O:jr} {Θ:db} {hn:Hn} {ops:Array Oper} {ret:aa} {Δ:Nat→Bool} {A B:St}
theorem Af (hB:aX Δ B):∀ (xs:List Operand) (Ts:List TypeId) (ps:List Pass) {A:St},B.length=A.length→aX Δ A→(∀ x∈xs,lI Δ x=true)→Mx Δ A B (fL Θ A xs Ts ps) (fL Θ (mix Δ A B) xs Ts ps)
 |[],_,_,A,hl,hA,_=>by simp only[fL];exact fN rfl hA rfl
 |x::xs,[],_,A,hl,hA,_=>by simp only[fL];exact aC
 |x::xs,T::Ts,[],A,hl,hA,_=>by simp only[fL];exact aC
 |x::xs,T::Ts,p::ps,A,hl,hA,hx=>by
  simp only[fL]
  cases p with
  |val=>
   simp only
   obtain⟨k1,k2⟩:=Af hB xs Ts ps hl hA (fun y hy=>hx y (by simp[hy]))
   rw[k1]
   cases ht:fL Θ A xs Ts ps with
   |none=>exact aC
   |some q=>obtain⟨c1,c2⟩:=k2 _ ht;exact fN rfl c1 c2
  |take=>
   simp only
   obtain⟨j1,j2⟩:=qU (Θ:=Θ) hl hA hB (hx x (by simp)) T
   rw[j1]
   cases hk:A.take Θ T x with
   |none=>exact aC
   |some q=>
    obtain⟨a,A1⟩:=q
    obtain⟨d1,d2⟩:=j2 _ hk
    simp only[Option.map_some]
    obtain⟨k1,k2⟩:=Af hB xs Ts ps (by rw[d2,hl]) d1 (fun y hy=>hx y (by simp[hy]))
    rw[k1]
    cases ht:fL Θ A1 xs Ts ps with
    |none=>exact aC
    |some q=>obtain⟨c1,c2⟩:=k2 _ ht;exact fN rfl c1 (by rw[c2,d2])
  |nH=>exact aC
theorem D4 (hl:B.length=A.length):∀ {cw:List H3},(∀ c∈cw,∀ t s p,c=.pl t s p→Δ s=true)→oN (mix Δ A B) cw=oN A cw
 |[],_=>rfl
 |c::r,hc=>by
  simp only[oN]
  rw[D4 hl (fun c' h'=>hc c' (by simp[h']))]
  have:GS (mix Δ A B) c=GS A c:=by
   cases c with
   |pl t s p=>simp only[GS];rw[lK hl (hc _ (by simp) t s p rfl)]
   |kv a=>rfl
  rw[this]
theorem Ag (hl:B.length=A.length) (hA:aX Δ A):∀ (xs:List Operand) (Ts:List TypeId) (l:List (Option TV)),(∀ x∈xs,lI Δ x=true)→reads Θ (mix Δ A B) xs Ts l=reads Θ A xs Ts l
 |[],_,_,_=>by simp[reads]
 |x::xs,[],_,_=>by simp[reads]
 |x::xs,T::Ts,[],_=>by simp[reads]
 |x::xs,T::Ts,p::ps,hx=>by
  simp only[reads]
  rw[Ag hl hA xs Ts ps (fun y hy=>hx y (by simp[hy])),iK hl (hx x (by simp))]
  cases p with
  |some a=>rfl
  |none=>
   simp only
   cases e:A.dM Θ T x with
   |none=>rfl
   |some a=>
    have ha:=gb hA (hx x (by simp)) e
    cases a with
    |k8 f cw=>
     simp only
     rw[D4 hl (fun c hc t s p ec=>ha s (by
      simp only[AV.refs,List.any_eq_true]
      exact⟨c,hc,by rw[ec];simp⟩))]
    |_=>simp only;rw[VY hl ha]
theorem Zp (hl:B.length=A.length) {x:Operand} (hx:lI Δ x=true):tz (mix Δ A B) x=tz A x:=by
 cases x with
 |tmp i=>simp only[tz];rw[kK hl hx]
 |_=>rfl
theorem Ah (hl:B.length=A.length):∀ (xs:List Operand) (l:List (Option TV)) (as:List Arg),(∀ x∈xs,lI Δ x=true)→iH (mix Δ A B) xs l as=iH A xs l as
 |[],_,_,_=>rfl
 |x::xs,[],_,_=>rfl
 |x::xs,p::ps,[],_=>rfl
 |x::xs,p::ps,r::rs,hx=>by simp only[iH,Ah hl xs ps rs (fun y hy=>hx y (by simp[hy])),Zp hl (hx x (by simp))]
def acy (Δ:Nat→Bool) (A B:St) (K K':St→Option aa):Prop:=∀ A1,aX Δ A1→A1.length=A.length→K' (mix Δ A1 B)=K A1
theorem wU (l:List TV):∀ s,(GU l).refs s=true→Δ s=true:=fun s hs=>by rw[DX] at hs;cases hs
theorem acz (hl:B.length=A.length) (hA:aX Δ A) (hB:aX Δ B) {o:Oper} {d:Nat} (mE:o.dst=some d) (hd:Δ d=true) {f:FuncId} {as:List Operand} {ts:List TypeId} (hx:∀ x∈as,lI Δ x=true) {K K':St→Option aa} (hK:acy Δ A B K K'):
  gA h O o f none as ts (mix Δ A B) K'=gA h O o f none as ts A K:=by
 unfold gA
 obtain⟨k1,k2⟩:=Af (Θ:=h.tab) hB as ts (O.sig f) hl hA hx
 rw[k1]
 cases ht:fL h.tab A as ts (O.sig f) with
 |none=>rfl
 |some q=>
  obtain⟨l,A1⟩:=q
  obtain⟨c1,c2⟩:=k2 _ ht
  have Ad:B.length=A1.length:=by rw[c2,hl]
  simp only[Option.map_some,qM]
  rw[Ag Ad c1 as ts l hx]
  cases reads h.tab A1 as ts l with
  |none=>rfl
  |some args=>
   simp only
   congr 1
   funext rt
   cases rt.refs with
   |cons _ _=>rfl
   |nil=>
    simp only
    rw[Ah Ad as l args hx,mE,sr Ad hB hd]
    rw[hK _ (jH c1 hd (wU _)) (by rw[b5,c2])]
theorem Rt (hl:B.length=A.length) (hA:aX Δ A) (hB:aX Δ B) {s:Nat} (hs:Δ s=true) (b:TV) (p:Path):(mix Δ A B).oO s b p=(A.oO s b p).map (fun S=>mix Δ S B)∧∀ S,A.oO s b p=some S→aX Δ S∧S.length=A.length:=by
 cases p with
 |nil=>
  simp only[St.oO]
  refine⟨by rw[sr hl hB hs];rfl,fun S e=>?_⟩
  injection e with e
  subst e
  exact⟨jH hA hs cy,b5 _ _ _⟩
 |cons st pp=>
  simp only[St.oO]
  rw[kK hl hs]
  cases A.at s with
  |v r ex=>
   simp only
   cases fW b (st::pp) r.t r.m r.x with
   |none=>exact⟨rfl,fun _ e=>by cases e⟩
   |some q=>
    simp only
    refine⟨by rw[sr hl hB hs];rfl,fun S e=>?_⟩
    injection e with e
    subst e
    exact⟨jH hA hs cy,b5 _ _ _⟩
  |_=>exact⟨rfl,fun _ e=>by cases e⟩
theorem acA (hl:B.length=A.length) (hA:aX Δ A) (hB:aX Δ B) {o:Oper} {d:Nat} (mE:o.dst=some d) (hd:Δ d=true) {f:FuncId} {j:Nat} {as:List Operand} {ts:List TypeId} (hx:∀ x∈as,lI Δ x=true) {K K':St→Option aa} (hK:acy Δ A B K K'):
  qO h O o f j as ts (mix Δ A B) K'=qO h O o f j as ts A K:=by
 unfold qO
 split
 case h_2=>rfl
 rename_i x T hxj _
 have hxx:=hx x (List.mem_of_getElem? hxj)
 rw[iK hl hxx]
 cases e:A.dM h.tab T x with
 |none=>rfl
 |some av=>
  simp only
  have ha:=gb hA hxx e
  obtain⟨k1,k2⟩:=G7 hl hA hB hxx ha
  rw[k1]
  cases hp:jD x av with
  |none=>cases A.dB x av<;>rfl
  |some sp=>
   obtain⟨s,p⟩:=sp
   have hs:Δ s=true:=by
    cases av with
    |v b ex=>
     cases x with
     |tmp i=>simp only[jD,Option.some.injEq,Prod.mk.injEq] at hp;rw[←hp.1];exact hxx
     |_=>simp[jD] at hp
    |al t s' p'=>simp only[jD,Option.some.injEq,Prod.mk.injEq] at hp;rw[←hp.1];exact ha _ mM
    |_=>simp[jD] at hp
   cases ht:A.dB x av with
   |none=>rfl
   |some q=>
    obtain⟨b,A1⟩:=q
    obtain⟨c1,c2⟩:=k2 _ ht
    have Ad:B.length=A1.length:=by rw[c2,hl]
    simp only[Option.map_some]
    cases (!b.m.bM&&eK b.t b.m) with
    |false=>rfl
    |true=>
     simp only[cond_true]
     rw[Ag Ad c1 as ts _ hx]
     cases reads h.tab A1 as ts ((List.replicate as.length none).set j (some ⟨b.t,iI b.t b.m 0,b.x⟩)) with
     |none=>rfl
     |some args=>
      simp only
      rw[Ah Ad as _ args hx]
      cases (qN b.t b.m||iH A1 as ((List.replicate as.length none).set j (some ⟨b.t,iI b.t b.m 0,b.x⟩)) args) with
      |false=>rfl
      |true=>
       simp only[cond_true]
       congr 1
       funext rt
       split
       case h_2=>rfl
       rename_i c _
       cases (rt.res.all fun d=>fu d.t d.m&&qn d.m) with
       |false=>rfl
       |true=>
        simp only[cond_true]
        split
        case isFalse=>rfl
        split
        case isFalse=>rfl
        obtain⟨r1,r2⟩:=Rt Ad c1 hB hs ⟨b.t,b.m,e9 b.t b.m b.x (‹c.t=b.t›▸c.x)⟩ p
        rw[r1]
        cases hr:A1.oO s ⟨b.t,b.m,e9 b.t b.m b.x (‹c.t=b.t›▸c.x)⟩ p with
        |none=>rfl
        |some A2=>
         obtain⟨d1,d2⟩:=r2 _ hr
         simp only[Option.map_some]
         rw[mE,sr (by rw[d2,c2,hl]) hB hd]
         exact hK _ (jH d1 hd (wU _)) (by rw[b5,d2,c2])
theorem nO (hl:B.length=A.length) (hA:aX Δ A) (hB:aX Δ B) {i:Nat} {o:Oper} (ho:ops[i]?=some o) (ht:dJ Δ o=true) {K K':St→Option aa} (hK:acy Δ A B K K'):
  aW h O ops i (mix Δ A B) K'=aW h O ops i A K:=by
 unfold dJ at ht
 simp only[Bool.and_eq_true] at ht
 obtain⟨⟨hg,hd⟩,hx⟩:=ht
 have hg:o.guard=none:=by
  cases hq:o.guard with
  |none=>rfl
  |some _=>rw[hq] at hg;cases hg
 by_cases bU:∃ T x y,o.op=.store T x y
 ·obtain⟨T,x,y,bO⟩:=bU
  have hdn:o.dst=none:=by
   cases hq:o.dst with
   |none=>rfl
   |some d=>unfold ai' at hd;rw[hq,bO] at hd;cases hd
  rw[bO] at hx
  simp only[Bool.and_eq_true] at hx
  have e1:∀ S K,aW h O ops i S K=match k9 h.tab S T x y with
    |some (g,S1)=>bif g then K (oI h.tab S S1 T y) else none
    |none=>none:=fun S K=>by
   unfold aW
   rw[ho]
   simp only[hg]
   unfold gB
   rw[bO]
   simp only[ev,bO,hdn]
   cases k9 h.tab S T x y with
   |none=>rfl
   |some q=>rfl
  have hm:=Zo (Θ:=h.tab) hl hA hB T hx.1 hx.2
  rw[e1,e1,hm.1]
  cases he:k9 h.tab A T x y with
  |none=>rfl
  |some q=>
   obtain⟨g,A1⟩:=q
   obtain⟨c1,c2⟩:=hm.2 _ he
   simp only[Option.map_some]
   obtain⟨s1,s2,s3⟩:=Rs (Θ:=h.tab) (A1:=A1) hl hA hB T hx.2 c2 c1
   rw[s1,hK _ s2 s3]
 obtain⟨d,mE⟩:∃ d,o.dst=some d:=by
  cases hq:o.dst with
  |none=>
   exfalso
   cases bO:o.op with
   |store T x y=>exact bU ⟨T,x,y,bO⟩
   |_=>simp[ai',hq,bO] at hd
  |some d=>exact⟨d,rfl⟩
 have hd:Δ d=true:=by
  cases bO:o.op with
  |store T x y=>exact absurd ⟨T,x,y,bO⟩ bU
  |_=>simpa[ai',mE,bO] using hd
 have key:∀ {Gu:St→zR},Mx Δ A B (Gu A) (Gu (mix Δ A B))→(∀ S K,aW h O ops i S K=match Gu S with
   |some (g,S1)=>bif g then K S1 else none
   |none=>none)→aW h O ops i (mix Δ A B) K'=aW h O ops i A K:=by
  intro Gu hm hs
  rw[hs,hs,hm.1]
  cases he:Gu A with
  |none=>rfl
  |some q=>
   obtain⟨g,A1⟩:=q
   obtain⟨c1,c2⟩:=hm.2 _ he
   simp only[Option.map_some]
   rw[hK A1 c1 c2]
 have Ig:∀ S K,aW h O ops i S K=gB h O o S K:=fun S K=>by
  unfold aW
  rw[ho]
  simp only[hg]
 split at hx
 ·rename_i T x y bO;exact absurd ⟨T,x,y,bO⟩ bU
 ·rename_i T l c bO
  simp only[Bool.and_eq_true] at hx
  refine key (Gu:=fun S=>ga h.tab S (some d) T l c) (GB hl hA hB hd T hx.1 hx.2) fun S K=>?_
  rw[Ig];unfold gB;rw[bO];simp only[ev,bO,mE];try rfl
 ·rename_i T bO
  refine key (Gu:=fun S=>oH h.tab h.hn S (some d) T) (Zn hl hA hB hd T) fun S K=>?_
  rw[Ig];unfold gB;rw[bO];simp only[ev,bO,mE];try rfl
 ·rename_i T n ps bO
  refine key (Gu:=fun S=>bG h.tab h.hn S (some d) T n ps.toList) (D3 hl hA hB hd T n (List.all_eq_true.1 hx)) fun S K=>?_
  rw[Ig];unfold gB;rw[bO];simp only[ev,bO,mE];try rfl
 ·rename_i T x bO
  refine key (Gu:=fun S=>fY h.tab S (some d) T x) (acw hl hA hB hd T hx) fun S K=>?_
  rw[Ig];unfold gB;rw[bO];simp only[ev,bO,mE];try rfl
 ·rename_i x bO
  refine key (Gu:=fun S=>oD h.tab S (some d) o.type x) (acx hl hA hB hd _ hx) fun S K=>?_
  rw[Ig];unfold gB;rw[bO];simp only[ev,bO,mE];try rfl
 ·rename_i x j bO
  refine key (Gu:=fun S=>fC S (some d) x j) (Mo hl hA hB hd hx j) fun S K=>?_
  rw[Ig];unfold gB;rw[bO];simp only[ev,bO,mE];try rfl
 ·rename_i op T x y T' bO
  simp only[Bool.and_eq_true,Bool.not_eq_true'] at hx
  obtain⟨h1,h2,h3⟩:=hx
  refine key (Gu:=fun S=>DK h.tab S (some d) op T x y) (ajg hl hA hB hd op T h1 h2) fun S K=>?_
  rw[Ig]
  unfold gB
  split
  ·rename_i e;rw[bO] at e;cases e
  ·rename_i e;rw[bO] at e;cases e
  ·rename_i e;rw[bO] at e;rw[bO] at h3;injection e with e1 e2 e3 e4 e5;subst e4;simp[oP] at h3
  ·rename_i e;rw[bO] at e;rw[bO] at h3;injection e with e1 e2 e3 e4 e5;subst e4;simp[oP] at h3
  ·simp only[ev,bO,mE];try rfl
 ·rename_i T x f bO
  refine key (Gu:=fun S=>fZ h.tab S (some d) T x f) (Gz hl hA hB hd T hx f) fun S K=>?_
  rw[Ig];unfold gB;rw[bO];simp only[ev,bO,mE];try rfl
 ·rename_i T x ix bO
  simp only[Bool.and_eq_true] at hx
  refine key (Gu:=fun S=>ca h.tab S (some d) T x ix) (GA hl hA hB hd T hx.1 hx.2) fun S K=>?_
  rw[Ig];unfold gB;rw[bO];simp only[ev,bO,mE];try rfl
 ·rename_i T T' x bO
  refine key (Gu:=fun S=>gg h.tab S (some d) T T' x) (Mq hl hA hB hd T T' hx) fun S K=>?_
  rw[Ig];unfold gB;rw[bO];simp only[ev,bO,mE];try rfl
 ·rename_i as ts bO
  have wV:=List.all_eq_true.1 hx
  refine key (Gu:=fun S=>match cc h.tab S (some d) ts.toList as.toList with
   |some r=>some r
   |none=>fD h.tab S (some d) ts.toList as.toList) ?_ fun S K=>?_
  ·have h1:=Rr (Θ:=h.tab) (ts:=ts.toList) hl hA hB hd wV
   have h2:=Mp (Θ:=h.tab) (ts:=ts.toList) hl hA hB hd wV
   refine⟨?_,fun q hq=>?_⟩
   ·show(match cc h.tab (mix Δ A B) (some d) ts.toList as.toList with
     |some r=>some r
     |none=>fD h.tab (mix Δ A B) (some d) ts.toList as.toList)=_
    rw[h1.1]
    cases cc h.tab A (some d) ts.toList as.toList with
    |none=>exact h2.1
    |some r=>rfl
   ·split at hq
    ·rename_i r hr
     injection hq with hq
     subst hq
     exact h1.2 _ hr
    ·exact h2.2 _ hq
  ·rw[Ig];unfold gB;rw[bO];simp only[ev,bO,mE];try rfl
 ·rename_i f as ts bO
  have wV:=List.all_eq_true.1 hx
  rw[Ig,Ig]
  unfold gB
  rw[bO]
  simp only
  cases uc (O.sig f) 0 with
  |none=>exact acz hl hA hB mE hd wV hK
  |some j=>exact acA hl hA hB mE hd wV hK
 ·cases hx
end Go.Pv
namespace Go.Pv
set_option linter.unusedVariables false
set_option linter.unusedSimpArgs false
variable {h:Hint} {O:jr} {Θ:db} {ops:Array Oper} {ret:aa} {Δ:Nat→Bool} {A B S:St} {K:St→Option aa}
theorem G8 {o:Oper} (ht:dJ Δ o=true):oP o.op=false:=by
 unfold dJ at ht
 simp only[Bool.and_eq_true] at ht
 have hx:=ht.2
 split at hx
 all_goals first |(rename_i bO;rw[bO];rfl) |(simp only[Bool.and_eq_true,Bool.not_eq_true'] at hx;exact hx.2.2) |cases hx
theorem Ru (hl:B.length=A.length) (hA:aX Δ A) (hB:aX Δ B):aX Δ (mix Δ A B):=fun i s hs=>by
 rw[jG hl] at hs
 cases hi:Δ i with
 |true=>rw[hi] at hs;rw[←hi];exact hA i s hs
 |false=>rw[hi] at hs;rw[←hi];exact hB i s hs
theorem Mr (d:List Nat):(fun i=>!Rc d i)=Zb d:=by funext i;simp[Rc]
theorem ui {d:List Nat}:aX (Rc d) S↔aX (Zb d) S:=
 ⟨fun h=>by have:=h.not;rwa [Mr] at this,fun h=>h.not⟩
theorem D5 (hS:aX Δ S) {i:Nat} {o:Oper} (ho:ops[i]?=some o) (ht:dJ Δ o=true) (c:St→Bool) (hc:∀ X,aX Δ X→c X=true):
  aW h O ops i S K=aW h O ops i S (fun X=>bif c X then K X else none):=by
 have h1:=nO (h:=h) (O:=O) (A:=S) (B:=S) rfl hS hS ho ht (K:=fun A1=>open Classical in if aX Δ A1 then K (mix Δ A1 S) else none) (K':=K) (fun A1 hA hl=>(if_pos hA).symm)
 have h2:=nO (h:=h) (O:=O) (A:=S) (B:=S) rfl hS hS ho ht (K:=fun A1=>open Classical in if aX Δ A1 then K (mix Δ A1 S) else none) (K':=fun X=>bif c X then K X else none) (fun A1 hA hl=>by
  show(bif c (mix Δ A1 S) then K (mix Δ A1 S) else none)=open Classical in if aX Δ A1 then K (mix Δ A1 S) else none
  rw[if_pos hA,hc _ (Ru (by rw[hl]) hA hS)];rfl)
 rw[D1] at h1 h2
 rw[h1,h2]
theorem Ms (hS:aX Δ S) {i:Nat} {o:Oper} (ho:ops[i]?=some o) (ht:dJ Δ o=true):
  aW h O ops i S K=aW h O ops i S (fun X=>bif Nat.beq X.length S.length then K X else none):=by
 have h1:=nO (h:=h) (O:=O) (A:=S) (B:=S) rfl hS hS ho ht (K:=fun A1=>K (mix Δ A1 S)) (K':=K) (fun A1 hA hl=>rfl)
 have h2:=nO (h:=h) (O:=O) (A:=S) (B:=S) rfl hS hS ho ht (K:=fun A1=>K (mix Δ A1 S)) (K':=fun X=>bif Nat.beq X.length S.length then K X else none) (fun A1 hA hl=>by
  show(bif Nat.beq (mix Δ A1 S).length S.length then K (mix Δ A1 S) else none)=K (mix Δ A1 S)
  rw[fM,hl,Nat.beq_refl];rfl)
 rw[D1] at h1 h2
 rw[h1,h2]
theorem G9 (hS:aX Δ S) {i j:Nat} {oi oj:Oper} (hi:ops[i]?=some oi) (hj:ops[j]?=some oj) (ti:dJ Δ oi=true) (tj:dJ (fun i=>!Δ i) oj=true):
  aW h O ops i S (fun S1=>aW h O ops j S1 K)=aW h O ops i S (fun A1=>aW h O ops j S (fun B1=>K (mix Δ A1 B1))):=by
 have h1:=nO (h:=h) (O:=O) (A:=S) (B:=S) rfl hS hS hi ti (K':=fun S1=>aW h O ops j S1 K) (K:=fun A1=>aW h O ops j S (fun B1=>K (mix Δ A1 B1))) (fun A1 hA hl=>by
  have h2:=nO (h:=h) (O:=O) (Δ:=fun i=>!Δ i) (A:=S) (B:=A1) hl hS.not hA.not hj tj (K':=K) (K:=fun B1=>K (mix Δ A1 B1)) (fun B1 hB hlB=>by rw[Ic (by rw[hl,hlB])])
  rw[Ic (by rw[hl])] at h2
  exact h2)
 rw[D1] at h1
 exact h1
theorem D6 (hO:nK O) (hS:aX Δ S) {i j:Nat} {oi oj:Oper} (hi:ops[i]?=some oi) (hj:ops[j]?=some oj) (ti:dJ Δ oi=true) (tj:dJ (fun i=>!Δ i) oj=true):
  aW h O ops i S (fun S1=>aW h O ops j S1 K)=aW h O ops j S (fun S1=>aW h O ops i S1 K):=by
 have tn:(fun i=>!(!Δ i))=Δ:=by funext i;simp
 rw[G9 hS hi hj ti tj,G9 (Δ:=fun i=>!Δ i) hS.not hj hi tj (by rw[tn];exact ti)]
 obtain⟨ri,h1⟩:=gZ (h:=h) (O:=O) (ops:=ops) hO i (fun o ho=>by rw[hi] at ho;injection ho with ho;subst ho;exact G8 ti) S
 obtain⟨rj,h2⟩:=gZ (h:=h) (O:=O) (ops:=ops) hO j (fun o ho=>by rw[hj] at ho;injection ho with ho;subst ho;exact G8 tj) S
 -- the lengths are the same
 have l1:=fun K=>Ms (h:=h) (O:=O) (K:=K) hS hi ti
 have l2:=fun K=>Ms (h:=h) (O:=O) (K:=K) hS.not hj tj
 cases ri with
 |none=>simp only[h1,h2,Option.bind_none];cases rj<;>rfl
 |some A1=>
  cases rj with
  |none=>simp only[h1,h2,Option.bind_none,Option.bind_some]
  |some B1=>
   simp only[h1,h2,Option.bind_some] at l1 l2 ⊢
   have hA:A1.length=S.length:=by
    have:=l1 (fun _=>some ⟨[],[]⟩)
    cases hq:Nat.beq A1.length S.length with
    |true=>exact Nat.eq_of_beq_eq_true hq
    |false=>rw[hq] at this;cases this
   have hB:B1.length=S.length:=by
    have:=l2 (fun _=>some ⟨[],[]⟩)
    cases hq:Nat.beq B1.length S.length with
    |true=>exact Nat.eq_of_beq_eq_true hq
    |false=>rw[hq] at this;cases this
   rw[Ic (by rw[hA,hB])]
theorem Zq {S:St} {d:Nat} {a:AV} (h:S.at d=a) (hd:a≠ .dead):S.set d a=S:=by
 refine ns (List.length_set) fun i=>?_
 rw[cQ]
 split
 ·rename_i hi
  rw[hi.1,h]
 ·rfl
theorem put_comm {S:St} {a b:Nat} {u v:AV} (Q2:a≠b) (hu:∀ d,u.refs d=false) (hv:∀ d,v.refs d=false):(S.put (some a) u).put (some b) v=(S.put (some b) v).put (some a) u:=by
 refine ns (by simp only[b5]) fun i=>?_
 have hV:∀ (S:St) (a b:Nat) (u:AV),a≠b→((S.put (some a) u).at b).zQ=(S.at b).zQ:=fun S a b u Q2=>by
  rw[dD,if_neg (fun e=>Q2 e.1.symm)]
  cases hr:(S.at b).refs a with
  |false=>rfl
  |true=>
   have:(S.at b).zQ=false:=by cases hx:S.at b<;>first |rfl |(rw[hx] at hr;simp[AV.refs] at hr)
   rw[this]
   cases (S.at a).zQ with
   |true=>rfl
   |false=>exact this
 simp only[dD,b5,hu,hv,cond_false]
 have hVa:=hV S b a v (Ne.symm Q2)
 have hVb:=hV S a b u Q2
 simp only[dD,hu,hv,cond_false] at hVa hVb
 rw[hVa,hVb]
 by_cases h1:i=a
 ·subst h1
  by_cases hl:i<S.length
  ·rw[if_neg (fun e=>Q2 e.1),if_pos ⟨rfl,hl⟩,if_pos ⟨rfl,hl⟩,hu];rfl
  ·rw[if_neg (fun e=>Q2 e.1),if_neg (fun e=>hl e.2),if_neg (fun e=>hl e.2),if_neg (fun e=>Q2 e.1),G5 (S:=S) (i:=i) (by omega)]
   simp[AV.refs]
 ·by_cases h2:i=b
  ·subst h2
   by_cases hl:i<S.length
   ·rw[if_pos ⟨rfl,hl⟩,if_neg (fun e=>h1 e.1),if_pos ⟨rfl,hl⟩,hv];rfl
   ·rw[if_neg (fun e=>hl e.2),if_neg (fun e=>h1 e.1),if_neg (fun e=>h1 e.1),if_neg (fun e=>hl e.2),G5 (S:=S) (i:=i) (by omega)]
    simp[AV.refs]
  ·rw[if_neg (fun e=>h2 e.1),if_neg (fun e=>h1 e.1),if_neg (fun e=>h1 e.1),if_neg (fun e=>h2 e.1)]
   have dr:∀ d,AV.dead.refs d=false:=fun _=>rfl
   cases hra:(S.at i).refs a<;>cases hrb:(S.at i).refs b<;>cases (S.at a).zQ<;>cases (S.at b).zQ<;>simp only[hra,hrb,dr,Bool.and_true,Bool.and_false,Bool.true_and,Bool.false_and,cond_true,cond_false]
theorem wW {S:St} {a x:Nat} {u t:AV} (VU:a≠x) (ht:∀ d,t.refs d=false) (hx:∀ d,(S.at x).refs d=false):List.set (S.put (some a) u) x t=St.put (S.set x t) (some a) u:=by
 refine ns (by simp only[b5,List.length_set]) fun i=>?_
 have h1:(St.at (S.set x t) a).zQ=(S.at a).zQ:=by rw[cQ,if_neg (fun e=>VU e.1)]
 rw[cQ,b5,dD,dD,List.length_set,h1]
 by_cases hi:i=x∧x<S.length
 ·rw[if_pos hi,if_neg (fun e=>VU (e.1.symm.trans hi.1)),cQ,if_pos hi,ht];rfl
 ·rw[if_neg hi,cQ,if_neg hi]
theorem VZ {i:Nat} {o:Oper} {a x p:Nat} (ho:ops[i]?=some o) (hg:o.guard=none) (hd:o.dst=some a) (bO:o.op=.extract (.tmp x) p) (S:St) (K:St→Option aa):aW h O ops i S K=match fC S (some a) (.tmp x) p with
  |some (g,S1)=>bif g then K S1 else none
  |none=>none:=by
 unfold aW
 rw[ho]
 simp only[hg]
 unfold gB
 rw[bO]
 simp only[ev,bO,hd]
 try rfl
theorem ajh {i j:Nat} {oi oj:Oper} (hi:ops[i]?=some oi) (hj:ops[j]?=some oj) (hx:exB oi oj=true) (S:St) (K:St→Option aa):
  aW h O ops i S (fun S1=>aW h O ops j S1 K)=aW h O ops j S (fun S1=>aW h O ops i S1 K):=by
 unfold exB at hx
 split at hx
 case h_2=>cases hx
 rename_i a b x p y q g1 g2 d1 d2 o1 o2
 simp only[Bool.and_eq_true,Bool.not_eq_true'] at hx
 obtain⟨e1,e2,e3,e4,e5⟩:=hx
 have e1:=Nat.eq_of_beq_eq_true e1
 subst e1
 have e2:p≠q:=fun e=>by rw[e,Nat.beq_refl] at e2;cases e2
 have e3:a≠b:=fun e=>by rw[e,Nat.beq_refl] at e3;cases e3
 have e4:a≠x:=fun e=>by rw[e,Nat.beq_refl] at e4;cases e4
 have e5:b≠x:=fun e=>by rw[e,Nat.beq_refl] at e5;cases e5
 have bf:∀ {a x:Nat},a≠x→Nat.beq a x=false:=fun {a x} nF=>by
  cases hq:Nat.beq a x with
  |false=>rfl
  |true=>exact absurd (Nat.eq_of_beq_eq_true hq) nF
 -- one extraction,on its own
 have one:∀ (S:St) (a p:Nat),a≠x→fC S (some a) (.tmp x) p=match S.at x with
   | .th l=>(match l.getD p none with
    |some u=>some (true,St.put (S.set x (.th (bif u.m.bM then l else l.set p none))) (some a) (.v u []))
    |none=>none)
   |_=>none:=fun S a p VU=>by
  unfold fC
  simp only
  cases dt:S.at x with
  |th l=>
   simp only
   cases l.getD p none with
   |none=>rfl
   |some u=>
    simp only
    cases u.m.bM with
    |true=>simp only[cond_true];rw[Zq dt (fun e=>by cases e)]
    |false=>simp only[cond_false,bf VU]
  |_=>rfl
 simp only[VZ hi g1 d1 o1,VZ hj g2 d2 o2,one _ _ _ e4,one _ _ _ e5]
 cases dt:S.at x with
 |th l=>
  simp only
  have hxl:x<S.length:=by
   refine Classical.byContradiction fun hl=>?_
   rw[G5 (S:=S) (i:=x) (Nat.le_of_not_lt hl)] at dt
   cases dt
  -- the tuple,behind the first
  have after:∀ (t:AV) (u:TV) (a:Nat),(∀ d,t.refs d=false)→a≠x→(St.put (S.set x t) (some a) (.v u [])).at x=t:=fun t u a ht VU=>by
   rw[dD,if_neg (fun e=>VU e.1.symm),cQ,if_pos ⟨rfl,hxl⟩,ht];rfl
  have nu:∀ (l:List (Option TV)) (p q:Nat) (c:Bool),p≠q→(bif c then l else l.set p none).getD q none=l.getD q none:=fun l p q c hpq=>by
   cases c with
   |true=>rfl
   |false=>simp only[cond_false,List.getD_eq_getElem?_getD];rw[List.getElem?_set_ne hpq]
  have Mt:∀ (l:List (Option TV)) (d:Nat),(AV.th l).refs d=false:=fun _ _=>rfl
  have nv:∀ (b:TV) (d:Nat),(AV.v b []).refs d=false:=fun _ _=>rfl
  cases hp:l.getD p none with
  |none=>
   cases hq:l.getD q none with
   |none=>rfl
   |some w=>
    simp only[cond_true,after _ _ _ (Mt _) e5,nu _ _ _ _ (Ne.symm e2),hp]
  |some u=>
   cases hq:l.getD q none with
   |none=>simp only[cond_true,after _ _ _ (Mt _) e4,nu _ _ _ _ e2,hq]
   |some w=>
    simp only[cond_true,after _ _ _ (Mt _) e4,after _ _ _ (Mt _) e5,nu _ _ _ _ e2,nu _ _ _ _ (Ne.symm e2),hp,hq]
    congr 1
    rw[wW e4 (Mt _) (by rw[cQ,if_pos ⟨rfl,hxl⟩];exact Mt _),wW e5 (Mt _) (by rw[cQ,if_pos ⟨rfl,hxl⟩];exact Mt _),List.set_set,List.set_set,put_comm e3 (nv _) (nv _)]
    congr 3
    cases u.m.bM<;>cases w.m.bM<;>simp only[cond_true,cond_false]
    rw[List.set_comm _ _ e2]
 |_=>rfl
theorem uj {ds:List (List Nat)}:kJ ds S=true↔∀ d∈ds,aX (Zb d) S:=by
 unfold kJ
 rw[List.all_eq_true]
 exact⟨fun h d hd=>iu.1 (h d hd),fun h d hd=>iu.2 (h d hd)⟩
theorem acB {ds:List (List Nat)} {o:Oper} {d:List Nat} (hd:d∈ds) (hs:DP ds o=true):dJ (Zb d) o=true∨dJ (Rc d) o=true:=by
 unfold DP at hs
 simpa using List.all_eq_true.1 hs d hd
theorem uk (hO:nK O) {ds:List (List Nat)} (hw:kJ ds S=true) {i:Nat} {o:Oper} (ho:ops[i]?=some o) (hs:DP ds o=true) (hn:oP o.op=false) (e:aW h O ops i S K=some ret):∃ X,(∀ K,aW h O ops i S K=K X)∧kJ ds X=true∧K X=some ret:=by
 obtain⟨ro,h1⟩:=gZ (h:=h) (O:=O) (ops:=ops) hO i (fun o' Gw=>by rw[ho] at Gw;injection Gw with Gw;subst Gw;exact hn) S
 cases ro with
 |none=>rw[h1] at e;cases e
 |some X=>
  refine⟨X,fun K=>h1 K,uj.2 fun d hd=>?_,by rw[h1] at e;exact e⟩
  have hS:=uj.1 hw d hd
  rcases acB hd hs with ht |ht
  ·have:=D5 (h:=h) (O:=O) (K:=fun _=>some ⟨[],[]⟩) hS ho ht (fun X=>jV (Zb d) X 0) (fun X hX=>iu.2 hX)
   simp only[h1,Option.bind_some] at this
   cases hc:jV (Zb d) X 0 with
   |true=>exact iu.1 hc
   |false=>rw[hc] at this;cases this
  ·have:=D5 (h:=h) (O:=O) (K:=fun _=>some ⟨[],[]⟩) (ui.2 hS) ho ht (fun X=>jV (Zb d) X 0) (fun X hX=>iu.2 (ui.1 hX))
   simp only[h1,Option.bind_some] at this
   cases hc:jV (Zb d) X 0 with
   |true=>exact iu.1 hc
   |false=>rw[hc] at this;cases this
theorem Zr (hO:nK O) {ds:List (List Nat)} (hw:kJ ds S=true) {i j:Nat} {oi oj:Oper} (hi:ops[i]?=some oi) (hj:ops[j]?=some oj) (hp:Zc ds oi oj=true∨exB oi oj=true):
  aW h O ops i S (fun S1=>aW h O ops j S1 K)=aW h O ops j S (fun S1=>aW h O ops i S1 K):=by
 rcases hp with hp |hp
 ·unfold Zc at hp
  obtain⟨d,hd,hp⟩:=List.any_eq_true.1 hp
  have hS:=uj.1 hw d hd
  simp only[Bool.or_eq_true,Bool.and_eq_true] at hp
  rcases hp with⟨h1,h2⟩ |⟨h1,h2⟩
  ·exact D6 hO hS hi hj h1 h2
  ·exact D6 hO (ui.2 hS) hi hj h1 (by rw[Mr];exact h2)
 ·exact ajh hi hj hp S K
theorem G' (hO:nK O) {ds:List (List Nat)} {j:Nat} {oj:Oper} (hj:ops[j]?=some oj):∀ (p r:List Nat) {S:St} {K:St→Option aa} {ret:aa},kJ ds S=true→(∀ x∈p,∃ ox,ops[x]?=some ox∧DP ds ox=true∧oP ox.op=false∧(Zc ds ox oj=true∨exB ox oj=true))→
  mK h O ops (p++j::r) S K=some ret→aW h O ops j S (fun S1=>mK h O ops (p++r) S1 K)=some ret
 |[],r,S,K,ret,hw,hp,e=>e
 |x::p,r,S,K,ret,hw,hp,e=>by
  obtain⟨ox,hx,hs,hn,hc⟩:=hp x (by simp)
  simp only[List.cons_append,mK] at e ⊢
  obtain⟨X,h1,h2,h3⟩:=uk hO hw hx hs hn e
  have h4:=G' hO hj p r h2 (fun y hy=>hp y (by simp[hy])) h3
  rw[←Zr hO hw hx hj hc,h1]
  exact h4
def arI (ops:Array Oper) (as:List Nat) (ds:List (List Nat)) (i j:Nat):Prop:=∃ oi oj,ops[i]?=some oi∧ops[j]?=some oj∧i≠j∧(Nat.testBit (bu i as 0 0) j=true∨Zc ds oi oj=true∨exB oi oj=true)
theorem nw {as:List Nat} {ds:List (List Nat)}:∀ {l:List Nat},qP ops as ds l=true↔l.Pairwise (arI ops as ds)
 |[]=>by simp[qP]
 |i::r=>by
  simp only[qP,Bool.and_eq_true,List.all_eq_true,List.pairwise_cons]
  rw[nw]
  refine and_congr ?_ Iff.rfl
  refine forall_congr' fun j=>?_
  refine imp_congr Iff.rfl ?_
  unfold arI
  cases hi:ops[i]? with
  |none=>simp
  |some oi=>
   cases hj:ops[j]? with
   |none=>simp
   |some oj=>
    simp only[Bool.and_eq_true,Bool.not_eq_true',Bool.or_eq_true,Option.some.injEq]
    constructor
    ·rintro⟨h1,h2⟩
     exact⟨oi,oj,rfl,rfl,(fun e=>by rw[e,Nat.beq_refl] at h1;cases h1),h2⟩
    ·rintro⟨_,_,rfl,rfl,h1,h2⟩
     refine⟨?_,h2⟩
     cases hq:Nat.beq i j with
     |false=>rfl
     |true=>exact absurd (Nat.eq_of_beq_eq_true hq) h1
end Go.Pv
namespace Go.Pv
set_option linter.unusedVariables false
set_option linter.unusedSimpArgs false
def zc:Ty→List Value
 | .int k=>[.int k 0] | .bool=>[.bool false] | .str=>[.string ByteArray.empty] | .sl _=>[.slice none 0 0] | .ptr _=>[.pointer none]
 | .pair a b=>zc a++zc b | .unit=>[] | .arr n t=>(List.replicate n (zc t)).flatten
def fS:Path→Ty→Option Ty
 |[],t=>some t
 | .fst::p,.pair a _=>fS p a
 | .snd::p,.pair _ b=>fS p b
 |_,_=>none
def veq:Value→Value→Bool
 | .int k n,.int k' n'=>decide (k=k')&&decide (n=n')
 | .bool a,.bool b=>a==b
 | .string a,.string b=>a.data.toList==b.data.toList
 | .slice none a b,.slice none c d=>Nat.beq a c&&Nat.beq b d
 | .pointer none,.pointer none=>true
 |_,_=>false
def Rv:List Value→List Value→Bool
 |[],[]=>true
 |a::r,b::s=>veq a b&&Rv r s
 |_,_=>false
theorem as' {a b:Value} (h:veq a b=true):a=b:=by
 unfold veq at h
 split at h<;>simp at h
 ·obtain⟨rfl,rfl⟩:=h;rfl
 ·subst h;rfl
 ·rename_i a b
  cases a;cases b
  simp at h
  rw[h]
 ·obtain⟨rfl,rfl⟩:=h;rfl
 ·rfl
theorem Ih:∀ {a b:List Value},Rv a b=true→a=b
 |[],[],_=>rfl
 |a::r,b::s,h=>by
  simp only[Rv,Bool.and_eq_true] at h
  rw[as' h.1,Ih h.2]
 |[],_::_,h=>by simp[Rv] at h
 |_::_,[],h=>by simp[Rv] at h
def zOK (t:Ty) (z:Value):Bool:=match isAgg t,z with
 |true,.agg cs=>Rv cs.toList (zc t)
 |true,_=>false
 |false,z=>Rv [z] (zc t)
theorem Zs {t:Ty} {z:Value} (h:zOK t z=true):ax t z (zc t):=by
 unfold zOK at h
 unfold ax
 split at h
 ·rename_i ha
  rw[if_pos ha,←Ih h]
 ·cases h
 ·rename_i ha
  rw[if_neg (by simp[ha]),←Ih h]
def kn (Θ:db) (ty:Ty) (n:Nat):List Field→Nat→Bool
 |[],_=>true
 |f::r,k=>(match fS (mI k n) ty with
  |some t=>Θ.is f.type t&&Nat.beq f.offset (aP (mI k n) ty)&&Nat.blt 0 t.size
  |none=>false)&&kn Θ ty n r (k+1)
def lU (P:Program) (Θ:db) (i:TI):Bool:=match i.ty,P.underlying i.T with
 | .int k,some (.int k')=>decide (k=k')
 | .bool,some .bool=>true
 | .str,some .string=>true
 | .sl t,some (.slice e)=>Nat.beq e i.e&&Θ.is e t&&Nat.blt 0 t.size
 | .pair _ _, some (.struct fs) => decide (fs.toList.map (·.type) = i.fs) && kn Θ i.ty fs.size fs.toList 0 && !P.eqGuardType P.depth i.T && !P.stoodInHeld i.T && fs.toList.all (fun f => f.name != "_")
 |_,_=>false
def arJ (i:TI) (inf:TypeInfo):Bool:=Nat.beq inf.size i.ty.size&&Nat.ble i.ty.size 9000&&Nat.ble inf.bytes (32*i.ty.size)&&Nat.ble inf.bytes 256&&Nat.blt 0 inf.bytes&&match inf.zero with
 |some z=>zOK i.ty z
 |none=>false
def Ty.ht:Ty→Nat
 | .pair a b=>max a.ht b.ht+1
 |_=>0
def uOK (i:TI):Bool:=Nat.ble i.ty.ht 9000&&match i.fs,i.ty with
 |[_],.pair _ .unit=>true
 |[_],_=>false
 |[],.pair _ _=>false
 |_,_=>true
def ata (P:Program) (Θ:db) (i:TI):Bool:=((match P.info? i.T with
 |some inf=>arJ i inf
 |none=>false)&&lU P Θ i)&&uOK i
def cN (P:Program) (Θ:db):Bool:=Θ.all (ata P Θ)
structure axC (P:Program) (i:TI):Prop where
 small:i.ty.size≤9000
 out:∃ inf z,P.info? i.T=some inf∧inf.size=i.ty.size∧inf.bytes≤32*i.ty.size∧inf.bytes≤256∧0<inf.bytes∧inf.zero=some z∧ax i.ty z (zc i.ty)
theorem wX {Θ:db} {T:TypeId} {i:TI} (h:Θ.find T=some i):i∈Θ∧i.T=T:=by
 induction Θ with
 |nil=>simp[db.find] at h
 |cons j r ih=>
  simp only[db.find] at h
  cases hb:Nat.beq j.T T with
  |true=>
   rw[hb] at h
   simp only[cond_true,Option.some.injEq] at h
   subst h
   exact⟨by simp,Nat.eq_of_beq_eq_true hb⟩
  |false=>
   rw[hb] at h
   simp only[cond_false] at h
   exact⟨List.mem_cons_of_mem _ (ih h).1,(ih h).2⟩
theorem cR {P:Program} {Θ:db} (hT:cN P Θ=true) {T:TypeId} {i:TI} (h:Θ.find T=some i):axC P i∧lU P Θ i=true∧i.T=T:=by
 have h1:=List.all_eq_true.1 hT i (wX h).1
 simp only[ata,Bool.and_eq_true] at h1
 refine⟨?_,h1.1.2,(wX h).2⟩
 have h2:=h1.1.1
 split at h2
 ·rename_i inf hi
  simp only[arJ,Bool.and_eq_true] at h2
  obtain⟨⟨⟨⟨⟨a,sm⟩,b⟩,b'⟩,b''⟩,c⟩:=h2
  split at c
  ·rename_i z hz
   exact⟨Nat.le_of_ble_eq_true sm,⟨inf,z,hi,Nat.eq_of_beq_eq_true a,Nat.le_of_ble_eq_true b,Nat.le_of_ble_eq_true b',Nat.lt_of_succ_le (Nat.le_of_ble_eq_true b''),hz,Zs c⟩⟩
  ·cases c
 ·cases h2
theorem arK {P:Program} {Θ:db} (hT:cN P Θ=true) {T:TypeId} {i:TI} (h:Θ.find T=some i):uOK i=true:=by
 have h1:=List.all_eq_true.1 hT i (wX h).1
 simp only[ata,Bool.and_eq_true] at h1
 exact h1.2
theorem dL {Θ:db} {T:TypeId} {t:Ty} (h:Θ.is T t=true):∃ i,Θ.find T=some i∧i.ty=t:=by
 unfold db.is at h
 split at h
 ·rename_i i hi;exact⟨i,hi,by simpa using h⟩
 ·cases h
theorem kL {P:Program} {Θ:db} {i:TI} {t:Ty} (h:lU P Θ i=true) (ht:i.ty=.sl t):P.underlying i.T=some (.slice i.e)∧Θ.is i.e t=true∧0<t.size:=by
 unfold lU at h
 rw[ht] at h
 split at h<;>simp_all
 obtain⟨⟨a,b⟩,c⟩:=h
 rw[←a]
 exact b
theorem wY {P:Program} {Θ:db} {i:TI} {k:IntKind} (h:lU P Θ i=true) (ht:i.ty=.int k):P.underlying i.T=some (.int k):=by
 unfold lU at h
 rw[ht] at h
 split at h<;>simp_all
theorem wZ {P:Program} {Θ:db} {i:TI} (h:lU P Θ i=true) (ht:i.ty=.bool):P.underlying i.T=some .bool:=by
 unfold lU at h
 rw[ht] at h
 split at h<;>simp_all
theorem oS {P:Program} {Θ:db} {i:TI} (h:lU P Θ i=true) (ht:i.ty=.str):P.underlying i.T=some .string:=by
 unfold lU at h
 rw[ht] at h
 split at h<;>simp_all
theorem lV {P : Program} {Θ : db} {i : TI} {a b : Ty} (h : lU P Θ i = true) (ht : i.ty = .pair a b) : ∃ fs, P.underlying i.T = some (.struct fs) ∧ fs.toList.map (·.type) = i.fs ∧ kn Θ i.ty fs.size fs.toList 0 = true ∧ P.eqGuardType P.depth i.T = false ∧ P.stoodInHeld i.T = false ∧ ∀ f ∈ fs, f.name ≠ "_" := by
 unfold lU at h
 rw[ht] at h
 split at h<;>simp_all
 intro f hf
 obtain⟨k,hk,rfl⟩:=Array.mem_iff_getElem.1 hf
 exact h.2 k hk
theorem w4 {P:Program} {Θ:db} {i:TI} (h:lU P Θ i=true):(∃ d,P.underlying i.T=some d)∧(∀ t,i.ty≠ .ptr t)∧(∀ n t,i.ty≠ .arr n t)∧i.ty≠ .unit:=by
 unfold lU at h
 split at h<;>simp_all
theorem iv {Θ:db} {ty:Ty} {n:Nat}:∀ {l:List Field} {k0:Nat},kn Θ ty n l k0=true→∀ k f,l[k]?=some f→∃ t,fS (mI (k0+k) n) ty=some t∧Θ.is f.type t=true∧f.offset=aP (mI (k0+k) n) ty∧0<t.size
 |[],_,_,k,f,h=>by simp at h
 |g::r,k0,iw,k,f,h=>by
  simp only[kn,Bool.and_eq_true] at iw
  cases k with
  |zero=>
   simp only[List.getElem?_cons_zero,Option.some.injEq] at h
   subst h
   have:=iw.1
   split at this
   ·rename_i t ht
    simp only[Bool.and_eq_true] at this
    exact⟨t,ht,this.1.1,Nat.eq_of_beq_eq_true this.1.2,Nat.lt_of_succ_le (Nat.le_of_ble_eq_true this.2)⟩
   ·cases this
  |succ k=>
   simp only[List.getElem?_cons_succ] at h
   have:=iv iw.2 k f h
   rw[show k0+1+k=k0+(k+1) from by omega] at this
   exact this
theorem gU {P:Program} {Θ:db} (hT:cN P Θ=true) {T:TypeId} {t:Ty} (h:Θ.is T t=true):∃ inf,P.info? T=some inf∧inf.size=t.size∧P.cellsOf T=t.size:=by
 obtain⟨i,hi,rfl⟩:=dL h
 obtain⟨⟨_,inf,z,h1,h2,_⟩,_,rfl⟩:=cR hT hi
 exact⟨inf,h1,h2,by simp[Program.cellsOf,h1,h2]⟩
theorem Rw {P:Program} {Θ:db} (hT:cN P Θ=true) {T:TypeId} {t:Ty} (h:Θ.is T t=true) (w:World):(Go.isAgg T).run P w=.ok (isAgg t) w:=by
 obtain⟨i,hi,rfl⟩:=dL h
 obtain⟨_,hu,rfl⟩:=cR hT hi
 have hn:=w4 hu
 unfold lU at hu
 unfold Go.isAgg
 split at hu<;>simp_all [underlying,program,isAgg,Sem.run]
end Go.Pv
namespace Go.Pv
set_option linter.unusedVariables false
set_option linter.unusedSimpArgs false
variable {w w':World} {A A':Nat→Prop} {H:Nat→Value} {tm qH:Nat→Value} {S S':St} {σ:Nat→Option Nat} {w0:World} {W0 Z:Nat→Prop} {a:Act} {own:Nat→Prop} {v:Value} {Θ:db}
theorem iL (g off n:Nat):(⟨g,off,none⟩:Addr).add n=⟨g,off+n,none⟩:=by
 unfold Addr.add
 split
 ·rename_i h;subst h;rfl
 ·rfl
theorem V0 {t:Ty} {xs:List t.I} {X:Option Addr} {c lo hi:Nat} (h:K w A (.sl t) xs [.slice X xs.length c]) (h1:lo≤hi) (h2:hi≤xs.length):
  K w A (.sl t) ((xs.take hi).drop lo) [.slice (if c=lo then X else X.map (·.add (lo*t.size))) (hi - lo) (c - lo)]:=by
 simp only[K] at h ⊢
 obtain⟨X',c',e,hc,h⟩:=h
 simp only[List.cons.injEq,Value.slice.injEq,and_true,true_and] at e
 obtain⟨rfl,rfl⟩:=e
 have hl:((xs.take hi).drop lo).length=hi - lo:=by rw[List.length_drop,List.length_take];omega
 refine⟨_,_,by rw[hl],by omega,fun hp=>?_⟩
 rw[hl] at hp
 obtain⟨g,off,cur,T,fr,rfl,hg,hw,ho,hj⟩:=h (by omega)
 have e1:(lo+(hi - lo))*t.size≤xs.length*t.size:=Nat.mul_le_mul_right _ (by omega)
 rw[Nat.add_mul] at e1
 refine⟨g,off+lo*t.size,cur,T,fr,?_,hg,hw,by rw[hl];omega,fun j Gs=>?_⟩
 rotate_left
 ·have oz:j<hi - lo:=by rw[←hl];exact Gs
  have:=hj (lo+j) (by omega)
  rw[show((xs.take hi).drop lo)[j]=xs[lo+j]'(by omega) from by simp]
  rw[show off+lo*t.size+j*t.size=off+(lo+j)*t.size from by rw[Nat.add_mul];omega]
  exact this
 ·rw[if_neg (by omega)]
  simp only[Option.map_some,iL]
theorem fE (h:a6 σ w0 W0 Z H S a w) {t:Ty} {s:Nat} {p:Path} {r:TV} {cM:List Value} (hr:Ref (bZ a) S t s p r cM):
  ∃ ex b cK cC,S.at s=.v r ex∧open_ p ex∧a8 p r.t r.m r.x=some b∧b.t=t∧M w (Av σ Z) H r.t r.m r.x cM (fun g=>σ g=some s) ex∧
   aS w p r.t cM=some cK∧(∀ g,cC g→σ g=some s)∧M w (Av σ Z) H b.t b.m b.x cK cC (wL p ex):=by
 obtain⟨⟨ex,h1,h2⟩,h3,⟨b,h4,h5⟩,h6⟩:=hr
 have hh:=h.holds s
 rw[h1] at hh
 obtain⟨cs,hm,hM⟩:=hh
 obtain rfl:=ez h6 hm
 obtain⟨cK,cC,k1,k2,k3⟩:=focus p hM h2 h3 h4
 exact⟨ex,b,cK,cC,h1,h2,h4,h5,hM,k1,k2,k3⟩
theorem c8 (h:a6 σ w0 W0 Z H S a w) {t:Ty} {s:Nat} {p:Path} {r:TV} {cM cs:List Value} {b:TV} (hr:Ref (bZ a) S t s p r cM) (hc:aS w p r.t cM=some cs) (hp:S.place s p=some b):
  b.t=t∧∃ cC,(∀ g,cC g→σ g=some s)∧M w (Av σ Z) H b.t b.m b.x cs cC []:=by
 obtain⟨ex,b',cK,cC,h1,h2,h3,h4,hM,k1,k2,k3⟩:=fE h hr
 unfold St.place at hp
 rw[h1] at hp
 simp only at hp
 cases gh:ex.all fun q=>!fX q p with
 |false=>rw[gh] at hp;cases hp
 |true=>
  rw[gh] at hp
  simp only[cond_true] at hp
  rw[h3] at hp
  injection hp with hp
  subst hp
  rw[k1] at hc
  injection hc with hc
  subst hc
  rw[tD (fun q hq=>by simpa using List.all_eq_true.1 gh q hq)] at k3
  exact⟨h4,cC,k2,k3⟩
theorem qV (h:a6 σ w0 W0 Z H S a w) {av:AV} {b:TV} (hh:Holds w (Av σ Z) H (bZ a) S own av v) (e:S.so av=some b):
  ∃ cs,ax b.t v cs∧K w (fun _=>False) b.t b.x cs∧(b.m.bM=true→K w (Av σ Z) b.t b.x cs):=by
 cases av with
 |v a ex=>
  cases ex with
  |cons _ _=>simp[St.so] at e
  |nil=>
   simp only[St.so,Option.some.injEq] at e
   subst e
   obtain⟨cs,h1,h2⟩:=hh
   exact⟨cs,h1,Rg h2,fun hk=>ft _ hk h2⟩
 |al t s p=>
  simp only[St.so] at e
  obtain⟨r,cM,cs,hr,hc,hm⟩:=hh
  obtain⟨rfl,cC,k2,k3⟩:=c8 h hr hc e
  exact⟨cs,hm,Rg k3,fun hk=>ft _ hk k3⟩
 |cut t s p lo hi=>
  simp only[St.so] at e
  obtain⟨r,cM,t',X,n,c,hr,rfl,hc,Zi,DZ,rfl⟩:=hh
  cases hp:S.place s p with
  |none=>rw[hp] at e;cases e
  |some b'=>
   obtain⟨ht,cC,k2,k3⟩:=c8 h hr hc hp
   obtain⟨bt,bm,bx⟩:=b'
   simp only at ht
   subst ht
   rw[hp] at e
   simp only[Option.some.injEq] at e
   subst e
   have hK:=Rg k3
   have hn:n=List.length bx:=by
    simp only[K] at hK
    obtain⟨_,_,e,_⟩:=hK
    simp only[List.cons.injEq,Value.slice.injEq,and_true] at e
    exact e.2.1
   subst hn
   exact⟨_,by simp[ax,isAgg],V0 hK Zi DZ,fun hk=>V0 (ft _ hk k3) Zi DZ⟩
 |_=>simp[St.so] at e
theorem gV (h:a6 σ w0 W0 Z H S a w) {T:TypeId} {x:Operand} {b:TV} (e:S.rd Θ T x=some b):
  ∃ cs,ax b.t (a.eval x) cs∧K w (fun _=>False) b.t b.x cs∧(b.m.bM=true→K w (Av σ Z) b.t b.x cs):=by
 unfold St.rd at e
 split at e
 ·rename_i av dz
  exact qV h (bC h dz) e
 ·cases e
theorem c9 {k:IntKind} {v:Value} {cs:List Value} {x:Int} (h:ax (.int k) v cs) (hk:K w A (.int k) x cs):v=.int k x:=by
 simp only[K] at hk;simp only[ax,isAgg] at h;subst hk;simpa using h.symm
theorem da {v:Value} {cs:List Value} {x:Bool} (h:ax .bool v cs) (hk:K w A .bool x cs):v=.bool x:=by
 simp only[K] at hk;simp only[ax,isAgg] at h;subst hk;simpa using h.symm
theorem eN {v:Value} {cs:List Value} {x:ByteArray} (h:ax .str v cs) (hk:K w A .str x cs):v=.string x:=by
 simp only[K] at hk;simp only[ax,isAgg] at h;subst hk;simpa using h.symm
theorem nP {t:Ty} {v:Value} {cs:List Value} {x:List t.I} (h:ax (.sl t) v cs) (hk:K w A (.sl t) x cs):∃ X c,v=.slice X x.length c∧cs=[.slice X x.length c]∧x.length≤c:=by
 have fV:=hk
 simp only[K] at fV
 obtain⟨X,c,rfl,hc,_⟩:=fV
 simp only[ax,isAgg] at h
 exact⟨X,c,by simpa using h.symm,rfl,hc⟩
theorem hY (h:a6 σ w0 W0 Z H S a w) {x:Operand} {n:Int} (e:S.kU Θ x=some n):∃ k,a.eval x=.int k n:=by
 unfold St.kU at e
 split at e
 ·rename_i k m n' hb
  injection e with e
  subst e
  obtain⟨cs,h1,h2,_⟩:=gV h hb
  exact⟨k,c9 h1 h2⟩
 ·cases e
theorem oT {t:Ty} {x:t.I} {v:Value} {cs:List Value} (h:ax t v cs) (hk:K w A t x cs):Holds w A H tm S (fun _=>False) (.v ⟨t,.k,x⟩ []) v:=⟨cs,h,fI t hk⟩
theorem cX (k:IntKind) (n:Int):Holds w A H tm S (fun _=>False) (.v ⟨.int k,.k,n⟩ []) (.int k n):=oT (cs:=[.int k n]) (by simp[ax,isAgg]) (by simp[K])
theorem cE (b:Bool):Holds w A H tm S (fun _=>False) (.v ⟨.bool,.k,b⟩ []) (.bool b):=oT (cs:=[.bool b]) (by simp[ax,isAgg]) (by simp[K])
theorem Ha (b:ByteArray):Holds w A H tm S (fun _=>False) (.v ⟨.str,.k,b⟩ []) (.string b):=oT (cs:=[.string b]) (by simp[ax,isAgg]) (by simp[K])
end Go.Pv
namespace Go.Pv
set_option linter.unusedVariables false
set_option linter.unusedSimpArgs false
variable {P:Program} {w w':World} {A A':Nat→Prop} {H:Nat→Value} {tm qH:Nat→Value} {S S':St} {σ:Nat→Option Nat} {w0:World} {W0 Z:Nat→Prop} {a:Act} {own:Nat→Prop} {v:Value} {Θ:db} {dst:Option Nat} {g:Bool}
def Ii (P:Program) (w0:World) (W0 Z:Nat→Prop) (H:Nat→Value) (S':St) (a:Act) (dst:Option Nat) (w:World) (s:Sem Next):Prop:=
 ∃ w' v,(s.run P w=.ok (.value v) w'∨(v=undef∧s.run P w=.ok .skip w'))∧Rel w0 W0 Z H S' (a.put dst v) w'
def Ext (w w':World):Prop:=∀ g,g<w.heap.size→w'.heap[g]?=w.heap[g]?
theorem Ext.refl (w:World):Ext w w:=fun _ _=>rfl
theorem Ext.stays (h:Ext w w'):aU w w' A A:=⟨fun g _ hg=>h g hg,fun _ _ h=>h⟩
def gG (P:Program) (w0:World) (W0 Z:Nat→Prop) (H:Nat→Value) (S':St) (a:Act) (dst:Option Nat) (w:World) (s:Sem Next):Prop:=
 ∃ v,(∀ w2,Ext w w2→s.run P w2=.ok (.value v) w2)∧Rel w0 W0 Z H S' (a.put dst v) w
theorem gG.axD {s:Sem Next} (h:gG P w0 W0 Z H S' a dst w s):Ii P w0 W0 Z H S' a dst w s:=by
 obtain⟨v,h1,h2⟩:=h
 exact⟨w,v,.inl (h1 w (Ext.refl w)),h2⟩
theorem cv {s:Sem Next} {av:AV} (h:a6 σ w0 W0 Z H S a w) (hr:∀ w2,Ext w w2→s.run P w2=.ok (.value v) w2) (hv:Holds w (Av σ Z) H (bZ a) S (fun _=>False) av v):
  gG P w0 W0 Z H (S.put dst av) a dst w s:=⟨v,hr,_,h.pure hv⟩
def lW (P:Program) (w0:World) (W0 Z:Nat→Prop) (H:Nat→Value) (S':St) (a:Act) (dst:Option Nat) (w:World) (s:Sem Next):Prop:=
 ∃ v,(∀ w2,s.run P w2=.ok (.value v) w2)∧Rel w0 W0 Z H S' (a.put dst v) w
theorem lW.q {s:Sem Next} (h:lW P w0 W0 Z H S' a dst w s):gG P w0 W0 Z H S' a dst w s:=by
 obtain⟨v,h1,h2⟩:=h
 exact⟨v,fun w2 _=>h1 w2,h2⟩
theorem cd {s:Sem Next} {av:AV} (h:a6 σ w0 W0 Z H S a w) (hr:∀ w2,s.run P w2=.ok (.value v) w2) (hv:Holds w (Av σ Z) H (bZ a) S (fun _=>False) av v):
  lW P w0 W0 Z H (S.put dst av) a dst w s:=⟨v,hr,_,h.pure hv⟩
def scalar:Ty→Bool
 | .int _=>true | .bool=>true | .str=>true |_=>false
theorem D7 {H6:Nat→Prop} {tm1:Nat→Value} {S2:St} {r:TV} {v1 v2:Value} (hs:scalar r.t=true) (h1:Holds w A H tm S own (.v r []) v1) (h2:Holds w' A' H tm1 S2 H6 (.v r []) v2):v1=v2:=by
 obtain⟨rt,rm,rx⟩:=r
 obtain⟨cs,a1,a2⟩:=h1
 obtain⟨cK,b1,b2⟩:=h2
 cases rt<;>simp[scalar] at hs<;>simp only[M] at a2 b2
 ·rw[c9 a1 a2.2,c9 b1 b2.2]
 ·rw[da a1 a2.2,da b1 b2.2]
 ·rw[eN a1 a2.2,eN b1 b2.2]
theorem oU (h:a6 σ w0 W0 Z H S a w) {T:TypeId} {x:Operand} {a' av:AV} (ho:S.dM Θ T x=some a') (hc:S.copy x a'=some av):
  Holds w (Av σ Z) H (bZ a) S (fun _=>False) av (a.eval x):=by
 have hh:=bC h ho
 cases a' with
 |v b ex=>
  simp only[St.copy] at hc
  cases hk:b.m.bM with
  |true=>
   simp only[hk,cond_true,Option.some.injEq] at hc
   subst hc
   obtain⟨cs,h1,h2⟩:=hh
   obtain⟨bt,bm,bx⟩:=b
   refine⟨cs,h1,?_⟩
   exact nE hk (ft _ hk h2)
  |false=>
   simp only[hk,cond_false] at hc
   cases x with
   |tmp i=>
    simp only[Option.some.injEq] at hc
    subst hc
    simp only[St.dM,Option.some.injEq] at ho
    obtain⟨cs,h1,h2⟩:=hh
    exact⟨b,cs,cs,⟨⟨ex,ho,fun q _ s r e=>by cases q<;>simp at e⟩,trivial,⟨b,rfl,rfl⟩,h1⟩,rfl,h1⟩
   |const c=>
    cases ex with
    |cons _ _=>simp at hc
    |nil=>
     simp only[Option.some.injEq] at hc
     subst hc
     obtain⟨cs,h1,h2⟩:=hh
     exact⟨cs,h1,aJ (aU.refl _ _) _ (fun _ _ _=>rfl) (fun g hg _=>by obtain⟨i,hi,_⟩:=hg;cases hi) (fun _ h=>h) h2⟩
   |func f=>
    cases ex with
    |cons _ _=>simp at hc
    |nil=>simp[St.dM] at ho
   |global f=>
    cases ex with
    |cons _ _=>simp at hc
    |nil=>simp[St.dM] at ho
 |dead=>simp[St.copy] at hc
 |th l=>simp[St.copy] at hc
 |undef=>simp only[St.copy,Option.some.injEq] at hc;subst hc;exact hh
 |al t s p=>simp only[St.copy,Option.some.injEq] at hc;subst hc;exact hh
 |ad t s p=>simp only[St.copy,Option.some.injEq] at hc;subst hc;exact hh
 |cut t s p lo hi=>simp only[St.copy,Option.some.injEq] at hc;subst hc;exact hh
 |k8 f c=>simp only[St.copy,Option.some.injEq] at hc;subst hc;exact hh
theorem aji (h:a6 σ w0 W0 Z H S a w) {o:Oper} {x:Operand} (ho:o.op=.move x) (hnt:∀ l,S.dM Θ o.type x≠some (.th l)) (e:oD Θ S o.dst o.type x=some (true,S')):lW P w0 W0 Z H S' a o.dst w (execOp a.eval o):=by
 unfold oD at e
 split at e
 ·rename_i l hl
  exact absurd hl (hnt l)
 ·rename_i a' _ ha
  split at e
  ·rename_i av hv
   injection e with e
   injection e with _ e
   subst e
   exact cd h (fun w2=>by simp only[execOp,ho];rfl) (oU h ha hv)
  ·cases e
 ·cases e
theorem acC {op:BinOp} {k k':IntKind} {x y:Int} {r:TV} (T:TypeId) (hk:k=k'∨op=.shl∨op=.shr) (e:ai5 op k x y=some (true,r)):
  ∃ v,(binOp op T (.int k x) (.int k' y)).run P w=.ok v w∧Holds w A H tm S (fun _=>False) (.v r []) v:=by
 cases op<;>simp only[ai5,Option.some.injEq,Prod.mk.injEq,reduceCtorEq,true_and] at e
 case add=>
  obtain rfl:k=k':=by simpa using hk
  subst e;exact⟨_,by simp[binOp,Op.intArith],cX _ _⟩
 case sub=>
  obtain rfl:k=k':=by simpa using hk
  subst e;exact⟨_,by simp[binOp,Op.intArith],cX _ _⟩
 case mul=>
  obtain rfl:k=k':=by simpa using hk
  subst e;exact⟨_,by simp[binOp,Op.intArith],cX _ _⟩
 case quo=>
  obtain rfl:k=k':=by simpa using hk
  obtain⟨e0,rfl⟩:=e
  have h0: ¬y=0:=by simpa using e0
  exact⟨_,by simp[binOp,Op.intDiv,h0],cX _ _⟩
 case rem=>
  obtain rfl:k=k':=by simpa using hk
  obtain⟨e0,rfl⟩:=e
  have h0: ¬y=0:=by simpa using e0
  exact⟨_,by simp[binOp,Op.intDiv,h0],cX _ _⟩
 case and=>
  obtain rfl:k=k':=by simpa using hk
  subst e;exact⟨_,by simp[binOp,Op.intBits],cX _ _⟩
 case or=>
  obtain rfl:k=k':=by simpa using hk
  subst e;exact⟨_,by simp[binOp,Op.intBits],cX _ _⟩
 case xor=>
  obtain rfl:k=k':=by simpa using hk
  subst e;exact⟨_,by simp[binOp,Op.intBits],cX _ _⟩
 case eql=>
  obtain rfl:k=k':=by simpa using hk
  subst e;exact⟨_,by simp[binOp,Op.intCmp],cE _⟩
 case neq=>
  obtain rfl:k=k':=by simpa using hk
  subst e;exact⟨_,by simp[binOp,Op.intCmp],cE _⟩
 case lss=>
  obtain rfl:k=k':=by simpa using hk
  subst e;exact⟨_,by simp[binOp,Op.intCmp],cE _⟩
 case leq=>
  obtain rfl:k=k':=by simpa using hk
  subst e;exact⟨_,by simp[binOp,Op.intCmp],cE _⟩
 case gtr=>
  obtain rfl:k=k':=by simpa using hk
  subst e;exact⟨_,by simp[binOp,Op.intCmp],cE _⟩
 case geq=>
  obtain rfl:k=k':=by simpa using hk
  subst e;exact⟨_,by simp[binOp,Op.intCmp],cE _⟩
 case shl=>
  obtain⟨e0,rfl⟩:=e
  have h0: ¬y<0:=by
   have:0≤y:=by simpa using e0
   omega
  exact⟨_,by simp[binOp,Op.shift,h0],cX _ _⟩
 case shr=>
  obtain⟨e0,rfl⟩:=e
  have h0: ¬y<0:=by
   have:0≤y:=by simpa using e0
   omega
  exact⟨_,by simp[binOp,Op.shift,h0],cX _ _⟩
theorem acD {op:BinOp} {x y:ByteArray} {r:TV} (T:TypeId) (e:ai6 op x y=some (true,r)):
  ∃ v,(binOp op T (.string x) (.string y)).run P w=.ok v w∧Holds w A H tm S (fun _=>False) (.v r []) v:=by
 cases op<;>simp only[ai6,Option.some.injEq,Prod.mk.injEq,reduceCtorEq,true_and] at e
 case add=>
  obtain⟨e0,rfl⟩:=e
  have h0:x.size+y.size≤9223372036854775807:=by simpa using e0
  refine⟨_,?_,Ha _⟩
  rw[binOp_string_add]
  simp only[Op.stringOp,IntKind.max_i64]
  rw[if_neg (by omega)]
  rfl
 case eql=>subst e;exact⟨_,by rw[binOp_string_eql];rfl,cE _⟩
 case neq=>subst e;exact⟨_,by rw[binOp_string_neq];rfl,cE _⟩
theorem Mu {op:UnOp} {b r:TV} {v:Value} {cs:List Value} (hm:ax b.t v cs) (hK:K w (fun _=>False) b.t b.x cs) (e:ai7 op b=some r):
  ∃ u,(Op.unary op v).run P w=.ok u w∧Holds w A H tm S (fun _=>False) (.v r []) u:=by
 unfold ai7 at e
 split at e
 ·injection e with e;subst e
  obtain rfl:=da hm hK
  exact⟨_,rfl,cE _⟩
 ·injection e with e;subst e
  obtain rfl:=c9 hm hK
  exact⟨_,rfl,cX _ _⟩
 ·injection e with e;subst e
  obtain rfl:=c9 hm hK
  exact⟨_,by simp[Op.unary,Op.intBits],cX _ _⟩
 ·cases e
theorem axE (h:a6 σ w0 W0 Z H S a w) {o:Oper} {op:UnOp} {T:TypeId} {x:Operand} (ho:o.op=.unOp op T x) (e:as4 Θ S o.dst op x=some (true,S')):gG P w0 W0 Z H S' a o.dst w (execOp a.eval o):=by
 unfold as4 at e
 split at e
 ·rename_i b hb
  split at e
  ·rename_i r hr
   injection e with e;injection e with _ e;subst e
   obtain⟨cs,h1,h2,_⟩:=gV h hb
   obtain⟨u,h3,h4⟩:=Mu (P:=P) (A:=Av σ Z) (H:=H) (tm:=bZ a) (S:=S) h1 h2 hr
   have hsc:scalar r.t=true:=by
    unfold ai7 at hr
    split at hr<;>first |(injection hr with hr;subst hr;rfl) |cases hr
   refine cv h (fun w2 hw=>?_) h4
   obtain⟨u2,k3,k4⟩:=Mu (w:=w2) (P:=P) (A:=Av σ Z) (H:=H) (tm:=bZ a) (S:=S) h1 (bV hw.stays _ h2) hr
   rw[D7 hsc h4 k4]
   simp[execOp,ho,k3]
  ·cases e
 ·cases e
theorem D8 (hT:cN P Θ=true) (h:a6 σ w0 W0 Z H S a w) {o:Oper} {T T':TypeId} {x:Operand} (ho:o.op=.convert T T' x) (hk:(match Θ.find T' with
  |some i=>(match i.ty with
   | .int _=>true
   |_=>false)
  |none=>false)=true) (e:gg Θ S o.dst T T' x=some (true,S')):lW P w0 W0 Z H S' a o.dst w (execOp a.eval o):=by
 unfold gg at e
 split at e
 ·rename_i k m n i _ k' _ _ hb hi hj
  injection e with e;injection e with _ e;subst e
  obtain⟨cs,h1,h2,_⟩:=gV h hb
  have hv:=c9 h1 h2
  obtain⟨_,hu,rfl⟩:=cR hT hi
  obtain⟨_,su,hT'⟩:=cR hT hj
  obtain⟨d,hd⟩:=(w4 hu).1
  have V1:=wY su rfl
  rw[hT'] at V1
  refine cd h (v:=.int k' (k'.wrap n)) (fun w2=>?_) (cX _ _)
  simp[execOp,ho,hv,convert,run_underlying hd,run_underlying V1,Conv.intToInt]
 ·rename_i hj
  rw[hj] at hk
  cases hk
 ·cases e
theorem Mv (hT:cN P Θ=true) (h:a6 σ w0 W0 Z H S a w) {o:Oper} {T T':TypeId} {x:Operand} (ho:o.op=.convert T T' x) (e:gg Θ S o.dst T T' x=some (true,S')):gG P w0 W0 Z H S' a o.dst w (execOp a.eval o):=by
 have e0:=e
 unfold gg at e
 split at e
 ·rename_i hj
  exact(D8 hT h ho (by rw[hj]) e0).q
 ·rename_i m xs _ _ _ _ _ _ hb hi hj
  injection e with e;injection e with _ e;subst e
  obtain⟨cs,h1,h2,_⟩:=gV h hb
  obtain⟨X,c,hv,rfl,hc⟩:=nP h1 h2
  obtain⟨_,hu,hT0⟩:=cR hT hi
  obtain⟨_,su,hT'⟩:=cR hT hj
  obtain⟨hd,he,_⟩:=kL hu rfl
  have V1:=oS su rfl
  obtain⟨ie,hie,fc⟩:=dL he
  obtain⟨_,hue,hTe⟩:=cR hT hie
  have hde:=wY hue fc
  simp only at hT0 hT' hd V1
  rw[hT0] at hd
  rw[hT'] at V1
  rw[hTe] at hde
  refine cv h (v:=.string (bytesOf xs)) (fun w2 hw=>?_) ⟨[.string (bytesOf xs)],by simp[ax,isAgg],by simp[M,K,Md.bM]⟩
  have hK:=bV hw.stays _ h2
  simp only[execOp,ho,hv,Sem.run_bind]
  rw[run_convert_bytes_string w2 T T' _ X xs.length c hd hde V1]
  simp only[K] at hK
  obtain⟨X',c',e1,_,hx⟩:=hK
  simp only[List.cons.injEq,Value.slice.injEq,and_true] at e1
  obtain⟨rfl,_,rfl⟩:=e1
  by_cases h0:0<xs.length
  ·obtain⟨g,off,cur,T2,fr,rfl,_,tk,hlen,um⟩:=hx h0
   rw[run_bytesToString w2 ⟨g,off,none⟩ xs.length c xs ?_]
   ·simp[bytesOf,Sem.run_pure]
   ·have:=run_loadCells_list (P:=P) (w:=w2) ⟨g,off,none⟩ (xs.map (Value.int .u8)) (fun j v hj=>?_)
    ·rwa [List.length_map] at this
    ·rw[List.getElem?_map] at hj
     cases oz:xs[j]? with
     |none=>rw[oz] at hj;cases hj
     |some n=>
      rw[oz] at hj
      simp only[Option.map_some,Option.some.injEq] at hj
      subst hj
      have sv:=(List.getElem?_eq_some_iff.1 oz).1
      have h3:=um j sv
      have hn:xs[j]=n:=(List.getElem?_eq_some_iff.1 oz).2
      simp only[K,Ty.size,Nat.mul_one] at h3
      rw[hn] at h3
      have h4:(cur.toList.drop (off+j)).head?=some (.int .u8 n):=by
       cases hd:cur.toList.drop (off+j) with
       |nil=>rw[hd] at h3;simp at h3
       |cons y r=>rw[hd] at h3;simp at h3;simp[h3]
      rw[List.head?_drop] at h4
      rw[Addr.add_lit]
      simp only[World.cell?,tk]
      rw[←Array.getElem?_toList,h4]
      rfl
  ·have:xs=[]:=List.eq_nil_of_length_eq_zero (by omega)
   subst this
   cases X with
   |none=>simp[Conv.bytesToString,bytesOf,Sem.run_pure]
   |some A=>
    show((Conv.bytesToString (Value.slice (some A) 0 c)).run P w2).andThen _=_
    rw[run_bytesToString w2 A 0 c [] (by simpa using run_loadCells_list (P:=P) (w:=w2) A [] (fun j v hj=>by simp at hj))]
    simp[bytesOf,Sem.run_pure]
 ·cases e
theorem Zt (x y:ByteArray):(x==y)=(x.toList==y.toList):=beq_toListBytes x y
theorem Hb {t:Ty} (h:isAgg t=false):t.size=1:=by cases t<;>simp[isAgg] at h<;>rfl
theorem nQ (hT:cN P Θ=true) {T:TypeId} {t:Ty} (ht:Θ.is T t=true) {cs:List Value} {off:Nat} (hlen:off+t.size≤cs.length):
  ∃ u,(part T cs.toArray off).run P w=.ok u w∧ax t u ((cs.drop off).take t.size):=by
 have Rl:=Rw hT ht w
 obtain⟨inf,s1,s2,_⟩:=gU hT ht
 have hso:(sizeOf T).run P w=.ok t.size w:=by simp[sizeOf,typeInfo,s1,s2]
 cases hca:isAgg t with
 |true=>
  refine⟨.agg (cs.toArray.extract off (off+t.size)),?_,?_⟩
  ·rw[hca] at Rl
   unfold part
   simp only[Sem.run_bind,Rl,Result.andThen_ok,if_true,hso]
   rfl
  ·unfold ax
   rw[if_pos hca]
   congr 1
   apply Array.toList_inj.1
   rw[Array.toList_extract,List.toList_toArray,List.toList_toArray,List.extract_eq_drop_take']
   rw[List.drop_take,Nat.add_sub_cancel_left]
 |false=>
  have h1:=Hb hca
  have Rx:off<cs.length:=by omega
  refine⟨cs[off],?_,?_⟩
  ·rw[hca] at Rl
   unfold part
   simp only[Sem.run_bind,Rl,Result.andThen_ok,if_neg Bool.false_ne_true]
   rw[List.getElem?_toArray,List.getElem?_eq_getElem Rx]
   rfl
  ·unfold ax
   rw[if_neg (by rw[hca];exact Bool.false_ne_true),h1,List.drop_eq_getElem_cons Rx,List.take_succ_cons,List.take_zero]
theorem Mw:∀ (p q:Path) (t:Ty),fS (p++q) t=(fS p t).bind (fS q):=by
 intro p
 induction p with
 |nil=>intro q t;rfl
 |cons s p ih=>intro q t;cases s<;>cases t<;>first |rfl |exact ih q _
theorem D9:∀ (p q:Path) (t u:Ty),fS p t=some u→aP (p++q) t=aP p t+aP q u:=by
 intro p
 induction p with
 |nil=>intro q t u h;simp only[fS,Option.some.injEq] at h;subst h;simp[aP]
 |cons s p ih=>
  intro q t u h
  cases s<;>cases t<;>simp only[fS,reduceCtorEq] at h
  ·simp only[List.cons_append,aP];exact ih q _ u h
  ·simp only[List.cons_append,aP];rw[ih q _ u h];omega
theorem atb {k n:Nat} (h2:2≤n):mI k n=if k+1=n then List.replicate k .snd else List.replicate k .snd++[.fst]:=by
 unfold mI
 have h1:Nat.beq n 1=false:=by
  cases hb:Nat.beq n 1 with
  |false=>rfl
  |true=>have:=Nat.eq_of_beq_eq_true hb;omega
 by_cases hkn:k+1=n
 ·rw[if_pos hkn,hkn,Nat.beq_refl,h1];rfl
 ·have:Nat.beq (k+1) n=false:=by
   cases hb:Nat.beq (k+1) n with
   |false=>rfl
   |true=>exact absurd (Nat.eq_of_beq_eq_true hb) hkn
  rw[if_neg hkn,this];rfl
theorem sw {t:Ty} {v:Value} {cs:List Value} (ha:isAgg t=true) (h:ax t v cs):v=.agg cs.toArray:=by simpa[ax,ha] using h
theorem w5 (hT:cN P Θ=true):∀ (d:Nat) (t:Ty) {T:TypeId} {x y:t.I} {r:Bool} {cs cK:List Value} {u v:Value},Θ.is T t=true→L8 t x y=some r→ax t u cs→ax t v cK→K w (fun _=>False) t x cs→K w (fun _=>False) t y cK→t.ht<d→
  (Op.equalIn d T u v).run P w=.ok r w
 |0,_,_,_,_,_,_,_,_,_,_,_,_,_,_,_,hd=>absurd hd (Nat.not_lt_zero _)
 |d+1,t,T,x,y,r,cs,cK,u,v,hT1,he,hu,hv,hx,hy,hd=>by
  obtain⟨i,hi,fc⟩:=dL hT1
  obtain⟨_,GC,h3⟩:=cR hT hi
  cases t with
  |int k=>
   have su:=wY GC fc
   rw[h3] at su
   simp only[L8,Option.some.injEq] at he
   subst he
   obtain rfl:=c9 hu hx
   obtain rfl:=c9 hv hy
   rw[run_equalIn_int w d T k k _ _ su]
   congr 1
  |bool=>
   have su:=wZ GC fc
   rw[h3] at su
   simp only[L8,Option.some.injEq] at he
   subst he
   obtain rfl:=da hu hx
   obtain rfl:=da hv hy
   exact run_equalIn_bool' w d T _ _ su
  |str=>
   have su:=oS GC fc
   rw[h3] at su
   simp only[L8,Option.some.injEq] at he
   subst he
   obtain rfl:=eN hu hx
   obtain rfl:=eN hv hy
   rw[run_equalIn_string w d T _ _ su,Zt]
  |unit=>exact absurd fc (w4 GC).2.2.2
  |sl t=>simp[L8] at he
  |ptr t=>simp[L8] at he
  |arr n t=>simp[L8] at he
  |pair pa pb=>
   obtain⟨fs,Zu,hft,iw,hg,hsh,hnb⟩:=lV GC fc
   rw[h3] at Zu hsh
   obtain rfl:=sw rfl hu
   obtain rfl:=sw rfl hv
   have hfo:P.fieldsOf T=fs:=by unfold Program.fieldsOf;rw[Zu]
   rw[run_equalIn_struct w d T _ _ (by rw[hfo];exact Zu) hsh,hfo]
   have hlx:=(kG _ hx).1
   have hly:=(kG _ hy).1
   rw[fc] at iw
   have Cb:fs.toList.length=i.fs.length:=by rw[←hft,List.length_map]
   have hU:=arK hT hi
   unfold uOK at hU
   rw[Bool.and_eq_true,fc] at hU
   have hU:=hU.2
   rcases Nat.lt_or_ge fs.size 2 with h2 |h2
   ·match hfi:i.fs,hfe:fs.toList with
    |[],_=>rw[hfi] at hU;simp at hU
    |[T1],[f]=>
     rw[hfi] at hU
     cases pb<;>simp at hU
     rw[hfe] at iw
     have hs1:fs.size=1:=by rw[←Array.length_toList,hfe];rfl
     simp only[kn,hs1,Bool.and_true] at iw
     have e1:mI 0 1=[.fst]:=rfl
     rw[e1] at iw
     simp only[fS,aP,Bool.and_eq_true] at iw
     obtain⟨⟨k1,k2⟩,k3⟩:=iw
     have k2:=Nat.eq_of_beq_eq_true k2
     simp only[Ty.size,Nat.add_zero] at hlx hly
     obtain⟨u1,p1,p2⟩:=nQ (w:=w) hT k1 (cs:=cs) (off:=0) (by omega)
     obtain⟨v1,q1,q2⟩:=nQ (w:=w) hT k1 (cs:=cK) (off:=0) (by omega)
     rw[List.drop_zero,List.take_of_length_le (by omega)] at p2 q2
     simp only[L8] at he
     split at he
     case h_2=>cases he
     rename_i p q hp hq
     injection hq with hq
     subst hq
     injection he with he
     subst he
     simp only[K] at hx hy
     obtain⟨c0,c1,rfl,hx0,hx1⟩:=hx
     obtain⟨c0',c1',rfl,hy0,hy1⟩:=hy
     subst hx1 hy1
     rw[List.append_nil] at p2 q2 p1 q1
     simp only[Ty.ht] at hd
     have hr:=w5 hT d _ k1 hp p2 q2 hx0 hy0 (by omega)
     have V2:=hnb f (by rw[←Array.mem_toList_iff,hfe];exact List.mem_singleton.2 rfl)
     simp only[Op.eqFields,V2,ne_eq,not_false_eq_true,if_true,Sem.run_bind,k2,List.append_nil,p1,q1,Result.andThen_ok,hr]
     cases p<;>simp
    |[T1],[]=>rw[hfi,hfe] at Cb;simp at Cb
    |[T1],_::_::_=>rw[hfi,hfe] at Cb;simp at Cb
    |_::_::_,_=>rw[hfi] at Cb;simp only[Array.length_toList,List.length_cons] at Cb;omega
   ·have key : ∀ (l : List Field) (k : Nat) (s : Ty) (x' y' : s.I) (c c' : List Value) (r : Bool), k + l.length = fs.size → l ≠ [] → (∀ f ∈ l, f.name ≠ "_") → kn Θ (.pair pa pb) fs.size l k = true → fS (List.replicate k .snd) (.pair pa pb) = some s →
      cs.drop (aP (List.replicate k .snd) (.pair pa pb))=c→cK.drop (aP (List.replicate k .snd) (.pair pa pb))=c'→aP (List.replicate k .snd) (.pair pa pb)+s.size≤(Ty.pair pa pb).size→K w (fun _=>False) s x' c→K w (fun _=>False) s y' c'→(s.ht<d∨(1<l.length∧s.ht<d+1))→L8 s x' y'=some r→(Op.eqFields d cs.toArray cK.toArray l).run P w=.ok r w:=by
     intro l
     induction l with
     |nil=>intro k s x' y' c c' r _ h;exact absurd rfl h
     |cons f l ih=>
      intro k s x' y' c c' r hk _ V2 iw hs hc hc' iB hx hy hd he
      have hnf:=V2 f (List.mem_cons_self ..)
      simp only[kn,Bool.and_eq_true] at iw
      obtain⟨iw,My⟩:=iw
      rw[atb h2] at iw
      cases l with
      |nil=>
       rw[if_pos (by simpa using hk),hs] at iw
       simp only[Bool.and_eq_true] at iw
       obtain⟨⟨k1,k2⟩,k3⟩:=iw
       have k2:=Nat.eq_of_beq_eq_true k2
       obtain⟨u1,p1,p2⟩:=nQ (w:=w) hT k1 (cs:=cs) (off:=f.offset) (by omega)
       obtain⟨v1,q1,q2⟩:=nQ (w:=w) hT k1 (cs:=cK) (off:=f.offset) (by omega)
       have l1:=(kG _ hx).1
       have l2:=(kG _ hy).1
       rw[k2,hc,List.take_of_length_le (by omega)] at p2
       rw[k2,hc',List.take_of_length_le (by omega)] at q2
       have hr:=w5 hT d _ k1 he p2 q2 hx hy (by rcases hd with hd |hd;exact hd;simp at hd)
       simp only[Op.eqFields,hnf,ne_eq,not_false_eq_true,if_true,Sem.run_bind,p1,q1,Result.andThen_ok,hr]
       cases r<;>simp
      |cons f' l=>
       rw[if_neg (by simp only[List.length_cons] at hk;omega),Mw,hs,Option.bind_some] at iw
       cases s with
       |pair sa sb=>
        simp only[fS,Bool.and_eq_true] at iw
        obtain⟨⟨k1,k2⟩,k3⟩:=iw
        have k2:=Nat.eq_of_beq_eq_true k2
        rw[D9 _ _ _ _ hs] at k2
        simp only[aP,Nat.add_zero] at k2
        simp only[L8] at he
        split at he
        case h_2=>cases he
        rename_i p q hp hq
        injection he with he
        subst he
        simp only[K] at hx hy
        obtain⟨c0,c1,hcc,hx0,hx1⟩:=hx
        obtain⟨c0',c1',axF,hy0,hy1⟩:=hy
        have l0:=(kG _ hx0).1
        have l0':=(kG _ hy0).1
        simp only[Ty.size] at iB hlx hly
        obtain⟨u1,p1,p2⟩:=nQ (w:=w) hT k1 (cs:=cs) (off:=f.offset) (by omega)
        obtain⟨v1,q1,q2⟩:=nQ (w:=w) hT k1 (cs:=cK) (off:=f.offset) (by omega)
        rw[k2,hc,hcc,←l0,List.take_left] at p2
        rw[k2,hc',axF,←l0',List.take_left] at q2
        have hdd:max sa.ht sb.ht+1<d+1:=by
         simp only[Ty.ht] at hd
         omega
        have hr:=w5 hT d _ k1 hp p2 q2 hx0 hy0 (by omega)
        have axG:List.replicate (k+1) Step.snd=List.replicate k .snd++[.snd]:=List.replicate_succ'
        have atc:aP (List.replicate (k+1) .snd) (.pair pa pb)=aP (List.replicate k .snd) (.pair pa pb)+sa.size:=by
         rw[axG,D9 _ _ _ _ hs];simp[aP]
        have hi:=ih (k+1) sb x'.2 y'.2 c1 c1' q (by simp only[List.length_cons] at hk ⊢;omega) (by simp) (fun f hf=>V2 f (List.mem_cons_of_mem _ hf)) My (by rw[axG,Mw,hs];rfl)
         (by rw[atc,←List.drop_drop,hc,hcc,←l0,List.drop_left]) (by rw[atc,←List.drop_drop,hc',axF,←l0',List.drop_left]) (by rw[atc];simp only[Ty.size];omega) hx1 hy1 (.inl (by omega)) hq
        simp only[Op.eqFields,hnf,ne_eq,not_false_eq_true,if_true,Sem.run_bind,p1,q1,Result.andThen_ok,hr]
        cases p with
        |false=>simp
        |true=>simpa[Op.eqFields] using hi
       |_=>simp[fS] at iw
    exact key fs.toList 0 _ x y cs cK r (by simp) (fun e=>by rw[←Array.length_toList,e] at h2;simp at h2) (fun f hf=>hnb f (by simpa using hf)) iw rfl rfl rfl (by simp[aP]) hx hy (.inr ⟨by rw[Array.length_toList];omega,hd⟩) he
theorem V3 (hT:cN P Θ=true) {op:BinOp} {T:TypeId} {x y:Operand} {p q r:TV} {u v:Value} {cs cK:List Value} (hp:ax p.t u cs) (hq:ax q.t v cK) (kp:K w (fun _=>False) p.t p.x cs) (kq:K w (fun _=>False) q.t q.x cK)
  (hi:p.t=.bool∨isAgg p.t=true→Θ.is T p.t=true) (e:gp op p q=some (true,r)):
  ∃ z,((do eqGuard op T x y u v;binOp op T u v):Sem Value).run P w=.ok z w∧Holds w A H tm S (fun _=>False) (.v r []) z:=by
 unfold gp at e
 split at e
 ·rename_i k _ x0 k' _ y0
  split at e
  ·rename_i hk
   obtain rfl:=c9 hp kp
   obtain rfl:=c9 hq kq
   obtain⟨z,h1,h2⟩:=acC (P:=P) (w:=w) (A:=A) (H:=H) (tm:=tm) (S:=S) T hk e
   exact⟨z,by rw[eqGuard_at_int];simpa using h1,h2⟩
  ·cases e
 ·obtain rfl:=eN hp kp
  obtain rfl:=eN hq kq
  obtain⟨z,h1,h2⟩:=acD (P:=P) (w:=w) (A:=A) (H:=H) (tm:=tm) (S:=S) T e
  exact⟨z,by rw[eqGuard_at_string];simpa using h1,h2⟩
 ·obtain rfl:=da hp kp
  obtain rfl:=da hq kq
  obtain⟨i,h1,h2⟩:=dL (hi (.inl rfl))
  obtain⟨_,hu,h3⟩:=cR hT h1
  have su:=wZ hu h2
  rw[h3] at su
  split at e
  ·injection e with e;injection e with _ e;subst e
   refine⟨_,?_,cE _⟩
   rw[eqGuard_at_bool]
   simp[binOp,Op.equal,Op.maxDepth,run_equalIn_bool' w 9999 T _ _ su]
  ·injection e with e;injection e with _ e;subst e
   refine⟨_,?_,cE _⟩
   rw[eqGuard_at_bool]
   simp[binOp,Op.equal,Op.maxDepth,run_equalIn_bool' w 9999 T _ _ su]
  ·cases e
 ·rename_i t t' _ x0 t2 _ y0
  split at e
  ·rename_i ht
   subst ht
   have hTT:=hi (.inr rfl)
   obtain⟨i,h1,h2⟩:=dL hTT
   obtain⟨eX,hu,h3⟩:=cR hT h1
   obtain⟨fs,Zu,_,_,hg,_,_⟩:=lV hu h2
   rw[h3] at hg
   have eu:=sw rfl hp
   have ev:=sw rfl hq
   have iB:(Ty.pair t t').ht<10000:=Nat.lt_of_le_of_lt (show(Ty.pair t t').ht≤9000 from by
    have hs:=arK hT h1
    unfold uOK at hs
    rw[Bool.and_eq_true,h2] at hs
    exact Nat.le_of_ble_eq_true hs.1) (by decide)
   split at e
   ·rename_i r0 h0
    injection e with e;injection e with _ e;subst e
    have hr:=w5 (P:=P) hT 10000 (.pair t t') hTT h0 hp hq kp kq iB
    rw[eu,ev] at hr ⊢
    refine⟨_,?_,cE _⟩
    simp only[Sem.run_bind,run_eqGuard_agg (P:=P) w _ T x y _ _ hg,Result.andThen_ok,run_eql_struct,hr]
   ·rename_i r0 h0
    injection e with e;injection e with _ e;subst e
    have hr:=w5 (P:=P) hT 10000 (.pair t t') hTT h0 hp hq kp kq iB
    rw[eu,ev] at hr ⊢
    refine⟨_,?_,cE _⟩
    simp only[Sem.run_bind,run_eqGuard_agg (P:=P) w _ T x y _ _ hg,Result.andThen_ok,run_neq_struct,hr]
   ·cases e
  ·cases e
 ·cases e
theorem Ij {op:BinOp} {p q r:TV} {g:Bool} (e:gp op p q=some (g,r)):scalar r.t=true:=by
 unfold gp at e
 split at e
 ·split at e
  ·unfold ai5 at e
   split at e<;>first |(injection e with e;injection e with _ e;subst e;rfl) |cases e
  ·cases e
 ·unfold ai6 at e
  split at e<;>first |(injection e with e;injection e with _ e;subst e;rfl) |cases e
 ·split at e<;>first |(injection e with e;injection e with _ e;subst e;rfl) |cases e
 ·split at e
  ·split at e<;>first |(injection e with e;injection e with _ e;subst e;rfl) |cases e
  ·cases e
 ·cases e
theorem nR:∀ (t:Ty) {x y:t.I} {r:Bool},L8 t x y=some r→∀ {z:t.I} {cs:List Value},K w A t z cs→K w' A t z cs
 | .int _,_,_,_,_,_,_,h=>h
 | .bool,_,_,_,_,_,_,h=>h
 | .str,_,_,_,_,_,_,h=>h
 | .unit,_,_,_,_,_,_,h=>h
 | .pair a b,x,y,r,e,z,cs,h=>by
  simp only[L8] at e
  split at e
  ·rename_i p q hp hq
   obtain⟨c0,c1,h0,h1,h2⟩:=h
   exact⟨c0,c1,h0,nR a hp h1,nR b hq h2⟩
  ·cases e
 | .sl _,_,_,_,e,_,_,_=>by simp[L8] at e
 | .ptr _,_,_,_,e,_,_,_=>by simp[L8] at e
 | .arr _ _,_,_,_,e,_,_,_=>by simp[L8] at e
theorem Ry {op:BinOp} {p q:TV} {gr:Bool×TV} (e:gp op p q=some gr) {cs:List Value} (h:K w A p.t p.x cs):K w' A p.t p.x cs:=by
 obtain⟨t,m,x⟩:=p
 obtain⟨t',m',y⟩:=q
 cases t with
 |int k=>exact h
 |bool=>exact h
 |str=>exact h
 |unit=>exact h
 |pair a b=>
  simp only[gp] at e
  split at e
  case isFalse=>cases e
  rename_i ht
  subst ht
  split at e
  ·rename_i hr;exact nR _ hr h
  ·rename_i hr;exact nR _ hr h
  ·cases e
 |_=>simp[gp] at e
theorem Mz {op:BinOp} {p q:TV} {gr:Bool×TV} (e:gp op p q=some gr) {cs:List Value} (h:K w A q.t q.x cs):K w' A q.t q.x cs:=by
 obtain⟨t,m,x⟩:=p
 obtain⟨t',m',y⟩:=q
 cases t with
 |pair a b=>
  simp only[gp] at e
  split at e
  case isFalse=>cases e
  rename_i ht
  subst ht
  split at e
  ·rename_i hr;exact nR _ hr h
  ·rename_i hr;exact nR _ hr h
  ·cases e
 |int k=>cases t'<;>first |exact h |(simp[gp] at e;done)
 |bool=>cases t'<;>first |exact h |(simp[gp] at e;done)
 |str=>cases t'<;>first |exact h |(simp[gp] at e;done)
 |_=>simp[gp] at e
theorem acE (hT:cN P Θ=true) (h:a6 σ w0 W0 Z H S a w) {o:Oper} {op:BinOp} {T T':TypeId} {x y:Operand} (ho:o.op=.binOp op T x y T') (e:DK Θ S o.dst op T x y=some (true,S')):lW P w0 W0 Z H S' a o.dst w (execOp a.eval o):=by
 unfold DK at e
 split at e
 ·rename_i p q hp hq
  obtain⟨cs,h1,h2,_⟩:=gV h hp
  obtain⟨cK,h1',h2',_⟩:=gV h hq
  have fin:∀ (r:TV),(p.t=.bool∨isAgg p.t=true→Θ.is T p.t=true)→gp op p q=some (true,r)→lW P w0 W0 Z H (S.put o.dst (.v r [])) a o.dst w (execOp a.eval o):=by
   intro r hi hb
   obtain⟨z,h3,h4⟩:=V3 (P:=P) (A:=Av σ Z) (H:=H) (tm:=bZ a) (S:=S) (x:=x) (y:=y) hT h1 h1' h2 h2' hi hb
   have hsc:scalar r.t=true:=Ij hb
   refine cd h (v:=z) (fun w2=>?_) h4
   obtain⟨z2,k3,k4⟩:=V3 (w:=w2) (P:=P) (A:=Av σ Z) (H:=H) (tm:=bZ a) (S:=S) (x:=x) (y:=y) hT h1 h1' (Ry hb h2) (Mz hb h2') hi hb
   rw[D7 hsc h4 k4]
   simp only[execOp,ho]
   simp only[Sem.run_bind] at k3 ⊢
   rw[k3]
   rfl
  split at e
  ·rename_i ht
   cases hc:Θ.is T .bool with
   |false=>rw[hc] at e;cases e
   |true=>
    rw[hc] at e
    simp only[cond_true] at e
    split at e
    ·rename_i g r hb
     injection e with e;injection e with e1 e;subst e e1
     exact fin r (fun _=>by rw[ht];exact hc) hb
    ·cases e
  ·rename_i t t' ht
   cases hc:Θ.is T p.t with
   |false=>rw[hc] at e;cases e
   |true=>
    rw[hc] at e
    simp only[cond_true] at e
    split at e
    ·rename_i g r hb
     injection e with e;injection e with e1 e;subst e e1
     exact fin r (fun _=>hc) hb
    ·cases e
  ·rename_i n1 n2
   split at e
   ·rename_i g r hb
    injection e with e;injection e with e1 e;subst e e1
    refine fin r (fun hh=>?_) hb
    rcases hh with hh |hh
    ·exact absurd hh n1
    ·obtain⟨pt,pm,px⟩:=p
     simp only at hh n1 n2
     cases pt<;>simp[isAgg] at hh
     ·exact absurd rfl (n2 _ _)
     ·simp[gp] at hb
     ·simp[gp] at hb
   ·cases e
 ·cases e
end Go.Pv
namespace Go.Pv
set_option linter.unusedVariables false
set_option linter.unusedSimpArgs false
variable {P:Program} {w w':World} {A A':Nat→Prop} {H:Nat→Value} {tm qH:Nat→Value} {S S':St} {σ:Nat→Option Nat} {w0:World} {W0 Z:Nat→Prop} {a:Act} {own:Nat→Prop} {v:Value} {Θ:db} {dst:Option Nat} {g:Bool}
theorem qW {n:Int} {len:Nat} (h:aN n len=true):0≤n∧n<(len:Int):=by
 simpa[aN] using h
theorem acF (hT:cN P Θ=true) (h:a6 σ w0 W0 Z H S a w) {o:Oper} {T:TypeId} {x ix:Operand} (ho:o.op=.index T x ix) (e:H5 Θ S o.dst T x ix=some (true,S')):gG P w0 W0 Z H S' a o.dst w (execOp a.eval o):=by
 unfold H5 at e
 split at e
 ·rename_i m s n hb hn
  cases hc:Θ.is T .str with
  |false=>rw[hc] at e;cases e
  |true=>
   rw[hc] at e
   simp only[cond_true,Option.some.injEq,Prod.mk.injEq] at e
   obtain⟨e1,e⟩:=e
   subst e
   obtain⟨b1,b2⟩:=qW e1
   obtain⟨cs,h1,h2,_⟩:=gV h hb
   have hv:=eN h1 h2
   obtain⟨k,hk⟩:=hY h hn
   obtain⟨i,hi,fc⟩:=dL hc
   obtain⟨_,hu,zP⟩:=cR hT hi
   have su:=oS hu fc
   rw[zP] at su
   refine cv h (v:=.int .u8 (bt s n)) (fun w2 _=>?_) (cX _ _)
   have cP:n.toNat<s.size:=by omega
   have eF:s[n.toNat]?=some s[n.toNat]:=ByteArray.getElem?_lt' s _ cP
   have zT:bt s n=(s[n.toNat].toNat:Int):=by unfold bt;rw[dif_pos cP]
   simp[execOp,ho,hv,hk,Instr.index,asIntOf,run_underlying su,b1,eF,zT]
 ·cases e
theorem dE {s:Nat} {p:Path} {b:TV} (h:S.c7 s p=some b):∃ r ex,S.at s=.v r ex∧(∀ q∈ex,under q p=false)∧a8 p r.t r.m r.x=some b:=by
 unfold St.c7 at h
 split at h
 ·rename_i r ex he
  cases hc:ex.all fun q=>!under q p with
  |true=>
   rw[hc] at h
   exact⟨r,ex,he,fun q hq=>by simpa using List.all_eq_true.1 hc q hq,h⟩
  |false=>rw[hc] at h;cases h
 ·cases h
theorem lL:∀ (q:Path) (s:Step) (r:Path),under q (q++s::r)=true
 |[],_,_=>by simp[under]
 | .idx i::q,s,r=>by simp[under];exact lL q s r
 | .deref::q,s,r=>by simp[under];exact lL q s r
 | .fst::q,s,r=>by simp[under];exact lL q s r
 | .snd::q,s,r=>by simp[under];exact lL q s r
theorem eA {p:Path} {ex:List Path} (h:∀ q∈ex,under q p=false):open_ p ex:=fun q hq s r e=>by
 have:=h q hq
 rw[e,lL] at this
 cases this
theorem oV {s:Nat} {p:Path} {b:TV} (h:S.place s p=some b):∃ r ex,S.at s=.v r ex∧(∀ q∈ex,fX q p=false)∧a8 p r.t r.m r.x=some b:=by
 unfold St.place at h
 split at h
 ·rename_i r ex he
  cases hc:ex.all fun q=>!fX q p with
  |true=>
   rw[hc] at h
   exact⟨r,ex,he,fun q hq=>by simpa using List.all_eq_true.1 hc q hq,h⟩
  |false=>rw[hc] at h;cases h
 ·cases h
theorem acG (hT:cN P Θ=true) (h:a6 σ w0 W0 Z H S a w) {o:Oper} {as:Array Operand} {ts:Array TypeId} (ho:o.op=.call { callee:=.builtin .len,args:=as,argTypes:=ts }) (e:acg Θ S o.dst ts.toList as.toList=some (true,S')):lW P w0 W0 Z H S' a o.dst w (execOp a.eval o):=by
 obtain⟨as⟩:=as
 obtain⟨ts⟩:=ts
 simp only at e
 unfold acg at e
 split at e
 ·rename_i x T
  split at e
  ·rename_i b hb
   cases hc:Θ.is T b.t with
   |false=>rw[hc] at e;cases e
   |true=>
    rw[hc] at e
    simp only[cond_true] at e
    split at e
    ·rename_i n hn
     injection e with e;injection e with _ e;subst e
     have iJ:(∃ xs:ByteArray,b.t=.str∧a.eval x=.string xs∧n=(xs.size:Int))∨∃ t X c,∃ m:Nat,b.t=.sl t∧a.eval x=.slice X m c∧n=(m:Int):=by
      obtain⟨bt,bm,bx⟩:=b
      unfold arD at hn
      split at hn
      ·rename_i t m xs heq
       cases heq
       injection hn with hn
       right
       split at hb
       ·rename_i b' ex dz
        cases hx:ex.any List.isEmpty with
        |true=>rw[hx] at hb;cases hb
        |false=>
         rw[hx] at hb
         simp only[cond_false,Option.some.injEq] at hb
         subst hb
         obtain⟨cs,h1,h2⟩:=bC h dz
         simp only[M] at h2
         rcases h2 with⟨nF,_⟩ |⟨_,h2⟩ |⟨T',tag,me,X,c,_,rfl,_⟩
         ·have:ex.any List.isEmpty=true:=List.any_eq_true.2 ⟨[],nF,rfl⟩
          rw[hx] at this;cases this
         ·obtain⟨X,c,hv,_⟩:=nP h1 h2
          exact⟨_,X,c,_,rfl,hv,hn.symm⟩
         ·exact⟨_,X,c,_,rfl,by simpa[ax,isAgg] using h1.symm,hn.symm⟩
       ·rename_i t0 s0 p0 dz
        split at hb
        ·rename_i b' hpl
         injection hb with hb
         subst hb
         obtain⟨cs,h1,h2,_⟩:=qV (av:=.al t0 s0 p0) h (bC h dz) (by simpa[St.so] using hpl)
         obtain⟨X,c,hv,_⟩:=nP h1 h2
         exact⟨_,X,c,_,rfl,hv,hn.symm⟩
        ·split at hb
         ·rename_i t1 m1 xs1 Ca
          injection hb with hb
          cases hb
          obtain⟨r,cM,cs,hr,jq,hm⟩:=bC h dz
          obtain⟨ex,b2,cK,ow0,j1,j2,j3,j4,hM,j5,j6,j7⟩:=fE h hr
          rw[jq] at j5
          injection j5 with j5
          subst j5
          obtain⟨r2,ex2,q1,q2,q3⟩:=dE Ca
          rw[j1] at q1
          injection q1 with q1 D'
          subst q1 D'
          rw[j3] at q3
          injection q3 with q3
          subst q3
          simp only at j4
          subst j4
          simp only[M] at j7
          rcases j7 with⟨_,_,X,c,rfl⟩ |⟨_,h2⟩ |⟨T',tag,me,X,c,_,rfl,_⟩
          ·exact⟨_,X,c,_,rfl,by simpa[ax,isAgg] using hm.symm,hn.symm⟩
          ·obtain⟨X,c,hv,_⟩:=nP hm h2
           exact⟨_,X,c,_,rfl,hv,hn.symm⟩
          ·exact⟨_,X,c,_,rfl,by simpa[ax,isAgg] using hm.symm,hn.symm⟩
         ·cases hb
       ·rename_i a' _ _ dz
        obtain⟨cs,h1,h2,_⟩:=qV h (bC h dz) hb
        obtain⟨X,c,hv,_⟩:=nP h1 h2
        exact⟨_,X,c,_,rfl,hv,hn.symm⟩
       ·cases hb
      ·rename_i m xs heq
       cases heq
       injection hn with hn
       left
       split at hb
       ·rename_i b' ex dz
        cases hx:ex.any List.isEmpty with
        |true=>rw[hx] at hb;cases hb
        |false=>
         rw[hx] at hb
         simp only[cond_false,Option.some.injEq] at hb
         subst hb
         obtain⟨cs,h1,h2⟩:=bC h dz
         simp only[M] at h2
         exact⟨_,rfl,eN h1 h2.2,hn.symm⟩
       ·rename_i t0 s0 p0 dz
        split at hb
        ·rename_i b' hpl
         injection hb with hb
         subst hb
         obtain⟨cs,h1,h2,_⟩:=qV (av:=.al t0 s0 p0) h (bC h dz) (by simpa[St.so] using hpl)
         exact⟨_,rfl,eN h1 h2,hn.symm⟩
        ·split at hb
         ·injection hb with hb;cases hb
         ·cases hb
       ·rename_i a' _ _ dz
        obtain⟨cs,h1,h2,_⟩:=qV h (bC h dz) hb
        exact⟨_,rfl,eN h1 h2,hn.symm⟩
       ·cases hb
      ·cases hn
     obtain⟨i,hi,fc⟩:=dL hc
     obtain⟨_,hu,zP⟩:=cR hT hi
     rcases iJ with⟨xs,ht,hv,rfl⟩ |⟨t,X,c,m,ht,hv,rfl⟩
     ·have su:=oS hu (fc.trans ht)
      rw[zP] at su
      refine cd h (v:=.int .i64 xs.size) (fun w2=>?_) (cX _ _)
      simp[execOp,ho,hv,resolve,invoke,builtin,Builtin.len_,run_underlying su,goInt]
     ·have su:=(kL hu (fc.trans ht)).1
      rw[zP] at su
      refine cd h (v:=.int .i64 m) (fun w2=>?_) (cX _ _)
      simp[execOp,ho,hv,resolve,invoke,builtin,Builtin.len_,run_underlying su,goInt]
    ·cases e
  ·cases e
 ·cases e
theorem ajj (h:a6 σ w0 W0 Z H S a w) {o:Oper} {c x y:Operand} (ho:o.op=.pick c x y) (e:Q' Θ S o.dst o.type c x y=some (true,S')):gG P w0 W0 Z H S' a o.dst w (execOp a.eval o):=by
 unfold Q' at e
 split at e
 ·rename_i m q hq
  obtain⟨cs,h1,h2,_⟩:=gV h hq
  have hv:=da h1 h2
  have cf:∀ w2,Ext w w2→(execOp a.eval o).run P w2=.ok (.value (if q=true then a.eval x else a.eval y)) w2:=fun w2 _=>by
   simp only[execOp,ho,hv,asBool]
   rfl
  split at e
  ·rename_i m1 x1 e1 m2 y1 e2 hx hy
   injection e with e;injection e with _ e;subst e
   refine cv h cf ?_
   obtain⟨c1,k1,k2⟩:=bC h hx
   obtain⟨c2,k3,k4⟩:=bC h hy
   simp only[M] at k2 k4
   have:=da k1 k2.2
   have:=da k3 k4.2
   cases q<;>simp_all<;>exact cE _
  ·rename_i p r nF hx hy
   cases q with
   |true=>
    simp only[cond_true] at e
    split at e
    ·rename_i av dz
     injection e with e;injection e with _ e;subst e
     exact cv h (fun w2 hw=>by simpa using cf w2 hw) (oU h hx dz)
    ·cases e
   |false=>
    simp only[cond_false] at e
    split at e
    ·rename_i av dz
     injection e with e;injection e with _ e;subst e
     exact cv h (fun w2 hw=>by simpa using cf w2 hw) (oU h hy dz)
    ·cases e
  ·cases e
 ·cases e
end Go.Pv
