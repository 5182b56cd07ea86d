/- A verified evaluator of the program's form over pure values, part 1: what it tells of a function holds. -/
import Derived.Test.YtcpakhaogbempaaGreatPv0
import Derived.Laws.BytesString
import Derived.Laws.Entries
import Derived.Laws.Shifts
import Derived.Laws.Strings
import Derived.Laws.StructEq
namespace Go.Pv
set_option linter.unusedVariables false
set_option linter.unusedSimpArgs false
variable {h:Hint} {O:jS} {ops:Array Oper} {Θ:ee}
structure sh where
 cF:List Nat
 d:Nat
 v:AV
def cu:List Nat→St→St
 |[],S=>S
 |x::r,S=>cu r (S.put (some x) .dead)
def sh.app (E:sh) (S:St):St:=(cu E.cF S).put (some E.d) E.v
def oU (a:AV):Prop:=∀ d,a.refs d=false
theorem sQ {S:St} {x:Operand} (hx:jf S x=true) (T:TypeId):(∃ i a,x=.tmp i∧S.at i=.v a []∧S.fb Θ T x=some (.v a []))∨∃ c,x=.const c:=by
 cases x with
 |tmp i=>
  simp only[jf] at hx
  split at hx
  ·rename_i a ha
   exact .inl ⟨i,a,rfl,ha,by simp[St.fb,ha]⟩
  ·cases hx
 |const c=>exact .inr ⟨c,rfl⟩
 |func f=>simp[jf] at hx
 |global g=>simp[jf] at hx
def pw (S S':St) (l:List Nat):Prop:=∀ r∈l,S'.at r=S.at r
theorem DN {S S':St} {x:Operand} (ha:pw S S' (br x)) (T:TypeId):S'.fb Θ T x=S.fb Θ T x:=by
 cases x with
 |tmp i=>simp only[St.fb];rw[ha i (by simp[br])]
 |const c=>rfl
 |func f=>rfl
 |global g=>rfl
theorem Jc {S S':St} {x:Operand} (hx:jf S x=true) (ha:pw S S' (br x)) (T:TypeId):S'.rd Θ T x=S.rd Θ T x:=by
 unfold St.rd
 rw[DN ha]
 rcases sQ (Θ:=Θ) hx T with⟨i,a,rfl,h1,h2⟩ |⟨c,rfl⟩
 ·rw[h2];rfl
 ·simp only[St.fb]
  cases nX Θ T c<;>rfl
theorem na {S S':St}:∀ (xs:List Operand) (Ts:List TypeId) (l:List (Option TV)),(∀ x∈xs,jf S x=true)→pw S S' (xs.flatMap br)→reads Θ S' xs Ts l=reads Θ S xs Ts l
 |[],_,_,_,_=>rfl
 |x::xs,[],l,_,_=>rfl
 |x::xs,T::Ts,[],_,_=>rfl
 |x::xs,T::Ts,p::ps,hx,ha=>by
  have ih:=na xs Ts ps (fun y hy=>hx y (by simp[hy])) (fun r hr=>ha r (by simp[hr]))
  have ho:=DN (Θ:=Θ) (x:=x) (fun r hr=>ha r (by simp[hr])) T
  simp only[reads,ih,ho]
  cases p with
  |some a=>rfl
  |none=>
   simp only
   rcases sQ (Θ:=Θ) (hx x (by simp)) T with⟨i,a,rfl,h1,h2⟩ |⟨c,rfl⟩
   ·rw[h2];rfl
   ·simp only[St.fb]
    cases nX Θ T c<;>rfl
theorem AZ {S S':St}:∀ (xs:List Operand) (l:List (Option TV)) (as:List Arg),pw S S' (xs.flatMap br)→km S' xs l as=km S xs l as
 |[],_,_,_=>rfl
 |x::xs,[],_,_=>rfl
 |x::xs,p::ps,[],_=>rfl
 |x::xs,p::ps,r::rs,ha=>by
  have ih:=AZ xs ps rs (fun r hr=>ha r (by simp[hr]))
  have hf:vh S' x=vh S x:=by
   cases x with
   |tmp i=>simp only[vh];rw[ha i (by simp[br])]
   |const c=>rfl
   |func f=>rfl
   |global g=>rfl
  simp only[km,ih,hf]
theorem H3:∀ (xs:List Operand) (Ts:List TypeId) (ps:List Pass),(ps.all fun p=>match p with
   | .val=>true
   |_=>false)=true→(∀ S,ij Θ S xs Ts ps=none)∨∃ l,∀ S,ij Θ S xs Ts ps=some (l,S)
 |[],_,_,_=>.inr ⟨[],fun S=>by simp[ij]⟩
 |x::xs,[],_,_=>.inl fun S=>by simp[ij]
 |x::xs,T::Ts,[],_=>.inl fun S=>by simp[ij]
 |x::xs,T::Ts,p::ps,h=>by
  simp only[List.all_cons,Bool.and_eq_true] at h
  cases p with
  |take=>cases h.1
  |kj=>cases h.1
  |val=>
   rcases H3 xs Ts ps h.2 with h1 |⟨l,h1⟩
   ·exact .inl fun S=>by simp only[ij,h1]
   ·exact .inr ⟨none::l,fun S=>by simp only[ij,h1]⟩
theorem CN:∀ (l:List Pass) (n:Nat),(l.all fun p=>match p with
   | .val=>true
   |_=>false)=true→vP l n=none
 |[],_,_=>rfl
 | .val::r,n,h=>by simp only[vP];exact CN r (n+1) (by simpa using h)
 | .take::r,n,h=>by simp at h
 | .kj::r,n,h=>by simp at h
theorem EK (l:List TV):oU (HX l):=by
 intro d
 unfold HX
 split<;>rfl
theorem ab8 (hO:pq O) {i:Nat} {o:Oper} (ho:ops[i]?=some o) (hg:o.guard=none) {d:Nat} (hd:o.dst=some d) {f:FuncId} {as:Array Operand} {ts:Array TypeId} (cA:o.op=.call { callee:=.value (.func f),args:=as,argTypes:=ts })
  (hv:ab2 O f=true) {S:St} (hx:∀ x∈as.toList,jf S x=true):
  ∃ oE:Option sh,(∀ E,oE=some E→E.d=d∧E.cF=[]∧oU E.v)∧∀ S',pw S S' (as.toList.flatMap br)→∀ K,bE h O ops i S' K=oE.bind fun E=>K (E.app S'):=by
 have la:∀ S' K,bE h O ops i S' K=iW h O o f none as.toList ts.toList S' K:=by
  intro S' K
  unfold bE
  rw[ho]
  simp only[hg]
  unfold iX
  rw[cA]
  simp only[CN _ 0 hv]
 rcases H3 (Θ:=h.tab) as.toList ts.toList (O.sig f) hv with ht |⟨l,ht⟩
 ·exact⟨none,fun E hE=>(by cases hE),fun S' _ K=>by rw[la];unfold iW;simp only[ht];rfl⟩
 ·cases hr:reads h.tab S as.toList ts.toList l with
  |none=>exact⟨none,fun E hE=>(by cases hE),fun S' ha K=>by rw[la];unfold iW;simp only[ht,na _ _ _ hx ha,hr];rfl⟩
  |some args=>
   obtain⟨oR,hR⟩:=hO f (args++([]:List TV).map .tv)
   cases oR with
   |none=>
    refine⟨none,fun E hE=>(by cases hE),fun S' ha K=>?_⟩
    rw[la];unfold iW
    simp only[ht,na _ _ _ hx ha,hr,sJ,hR]
    rfl
   |some ret=>
    cases hrefs:ret.refs with
    |nil=>
     cases hc:(ret.res.all (fun d=>gS d.t d.m)||(([]:List TV).isEmpty&&km S as.toList l args)) with
     |false=>
      refine⟨none,fun E hE=>(by cases hE),fun S' ha K=>?_⟩
      rw[la];unfold iW
      simp only[ht,na _ _ _ hx ha,AZ _ _ _ ha,hr,sJ,hR,Option.bind_some,hrefs,hc]
      rfl
     |true=>
      refine⟨some ⟨[],d,HX ret.res⟩,fun E hE=>?_,fun S' ha K=>?_⟩
      ·injection hE with hE
       subst hE
       exact⟨rfl,rfl,EK _⟩
      ·rw[la];unfold iW
       simp only[ht,na _ _ _ hx ha,AZ _ _ _ ha,hr,sJ,hR,Option.bind_some,hrefs,hd,hc]
       rfl
    |cons _ _=>
     refine⟨none,fun E hE=>(by cases hE),fun S' ha K=>?_⟩
     rw[la];unfold iW
     simp only[ht,na _ _ _ hx ha,hr,sJ,hR,Option.bind_some,hrefs]
     rfl
def VD (a:AV):Prop:=(∃ b,a=.v b [])∨a=.dead
def YT (S:St):Operand→Prop
 | .tmp i=>VD (S.at i)
 | .const _=>True
 |_=>False
theorem VS {S:St} {x:Operand} (h:jf S x=true):YT S x:=by
 cases x with
 |tmp i=>
  simp only[jf] at h
  split at h
  ·rename_i a ha;exact .inl ⟨a,ha⟩
  ·cases h
 |const c=>trivial
 |func f=>simp[jf] at h
 |global g=>simp[jf] at h
theorem H4 {S:St} {x:Operand} (hx:YT S x) (T:TypeId):∃ oB:Option (TV×List Nat),(∀ b ks,oB=some (b,ks)→ks.Nodup∧∀ r∈ks,r∈br x∧∃ a,S.at r=.v a [])∧∀ S',pw S S' (br x)→S'.take Θ T x=oB.map fun q=>(q.1,cu q.2 S'):=by
 cases x with
 |tmp i=>
  rcases hx with⟨a,ha⟩ |ha
  ·cases hk:a.m.cy with
   |true=>
    refine⟨some (a,[]),fun b ks e=>?_,fun S' hs=>?_⟩
    ·injection e with e
     injection e with _ e
     subst e
     exact⟨List.nodup_nil,fun r hr=>by cases hr⟩
    ·have h2:=(hs i (by simp[br])).trans ha
     unfold St.take
     simp[St.fb,h2,St.eS,hk,cu]
   |false=>
    refine⟨some (a,[i]),fun b ks e=>?_,fun S' hs=>?_⟩
    ·injection e with e
     injection e with _ e
     subst e
     refine⟨by simp,fun r hr=>?_⟩
     simp only[List.mem_singleton] at hr
     subst hr
     exact⟨by simp[br],a,ha⟩
    ·have h2:=(hs i (by simp[br])).trans ha
     unfold St.take
     simp[St.fb,h2,St.eS,hk,cu]
  ·refine⟨none,fun b ks e=>(by cases e),fun S' hs=>?_⟩
   have h2:=(hs i (by simp[br])).trans ha
   unfold St.take
   simp[St.fb,h2,St.eS]
 |const c=>
  cases hc:nX Θ T c with
  |none=>exact⟨none,fun b ks e=>(by cases e),fun S' ha=>(by unfold St.take;simp[St.fb,hc])⟩
  |some a=>
   refine⟨some (a,[]),fun b ks e=>?_,fun S' ha=>?_⟩
   ·injection e with e
    injection e with _ e
    subst e
    exact⟨List.nodup_nil,fun r hr=>by cases hr⟩
   ·unfold St.take
    simp only[St.fb,hc,St.eS]
    cases a.m.cy<;>simp[cu]
 |func f=>exact hx.elim
 |global g=>exact hx.elim
theorem Nt {S:St} {x:Operand} (hx:jf S x=true) (T:TypeId):∃ oB:Option (TV×List Nat),(∀ b ks,oB=some (b,ks)→ks.Nodup∧∀ r∈ks,r∈br x)∧∀ S',pw S S' (br x)→S'.take Θ T x=oB.map fun q=>(q.1,cu q.2 S'):=by
 obtain⟨oB,h1,h2⟩:=H4 (Θ:=Θ) (VS hx) T
 exact⟨oB,fun b ks e=>⟨(h1 b ks e).1,fun r hr=>((h1 b ks e).2 r hr).1⟩,h2⟩
theorem A3 {S:St} {i j:Nat} {a:TV} (h:S.at j=.v a []) (sy:j≠i):(S.put (some i) .dead).at j=.v a []:=by
 rw[eU,if_neg (fun e=>sy e.1),h]
 simp[AV.refs]
theorem H5 {S:St} {i:Nat} {a:TV} (h:S.at i=.v a []):(S.put (some i) .dead).at i=.dead:=by
 have hl:i<S.length:=by
  rcases Nat.lt_or_ge i S.length with hl |hl
  ·exact hl
  ·unfold St.at at h
   rw[List.getD_eq_getElem?_getD,List.getElem?_eq_none hl] at h
   cases h
 rw[eU,if_pos ⟨rfl,hl⟩]
 simp[AV.refs]
theorem RY {ks:List Nat} {S:St} {j:Nat} {a:TV} (h:S.at j=.v a []) (hj:j∉ks):(cu ks S).at j=.v a []:=by
 induction ks generalizing S with
 |nil=>exact h
 |cons x r ih=>exact ih (A3 h (fun e=>hj (by simp[e]))) (fun e=>hj (by simp[e]))
theorem YU {ks:List Nat} {S S':St} {y:Operand} (hy:jf S y=true) (ha:pw S S' (br y)) (hn:∀ r∈br y,r∉ks):pw S (cu ks S') (br y):=by
 intro r hr
 cases y with
 |tmp j=>
  simp only[br,List.mem_singleton] at hr
  subst hr
  rcases sQ (Θ:=[]) hy 0 with⟨i,a,e,h1,_⟩ |⟨c,e⟩
  ·injection e with e
   subst e
   rw[h1]
   exact RY ((ha r (by simp[br])).trans h1) (hn r (by simp[br]))
  ·cases e
 |const c=>simp[br] at hr
 |func f=>simp[br] at hr
 |global g=>simp[br] at hr
theorem RZ {ks:List Nat} {S:St} {j:Nat} {a:TV} (h:S.at j=.v a []) (hj:j∈ks):(cu ks S).at j=.dead:=by
 have dead:∀ (ks:List Nat) (S:St),S.at j=.dead→(cu ks S).at j=.dead:=by
  intro ks
  induction ks with
  |nil=>intro S h;exact h
  |cons x r ih=>
   intro S h
   refine ih _ ?_
   rw[eU]
   split
   ·simp[AV.refs]
   ·rw[h];simp[AV.refs]
 induction ks generalizing S with
 |nil=>cases hj
 |cons x r ih=>
  by_cases hx:j=x
  ·subst hx
   exact dead r _ (H5 h)
  ·exact ih (A3 h hx) (by rcases List.mem_cons.1 hj with e |e;exact absurd e hx;exact e)
theorem CO (a b:List Nat) (S:St):cu (a++b) S=cu b (cu a S):=by
 induction a generalizing S with
 |nil=>rfl
 |cons x r ih=>exact ih _
theorem R0 {S:St} {d:Nat} {x y:Operand} {T T':TypeId} (hx:jf S x=true) (hy:jf S y=true):
  ∃ oG:Option (Bool×sh),(∀ g E,oG=some (g,E)→E.d=d∧oU E.v∧E.cF.Nodup∧∀ r∈E.cF,r∈br x++br y)∧∀ S',pw S S' (br x++br y)→cO Θ S' (some d) [T,T'] [x,y]=oG.map fun q=>(q.1,q.2.app S'):=by
 obtain⟨oB,hB1,hB2⟩:=Nt (Θ:=Θ) hx T
 have VT:∀ {S':St},pw S S' (br x++br y)→pw S S' (br x):=fun ha r hr=>ha r (by simp[hr])
 have hay:∀ {S':St},pw S S' (br x++br y)→pw S S' (br y):=fun ha r hr=>ha r (by simp[hr])
 cases oB with
 |none=>exact⟨none,fun g E e=>(by cases e),fun S' ha=>by unfold cO;simp only[hB2 S' (VT ha)];rfl⟩
 |some q=>
  obtain⟨b,ks⟩:=q
  obtain⟨Nu,AJ⟩:=hB1 b ks rfl
  -- is the second gone?
  by_cases apj:∃ r∈br y,r∈ks
  ·obtain⟨r,hr,hrk⟩:=apj
   cases y with
   |const c=>simp[br] at hr
   |func f=>simp[br] at hr
   |global g=>simp[br] at hr
   |tmp j=>
    simp only[br,List.mem_singleton] at hr
    subst hr
    refine⟨none,fun g E e=>(by cases e),fun S' ha=>?_⟩
    rcases sQ (Θ:=Θ) hy 0 with⟨i,a,e,h1,_⟩ |⟨c,e⟩
    ·injection e with e
     subst e
     have se:=RZ (ks:=ks) ((ha r (by simp[br])).trans h1) hrk
     unfold cO
     simp only[hB2 S' (VT ha),Option.map_some]
     have RH:(cu ks S').rd Θ T' (.tmp r)=none:=by unfold St.rd;simp only[St.fb,se,St.uk]
     have htk:(cu ks S').take Θ T' (.tmp r)=none:=by unfold St.take;simp only[St.fb,se,St.eS]
     split
     ·rename_i t e1 tg me xs S1 i heq hf
      simp only[Option.some.injEq,Prod.mk.injEq] at heq
      obtain⟨rfl,rfl⟩:=heq
      simp only[RH,htk,cond_false]
      cases me.cy<;>cases (decide (i.ty=t.sl)&&Nat.beq i.e e1&&Θ.is T' t.sl)<;>rfl
     ·rfl
    ·cases e
  ·have hn:∀ r∈br y,r∉ks:=fun r hr hk=>apj ⟨r,hr,hk⟩
   obtain⟨oC,hC1,hC2⟩:=Nt (Θ:=Θ) hy T'
   cases hf:Θ.find T with
   |none=>exact⟨none,fun g E e=>(by cases e),fun S' ha=>by unfold cO;simp only[hB2 S' (VT ha),hf];split<;>simp_all⟩
   |some ti=>
   by_cases CP:∃ (t:Ty) (e1:TypeId) (tg:Option Nat) (me:Md) (xs:List t.I),b=⟨.sl t,.o e1 tg me,xs⟩
   rotate_left
   ·refine⟨none,fun g E e=>(by cases e),fun S' ha=>?_⟩
    unfold cO
    simp only[hB2 S' (VT ha),hf,Option.map_some]
    split
    ·rename_i t e1 tg me xs S1 i heq axK
     simp only[Option.some.injEq,Prod.mk.injEq] at heq
     exact absurd ⟨t,e1,tg,me,xs,heq.1⟩ CP
    ·rfl
   obtain⟨t,e1,tg,me,xs,rfl⟩:=CP
   have hS:∀ S',pw S S' (br x++br y)→pw S (cu ks S') (br y):=fun S' ha=>YU hy (hay ha) hn
   cases hc:(decide (ti.ty=.sl t)&&Nat.beq ti.e e1&&Θ.is T' (.sl t)) with
   |false=>exact⟨none,fun g E e=>(by cases e),fun S' ha=>by unfold cO;simp only[hB2 S' (VT ha),hf,Option.map_some,hc,cond_false];rfl⟩
   |true=>
   cases hk:me.cy with
   |true=>
    have Ht:∀ S',pw S S' (br x++br y)→cO Θ S' (some d) [T,T'] [x,y]=(match S.rd Θ T' y with
     |some ⟨.sl t',m',ys⟩=>bif m'.HU.cy then(if h:t'=t then
       some (decide ((xs.length+ys.length)*t.size≤4398046511104),(cu ks S').put (some d) (.v ⟨.sl t,.o e1 none me,xs++(h▸ys)⟩ [])) else none) else none
     |_=>none):=fun S' ha=>by
     unfold cO
     simp only[hB2 S' (VT ha),hf,Option.map_some,hc,cond_true,hk,Jc hy (hS S' ha)]
     rfl
    cases hr:S.rd Θ T' y with
    |none=>exact⟨none,fun g E e=>(by cases e),fun S' ha=>by rw[Ht S' ha,hr];rfl⟩
    |some c=>
     by_cases hf2:∃ (m':Md) (ys:List t.I),c=⟨.sl t,m',ys⟩∧m'.HU.cy=true
     ·obtain⟨m',ys,rfl,hm⟩:=hf2
      refine⟨some (decide ((List.length xs+List.length ys)*t.size≤4398046511104),⟨ks,d,.v ⟨.sl t,.o e1 none me,xs++ys⟩ []⟩),fun g E e=>?_,fun S' ha=>?_⟩
      rotate_left
      ·rw[Ht S' ha,hr]
       simp only[hm,cond_true,dite_true,Option.map_some,sh.app]
      ·injection e with e
       injection e with _ e
       subst e
       exact⟨rfl,fun _=>rfl,Nu,fun r hr=>by simp[AJ r hr]⟩
     ·refine⟨none,fun g E e=>(by cases e),fun S' ha=>?_⟩
      rw[Ht S' ha,hr]
      split
      ·rename_i t' m' ys heq
       injection heq with heq
       subst heq
       cases hm:m'.HU.cy with
       |false=>rfl
       |true=>
        simp only[cond_true]
        by_cases ht:t'=t
        ·subst ht
         exact absurd ⟨m',ys,rfl,hm⟩ hf2
        ·rw[dif_neg ht];rfl
      ·rfl
   |false=>
    have Ht:∀ S',pw S S' (br x++br y)→cO Θ S' (some d) [T,T'] [x,y]=(match oC.map (fun q=>(q.1,cu q.2 (cu ks S'))) with
     |some (⟨.sl t',m',ys⟩,S2)=>if h:t'=t then
       (if m'.HU=me then some (decide ((xs.length+ys.length)*t.size≤4398046511104),S2.put (some d) (.v ⟨.sl t,.o e1 none me,xs++(h▸ys)⟩ [])) else none) else none
     |_=>none):=fun S' ha=>by
     unfold cO
     simp only[hB2 S' (VT ha),hf,Option.map_some,hc,cond_true,cond_false,hk,hC2 _ (hS S' ha)]
     rfl
    cases oC with
    |none=>exact⟨none,fun g E e=>(by cases e),fun S' ha=>by rw[Ht S' ha];rfl⟩
    |some c=>
     obtain⟨c,ks2⟩:=c
     obtain⟨ab9,ab'⟩:=hC1 c ks2 rfl
     by_cases hf2:∃ (m':Md) (ys:List t.I),c=⟨.sl t,m',ys⟩∧m'.HU=me
     ·obtain⟨m',ys,rfl,hm⟩:=hf2
      refine⟨some (decide ((List.length xs+List.length ys)*t.size≤4398046511104),⟨ks++ks2,d,.v ⟨.sl t,.o e1 none me,xs++ys⟩ []⟩),fun g E e=>?_,fun S' ha=>?_⟩
      rotate_left
      ·rw[Ht S' ha]
       simp only[Option.map_some,dite_true,hm,if_true,sh.app,CO]
      ·injection e with e
       injection e with _ e
       subst e
       refine⟨rfl,fun _=>rfl,List.nodup_append.2 ⟨Nu,ab9,fun a ha b hb e=>by subst e;exact hn a (ab' a hb) ha⟩,fun r hr=>?_⟩
       rcases List.mem_append.1 hr with hr |hr
       ·simp[AJ r hr]
       ·simp[ab' r hr]
     ·refine⟨none,fun g E e=>(by cases e),fun S' ha=>?_⟩
      rw[Ht S' ha]
      simp only[Option.map_some]
      split
      ·rename_i t' m' ys S2 heq
       injection heq with heq
       injection heq with heq _
       by_cases ht:t'=t
       ·subst ht
        by_cases hm:m'.HU=me
        ·exact absurd ⟨m',ys,heq,hm⟩ hf2
        ·rw[dif_pos rfl,if_neg hm];rfl
       ·rw[dif_neg ht];rfl
      ·rfl
theorem CQ (ks:List Nat) (S:St):(cu ks S).length=S.length:=by
 induction ks generalizing S with
 |nil=>rfl
 |cons x r ih=>simp only[cu,ih,cJ]
theorem vS:∀ (ks:List Nat) (S:St),ks.Nodup→(∀ x∈ks,∃ a,S.at x=.v a [])→∀ i,(cu ks S).at i=if i∈ks then .dead else bif ks.any (S.at i).refs then .dead else S.at i
 |[],S,_,_,i=>by simp[cu]
 |x::r,S,hn,hv,i=>by
  obtain⟨a,ha⟩:=hv x (by simp)
  simp only[List.nodup_cons] at hn
  have hv':∀ y∈r,∃ b,(S.put (some x) .dead).at y=.v b []:=fun y hy=>by
   obtain⟨b,hb⟩:=hv y (by simp[hy])
   exact⟨b,A3 hb (fun e=>hn.1 (by rw[←e];exact hy))⟩
  simp only[cu]
  rw[vS r _ hn.2 hv' i]
  by_cases hir:i∈r
  ·simp[hir]
  ·by_cases hix:i=x
   ·subst hix
    simp only[hir,if_false,H5 ha,List.mem_cons,true_or,if_true]
    simp[AV.refs]
   ·simp only[hir,if_false,List.mem_cons,hix,or_self]
    rw[eU,if_neg (fun e=>hix e.1),ha]
    simp only[AV.AN,Bool.and_true,List.any_cons]
    cases hr:(S.at i).refs x<;>simp[AV.refs]
structure sh.In (E:sh) (S:St):Prop where
 nd:E.cF.Nodup
 cW:∀ x∈E.cF,∃ a,S.at x=.v a []
 slot:(S.at E.d).AN=false
 lt:E.d<S.length
 refs:oU E.v
 out:E.d∉E.cF
theorem sh.Jd (E:sh) (S:St):(E.app S).length=S.length:=by unfold sh.app;rw[cJ,CQ]
theorem sh.sR {E:sh} {S:St} (h:E.In S) (i:Nat):(E.app S).at i=if i=E.d then E.v else if i∈E.cF then .dead else bif E.cF.any (S.at i).refs then .dead else S.at i:=by
 unfold sh.app
 have hd:((cu E.cF S).at E.d).AN=false:=by
  rw[vS _ _ h.nd h.cW]
  split
  ·rfl
  ·cases E.cF.any (S.at E.d).refs with
   |true=>rfl
   |false=>exact h.slot
 rw[eU,CQ,hd]
 by_cases hi:i=E.d
 ·rw[if_pos ⟨hi,h.lt⟩,if_pos hi,h.refs]
  rfl
 ·rw[if_neg (fun e=>hi e.1),if_neg hi]
  simp only[Bool.and_false,cond_false]
  exact vS _ _ h.nd h.cW i
theorem oV {S S':St} (hl:S.length=S'.length) (h:∀ i,S.at i=S'.at i):S=S':=by
 apply List.ext_getElem hl
 intro i h1 h2
 have:=h i
 unfold St.at at this
 rw[List.getD_eq_getElem?_getD,List.getD_eq_getElem?_getD,List.getElem?_eq_getElem h1,List.getElem?_eq_getElem h2] at this
 exact this
theorem sh.comm {E F:sh} {S:St} (hE:E.In S) (hF:F.In S) (hd:E.d≠F.d) (h1:E.d∉F.cF) (h2:F.d∉E.cF) (hEF:E.In (F.app S)) (hFE:F.In (E.app S)):E.app (F.app S)=F.app (E.app S):=by
 refine oV (by simp[sh.Jd]) fun i=>?_
 rw[sh.sR hEF,sh.sR hFE,sh.sR hF,sh.sR hE]
 by_cases hiE:i=E.d
 ·subst hiE
  have hv:F.cF.any E.v.refs=false:=List.any_eq_false.2 fun x _=>by rw[hE.refs];simp
  simp[hd,h1,hv]
 ·by_cases hiF:i=F.d
  ·subst hiF
   have hv:E.cF.any F.v.refs=false:=List.any_eq_false.2 fun x _=>by rw[hF.refs];simp
   simp[hiE,h2,hv]
  ·simp only[hiE,hiF,if_false]
   by_cases hkE:i∈E.cF
   ·by_cases hkF:i∈F.cF
    ·simp[hkE,hkF]
    ·have hv:F.cF.any AV.dead.refs=false:=List.any_eq_false.2 fun x _=>by simp[AV.refs]
     simp[hkE,hkF,hv]
   ·by_cases hkF:i∈F.cF
    ·have hv:E.cF.any AV.dead.refs=false:=List.any_eq_false.2 fun x _=>by simp[AV.refs]
     simp[hkE,hkF,hv]
    ·have hvE:E.cF.any AV.dead.refs=false:=List.any_eq_false.2 fun x _=>by simp[AV.refs]
     have hvF:F.cF.any AV.dead.refs=false:=List.any_eq_false.2 fun x _=>by simp[AV.refs]
     simp only[hkE,hkF,if_false]
     cases hE':E.cF.any (S.at i).refs<;>cases hF':F.cF.any (S.at i).refs<;>simp[hE',hF',hvE,hvF]
theorem Nv {S:St} {r x:Nat} (h:VD (S.at r)):(S.put (some x) .dead).at r=if r=x then .dead else S.at r:=by
 have hr:(S.at r).refs x=false:=by rcases h with⟨a,h⟩ |h<;>rw[h]<;>rfl
 rw[eU,hr]
 by_cases hx:r=x
 ·subst hx
  by_cases hl:r<S.length
  ·simp[hl,AV.refs]
  ·have:S.at r=.dead:=by unfold St.at;rw[List.getD_eq_getElem?_getD,List.getElem?_eq_none (by omega)];rfl
   simp[hl,this]
 ·simp[hx]
theorem sS:∀ (ks:List Nat) {S:St} {r:Nat},VD (S.at r)→(cu ks S).at r=if r∈ks then .dead else S.at r
 |[],S,r,h=>by simp[cu]
 |x::l,S,r,h=>by
  have h1:=Nv (x:=x) h
  have hv:VD ((S.put (some x) .dead).at r):=by rw[h1];split;exact .inr rfl;exact h
  simp only[cu]
  rw[sS l hv,h1]
  by_cases hx:r=x<;>by_cases hl:r∈l<;>simp[hx,hl]
theorem R1 {S:St} {ks:List Nat} {x:Operand} (h:YT S x):YT (cu ks S) x:=by
 cases x with
 |tmp i=>
  simp only[YT] at h ⊢
  rw[sS ks h]
  split
  ·exact .inr rfl
  ·exact h
 |const c=>trivial
 |func f=>exact h
 |global g=>exact h
theorem A4 {ps:List (Nat×Operand)}:∀ (r:List TypeId) (j:Nat) {S:St},(∀ q∈ps,YT S q.2)→∃ oL:Option (List TV×List Nat),(∀ l ks,oL=some (l,ks)→ks.Nodup∧∀ x∈ks,x∈ps.flatMap (fun q=>br q.2)∧∃ a,S.at x=.v a [])∧
  ∀ S',pw S S' (ps.flatMap fun q=>br q.2)→S'.parts Θ ps r j=oL.map fun q=>(q.1,cu q.2 S')
 |[],j,S,hx=>⟨some ([],[]),fun l ks e=>by
   injection e with e
   injection e with _ e
   subst e
   exact⟨List.nodup_nil,fun x hx=>by cases hx⟩,fun S' ha=>rfl⟩
 |T::r,j,S,hx=>by
  cases hf:ps.find? (fun q=>Nat.beq q.1 j) with
  |none=>
   cases hz:sE Θ T with
   |none=>exact⟨none,fun l ks e=>(by cases e),fun S' ha=>by simp only[St.parts,hf,hz];rfl⟩
   |some a=>
    obtain⟨oL,h1,h2⟩:=A4 r (j+1) hx
    cases oL with
    |none=>exact⟨none,fun l ks e=>(by cases e),fun S' ha=>by simp only[St.parts,hf,hz,h2 S' ha];rfl⟩
    |some q=>
     refine⟨some (a::q.1,q.2),fun l ks e=>?_,fun S' ha=>by simp only[St.parts,hf,hz,h2 S' ha];rfl⟩
     injection e with e
     injection e with _ e
     subst e
     exact h1 q.1 q.2 rfl
  |some q=>
   have hq:q∈ps:=List.mem_of_find?_eq_some hf
   have Hz:∀ r∈br q.2,r∈ps.flatMap fun q=>br q.2:=fun r hr=>List.mem_flatMap.2 ⟨q,hq,hr⟩
   obtain⟨oB,b1,b2⟩:=H4 (Θ:=Θ) (hx q hq) T
   cases oB with
   |none=>exact⟨none,fun l ks e=>(by cases e),fun S' ha=>by simp only[St.parts,hf,b2 S' fun r hr=>ha r (Hz r hr)];rfl⟩
   |some bk=>
    obtain⟨b,ks⟩:=bk
    obtain⟨Nu,AJ⟩:=b1 b ks rfl
    obtain⟨oL,h1,h2⟩:=A4 r (j+1) (S:=cu ks S) (fun q hq=>R1 (hx q hq))
    have R2:∀ S',pw S S' (ps.flatMap fun q=>br q.2)→pw (cu ks S) (cu ks S') (ps.flatMap fun q=>br q.2):=fun S' ha r hr=>by
     obtain⟨q',sz,A5⟩:=List.mem_flatMap.1 hr
     have hv:VD (S.at r):=by
      have:=hx q' sz
      cases H6:q'.2 with
      |tmp i=>
       rw[H6] at this A5
       simp only[br,List.mem_singleton] at A5
       subst A5
       exact this
      |const c=>rw[H6] at A5;simp[br] at A5
      |func f=>rw[H6] at A5;simp[br] at A5
      |global g=>rw[H6] at A5;simp[br] at A5
     rw[sS ks hv,sS ks (by rw[ha r hr];exact hv),ha r hr]
    cases oL with
    |none=>exact⟨none,fun l ks e=>(by cases e),fun S' ha=>by simp only[St.parts,hf,b2 S' fun r hr=>ha r (Hz r hr),Option.map_some,h2 _ (R2 S' ha)];rfl⟩
    |some lk=>
     obtain⟨l,ks2⟩:=lk
     obtain⟨ab9,ab'⟩:=h1 l ks2 rfl
     refine⟨some (b::l,ks++ks2),fun l' ks' e=>?_,fun S' ha=>by simp only[St.parts,hf,b2 S' fun r hr=>ha r (Hz r hr),Option.map_some,h2 _ (R2 S' ha),CO]⟩
     injection e with e
     injection e with _ e
     subst e
     have Nk:∀ x∈ks2,x∉ks∧∃ a,S.at x=.v a []:=fun x nb=>by
      obtain⟨m1,a,m2⟩:=ab' x nb
      have hv:VD (S.at x):=by
       obtain⟨q',sz,A5⟩:=List.mem_flatMap.1 m1
       have:=hx q' sz
       cases H6:q'.2 with
       |tmp i=>
        rw[H6] at this A5
        simp only[br,List.mem_singleton] at A5
        subst A5
        exact this
       |const c=>rw[H6] at A5;simp[br] at A5
       |func f=>rw[H6] at A5;simp[br] at A5
       |global g=>rw[H6] at A5;simp[br] at A5
      rw[sS ks hv] at m2
      by_cases hk:x∈ks
      ·rw[if_pos hk] at m2;cases m2
      ·rw[if_neg hk] at m2;exact⟨hk,a,m2⟩
     refine⟨List.nodup_append.2 ⟨Nu,ab9,fun a ha b hb e=>by subst e;exact(Nk a hb).1 ha⟩,fun x nb=>?_⟩
     rcases List.mem_append.1 nb with nb |nb
     ·exact⟨Hz x (AJ x nb).1,(AJ x nb).2⟩
     ·exact⟨(ab' x nb).1,(Nk x nb).2⟩
theorem YV {S:St} {d:Nat} {T:TypeId} {n:Nat} {hn:Hn} {ps:List (Nat×Operand)} (hx:∀ q∈ps,jf S q.2=true):
  ∃ oG:Option (Bool×sh),(∀ g E,oG=some (g,E)→E.d=d∧oU E.v∧E.cF.Nodup∧∀ r∈E.cF,r∈ps.flatMap fun q=>br q.2)∧∀ S',pw S S' (ps.flatMap fun q=>br q.2)→cn Θ hn S' (some d) T n ps=oG.map fun q=>(q.1,q.2.app S'):=by
 cases hf:Θ.find T with
 |none=>exact⟨none,fun g E e=>(by cases e),fun S' ha=>by unfold cn;simp only[hf];rfl⟩
 |some i=>
  by_cases CP:∃ t,i.ty=.sl t
  rotate_left
  ·refine⟨none,fun g E e=>(by cases e),fun S' ha=>?_⟩
   unfold cn
   simp only[hf]
   split
   ·rename_i heq
    injection heq with heq
    subst heq
    exact absurd ⟨_,rfl⟩ CP
   ·rfl
  obtain⟨t,ht⟩:=CP
  obtain⟨q1,ty,e,q4⟩:=i
  simp only at ht
  subst ht
  obtain⟨oL,l1,l2⟩:=A4 (Θ:=Θ) (List.replicate n e) 0 (fun q hq=>VS (hx q hq))
  cases hc:(lG n ps&&Nat.ble n 1800) with
  |false=>exact⟨none,fun g E e=>(by cases e),fun S' ha=>by unfold cn;simp only[hf,hc,cond_false];rfl⟩
  |true=>
   cases oL with
   |none=>exact⟨none,fun g E e=>(by cases e),fun S' ha=>by unfold cn;simp only[hf,hc,cond_true,l2 S' ha];rfl⟩
   |some q=>
    obtain⟨l,ks⟩:=q
    obtain⟨Nu,AJ⟩:=l1 l ks rfl
    cases l with
    |nil=>
     refine⟨some (true,⟨ks,d,.v ⟨.sl t,bif hn.YM (some d) then .k else .o e none (hn.find (some d) .k),[]⟩ []⟩),fun g E e=>?_,fun S' ha=>by unfold cn;simp only[hf,hc,cond_true,l2 S' ha];rfl⟩
     injection e with e
     injection e with _ e
     subst e
     exact⟨rfl,fun _=>rfl,Nu,fun r hr=>(AJ r hr).1⟩
    |cons a l=>
     cases hl:sF t a.m (a::l) with
     |none=>exact⟨none,fun g E e=>(by cases e),fun S' ha=>by unfold cn;simp only[hf,hc,cond_true,l2 S' ha,Option.map_some,hl];rfl⟩
     |some xs=>
      refine⟨some (true,⟨ks,d,.v ⟨.sl t,bif hn.YM (some d)&&a.m.cy then .k else .o e none a.m,xs⟩ []⟩),fun g E e=>?_,fun S' ha=>by unfold cn;simp only[hf,hc,cond_true,l2 S' ha,Option.map_some,hl];rfl⟩
      injection e with e
      injection e with _ e
      subst e
      exact⟨rfl,fun _=>rfl,Nu,fun r hr=>(AJ r hr).1⟩
theorem R3 {S:St} {x:Operand} (h:RT S x=true):jf S x=true:=by
 cases x with
 |tmp i=>
  simp only[RT] at h
  simp only[jf]
  split at h
  ·rename_i ha;rw[ha]
  ·cases h
 |const c=>rfl
 |func f=>exact h
 |global g=>exact h
theorem EL {S S':St} {d:Int} {x:Option Operand} (h:CM S x=true) (ha:pw S S' (gd x)):iU Θ S' d x=iU Θ S d x:=by
 cases x with
 |none=>rfl
 |some x=>
  simp only[iU,St.mB,Jc h ha]
theorem ah5 {S:St} {d:Nat} {T:TypeId} {x:Operand} {lo hi:Option Operand} (hx:RT S x=true) (YW:CM S lo=true) (EM:CM S hi=true):
  ∃ o:Option (Bool×TV),∀ S',pw S S' (br x++(gd lo++gd hi))→fh Θ S' (some d) T x lo hi none=o.map fun q=>(q.1,S'.put (some d) (.v q.2 [])):=by
 have ag:∀ {S':St},pw S S' (br x++(gd lo++gd hi))→S'.fb Θ 0 x=S.fb Θ 0 x∧S'.rd Θ 0 x=S.rd Θ 0 x∧iU Θ S' 0 lo=iU Θ S 0 lo∧∀ n,iU Θ S' n hi=iU Θ S n hi:=fun ha=>
  ⟨DN (fun r hr=>ha r (by simp[hr])) 0,Jc (R3 hx) (fun r hr=>ha r (by simp[hr])) 0,EL YW fun r hr=>ha r (by simp[hr]),fun n=>EL EM fun r hr=>ha r (by simp[hr])⟩
 have eQ:(∃ t y,S.fb Θ 0 x=some (.v ⟨t,.k,y⟩ [])∧S.rd Θ 0 x=some ⟨t,.k,y⟩)∨∃ c,x=.const c:=by
  cases x with
  |tmp i=>
   simp only[RT] at hx
   split at hx
   ·rename_i t y ha
    exact .inl ⟨t,y,by simp[St.fb,ha],by simp[St.rd,St.fb,ha,St.uk]⟩
   ·cases hx
  |const c=>exact .inr ⟨c,rfl⟩
  |func f=>simp[RT] at hx
  |global g=>simp[RT] at hx
 have kr:(∃ a,S.fb Θ 0 x=some (.v a [])∧S.rd Θ 0 x=some a∧(a.m=.k∨∃ c,x=.const c))∨S.fb Θ 0 x=none:=by
  rcases eQ with⟨t,y,h1,h2⟩ |⟨c,rfl⟩
  ·exact .inl ⟨_,h1,h2,.inl rfl⟩
  ·simp only[St.rd,St.fb]
   cases nX Θ 0 c with
   |none=>exact .inr rfl
   |some a=>exact .inl ⟨a,rfl,rfl,.inr ⟨c,rfl⟩⟩
 rcases kr with⟨a,h1,h2,hm⟩ |h1
 rotate_left
 ·exact⟨none,fun S' ha=>by unfold fh;rw[(ag ha).1,h1];rfl⟩
 cases hl:iU Θ S 0 lo with
 |none=>
  refine⟨none,fun S' ha=>?_⟩
  obtain⟨e1,e2,e3,e4⟩:=ag ha
  unfold fh
  rw[e1,e2,e3,h1,h2,hl]
  obtain⟨t,m,y⟩:=a
  cases t<;>rfl
 |some l=>
  obtain⟨t,m,y⟩:=a
  have axD:(∀ S',fh Θ S' (some d) T x lo hi none=none)→∃ o:Option (Bool×TV),∀ S',pw S S' (br x++(gd lo++gd hi))→fh Θ S' (some d) T x lo hi none=o.map fun q=>(q.1,S'.put (some d) (.v q.2 [])):=fun h=>⟨none,fun S' _=>h S'⟩
  cases t with
  |str=>
   cases hh:iU Θ S (ByteArray.size y:Int) hi with
   |none=>
    refine⟨none,fun S' ha=>?_⟩
    obtain⟨e1,e2,e3,e4⟩:=ag ha
    unfold fh
    rw[e1,e2,e3,h1,h2,hl]
    simp only[e4,hh]
    rfl
   |some h'=>
    cases hT:Θ.is T .str with
    |false=>
     refine⟨none,fun S' ha=>?_⟩
     obtain⟨e1,e2,e3,e4⟩:=ag ha
     unfold fh
     rw[e1,e2,e3,h1,h2,hl]
     simp only[e4,hh,hT]
     rfl
    |true=>
     refine⟨some (decide (0≤l)&&decide (l≤h')&&decide (h'≤(ByteArray.size y:Int)),⟨.str,.k,ByteArray.extract y l.toNat h'.toNat⟩),fun S' ha=>?_⟩
     obtain⟨e1,e2,e3,e4⟩:=ag ha
     unfold fh
     rw[e1,e2,e3,h1,h2,hl]
     simp only[e4,hh,hT]
     rfl
  |sl t=>
   cases hT:Θ.is T (.sl t) with
   |false=>
    refine⟨none,fun S' ha=>?_⟩
    obtain⟨e1,e2,e3,e4⟩:=ag ha
    unfold fh
    rw[e1,e2,e3,h1,h2,hl]
    simp only[hT]
    rfl
   |true=>
    cases hh:iU Θ S (List.length y:Int) hi with
    |none=>
     refine⟨none,fun S' ha=>?_⟩
     obtain⟨e1,e2,e3,e4⟩:=ag ha
     unfold fh
     rw[e1,e2,e3,h1,h2,hl]
     simp only[hT,e4,hh]
     rfl
    |some h'=>
     by_cases hk:m=.k
     ·subst hk
      refine⟨some (decide (0≤l)&&decide (l≤h')&&decide (h'≤(List.length y:Int)),⟨.sl t,.k,(List.take h'.toNat y).drop l.toNat⟩),fun S' ha=>?_⟩
      obtain⟨e1,e2,e3,e4⟩:=ag ha
      unfold fh
      rw[e1,e2,e3,h1,h2,hl]
      simp only[hT,e4,hh]
      rfl
     ·obtain⟨c,rfl⟩:=hm.resolve_left hk
      refine⟨none,fun S' ha=>?_⟩
      obtain⟨e1,e2,e3,e4⟩:=ag ha
      unfold fh
      rw[e1,e2,e3,h1,h2,hl]
      simp only[hT,e4,hh,cond_true]
      cases m<;>first |exact absurd rfl hk |rfl
  |_=>
   refine⟨none,fun S' ha=>?_⟩
   obtain⟨e1,e2,e3,e4⟩:=ag ha
   unfold fh
   rw[e1,e2,e3,h1,h2,hl]
   rfl
theorem YX {S:St} {d:Nat} {T:TypeId} {x ix:Operand} (hx:RT S x=true) (hix:jf S ix=true):
  ∃ o:Option (Bool×TV),∀ S',pw S S' (br x++br ix)→cN Θ S' (some d) T x ix=o.map fun q=>(q.1,S'.put (some d) (.v q.2 [])):=by
 have ag:∀ {S':St},pw S S' (br x++br ix)→S'.fb Θ 0 x=S.fb Θ 0 x∧S'.mB Θ ix=S.mB Θ ix:=fun ha=>
  ⟨DN (fun r hr=>ha r (by simp[hr])) 0,by unfold St.mB;rw[Jc hix (fun r hr=>ha r (by simp[hr])) 0]⟩
 have kr:(∃ a,S.fb Θ 0 x=some (.v a [])∧(a.m=.k∨∃ c,x=.const c))∨S.fb Θ 0 x=none:=by
  cases x with
  |tmp i=>
   simp only[RT] at hx
   split at hx
   ·rename_i t y ha
    exact .inl ⟨⟨t,.k,y⟩,by simp[St.fb,ha],.inl rfl⟩
   ·cases hx
  |const c=>
   simp only[St.fb]
   cases nX Θ 0 c with
   |none=>exact .inr rfl
   |some a=>exact .inl ⟨a,rfl,.inr ⟨c,rfl⟩⟩
  |func f=>simp[RT] at hx
  |global g=>simp[RT] at hx
 rcases kr with⟨a,h1,hm⟩ |h1
 rotate_left
 ·exact⟨none,fun S' ha=>by unfold cN;rw[(ag ha).1,h1];rfl⟩
 cases hn:S.mB Θ ix with
 |none=>
  refine⟨none,fun S' ha=>?_⟩
  obtain⟨e1,e2⟩:=ag ha
  unfold cN
  rw[e1,e2,h1,hn]
  obtain⟨t,m,y⟩:=a
  cases t<;>rfl
 |some n=>
  obtain⟨t,m,y⟩:=a
  cases t with
  |sl t=>
   cases hT:Θ.is T (.sl t) with
   |false=>
    refine⟨none,fun S' ha=>?_⟩
    obtain⟨e1,e2⟩:=ag ha
    unfold cN
    rw[e1,e2,h1,hn]
    simp only[hT]
    rfl
   |true=>
    by_cases hk:m=.k
    ·subst hk
     refine⟨some (bC n (List.length y),⟨.ptr t,.k,List.getD y n.toNat t.z⟩),fun S' ha=>?_⟩
     obtain⟨e1,e2⟩:=ag ha
     unfold cN
     rw[e1,e2,h1,hn]
     simp only[hT]
     rfl
    ·obtain⟨c,rfl⟩:=hm.resolve_left hk
     refine⟨none,fun S' ha=>?_⟩
     obtain⟨e1,e2⟩:=ag ha
     unfold cN
     rw[e1,e2,h1,hn]
     simp only[hT,cond_true]
     cases m<;>first |exact absurd rfl hk |rfl
  |_=>
   refine⟨none,fun S' ha=>?_⟩
   obtain⟨e1,e2⟩:=ag ha
   unfold cN
   rw[e1,e2,h1,hn]
   rfl
theorem xT {S:St} {o:Oper} (hg:k8 O ops S o=true):o.guard=none∧∃ d,o.dst=some d∧(S.at d).AN=false∧d<S.length:=by
 unfold k8 at hg
 simp only[Bool.and_eq_true] at hg
 obtain⟨⟨h1,h2⟩,_⟩:=hg
 refine⟨?_,?_⟩
 ·split at h1
  ·assumption
  ·cases h1
 ·split at h2
  ·rename_i d hd
   simp only[Bool.and_eq_true,Bool.not_eq_true'] at h2
   exact⟨d,hd,h2.1,Nat.lt_of_lt_of_le (Nat.lt_succ_self _) (Nat.le_of_ble_eq_true h2.2)⟩
  ·cases h2
theorem jH {S:St} {x:Operand} (h:jf S x=true):∀ r∈br x,∃ a,S.at r=.v a []:=by
 intro r hr
 rcases sQ (Θ:=[]) h 0 with⟨i,a,rfl,h1,_⟩ |⟨c,rfl⟩
 ·simp only[br,List.mem_singleton] at hr
  subst hr
  exact⟨a,h1⟩
 ·simp[br] at hr
theorem Je {S S':St} {Θ:ee} {dst:Option Nat}:∀ {as:List Operand} {ts:List TypeId},(∀ x∈as,jf S x=true)→pw S S' (as.flatMap br)→gX Θ S' dst ts as=none:=by
 intro as ts cA ha
 unfold gX
 split
 ·rename_i x y T T'
  split
  ·rename_i tt s st pp eQ
   exfalso
   have h1:=cA x (by simp)
   cases x with
   |tmp i=>
    have h2:=ha i (by simp[br])
    simp only[St.fb,Option.some.injEq] at eQ
    rw[h2] at eQ
    simp only[jf,eQ] at h1
    cases h1
   |const c=>
    simp only[St.fb] at eQ
    split at eQ<;>cases eQ
   |func f=>simp[jf] at h1
   |global g=>simp[jf] at h1
  ·rfl
 ·rfl
theorem VU (hO:pq O) {i:Nat} {o:Oper} (ho:ops[i]?=some o) {S:St} (hg:k8 O ops S o=true) {d:Nat} (hd:o.dst=some d):
  ∃ oE:Option sh,(∀ E,oE=some E→E.d=d∧oU E.v∧E.cF.Nodup∧(∀ r∈E.cF,r∈bB ops o)∧(k9 o=true→E.cF=[]))∧∀ S',pw S S' (bB ops o)→∀ K,bE h O ops i S' K=oE.bind fun E=>K (E.app S'):=by
 have hgd:=(xT hg).1
 have val:∀ {o':Option (Bool×TV)} {Hu:St→AO},k9 o=true→(∀ S' K,bE h O ops i S' K=match Hu S' with
    |some (g,S1)=>bif g then K S1 else none
    |none=>none)→(∀ S',pw S S' (bB ops o)→Hu S'=o'.map fun q=>(q.1,S'.put (some d) (.v q.2 [])))→
   ∃ oE:Option sh,(∀ E,oE=some E→E.d=d∧oU E.v∧E.cF.Nodup∧(∀ r∈E.cF,r∈bB ops o)∧(k9 o=true→E.cF=[]))∧∀ S',pw S S' (bB ops o)→∀ K,bE h O ops i S' K=oE.bind fun E=>K (E.app S'):=by
  intro o' Hu hc cD Ht
  cases o' with
  |none=>exact⟨none,fun E e=>(by cases e),fun S' ha K=>by rw[cD,Ht S' ha];rfl⟩
  |some q=>
   obtain⟨g,r⟩:=q
   cases g with
   |false=>exact⟨none,fun E e=>(by cases e),fun S' ha K=>by rw[cD,Ht S' ha];rfl⟩
   |true=>
    refine⟨some ⟨[],d,.v r []⟩,fun E e=>?_,fun S' ha K=>by rw[cD,Ht S' ha];rfl⟩
    injection e with e
    subst e
    exact⟨rfl,fun _=>rfl,List.nodup_nil,fun r hr=>(by cases hr),fun _=>rfl⟩
 unfold k8 at hg
 simp only[Bool.and_eq_true] at hg
 have cA:=hg.2
 split at cA
 ·rename_i f as ts dh
  simp only[Bool.and_eq_true,List.all_eq_true] at cA
  obtain⟨oE,h1,h2⟩:=ab8 (h:=h) hO ho hgd hd dh cA.1 cA.2
  have hl:bB ops o=as.toList.flatMap br:=by unfold bB;rw[dh]
  refine⟨oE,fun E hE=>?_,fun S' ha=>h2 S' (by rw[hl] at ha;exact ha)⟩
  obtain⟨e1,e2,e3⟩:=h1 E hE
  exact⟨e1,e3,by rw[e2];exact List.nodup_nil,fun r hr=>by rw[e2] at hr;(cases hr),fun _=>e2⟩
 ·rename_i as ts dh
  simp only[List.all_eq_true] at cA
  have hl:bB ops o=as.toList.flatMap br:=by unfold bB;rw[dh]
  have hcb:k9 o=false:=by unfold k9;rw[dh]
  have la:∀ S' K,pw S S' (as.toList.flatMap br)→bE h O ops i S' K=match cO h.tab S' (some d) ts.toList as.toList with
    |some (g,S1)=>bif g then K S1 else none
    |none=>none:=by
   intro S' K ha
   unfold bE
   rw[ho]
   simp only[hgd]
   unfold iX
   rw[dh]
   simp only[ev,dh,hd]
   rcases cO h.tab S' (some d) ts.toList as.toList with _ |⟨g,S1⟩
   ·simp only[Je cA ha]
   ·rfl
  have fin:∀ oG:Option (Bool×sh),(∀ g E,oG=some (g,E)→E.d=d∧oU E.v∧E.cF.Nodup∧∀ r∈E.cF,r∈as.toList.flatMap br)→(∀ S',pw S S' (as.toList.flatMap br)→cO h.tab S' (some d) ts.toList as.toList=oG.map fun q=>(q.1,q.2.app S'))→
    ∃ oE:Option sh,(∀ E,oE=some E→E.d=d∧oU E.v∧E.cF.Nodup∧(∀ r∈E.cF,r∈bB ops o)∧(k9 o=true→E.cF=[]))∧∀ S',pw S S' (bB ops o)→∀ K,bE h O ops i S' K=oE.bind fun E=>K (E.app S'):=by
   intro oG h1 h2
   cases oG with
   |none=>exact⟨none,fun E e=>(by cases e),fun S' ha K=>by rw[la S' K (by rw[hl] at ha;exact ha),h2 S' (by rw[hl] at ha;exact ha)];rfl⟩
   |some q=>
    obtain⟨g,E⟩:=q
    cases g with
    |false=>exact⟨none,fun E e=>(by cases e),fun S' ha K=>by rw[la S' K (by rw[hl] at ha;exact ha),h2 S' (by rw[hl] at ha;exact ha)];rfl⟩
    |true=>
     refine⟨some E,fun E' e=>?_,fun S' ha K=>by rw[la S' K (by rw[hl] at ha;exact ha),h2 S' (by rw[hl] at ha;exact ha)];rfl⟩
     injection e with e
     subst e
     obtain⟨e1,e2,e3,e4⟩:=h1 true E rfl
     exact⟨e1,e2,e3,by rw[hl];exact e4,fun hc=>by rw[hcb] at hc;cases hc⟩
  by_cases CP:∃ x y T T',as.toList=[x,y]∧ts.toList=[T,T']
  ·obtain⟨x,y,T,T',ha,ht⟩:=CP
   rw[ha] at cA
   obtain⟨oG,h1,h2⟩:=R0 (Θ:=h.tab) (d:=d) (T:=T) (T':=T') (cA x (by simp)) (cA y (by simp))
   refine fin oG ?_ ?_
   ·intro g E e
    obtain⟨e1,e2,e3,e4⟩:=h1 g E e
    exact⟨e1,e2,e3,fun r hr=>by rw[ha];simpa using e4 r hr⟩
   ·intro S' hs
    rw[ha,ht]
    exact h2 S' (by rw[ha] at hs;simpa using hs)
  ·refine fin none (fun g E e=>(by cases e)) fun S' hs=>?_
   unfold cO
   split
   ·rename_i x y T T' ha ht
    exact absurd ⟨x,y,T,T',ha,ht⟩ CP
   ·rfl
 ·rename_i T n ps dh
  simp only[List.all_eq_true] at cA
  have hl:bB ops o=ps.toList.flatMap fun q=>br q.2:=by unfold bB;rw[dh]
  have hcb:k9 o=false:=by unfold k9;rw[dh]
  have la:∀ S' K,bE h O ops i S' K=match cn h.tab h.hn S' (some d) T n ps.toList with
    |some (g,S1)=>bif g then K S1 else none
    |none=>none:=by
   intro S' K
   unfold bE
   rw[ho]
   simp only[hgd]
   unfold iX
   rw[dh]
   simp only[ev,dh,hd]
   rcases cn h.tab h.hn S' (some d) T n ps.toList with _ |⟨g,S1⟩<;>rfl
  obtain⟨oG,h1,h2⟩:=YV (Θ:=h.tab) (d:=d) (T:=T) (n:=n) (hn:=h.hn) cA
  cases oG with
  |none=>exact⟨none,fun E e=>(by cases e),fun S' ha K=>by rw[la,h2 S' (by rw[hl] at ha;exact ha)];rfl⟩
  |some q=>
   obtain⟨g,E⟩:=q
   cases g with
   |false=>exact⟨none,fun E e=>(by cases e),fun S' ha K=>by rw[la,h2 S' (by rw[hl] at ha;exact ha)];rfl⟩
   |true=>
    refine⟨some E,fun E' e=>?_,fun S' ha K=>by rw[la,h2 S' (by rw[hl] at ha;exact ha)];rfl⟩
    injection e with e
    subst e
    obtain⟨e1,e2,e3,e4⟩:=h1 true E rfl
    exact⟨e1,e2,e3,by rw[hl];exact e4,fun hc=>by rw[hcb] at hc;cases hc⟩
 ·rename_i T x dh
  split at cA
  case h_4=>cases cA
  case h_2=>
   rename_i t y hb hx
   have hl:bB ops o=[x]:=by unfold bB;rw[dh];simp only[hb]
   refine val (Hu:=fun S'=>iC h.tab S' (some d) T (.tmp x)) (o':=(bif h.tab.is T t then some (true,⟨t,.k,y⟩) else none)) (by unfold k9;rw[dh]) (fun S' K=>by unfold bE;rw[ho];simp only[hgd];unfold iX;rw[dh];simp only[ev,dh,hd];rcases iC h.tab S' (some d) T (.tmp x) with _ |⟨g,S1⟩<;>rfl) fun S' ha=>?_
   rw[hl] at ha
   have h1:S'.at x=.v ⟨.ptr t,.k,y⟩ []:=(ha x (by simp)).trans hx
   unfold iC
   simp only[St.fb,h1,St.HV,St.loadAt,Tgt.ty,RQ]
   cases h.tab.is T t<;>rfl
  case h_3=>
   rename_i t T1 tg me y hb hx
   have hl:bB ops o=[x]:=by unfold bB;rw[dh];simp only[hb]
   split at cA
   case h_2=>cases cA
   rename_i b CR
   refine val (Hu:=fun S'=>iC h.tab S' (some d) T (.tmp x)) (o':=match S.place x [.deref] with
    |some c=>bif h.tab.is T t then some (true,RQ c) else none
    |none=>none) (by unfold k9;rw[dh]) (fun S' K=>by unfold bE;rw[ho];simp only[hgd];unfold iX;rw[dh];simp only[ev,dh,hd];rcases iC h.tab S' (some d) T (.tmp x) with _ |⟨g,S1⟩<;>rfl) fun S' ha=>?_
   rw[hl] at ha
   have h1:S'.at x=.v ⟨.ptr t,.o T1 tg me,y⟩ []:=(ha x (by simp)).trans hx
   have h2:S'.dS x [.deref]=some b:=by rw[←CR];unfold St.dS;rw[ha x (by simp)]
   have h3:S'.place x [.deref]=S.place x [.deref]:=by unfold St.place;rw[ha x (by simp)]
   unfold iC
   simp only[St.fb,h1,St.HV,St.loadAt,h2,cA,cond_true,h3,Tgt.ty]
   cases S.place x [.deref] with
   |none=>rfl
   |some c=>simp only;cases h.tab.is T t<;>rfl
  rename_i s t s' p hb hx
  simp only[Bool.and_eq_true] at cA
  obtain⟨hs,hk⟩:=cA
  have:=Nat.eq_of_beq_eq_true hs
  subst this
  have hl:bB ops o=[x,s']:=by unfold bB;rw[dh];simp only[hb]
  have la:∀ S' K,bE h O ops i S' K=match iC h.tab S' (some d) T (.tmp x) with
    |some (g,S1)=>bif g then K S1 else none
    |none=>none:=by
   intro S' K
   unfold bE
   rw[ho]
   simp only[hgd]
   unfold iX
   rw[dh]
   simp only[ev,dh,hd]
   rcases iC h.tab S' (some d) T (.tmp x) with _ |⟨g,S1⟩<;>rfl
  split at hk
  case h_2=>cases hk
  rename_i b CR
  have Ht:∀ S',pw S S' [x,s']→iC h.tab S' (some d) T (.tmp x)=match S.place s' p with
    |some c=>bif h.tab.is T t then some (true,S'.put (some d) (.v (RQ c) [])) else none
    |none=>none:=by
   intro S' ha
   have h1:S'.at x=.ad t s' p:=(ha x (by simp)).trans hx
   have h2:S'.dS s' p=some b:=by rw[←CR];unfold St.dS;rw[ha s' (by simp)]
   have h3:S'.place s' p=S.place s' p:=by unfold St.place;rw[ha s' (by simp)]
   unfold iC
   simp only[St.fb,h1,St.HV,St.loadAt,h2,hk,cond_true,h3]
   cases S.place s' p<;>rfl
  cases hp:S.place s' p with
  |none=>exact⟨none,fun E e=>(by cases e),fun S' ha K=>by rw[la,Ht S' (by rw[hl] at ha;exact ha),hp];rfl⟩
  |some c=>
   cases hT:h.tab.is T t with
   |false=>exact⟨none,fun E e=>(by cases e),fun S' ha K=>by rw[la,Ht S' (by rw[hl] at ha;exact ha),hp];simp only[hT];rfl⟩
   |true=>
    refine⟨some ⟨[],d,.v (RQ c) []⟩,fun E e=>?_,fun S' ha K=>by rw[la,Ht S' (by rw[hl] at ha;exact ha),hp];simp only[hT];rfl⟩
    injection e with e
    subst e
    exact⟨rfl,fun _=>rfl,List.nodup_nil,fun r hr=>(by cases hr),fun _=>rfl⟩
 ·rename_i T x lo hi dh
  simp only[Bool.and_eq_true] at cA
  obtain⟨o',h1⟩:=ah5 (Θ:=h.tab) (d:=d) (T:=T) cA.1 cA.2.1 cA.2.2
  have hl:bB ops o=br x++(gd lo++gd hi):=by unfold bB;rw[dh]
  exact val (o':=o') (by unfold k9;rw[dh]) (fun S' K=>by unfold bE;rw[ho];simp only[hgd];unfold iX;rw[dh];simp only[ev,dh,hd];rcases fh h.tab S' (some d) T x lo hi none with _ |⟨g,S1⟩<;>rfl) fun S' ha=>h1 S' (by rw[hl] at ha;exact ha)
 ·rename_i T x ix dh
  simp only[Bool.and_eq_true] at cA
  obtain⟨o',h1⟩:=YX (Θ:=h.tab) (d:=d) (T:=T) cA.1 cA.2
  have hl:bB ops o=br x++br ix:=by unfold bB;rw[dh]
  exact val (o':=o') (by unfold k9;rw[dh]) (fun S' K=>by unfold bE;rw[ho];simp only[hgd];unfold iX;rw[dh];simp only[ev,dh,hd];rcases cN h.tab S' (some d) T x ix with _ |⟨g,S1⟩<;>rfl) fun S' ha=>h1 S' (by rw[hl] at ha;exact ha)
 ·cases cA
theorem A6 {S:St} {o:Oper} (hg:k8 O ops S o=true):(k9 o=true∨∀ r∈bB ops o,∃ a,S.at r=.v a [])∧∀ r∈bB ops o,S.at r≠ .dead∧∀ x,(S.at r).refs x=true→x∈bB ops o:=by
 have key:(∀ r∈bB ops o,∃ a,S.at r=.v a [])→(k9 o=true∨∀ r∈bB ops o,∃ a,S.at r=.v a [])∧∀ r∈bB ops o,S.at r≠ .dead∧∀ x,(S.at r).refs x=true→x∈bB ops o:=fun h=>by
  refine⟨.inr h,fun r hr=>?_⟩
  obtain⟨a,ha⟩:=h r hr
  rw[ha]
  exact⟨fun e=>(by cases e),fun x hx=>by simp[AV.refs] at hx⟩
 unfold k8 at hg
 simp only[Bool.and_eq_true] at hg
 have cA:=hg.2
 split at cA
 ·rename_i f as ts dh
  simp only[Bool.and_eq_true,List.all_eq_true] at cA
  refine key fun r hr=>?_
  unfold bB at hr
  rw[dh] at hr
  obtain⟨x,hx,hr⟩:=List.mem_flatMap.1 hr
  exact jH (cA.2 x hx) r hr
 ·rename_i as ts dh
  simp only[List.all_eq_true] at cA
  refine key fun r hr=>?_
  unfold bB at hr
  rw[dh] at hr
  obtain⟨x,hx,hr⟩:=List.mem_flatMap.1 hr
  exact jH (cA x hx) r hr
 ·rename_i T n ps dh
  simp only[List.all_eq_true] at cA
  refine key fun r hr=>?_
  unfold bB at hr
  rw[dh] at hr
  obtain⟨x,hx,hr⟩:=List.mem_flatMap.1 hr
  exact jH (cA x hx) r hr
 ·rename_i T x dh
  split at cA
  case h_4=>cases cA
  case h_2=>
   rename_i t y hb hx
   have hl:bB ops o=[x]:=by unfold bB;rw[dh];simp only[hb]
   refine key fun r hr=>?_
   rw[hl] at hr
   simp only[List.mem_singleton] at hr
   subst hr
   exact⟨_,hx⟩
  case h_3=>
   rename_i t T1 tg me y hb hx
   have hl:bB ops o=[x]:=by unfold bB;rw[dh];simp only[hb]
   refine key fun r hr=>?_
   rw[hl] at hr
   simp only[List.mem_singleton] at hr
   subst hr
   exact⟨_,hx⟩
  rename_i s t s' p hb hx
  simp only[Bool.and_eq_true] at cA
  obtain⟨hs,hk⟩:=cA
  have:=Nat.eq_of_beq_eq_true hs
  subst this
  have hl:bB ops o=[x,s']:=by unfold bB;rw[dh];simp only[hb]
  refine⟨.inl (by unfold k9;rw[dh]),fun r hr=>?_⟩
  rw[hl] at hr ⊢
  simp only[List.mem_cons,List.not_mem_nil,or_false] at hr
  rcases hr with rfl |rfl
  ·rw[hx]
   refine⟨fun e=>(by cases e),fun y hy=>?_⟩
   simp only[AV.refs] at hy
   have:=Nat.eq_of_beq_eq_true hy
   simp[this]
  ·split at hk
   case h_2=>cases hk
   rename_i b CR
   unfold St.dS at CR
   split at CR
   ·rename_i a ex ha
    rw[ha]
    exact⟨fun e=>(by cases e),fun y hy=>by simp[AV.refs] at hy⟩
   ·cases CR
 ·rename_i T x lo hi dh
  simp only[Bool.and_eq_true] at cA
  have hl:bB ops o=br x++(gd lo++gd hi):=by unfold bB;rw[dh]
  refine key fun r hr=>?_
  rw[hl] at hr
  have aca:∀ {y:Option Operand},CM S y=true→r∈gd y→∃ a,S.at r=.v a []:=fun {y} h hr=>by
   cases y with
   |none=>simp[gd] at hr
   |some y=>exact jH h r hr
  rcases List.mem_append.1 hr with hr |hr
  ·exact jH (R3 cA.1) r hr
  ·rcases List.mem_append.1 hr with hr |hr
   ·exact aca cA.2.1 hr
   ·exact aca cA.2.2 hr
 ·rename_i T x ix dh
  simp only[Bool.and_eq_true] at cA
  have hl:bB ops o=br x++br ix:=by unfold bB;rw[dh]
  refine key fun r hr=>?_
  rw[hl] at hr
  rcases List.mem_append.1 hr with hr |hr
  ·exact jH (R3 cA.1) r hr
  ·exact jH cA.2 r hr
 ·cases cA
theorem sU {S S':St} {x:Operand} (h:jf S x=true) (ha:pw S S' (br x)):jf S' x=true:=by
 cases x with
 |tmp i=>simp only[jf,ha i (by simp[br])] at h ⊢;exact h
 |const c=>rfl
 |func f=>exact h
 |global g=>exact h
theorem VV {S S':St} {x:Operand} (h:RT S x=true) (ha:pw S S' (br x)):RT S' x=true:=by
 cases x with
 |tmp i=>simp only[RT,ha i (by simp[br])] at h ⊢;exact h
 |const c=>rfl
 |func f=>exact h
 |global g=>exact h
theorem H7 {S S':St} {o:Oper} (hg:k8 O ops S o=true) (ha:pw S S' (bB ops o)) (hl:S'.length=S.length) (hd:∀ d,o.dst=some d→(S'.at d).AN=false):k8 O ops S' o=true:=by
 obtain⟨h1,d,h2,h3,h4⟩:=xT hg
 unfold k8 at hg ⊢
 simp only[Bool.and_eq_true] at hg ⊢
 refine⟨⟨hg.1.1,?_⟩,?_⟩
 ·rw[h2]
  simp only[hd d h2,Bool.not_false,Bool.true_and]
  rw[hl]
  exact Nat.ble_eq_true_of_le h4
 ·have cA:=hg.2
  split at cA
  ·rename_i f as ts dh
   have R4:bB ops o=as.toList.flatMap br:=by unfold bB;rw[dh]
   rw[R4] at ha
   simp only[Bool.and_eq_true,List.all_eq_true] at cA
   simp only[Bool.and_eq_true,List.all_eq_true]
   exact⟨cA.1,fun x hx=>sU (cA.2 x hx) fun r hr=>ha r (List.mem_flatMap.2 ⟨x,hx,hr⟩)⟩
  ·rename_i as ts dh
   have R4:bB ops o=as.toList.flatMap br:=by unfold bB;rw[dh]
   rw[R4] at ha
   simp only[List.all_eq_true] at cA
   simp only[List.all_eq_true]
   exact fun x hx=>sU (cA x hx) fun r hr=>ha r (List.mem_flatMap.2 ⟨x,hx,hr⟩)
  ·rename_i T n ps dh
   have R4:bB ops o=ps.toList.flatMap fun q=>br q.2:=by unfold bB;rw[dh]
   rw[R4] at ha
   simp only[List.all_eq_true] at cA
   simp only[List.all_eq_true]
   exact fun x hx=>sU (cA x hx) fun r hr=>ha r (List.mem_flatMap.2 ⟨x,hx,hr⟩)
  ·rename_i T x dh
   split at cA
   case h_4=>cases cA
   case h_2=>
    rename_i t y hb hx
    have R4:bB ops o=[x]:=by unfold bB;rw[dh];simp only[hb]
    rw[R4] at ha
    rw[hb,(ha x (by simp)).trans hx]
   case h_3=>
    rename_i t T1 tg me y hb hx
    have R4:bB ops o=[x]:=by unfold bB;rw[dh];simp only[hb]
    rw[R4] at ha
    have h2:S'.dS x [.deref]=S.dS x [.deref]:=by unfold St.dS;rw[ha x (by simp)]
    rw[hb,(ha x (by simp)).trans hx]
    simp only[h2]
    exact cA
   rename_i s t s' p hb hx
   simp only[Bool.and_eq_true] at cA
   obtain⟨hs,hk⟩:=cA
   have:=Nat.eq_of_beq_eq_true hs
   subst this
   have R4:bB ops o=[x,s']:=by unfold bB;rw[dh];simp only[hb]
   rw[R4] at ha
   have h1:S'.at x=.ad t s' p:=(ha x (by simp)).trans hx
   have h2:S'.dS s' p=S.dS s' p:=by unfold St.dS;rw[ha s' (by simp)]
   rw[hb,h1]
   simp only[Bool.and_eq_true,h2]
   exact⟨Nat.beq_refl _,hk⟩
  ·rename_i T x lo hi dh
   simp only[Bool.and_eq_true] at cA
   have R4:bB ops o=br x++(gd lo++gd hi):=by unfold bB;rw[dh]
   rw[R4] at ha
   simp only[Bool.and_eq_true]
   have aca:∀ {y:Option Operand},CM S y=true→(∀ r∈gd y,r∈br x++(gd lo++gd hi))→CM S' y=true:=fun {y} h hs=>by
    cases y with
    |none=>rfl
    |some y=>exact sU h fun r hr=>ha r (hs r hr)
   exact⟨VV cA.1 fun r hr=>ha r (by simp[hr]),aca cA.2.1 fun r hr=>by simp[hr],aca cA.2.2 fun r hr=>by simp[hr]⟩
  ·rename_i T x ix dh
   simp only[Bool.and_eq_true] at cA
   have R4:bB ops o=br x++br ix:=by unfold bB;rw[dh]
   rw[R4] at ha
   simp only[Bool.and_eq_true]
   exact⟨VV cA.1 fun r hr=>ha r (by simp[hr]),sU cA.2 fun r hr=>ha r (by simp[hr])⟩
  ·cases cA
theorem Jf {S:St} {o:Oper} (hg:k8 O ops S o=true) {d:Nat} (hd:o.dst=some d) {E:sh} (he:E.d=d∧oU E.v∧E.cF.Nodup∧(∀ r∈E.cF,r∈bB ops o)∧(k9 o=true→E.cF=[])):E.In S:=by
 obtain⟨_,d',h2,h3,h4⟩:=xT hg
 rw[hd] at h2
 injection h2 with h2
 subst h2
 obtain⟨e1,e2,e3,e4,e5⟩:=he
 have hv:∀ r∈E.cF,∃ a,S.at r=.v a []:=fun r hr=>by
  rcases(A6 hg).1 with hc |hv
  ·rw[e5 hc] at hr;cases hr
  ·exact hv r (e4 r hr)
 refine⟨e3,hv,by rw[e1];exact h3,by rw[e1];exact h4,e2,fun hk=>?_⟩
 obtain⟨a,ha⟩:=hv _ hk
 rw[e1] at ha
 rw[ha] at h3
 cases h3
theorem YY {a:AV} {x:Nat} (h:a.refs x=true):a.AN=false:=by cases a<;>first |rfl |(simp[AV.refs] at h)
theorem ah6 {E:sh} {S:St} (h:E.In S) {i:Nat} (hi:i≠E.d) (hv:(S.at i).AN=false):((E.app S).at i).AN=false:=by
 rw[sh.sR h,if_neg hi]
 split
 ·rfl
 ·cases E.cF.any (S.at i).refs with
  |true=>rfl
  |false=>exact hv
theorem acb {E:sh} {S:St} (h:E.In S) {i:Nat} (hi:i≠E.d) (hk:i∉E.cF) (hv:((E.app S).at i).AN=false):(S.at i).AN=false:=by
 rw[sh.sR h,if_neg hi,if_neg hk] at hv
 cases ha:E.cF.any (S.at i).refs with
 |true=>
  obtain⟨x,_,hx⟩:=List.any_eq_true.1 ha
  exact YY hx
 |false=>rw[ha] at hv;exact hv
theorem auK {E:sh} {S:St} (h:E.In S) {i:Nat} (hi:i≠E.d) (hv:(E.app S).at i≠ .dead):S.at i=(E.app S).at i:=by
 rw[sh.sR h,if_neg hi] at hv ⊢
 split at hv
 ·exact absurd rfl hv
 ·rename_i hk
  rw[if_neg hk]
  cases ha:E.cF.any (S.at i).refs with
  |true=>rw[ha] at hv;exact absurd rfl hv
  |false=>rfl
theorem auL {E:sh} {S:St} (h:E.In S) {i:Nat} (hi:i≠E.d) (hk:i∉E.cF) (hr:∀ x,(S.at i).refs x=true→x∉E.cF):(E.app S).at i=S.at i:=by
 rw[sh.sR h,if_neg hi,if_neg hk]
 have:E.cF.any (S.at i).refs=false:=List.any_eq_false.2 fun x hx nb=>hr x nb hx
 rw[this]
 rfl
theorem acd (hO:pq O) {i j:Nat} {oi oj:Oper} (hi:ops[i]?=some oi) (hj:ops[j]?=some oj) (hd:HY ops oi oj=true) {r:List Nat} {S:St} {K:St→Option ab} {ret:ab} (e:n6 h O ops (i::j::r) S K=some ret):n6 h O ops (j::i::r) S K=some ret:=by
 simp only[n6,hi,hj] at e ⊢
 cases gi:k8 O ops S oi with
 |false=>rw[gi] at e;cases e
 |true=>
 rw[gi] at e
 simp only[cond_true] at e
 obtain⟨_,di,R5,hvi,_⟩:=xT gi
 obtain⟨oE,E1,E2⟩:=VU (h:=h) hO hi gi R5
 rw[E2 S (fun _ _=>rfl)] at e
 cases oE with
 |none=>cases e
 |some E=>
 simp only[Option.bind_some] at e
 have EI:=Jf gi R5 (E1 E rfl)
 obtain⟨Ed,Er,En,Ek,Ec⟩:=E1 E rfl
 cases gj:k8 O ops (E.app S) oj with
 |false=>rw[gj] at e;cases e
 |true=>
 rw[gj] at e
 simp only[cond_true] at e
 obtain⟨_,dj,hdj,hvj,_⟩:=xT gj
 obtain⟨oF,F1,F2⟩:=VU (h:=h) hO hj gj hdj
 rw[F2 _ (fun _ _=>rfl)] at e
 cases oF with
 |none=>cases e
 |some F=>
 simp only[Option.bind_some] at e
 have FI1:=Jf gj hdj (F1 F rfl)
 obtain⟨Fd,Fr,Fn,Fk,Fc⟩:=F1 F rfl
 unfold HY at hd
 rw[R5,hdj] at hd
 simp only[Bool.and_eq_true,Bool.not_eq_true',Bool.or_eq_true] at hd
 obtain⟨⟨⟨d1,d2⟩,d3⟩,d4⟩:=hd
 have d1:di≠dj:=fun e=>by subst e;rw[Nat.beq_refl] at d1;cases d1
 have d2:di∉bB ops oj:=fun hm=>by
  have:=List.any_eq_false.1 d2 di hm
  rw[Nat.beq_refl] at this
  exact this rfl
 have d3:dj∉bB ops oi:=fun hm=>by
  have:=List.any_eq_false.1 d3 dj hm
  rw[Nat.beq_refl] at this
  exact this rfl
 have d5:∀ r∈bB ops oi,r∉F.cF:=fun r hr hk=>by
  rcases d4 with d4 |d4
  ·rw[Fc d4.2] at hk;cases hk
  ·have h1:=List.any_eq_false.1 d4 r hr
   have h2:(bB ops oj).any (Nat.beq r)=true:=List.any_eq_true.2 ⟨r,Fk r hk,Nat.beq_refl r⟩
   exact h1 h2
 have ag1:pw (E.app S) S (bB ops oj):=fun r hr=>by
  exact auK EI (fun e=>d2 (by rw[←Ed,←e];exact hr)) ((A6 gj).2 r hr).1
 have awL:dj∉E.cF:=fun hk=>d3 (Ek dj hk)
 have gj0:k8 O ops S oj=true:=H7 gj ag1 (sh.Jd E S).symm (fun d hd=>by
  rw[hdj] at hd
  injection hd with hd
  subst hd
  exact acb EI (fun e=>d1 (by rw[←Ed,←e])) awL hvj)
 have FI:=Jf gj0 hdj (F1 F rfl)
 have ag2:pw S (F.app S) (bB ops oi):=fun r hr=>by
  exact auL FI (fun e=>d3 (by rw[←Fd,←e];exact hr)) (d5 r hr) fun x hx=>d5 x (((A6 gi).2 r hr).2 x hx)
 have gi1:k8 O ops (F.app S) oi=true:=H7 gi ag2 (sh.Jd F S) (fun d hd=>by
  rw[R5] at hd
  injection hd with hd
  subst hd
  exact ah6 FI (fun e=>d1 (by rw[←Fd,←e])) hvi)
 have EI1:=Jf gi1 R5 (E1 E rfl)
 rw[gj0]
 simp only[cond_true]
 rw[F2 S ag1]
 simp only[Option.bind_some]
 rw[gi1]
 simp only[cond_true]
 rw[E2 _ ag2]
 simp only[Option.bind_some]
 rw[sh.comm EI FI (by rw[Ed,Fd];exact d1) (fun hk=>by rw[Ed] at hk;exact d2 (Fk _ hk)) (fun hk=>by rw[Fd] at hk;exact d3 (Ek _ hk)) EI1 FI1]
 exact e
theorem H8 (hO:pq O) {j:Nat} {oj:Oper} (hj:ops[j]?=some oj):∀ (p r:List Nat) {S:St} {K:St→Option ab} {ret:ab},(∀ x∈p,∃ ox,ops[x]?=some ox∧HY ops ox oj=true)→n6 h O ops (p++j::r) S K=some ret→n6 h O ops (j::(p++r)) S K=some ret
 |[],r,S,K,ret,_,e=>e
 |x::p,r,S,K,ret,hp,e=>by
  obtain⟨ox,hox,hdx⟩:=hp x (by simp)
  refine acd hO hox hj hdx ?_
  simp only[List.cons_append] at e
  unfold n6 at e ⊢
  rw[hox] at e ⊢
  simp only at e ⊢
  cases gx:k8 O ops S ox with
  |false=>rw[gx] at e;cases e
  |true=>
   rw[gx] at e
   simp only[cond_true] at e ⊢
   obtain⟨o,ho⟩:=jF (h:=h) (ops:=ops) hO x (fun o' Hw=>by
    rw[hox] at Hw
    injection Hw with Hw
    subst Hw
    unfold k8 at gx
    simp only[Bool.and_eq_true] at gx
    have g2:=gx.2
    split at g2<;>first |(rename_i cA;rw[cA];rfl) |cases g2) S
   rw[ho] at e ⊢
   cases o with
   |none=>cases e
   |some S1=>
    simp only[Option.bind_some] at e ⊢
    exact H8 hO hj p r (fun y hy=>hp y (by simp[hy])) e
end Go.Pv
namespace Go.Pv
set_option linter.unusedVariables false
set_option linter.unusedSimpArgs false
variable {h:Hint} {O:jS} {Θ:ee} {ops:Array Oper} {ret:ab}
theorem EN {a:AV} {s:Nat}:a.refs s=true↔s∈slotsOf a:=by
 cases a with
 |al t s' p=>simp only[AV.refs,slotsOf,List.mem_singleton,Nat.beq_eq];exact eq_comm
 |ad t s' p=>simp only[AV.refs,slotsOf,List.mem_singleton,Nat.beq_eq];exact eq_comm
 |cut t s' p lo hi=>simp only[AV.refs,slotsOf,List.mem_singleton,Nat.beq_eq];exact eq_comm
 |mg f c8=>
  simp only[AV.refs,slotsOf,List.any_eq_true,List.mem_filterMap]
  constructor
  ·rintro⟨c,hc,h⟩
   refine⟨c,hc,?_⟩
   cases c with
   |kv b=>cases h
   |pl t s' p=>simp at h;simp[h]
  ·rintro⟨c,hc,h⟩
   refine⟨c,hc,?_⟩
   cases c with
   |kv b=>cases h
   |pl t s' p=>simp at h;simp[h]
 |_=>simp[AV.refs,slotsOf]
def bF (Δ:Nat→Bool) (S:St):Prop:=∀ i s,(S.at i).refs s=true→Δ i=Δ s
theorem qw {Δ:Nat→Bool}:∀ {S:St} {k:Nat},lH Δ S k=true↔∀ i s,(S.at i).refs s=true→Δ (k+i)=Δ s
 |[],k=>by simp[lH,St.at,AV.refs]
 |a::r,k=>by
  simp only[lH,Bool.and_eq_true,List.all_eq_true,beq_iff_eq]
  constructor
  ·rintro⟨h1,h2⟩ i s hs
   cases i with
   |zero=>exact h1 s (EN.1 (by simpa[St.at] using hs))
   |succ i=>
    have:=(qw.1 h2) i s (by simpa[St.at] using hs)
    rw[←this];congr 1;omega
  ·intro hh
   refine⟨fun s hs=>by simpa using hh 0 s (by simpa[St.at] using EN.2 hs),qw.2 fun i s hs=>?_⟩
   have:=hh (i+1) s (by simpa[St.at] using hs)
   rw[←this];congr 1;omega
theorem jT {Δ:Nat→Bool} {S:St}:lH Δ S 0=true↔bF Δ S:=by
 rw[qw]
 simp only[Nat.zero_add,bF]
def mix (Δ:Nat→Bool) (A B:St):St:=(List.range A.length).map fun i=>bif Δ i then A.at i else B.at i
theorem H9 {S:St} {i:Nat} (h:S.length≤i):S.at i=.dead:=by
 unfold St.at
 rw[List.getD_eq_getElem?_getD,List.getElem?_eq_none h];rfl
theorem ik (Δ:Nat→Bool) (A B:St):(mix Δ A B).length=A.length:=by simp[mix]
theorem lr {Δ:Nat→Bool} {A B:St} (hl:B.length=A.length) (i:Nat):(mix Δ A B).at i=bif Δ i then A.at i else B.at i:=by
 by_cases hi:i<A.length
 ·unfold mix
  conv=>lhs;unfold St.at
  rw[List.getD_eq_getElem?_getD,List.getElem?_map,List.getElem?_range hi]
  rfl
 ·rw[H9 (by rw[ik];omega),H9 (S:=A) (by omega),H9 (S:=B) (by omega)]
  cases Δ i<;>rfl
theorem mq {Δ:Nat→Bool} {A B:St} (hl:B.length=A.length) {i:Nat} (hi:Δ i=true):(mix Δ A B).at i=A.at i:=by rw[lr hl,hi];rfl
theorem EO (Δ:Nat→Bool) (S:St):mix Δ S S=S:=oV (ik _ _ _) fun i=>by rw[lr rfl];cases Δ i<;>rfl
theorem Jg {Δ:Nat→Bool} {A B:St} (hl:B.length=A.length):mix (fun i=>!Δ i) B A=mix Δ A B:=oV (by rw[ik,ik,hl]) fun i=>by
 rw[lr hl,lr hl.symm];cases Δ i<;>rfl
theorem bF.not {Δ:Nat→Bool} {S:St} (h:bF Δ S):bF (fun i=>!Δ i) S:=fun i s hs=>by simp only[h i s hs]
section
variable {Δ:Nat→Bool} {A B:St}
theorem A7 (hB:bF Δ B) {i d:Nat} (hi:Δ i=false) (hd:Δ d=true):(B.at i).refs d=false:=by
 cases hr:(B.at i).refs d with
 |false=>rfl
 |true=>have:=hB i d hr;rw[hi,hd] at this;cases this
theorem uo (hl:B.length=A.length) (hB:bF Δ B) {d:Nat} (hd:Δ d=true) (a:AV):(mix Δ A B).put (some d) a=mix Δ (A.put (some d) a) B:=by
 refine oV (by rw[cJ,ik,ik,cJ]) fun i=>?_
 rw[lr (by rw[cJ,hl]),eU,eU,ik,lr hl,mq hl hd]
 cases hi:Δ i with
 |true=>rfl
 |false=>
  have YZ: ¬(i=d∧d<A.length):=fun e=>by rw[e.1,hd] at hi;cases hi
  rw[if_neg YZ]
  simp only[cond_false]
  rw[A7 hB hi hd];rfl
theorem xU (hl:B.length=A.length) {d:Nat} (hd:Δ d=true) (a:AV):(mix Δ A B).set d a=mix Δ (A.set d a) B:=by
 refine oV (by rw[List.length_set,ik,ik,List.length_set]) fun i=>?_
 rw[lr (by rw[List.length_set,hl]),dA,dA,ik,lr hl]
 cases hi:Δ i with
 |true=>rfl
 |false=>
  have YZ: ¬(i=d∧d<A.length):=fun e=>by rw[e.1,hd] at hi;cases hi
  rw[if_neg YZ]
  rfl
theorem R6 {a:AV} {d:Nat} (h:a.refs d=false):a.ga d=false:=by
 cases a with
 |al t s p=>simp only[AV.refs] at h;simp only[AV.ga,h];rfl
 |ad t s p=>simp only[AV.refs] at h;simp only[AV.ga,h];rfl
 |cut t s p lo hi=>simpa only[AV.refs,AV.ga] using h
 |mg f c8=>
  simp only[AV.refs,AV.ga,List.any_eq_false] at h ⊢
  intro c hc
  have:=h c hc
  cases c with
  |kv b=>simp
  |pl t s p=>cases p<;>simp_all
 |_=>rfl
theorem vT (hl:B.length=A.length) (hB:bF Δ B) {d:Nat} (hd:Δ d=true):(mix Δ A B).weaken d=mix Δ (A.weaken d) B:=by
 refine oV (by simp[St.weaken,ik]) fun i=>?_
 rw[lr (by simp[St.weaken,hl]),lq,lq,lr hl]
 cases hi:Δ i with
 |true=>rfl
 |false=>simp only[cond_false];rw[R6 (A7 hB hi hd)];rfl
theorem A8 (S:St) (d:Nat) (p:Path) (i:Nat):(S.cover d p).at i=match S.at i with
  | .ad t s q=>bif Nat.beq s d&&under p q then .dead else .ad t s q
  |a=>a:=EJ S _ rfl i
theorem Ia (hl:B.length=A.length) (hB:bF Δ B) {d:Nat} (hd:Δ d=true) (p:Path):(mix Δ A B).cover d p=mix Δ (A.cover d p) B:=by
 refine oV (by simp[St.cover,ik]) fun i=>?_
 rw[lr (by simp[St.cover,hl]),A8,A8,lr hl]
 cases hi:Δ i with
 |true=>rfl
 |false=>
  simp only[cond_false]
  have:=A7 hB hi hd
  cases hb:B.at i with
  |ad t s q=>rw[hb] at this;simp only[AV.refs] at this;simp only[this];rfl
  |_=>rfl
theorem xV {c:Bool} {a:AV} {s:Nat} (h:(bif c then AV.dead else a).refs s=true):a.refs s=true:=by
 cases c with
 |true=>simp[AV.refs] at h
 |false=>exact h
theorem lu (hA:bF Δ A) {d:Nat} (hd:Δ d=true) {a:AV} (ha:∀ s,a.refs s=true→Δ s=true):bF Δ (A.put (some d) a):=fun i s hs=>by
 rw[eU] at hs
 split at hs
 ·rename_i hi
  rw[hi.1,hd]
  exact(ha s (xV hs)).symm
 ·exact hA i s (xV hs)
theorem np (hA:bF Δ A) {d:Nat} (hd:Δ d=true) {a:AV} (ha:∀ s,a.refs s=true→Δ s=true):bF Δ (A.set d a):=fun i s hs=>by
 rw[dA] at hs
 split at hs
 ·rename_i hi
  rw[hi.1,hd]
  exact(ha s hs).symm
 ·exact hA i s hs
theorem oW (hA:bF Δ A) (d:Nat):bF Δ (A.weaken d):=fun i s hs=>by
 rw[lq] at hs
 exact hA i s (xV hs)
theorem xW (hA:bF Δ A) (d:Nat) (p:Path):bF Δ (A.cover d p):=fun i s hs=>by
 rw[A8] at hs
 refine hA i s ?_
 cases hb:A.at i with
 |ad t s' q=>rw[hb] at hs;exact xV hs
 |_=>rw[hb] at hs;exact hs
theorem ku (hl:B.length=A.length) {x:Operand} (hx:m9 Δ x=true) (T:TypeId):(mix Δ A B).fb Θ T x=A.fb Θ T x:=by
 cases x with
 |tmp i=>simp only[St.fb];rw[mq hl hx]
 |_=>rfl
theorem iF (hA:bF Δ A) {x:Operand} (hx:m9 Δ x=true) {T:TypeId} {a:AV} (e:A.fb Θ T x=some a):∀ s,a.refs s=true→Δ s=true:=fun s hs=>by
 cases x with
 |tmp i=>
  simp only[St.fb,Option.some.injEq] at e
  subst e
  rw[←hA i s hs];exact hx
 |const c=>
  simp only[St.fb] at e
  split at e
  ·injection e with e;subst e;simp[AV.refs] at hs
  ·cases e
 |func f=>
  simp only[St.fb,Option.some.injEq] at e
  subst e
  simp[AV.refs] at hs
 |global g=>cases e
theorem nc (hl:B.length=A.length) {s:Nat} (hs:Δ s=true) (p:Path):(mix Δ A B).place s p=A.place s p:=by unfold St.place;rw[mq hl hs]
theorem lv (hl:B.length=A.length) {s:Nat} (hs:Δ s=true) (p:Path):(mix Δ A B).dS s p=A.dS s p:=by unfold St.dS;rw[mq hl hs]
theorem n7 {t:Ty} {s:Nat} {p:Path}:(AV.al t s p).refs s=true:=by simp[AV.refs]
theorem ah7 {t:Ty} {s:Nat} {p:Path}:(AV.ad t s p).refs s=true:=by simp[AV.refs]
theorem Nw {t:Ty} {s:Nat} {p:Path} {lo hi:Nat}:(AV.cut t s p lo hi).refs s=true:=by simp[AV.refs]
theorem VW (hl:B.length=A.length) {a:AV} (ha:∀ s,a.refs s=true→Δ s=true):(mix Δ A B).uk a=A.uk a:=by
 cases a with
 |al t s p=>simp only[St.uk];exact nc hl (ha s n7) p
 |cut t s p lo hi=>simp only[St.uk];rw[nc hl (ha s Nw) p]
 |v b ex=>cases ex<;>rfl
 |_=>rfl
theorem A9 (hl:B.length=A.length) (hA:bF Δ A) {x:Operand} (hx:m9 Δ x=true) (T:TypeId):(mix Δ A B).rd Θ T x=A.rd Θ T x:=by
 unfold St.rd
 rw[ku hl hx]
 cases e:A.fb Θ T x with
 |none=>rfl
 |some a=>exact VW hl (iF hA hx e)
theorem Ba (hl:B.length=A.length) (hA:bF Δ A) {x:Operand} (hx:m9 Δ x=true):(mix Δ A B).mB Θ x=A.mB Θ x:=by
 unfold St.mB
 rw[A9 hl hA hx]
theorem c9 {b:TV} {ex:List Path}:∀ s,(AV.v b ex).refs s=true→Δ s=true:=fun s hs=>by simp[AV.refs] at hs
def Mx (Δ:Nat→Bool) (A B:St) {α:Type} (X Y:Option (α×St)):Prop:=Y=X.map (fun q=>(q.1,mix Δ q.2 B))∧∀ q,X=some q→bF Δ q.2∧q.2.length=A.length
theorem aT {α:Type}:Mx Δ A B (α:=α) none none:=⟨rfl,fun _ h=>by cases h⟩
theorem il {α:Type} {c:α} {A1 S1:St} (h:S1=mix Δ A1 B) (hc:bF Δ A1) (hl:A1.length=A.length):Mx Δ A B (some (c,A1)) (some (c,S1)):=⟨by rw[h];rfl,fun q hq=>by injection hq with hq;subst hq;exact⟨hc,hl⟩⟩
theorem eK {α:Type} {c:α} {d:Nat} {a:AV} (hl:B.length=A.length) (hB:bF Δ B) {A1:St} (hA:bF Δ A1) (Bb:A1.length=A.length) (hd:Δ d=true) (ha:∀ s,a.refs s=true→Δ s=true):
  Mx Δ A B (some (c,A1.put (some d) a)) (some (c,(mix Δ A1 B).put (some d) a)):=il (uo (by rw[hl,Bb]) hB hd a) (lu hA hd ha) (by rw[cJ,Bb])
theorem Ib (hl:B.length=A.length) (hA:bF Δ A) (hB:bF Δ B) {x:Operand} (hx:m9 Δ x=true) {a:AV} (ha:∀ s,a.refs s=true→Δ s=true):Mx Δ A B (A.eS x a) ((mix Δ A B).eS x a):=by
 have se:∀ s,AV.dead.refs s=true→Δ s=true:=fun s hs=>by simp[AV.refs] at hs
 cases a with
 |v b ex=>
  simp only[St.eS]
  cases b.m.cy with
  |true=>exact il rfl hA rfl
  |false=>
   simp only[cond_false]
   cases ex with
   |nil=>
    cases x with
    |tmp i=>exact eK hl hB hA rfl hx se
    |const c=>exact il rfl hA rfl
    |func f=>exact il rfl hA rfl
    |global g=>exact il rfl hA rfl
   |cons _ _=>cases x<;>exact aT
 |al t s p=>
  have hs:=ha s n7
  simp only[St.eS]
  rw[nc hl hs]
  cases hp:A.place s p with
  |none=>exact aT
  |some b=>
   simp only
   cases b.m.cy with
   |true=>exact il rfl hA rfl
   |false=>
    simp only[cond_false]
    cases p with
    |nil=>exact eK hl hB hA rfl hs se
    |cons st pp=>
     rw[mq hl hs]
     cases A.at s with
     |v r ex=>
      have h1:=xW (oW hA s) s (st::pp)
      have l1:B.length=(A.weaken s).length:=by simp[St.weaken,hl]
      have l2:B.length=((A.weaken s).cover s (st::pp)).length:=by simp[St.weaken,St.cover,hl]
      refine il ?_ (np h1 hs c9) (by simp[St.weaken,St.cover])
      rw[vT hl hB hs,Ia l1 hB hs,xU l2 hs]
     |_=>exact aT
 |cut t s p lo hi=>
  have hs:=ha s Nw
  cases p with
  |cons _ _=>exact aT
  |nil=>
   simp only[St.eS]
   rw[nc hl hs]
   split
   ·cases Nat.beq lo 0 with
    |true=>exact eK hl hB hA rfl hs se
    |false=>exact aT
   ·exact aT
 |_=>exact aT
theorem sV (hl:B.length=A.length) (hA:bF Δ A) (hB:bF Δ B) {x:Operand} (hx:m9 Δ x=true) (T:TypeId):Mx Δ A B (A.take Θ T x) ((mix Δ A B).take Θ T x):=by
 unfold St.take
 rw[ku hl hx]
 cases e:A.fb Θ T x with
 |none=>exact aT
 |some a=>exact Ib hl hA hB hx (iF hA hx e)
theorem Bc (hB:bF Δ B) {ps:List (Nat×Operand)} (hx:∀ q∈ps,m9 Δ q.2=true):∀ (r:List TypeId) (j:Nat) {A:St},B.length=A.length→bF Δ A→Mx Δ A B (A.parts Θ ps r j) ((mix Δ A B).parts Θ ps r j)
 |[],j,A,hl,hA=>il rfl hA rfl
 |T::r,j,A,hl,hA=>by
  simp only[St.parts]
  cases hf:ps.find? (fun q=>Nat.beq q.1 j) with
  |some q=>
   simp only
   obtain⟨h1,h2⟩:=sV (Θ:=Θ) hl hA hB (hx q (List.mem_of_find?_eq_some hf)) T
   rw[h1]
   cases ht:A.take Θ T q.2 with
   |none=>exact aT
   |some b=>
    obtain⟨b,A1⟩:=b
    obtain⟨c1,c2⟩:=h2 _ ht
    simp only[Option.map_some]
    obtain⟨k1,k2⟩:=Bc hB hx r (j+1) (by rw[c2,hl]) c1
    rw[k1]
    cases hp:St.parts Θ A1 ps r (j+1) with
    |none=>exact aT
    |some l=>
     obtain⟨d1,d2⟩:=k2 _ hp
     exact il rfl d1 (by rw[d2,c2])
  |none=>
   simp only
   cases sE Θ T with
   |none=>exact aT
   |some z=>
    simp only
    obtain⟨k1,k2⟩:=Bc hB hx r (j+1) hl hA
    rw[k1]
    cases hp:St.parts Θ A ps r (j+1) with
    |none=>exact aT
    |some l=>
     obtain⟨d1,d2⟩:=k2 _ hp
     exact il rfl d1 d2
end
end Go.Pv
namespace Go.Pv
set_option linter.unusedVariables false
set_option linter.unusedSimpArgs false
variable {h:Hint} {O:jS} {Θ:ee} {hn:Hn} {ops:Array Oper} {ret:ab} {Δ:Nat→Bool} {A B:St}
theorem Y0 (S S':St) (x:Operand) (a:AV):S.copy x a=S'.copy x a:=by cases a<;>rfl
theorem Y1 {x:Operand} (hx:m9 Δ x=true) {a a':AV} (ha:∀ s,a.refs s=true→Δ s=true) (e:A.copy x a=some a'):∀ s,a'.refs s=true→Δ s=true:=fun s hs=>by
 cases a with
 |v b ex=>
  simp only[St.copy] at e
  cases hk:b.m.cy with
  |true=>rw[hk] at e;simp only[cond_true,Option.some.injEq] at e;subst e;simp[AV.refs] at hs
  |false=>
   rw[hk] at e
   simp only[cond_false] at e
   cases x with
   |tmp i=>
    simp only[Option.some.injEq] at e
    subst e
    simp only[AV.refs,Nat.beq_eq] at hs
    subst hs
    exact hx
   |_=>
    simp only at e
    split at e
    ·injection e with e;subst e;simp[AV.refs] at hs
    ·cases e
 |u5 l=>cases e
 |dead=>cases e
 |_=>simp only[St.copy,Option.some.injEq] at e;subst e;exact ha s hs
theorem Jh (hl:B.length=A.length) {x:Operand} {a:AV} (ha:∀ s,a.refs s=true→Δ s=true):(mix Δ A B).HV x a=A.HV x a:=by
 cases a with
 |v b ex=>
  obtain⟨t,m,y⟩:=b
  cases t<;>cases m<;>cases ex<;>rfl
 |al t s p=>
  cases t with
  |ptr t=>simp only[St.HV];rw[lv hl (ha s n7)]
  |_=>rfl
 |_=>rfl
theorem EP {x:Operand} (hx:m9 Δ x=true) {a:AV} (ha:∀ s,a.refs s=true→Δ s=true) {t:Ty} {s:Nat} {p:Path} (e:A.HV x a=some (.pl t s p)):Δ s=true:=by
 cases a with
 |v b ex=>
  obtain⟨t',m,y⟩:=b
  simp only[St.HV] at e
  split at e
  ·rename_i heq
   injection heq with h1 h2
   split at e
   ·cases e
   ·injection e with e;injection e with _ e _;subst e;exact hx
   ·cases e
  ·split at e
   ·injection e with e;injection e with _ e _;subst e;exact hx
   ·cases e
  all_goals first |(rename_i heq;cases heq;done) |(cases e;done)
 |al t' s' p'=>
  simp only[St.HV] at e
  split at e
  ·rename_i heq;cases heq
  ·rename_i heq;cases heq
  ·rename_i heq
   injection heq with h1 h2 h3
   subst h2
   split at e
   ·cases e
   ·injection e with e;injection e with _ e _;subst e;exact ha _ n7
   ·cases e
  ·rename_i heq;cases heq
  ·cases e
 |ad t' s' p'=>
  simp only[St.HV,Option.some.injEq,Tgt.pl.injEq] at e
  rw[←e.2.1];exact ha _ ah7
 |_=>simp[St.HV] at e
theorem R7 (hl:B.length=A.length) {g:Tgt} (hg:∀ t s p,g=.pl t s p→Δ s=true):(mix Δ A B).loadAt g=A.loadAt g:=by
 cases g with
 |k a=>rfl
 |pl t s p=>simp only[St.loadAt];rw[lv hl (hg t s p rfl),nc hl (hg t s p rfl)]
theorem Nx {g:Tgt} (hg:∀ t s p,g=.pl t s p→Δ s=true) {a:AV} (e:A.loadAt g=some a):∀ s,a.refs s=true→Δ s=true:=fun s hs=>by
 cases g with
 |k b=>simp only[St.loadAt,Option.some.injEq] at e;subst e;simp[AV.refs] at hs
 |pl t s' p=>
  simp only[St.loadAt] at e
  split at e
  case h_2=>cases e
  rename_i b hb
  cases hk:b.m.cy with
  |true=>
   rw[hk] at e
   simp only[cond_true] at e
   split at e
   ·injection e with e;subst e;simp[AV.refs] at hs
   ·cases e
  |false=>
   rw[hk] at e
   simp only[cond_false,Option.some.injEq] at e
   subst e
   simp only[AV.refs,Nat.beq_eq] at hs
   subst hs
   exact hg _ _ _ rfl
section
variable (hl:B.length=A.length) (hA:bF Δ A) (hB:bF Δ B) {d:Nat} (hd:Δ d=true)
include hl hA hB hd
theorem Y2 (T:TypeId):Mx Δ A B (qn Θ hn A (some d) T) (qn Θ hn (mix Δ A B) (some d) T):=by
 unfold qn
 cases sE Θ T with
 |none=>exact aT
 |some z=>
  simp only
  cases vM z.t (hn.find (some d) z.m) with
  |true=>exact eK hl hB hA rfl hd c9
  |false=>exact aT
theorem ace (T:TypeId) {x:Operand} (hx:m9 Δ x=true):Mx Δ A B (iC Θ A (some d) T x) (iC Θ (mix Δ A B) (some d) T x):=by
 unfold iC
 rw[ku hl hx]
 cases e:A.fb Θ 0 x with
 |none=>exact aT
 |some a=>
  simp only
  have ha:=iF hA hx e
  rw[Jh hl ha]
  cases et:A.HV x a with
  |none=>exact aT
  |some g=>
   simp only
   have hg:∀ t s p,g=.pl t s p→Δ s=true:=fun t s p eg=>by subst eg;exact EP hx ha et
   rw[R7 hl hg]
   cases el:A.loadAt g with
   |none=>exact aT
   |some r=>
    simp only
    cases Θ.is T g.ty with
    |true=>exact eK hl hB hA rfl hd (Nx hg el)
    |false=>exact aT
theorem acf (T:TypeId) {x:Operand} (hx:m9 Δ x=true):Mx Δ A B (qm Θ A (some d) T x) (qm Θ (mix Δ A B) (some d) T x):=by
 unfold qm
 rw[ku hl hx,ik]
 have se:∀ s,AV.dead.refs s=true→Δ s=true:=fun s hs=>by simp[AV.refs] at hs
 cases e:A.fb Θ T x with
 |none=>exact aT
 |some a=>
  have ha:=iF hA hx e
  cases a with
  |u5 l=>
   cases x with
   |tmp i=>
    simp only
    cases (Nat.beq d i|| !Nat.blt d A.length) with
    |true=>exact aT
    |false=>
     simp only[cond_false]
     have h1:(mix Δ A B).put (some i) .dead=mix Δ (A.put (some i) .dead) B:=uo hl hB hx .dead
     rw[h1]
     exact eK hl hB (lu hA hx se) (cJ _ _ _) hd (fun s hs=>by simp[AV.refs] at hs)
   |_=>exact aT
  |_=>
   simp only
   rw[Y0 (mix Δ A B) A]
   split
   ·rename_i a' hc
    exact eK hl hB hA rfl hd (Y1 hx ha hc)
   ·exact aT
theorem Ny {x:Operand} (hx:m9 Δ x=true) (j:Nat):Mx Δ A B (gW A (some d) x j) (gW (mix Δ A B) (some d) x j):=by
 unfold gW
 cases x with
 |tmp i=>
  simp only
  rw[mq hl hx]
  split
  ·rename_i l hi
   split
   ·rename_i a ha
    cases a.m.cy with
    |true=>exact eK hl hB hA rfl hd c9
    |false=>
     simp only[cond_false]
     cases Nat.beq d i with
     |true=>exact aT
     |false=>
      simp only[cond_false]
      have h1:(mix Δ A B).set i (.u5 (l.set j none))=mix Δ (A.set i (.u5 (l.set j none))) B:=xU hl hx _
      rw[h1]
      exact eK hl hB (np hA hx (fun s hs=>by simp[AV.refs] at hs)) (by simp) hd c9
   ·exact aT
  ·exact aT
 |_=>exact aT
theorem ER (T:TypeId) (n:Nat) {ps:List (Nat×Operand)} (hx:∀ q∈ps,m9 Δ q.2=true):Mx Δ A B (cn Θ hn A (some d) T n ps) (cn Θ hn (mix Δ A B) (some d) T n ps):=by
 unfold cn
 split
 ·cases (lG n ps&&Nat.ble n 1800) with
  |false=>exact aT
  |true=>
   simp only[cond_true]
   rename_i t e fs _
   obtain⟨k1,k2⟩:=Bc (Θ:=Θ) hB hx (List.replicate n e) 0 hl hA
   rw[k1]
   cases hp:St.parts Θ A ps (List.replicate n e) 0 with
   |none=>exact aT
   |some q=>
    obtain⟨l,A1⟩:=q
    obtain⟨c1,c2⟩:=k2 _ hp
    simp only[Option.map_some]
    cases l with
    |nil=>exact eK hl hB c1 c2 hd c9
    |cons a l=>
     simp only
     cases sF t a.m (a::l) with
     |none=>exact aT
     |some xs=>exact eK hl hB c1 c2 hd c9
 ·exact aT
theorem R8 {ts:List TypeId} {as:List Operand} (hx:∀ x∈as,m9 Δ x=true):Mx Δ A B (cO Θ A (some d) ts as) (cO Θ (mix Δ A B) (some d) ts as):=by
 unfold cO
 split
 ·rename_i x y T T'
  obtain⟨k1,k2⟩:=sV (Θ:=Θ) hl hA hB (hx x (by simp)) T
  rw[k1]
  cases ht:A.take Θ T x with
  |none=>exact aT
  |some q=>
   obtain⟨⟨t,m,xs⟩,A1⟩:=q
   obtain⟨c1,c2⟩:=k2 _ ht
   have Bb:B.length=A1.length:=by rw[c2,hl]
   simp only[Option.map_some]
   cases t with
   |sl t=>
    cases m with
    |o e tag me=>
     cases hf:Θ.find T with
     |none=>exact aT
     |some i=>
      simp only
      cases (decide (i.ty=.sl t)&&Nat.beq i.e e&&Θ.is T' (.sl t)) with
      |false=>exact aT
      |true=>
       simp only[cond_true]
       cases me.cy with
       |true=>
        simp only[cond_true]
        rw[A9 Bb c1 (hx y (by simp))]
        split
        ·rename_i t' m' ys _
         cases m'.HU.cy with
         |false=>exact aT
         |true=>
          simp only[cond_true]
          split
          ·exact eK hl hB c1 c2 hd c9
          ·exact aT
        ·exact aT
       |false=>
        simp only[cond_false]
        obtain⟨j1,j2⟩:=sV (Θ:=Θ) Bb c1 hB (hx y (by simp)) T'
        rw[j1]
        cases hy:A1.take Θ T' y with
        |none=>exact aT
        |some q=>
         obtain⟨⟨t',m',ys⟩,A2⟩:=q
         obtain⟨d1,d2⟩:=j2 _ hy
         simp only[Option.map_some]
         cases t' with
         |sl t'=>
          simp only
          split
          ·split
           ·exact eK hl hB d1 (by rw[d2,c2]) hd c9
           ·exact aT
          ·exact aT
         |_=>exact aT
    |_=>exact aT
   |_=>exact aT
 ·exact aT
theorem Nz {ts:List TypeId} {as:List Operand} (hx:∀ x∈as,m9 Δ x=true):Mx Δ A B (gX Θ A (some d) ts as) (gX Θ (mix Δ A B) (some d) ts as):=by
 unfold gX
 split
 ·rename_i x y T T'
  rw[ku hl (hx x (by simp))]
  split
  ·rename_i t s st pp eQ
   have hs:=iF hA (hx x (by simp)) eQ s n7
   rw[mq hl hs]
   split
   ·rename_i r ex eJ
    split
    ·rename_i t e tag me xs i _ _
     cases (decide (i.ty=.sl t)&&Nat.beq i.e e&&Θ.is T' (.sl t)&&me.cy) with
     |false=>exact aT
     |true=>
      simp only[cond_true]
      have l1:B.length=(A.weaken s).length:=by simp[St.weaken,hl]
      have l2:B.length=((A.weaken s).cover s (st::pp)).length:=by simp[St.weaken,St.cover,hl]
      have l3:B.length=(((A.weaken s).cover s (st::pp)).set s (.v r (ex++[st::pp]))).length:=by simp[St.weaken,St.cover,hl]
      have e1:List.set (((mix Δ A B).weaken s).cover s (st::pp)) s (.v r (ex++[st::pp]))=mix Δ (((A.weaken s).cover s (st::pp)).set s (.v r (ex++[st::pp]))) B:=by
       rw[vT hl hB hs,Ia l1 hB hs,xU l2 hs]
      have c1:bF Δ (((A.weaken s).cover s (st::pp)).set s (.v r (ex++[st::pp]))):=np (xW (oW hA s) s _) hs c9
      rw[e1,A9 l3 c1 (hx y (by simp))]
      split
      ·rename_i t' m' ys _
       cases m'.HU.cy with
       |false=>exact aT
       |true=>
        simp only[cond_true]
        split
        ·exact eK hl hB c1 (by simp[St.weaken,St.cover]) hd c9
        ·exact aT
      ·exact aT
    ·exact aT
   ·exact aT
  ·exact aT
 ·exact aT
theorem ah8 (op:BinOp) (T:TypeId) {x y:Operand} (hx:m9 Δ x=true) (hy:m9 Δ y=true):Mx Δ A B (Ew Θ A (some d) op T x y) (Ew Θ (mix Δ A B) (some d) op T x y):=by
 unfold Ew
 rw[A9 hl hA hx,A9 hl hA hy]
 have fin:∀ a b:TV,Mx Δ A B (match iR op a b with
   |some (g,r)=>some (g,A.put (some d) (.v r []))
   |none=>none) (match iR op a b with
   |some (g,r)=>some (g,(mix Δ A B).put (some d) (.v r []))
   |none=>none):=fun a b=>by
  cases iR op a b with
  |none=>exact aT
  |some q=>exact eK hl hB hA rfl hd c9
 cases A.rd Θ T x with
 |none=>exact aT
 |some a=>
  cases A.rd Θ T y with
  |none=>exact aT
  |some b=>
   simp only
   split
   ·cases Θ.is T .bool with
    |true=>exact fin a b
    |false=>exact aT
   ·cases Θ.is T a.t with
    |true=>exact fin a b
    |false=>exact aT
   ·exact fin a b
theorem HA (T:TypeId) {x:Operand} (hx:m9 Δ x=true) (f:Nat):Mx Δ A B (iD Θ A (some d) T x f) (iD Θ (mix Δ A B) (some d) T x f):=by
 unfold iD
 rw[ku hl hx]
 cases e:A.fb Θ 0 x with
 |none=>exact aT
 |some a=>
  have ha:=iF hA hx e
  cases Θ.find T with
  |none=>exact aT
  |some i=>
   simp only
   cases Nat.blt f i.fs.length with
   |false=>exact aT
   |true=>
    simp only[cond_true]
    rw[Jh hl ha]
    cases et:A.HV x a with
    |none=>exact aT
    |some g=>
     cases g with
     |k b=>
      obtain⟨t,m,y⟩:=b
      simp only
      cases decide (i.ty=t) with
      |false=>exact aT
      |true=>
       simp only[cond_true]
       split
       ·exact eK hl hB hA rfl hd c9
       ·exact aT
     |pl t s p=>
      have hs:=EP hx ha et
      simp only
      cases decide (i.ty=t) with
      |false=>exact aT
      |true=>
       simp only[cond_true]
       rw[lv hl hs]
       split
       ·exact eK hl hB hA rfl hd (fun s' h'=>by simp only[AV.refs,Nat.beq_eq] at h';rw[←h'];exact hs)
       ·exact aT
theorem HB (T:TypeId) {x ix:Operand} (hx:m9 Δ x=true) (hi:m9 Δ ix=true):Mx Δ A B (cN Θ A (some d) T x ix) (cN Θ (mix Δ A B) (some d) T x ix):=by
 unfold cN
 rw[ku hl hx,Ba hl hA hi]
 have hr:∀ {t:Ty} {s:Nat} {p:Path},Δ s=true→∀ s',(AV.ad t s p).refs s'=true→Δ s'=true:=fun hs s' h'=>by simp only[AV.refs,Nat.beq_eq] at h';rw[←h'];exact hs
 split
 ·rename_i t m xs ex n eQ _
  cases Θ.is T (.sl t) with
  |false=>exact aT
  |true=>
   simp only[cond_true]
   split
   ·exact eK hl hB hA rfl hd c9
   ·rename_i j
    rw[lv hl hx]
    split
    ·exact eK hl hB hA rfl hd (hr hx)
    ·exact aT
   ·exact aT
 ·rename_i t s p n eQ _
  have hs:=iF hA hx eQ s n7
  cases Θ.is T (.sl t) with
  |false=>exact aT
  |true=>
   simp only[cond_true]
   rw[lv hl hs,lv hl hs]
   split
   ·exact eK hl hB hA rfl hd c9
   ·split
    ·exact eK hl hB hA rfl hd (hr hs)
    ·exact aT
   ·exact aT
 ·exact aT
theorem HC (T:TypeId) {l c:Operand} (hx:m9 Δ l=true) (hc:m9 Δ c=true):Mx Δ A B (iE Θ A (some d) T l c) (iE Θ (mix Δ A B) (some d) T l c):=by
 unfold iE
 rw[Ba hl hA hx,Ba hl hA hc]
 split
 ·split
  ·split
   ·exact eK hl hB hA rfl hd c9
   ·exact aT
  ·exact aT
 ·exact aT
theorem NA (T T':TypeId) {x:Operand} (hx:m9 Δ x=true):Mx Δ A B (iL Θ A (some d) T T' x) (iL Θ (mix Δ A B) (some d) T T' x):=by
 unfold iL
 rw[A9 hl hA hx]
 split
 ·exact eK hl hB hA rfl hd c9
 ·exact eK hl hB hA rfl hd c9
 ·exact aT
end
theorem Y3 (hl:B.length=A.length) (hA:bF Δ A) (hB:bF Δ B) (T:TypeId) {x y:Operand} (hx:m9 Δ x=true) (hy:m9 Δ y=true):Mx Δ A B (mI Θ A T x y) (mI Θ (mix Δ A B) T x y):=by
 unfold mI
 rw[ku hl hx]
 cases e:A.fb Θ 0 x with
 |none=>exact aT
 |some a=>
  have ha:=iF hA hx e
  simp only
  rw[Jh hl ha]
  cases et:A.HV x a with
  |none=>exact aT
  |some g=>
   cases g with
   |k b=>exact aT
   |pl t s p=>
    have hs:=EP hx ha et
    simp only
    obtain⟨k1,k2⟩:=sV (Θ:=Θ) hl hA hB hy T
    rw[k1]
    cases ht:A.take Θ T y with
    |none=>exact aT
    |some q=>
     obtain⟨b,A1⟩:=q
     obtain⟨c1,c2⟩:=k2 _ ht
     have Bb:B.length=A1.length:=by rw[c2,hl]
     simp only[Option.map_some]
     cases Θ.is T b.t with
     |false=>exact aT
     |true=>
      simp only[cond_true]
      rw[mq Bb hs]
      cases A1.at s with
      |v r ex=>
       simp only
       cases iA b p r.t r.m r.x with
       |none=>exact aT
       |some mz=>
        simp only
        cases ex.all (fun h=>!under h p) with
        |false=>exact aT
        |true=>
         simp only[cond_true]
         have l2:B.length=(A1.weaken s).length:=by simp[St.weaken,Bb]
         refine il ?_ (np (oW c1 s) hs c9) (by simp[St.weaken,c2])
         rw[vT Bb hB hs,xU l2 hs]
      |_=>exact aT
theorem R9 (hl:B.length=A.length) (hA:bF Δ A) (hB:bF Δ B) (T:TypeId) {y:Operand} (hy:m9 Δ y=true) {A1:St} (Bb:A1.length=A.length) (hA1:bF Δ A1):
  qo Θ (mix Δ A B) (mix Δ A1 B) T y=mix Δ (qo Θ A A1 T y) B∧bF Δ (qo Θ A A1 T y)∧(qo Θ A A1 T y).length=A.length:=by
 unfold qo
 rw[ku hl hy]
 split
 ·rename_i t s eQ
  have hs:=iF hA hy eQ s n7
  rw[mq hl hs,mq (by rw[hl,Bb]) hs]
  split
  ·rename_i t m xs _ _
   cases m.cy with
   |true=>exact⟨rfl,hA1,Bb⟩
   |false=>exact⟨xU (by rw[hl,Bb]) hs _,np hA1 hs c9,by simp[Bb]⟩
  ·exact⟨rfl,hA1,Bb⟩
 ·exact⟨rfl,hA1,Bb⟩
end Go.Pv
namespace Go.Pv
set_option linter.unusedVariables false
set_option linter.unusedSimpArgs false
variable {h:Hint} {O:jS} {Θ:ee} {hn:Hn} {ops:Array Oper} {ret:ab} {Δ:Nat→Bool} {A B:St}
theorem Bd (hB:bF Δ B):∀ (xs:List Operand) (Ts:List TypeId) (ps:List Pass) {A:St},B.length=A.length→bF Δ A→(∀ x∈xs,m9 Δ x=true)→Mx Δ A B (ij Θ A xs Ts ps) (ij Θ (mix Δ A B) xs Ts ps)
 |[],_,_,A,hl,hA,_=>by simp only[ij];exact il rfl hA rfl
 |x::xs,[],_,A,hl,hA,_=>by simp only[ij];exact aT
 |x::xs,T::Ts,[],A,hl,hA,_=>by simp only[ij];exact aT
 |x::xs,T::Ts,p::ps,A,hl,hA,hx=>by
  simp only[ij]
  cases p with
  |val=>
   simp only
   obtain⟨k1,k2⟩:=Bd hB xs Ts ps hl hA (fun y hy=>hx y (by simp[hy]))
   rw[k1]
   cases ht:ij Θ A xs Ts ps with
   |none=>exact aT
   |some q=>obtain⟨c1,c2⟩:=k2 _ ht;exact il rfl c1 c2
  |take=>
   simp only
   obtain⟨j1,j2⟩:=sV (Θ:=Θ) hl hA hB (hx x (by simp)) T
   rw[j1]
   cases hk:A.take Θ T x with
   |none=>exact aT
   |some q=>
    obtain⟨a,A1⟩:=q
    obtain⟨d1,d2⟩:=j2 _ hk
    simp only[Option.map_some]
    obtain⟨k1,k2⟩:=Bd hB xs Ts ps (by rw[d2,hl]) d1 (fun y hy=>hx y (by simp[hy]))
    rw[k1]
    cases ht:ij Θ A1 xs Ts ps with
    |none=>exact aT
    |some q=>obtain⟨c1,c2⟩:=k2 _ ht;exact il rfl c1 (by rw[c2,d2])
  |kj=>exact aT
theorem ES (hl:B.length=A.length):∀ {c8:List I8},(∀ c∈c8,∀ t s p,c=.pl t s p→Δ s=true)→qt (mix Δ A B) c8=qt A c8
 |[],_=>rfl
 |c::r,hc=>by
  simp only[qt]
  rw[ES hl (fun c' h'=>hc c' (by simp[h']))]
  have:HW (mix Δ A B) c=HW A c:=by
   cases c with
   |pl t s p=>simp only[HW];rw[nc hl (hc _ (by simp) t s p rfl)]
   |kv a=>rfl
  rw[this]
theorem Be (hl:B.length=A.length) (hA:bF Δ A):∀ (xs:List Operand) (Ts:List TypeId) (l:List (Option TV)),(∀ x∈xs,m9 Δ x=true)→reads Θ (mix Δ A B) xs Ts l=reads Θ A xs Ts l
 |[],_,_,_=>by simp[reads]
 |x::xs,[],_,_=>by simp[reads]
 |x::xs,T::Ts,[],_=>by simp[reads]
 |x::xs,T::Ts,p::ps,hx=>by
  simp only[reads]
  rw[Be hl hA xs Ts ps (fun y hy=>hx y (by simp[hy])),ku hl (hx x (by simp))]
  cases p with
  |some a=>rfl
  |none=>
   simp only
   cases e:A.fb Θ T x with
   |none=>rfl
   |some a=>
    have ha:=iF hA (hx x (by simp)) e
    cases a with
    |mg f c8=>
     simp only
     rw[ES hl (fun c hc t s p ec=>ha s (by
      simp only[AV.refs,List.any_eq_true]
      exact⟨c,hc,by rw[ec];simp⟩))]
    |_=>simp only;rw[VW hl ha]
theorem Y4 (hl:B.length=A.length) {x:Operand} (hx:m9 Δ x=true):vh (mix Δ A B) x=vh A x:=by
 cases x with
 |tmp i=>simp only[vh];rw[mq hl hx]
 |_=>rfl
theorem Bf (hl:B.length=A.length):∀ (xs:List Operand) (l:List (Option TV)) (as:List Arg),(∀ x∈xs,m9 Δ x=true)→km (mix Δ A B) xs l as=km A xs l as
 |[],_,_,_=>rfl
 |x::xs,[],_,_=>rfl
 |x::xs,p::ps,[],_=>rfl
 |x::xs,p::ps,r::rs,hx=>by simp only[km,Bf hl xs ps rs (fun y hy=>hx y (by simp[hy])),Y4 hl (hx x (by simp))]
def acg (Δ:Nat→Bool) (A B:St) (K K':St→Option ab):Prop:=∀ A1,bF Δ A1→A1.length=A.length→K' (mix Δ A1 B)=K A1
theorem xX (l:List TV):∀ s,(HX l).refs s=true→Δ s=true:=fun s hs=>by rw[EK] at hs;cases hs
theorem ach (hl:B.length=A.length) (hA:bF Δ A) (hB:bF Δ B) {o:Oper} {d:Nat} (nU:o.dst=some d) (hd:Δ d=true) {f:FuncId} {as:List Operand} {ts:List TypeId} (hx:∀ x∈as,m9 Δ x=true) {K K':St→Option ab} (hK:acg Δ A B K K'):
  iW h O o f none as ts (mix Δ A B) K'=iW h O o f none as ts A K:=by
 unfold iW
 obtain⟨k1,k2⟩:=Bd (Θ:=h.tab) hB as ts (O.sig f) hl hA hx
 rw[k1]
 cases ht:ij h.tab A as ts (O.sig f) with
 |none=>rfl
 |some q=>
  obtain⟨l,A1⟩:=q
  obtain⟨c1,c2⟩:=k2 _ ht
  have Bb:B.length=A1.length:=by rw[c2,hl]
  simp only[Option.map_some,sJ]
  rw[Be Bb c1 as ts l hx]
  cases reads h.tab A1 as ts l with
  |none=>rfl
  |some args=>
   simp only
   congr 1
   funext rt
   cases rt.refs with
   |cons _ _=>rfl
   |nil=>
    simp only
    rw[Bf Bb as l args hx,nU,uo Bb hB hd]
    rw[hK _ (lu c1 hd (xX _)) (by rw[cJ,c2])]
theorem Sa (hl:B.length=A.length) (hA:bF Δ A) (hB:bF Δ B) {s:Nat} (hs:Δ s=true) (b:TV) (p:Path):(mix Δ A B).qu s b p=(A.qu s b p).map (fun S=>mix Δ S B)∧∀ S,A.qu s b p=some S→bF Δ S∧S.length=A.length:=by
 cases p with
 |nil=>
  simp only[St.qu]
  refine⟨by rw[uo hl hB hs];rfl,fun S e=>?_⟩
  injection e with e
  subst e
  exact⟨lu hA hs c9,cJ _ _ _⟩
 |cons st pp=>
  simp only[St.qu]
  rw[mq hl hs]
  cases A.at s with
  |v r ex=>
   simp only
   cases iA b (st::pp) r.t r.m r.x with
   |none=>exact⟨rfl,fun _ e=>by cases e⟩
   |some q=>
    simp only
    refine⟨by rw[uo hl hB hs];rfl,fun S e=>?_⟩
    injection e with e
    subst e
    exact⟨lu hA hs c9,cJ _ _ _⟩
  |_=>exact⟨rfl,fun _ e=>by cases e⟩
theorem aci (hl:B.length=A.length) (hA:bF Δ A) (hB:bF Δ B) {o:Oper} {d:Nat} (nU:o.dst=some d) (hd:Δ d=true) {f:FuncId} {j:Nat} {as:List Operand} {ts:List TypeId} (hx:∀ x∈as,m9 Δ x=true) {K K':St→Option ab} (hK:acg Δ A B K K'):
  sL h O o f j as ts (mix Δ A B) K'=sL h O o f j as ts A K:=by
 unfold sL
 split
 case h_2=>rfl
 rename_i x T hxj _
 have hxx:=hx x (List.mem_of_getElem? hxj)
 rw[ku hl hxx]
 cases e:A.fb h.tab T x with
 |none=>rfl
 |some av=>
  simp only
  have ha:=iF hA hxx e
  obtain⟨k1,k2⟩:=Ib hl hA hB hxx ha
  rw[k1]
  cases hp:ln x av with
  |none=>cases A.eS x av<;>rfl
  |some sp=>
   obtain⟨s,p⟩:=sp
   have hs:Δ s=true:=by
    cases av with
    |v b ex=>
     cases x with
     |tmp i=>simp only[ln,Option.some.injEq,Prod.mk.injEq] at hp;rw[←hp.1];exact hxx
     |_=>simp[ln] at hp
    |al t s' p'=>simp only[ln,Option.some.injEq,Prod.mk.injEq] at hp;rw[←hp.1];exact ha _ n7
    |_=>simp[ln] at hp
   cases ht:A.eS x av with
   |none=>rfl
   |some q=>
    obtain⟨b,A1⟩:=q
    obtain⟨c1,c2⟩:=k2 _ ht
    have Bb:B.length=A1.length:=by rw[c2,hl]
    simp only[Option.map_some]
    cases (!b.m.cy&&gb b.t b.m) with
    |false=>rfl
    |true=>
     simp only[cond_true]
     rw[Be Bb c1 as ts _ hx]
     cases reads h.tab A1 as ts ((List.replicate as.length none).set j (some ⟨b.t,kn b.t b.m 0,b.x⟩)) with
     |none=>rfl
     |some args=>
      simp only
      rw[Bf Bb as _ args hx]
      cases (sK b.t b.m||km A1 as ((List.replicate as.length none).set j (some ⟨b.t,kn b.t b.m 0,b.x⟩)) args) with
      |false=>rfl
      |true=>
       simp only[cond_true]
       congr 1
       funext rt
       split
       case h_2=>rfl
       rename_i c _
       cases (rt.res.all fun d=>gS d.t d.m&&rZ d.m) with
       |false=>rfl
       |true=>
        simp only[cond_true]
        split
        case isFalse=>rfl
        split
        case isFalse=>rfl
        obtain⟨r1,r2⟩:=Sa Bb c1 hB hs ⟨b.t,b.m,gE b.t b.m b.x (‹c.t=b.t›▸c.x)⟩ p
        rw[r1]
        cases hr:A1.qu s ⟨b.t,b.m,gE b.t b.m b.x (‹c.t=b.t›▸c.x)⟩ p with
        |none=>rfl
        |some A2=>
         obtain⟨d1,d2⟩:=r2 _ hr
         simp only[Option.map_some]
         rw[nU,uo (by rw[d2,c2,hl]) hB hd]
         exact hK _ (lu d1 hd (xX _)) (by rw[cJ,d2,c2])
theorem py (hl:B.length=A.length) (hA:bF Δ A) (hB:bF Δ B) {i:Nat} {o:Oper} (ho:ops[i]?=some o) (ht:e7 Δ o=true) {K K':St→Option ab} (hK:acg Δ A B K K'):
  bE h O ops i (mix Δ A B) K'=bE h O ops i A K:=by
 unfold e7 at ht
 simp only[Bool.and_eq_true] at ht
 obtain⟨⟨hg,hd⟩,hx⟩:=ht
 have hg:o.guard=none:=by
  cases hq:o.guard with
  |none=>rfl
  |some _=>rw[hq] at hg;cases hg
 by_cases cD:∃ T x y,o.op=.store T x y
 ·obtain⟨T,x,y,cA⟩:=cD
  have hdn:o.dst=none:=by
   cases hq:o.dst with
   |none=>rfl
   |some d=>unfold ah1 at hd;rw[hq,cA] at hd;cases hd
  rw[cA] at hx
  simp only[Bool.and_eq_true] at hx
  have e1:∀ S K,bE h O ops i S K=match mI h.tab S T x y with
    |some (g,S1)=>bif g then K (qo h.tab S S1 T y) else none
    |none=>none:=fun S K=>by
   unfold bE
   rw[ho]
   simp only[hg]
   unfold iX
   rw[cA]
   simp only[ev,cA,hdn]
   cases mI h.tab S T x y with
   |none=>rfl
   |some q=>rfl
  have hm:=Y3 (Θ:=h.tab) hl hA hB T hx.1 hx.2
  rw[e1,e1,hm.1]
  cases he:mI h.tab A T x y with
  |none=>rfl
  |some q=>
   obtain⟨g,A1⟩:=q
   obtain⟨c1,c2⟩:=hm.2 _ he
   simp only[Option.map_some]
   obtain⟨s1,s2,s3⟩:=R9 (Θ:=h.tab) (A1:=A1) hl hA hB T hx.2 c2 c1
   rw[s1,hK _ s2 s3]
 obtain⟨d,nU⟩:∃ d,o.dst=some d:=by
  cases hq:o.dst with
  |none=>
   exfalso
   cases cA:o.op with
   |store T x y=>exact cD ⟨T,x,y,cA⟩
   |_=>simp[ah1,hq,cA] at hd
  |some d=>exact⟨d,rfl⟩
 have hd:Δ d=true:=by
  cases cA:o.op with
  |store T x y=>exact absurd ⟨T,x,y,cA⟩ cD
  |_=>simpa[ah1,nU,cA] using hd
 have key:∀ {Hu:St→AO},Mx Δ A B (Hu A) (Hu (mix Δ A B))→(∀ S K,bE h O ops i S K=match Hu S with
   |some (g,S1)=>bif g then K S1 else none
   |none=>none)→bE h O ops i (mix Δ A B) K'=bE h O ops i A K:=by
  intro Hu hm hs
  rw[hs,hs,hm.1]
  cases he:Hu A with
  |none=>rfl
  |some q=>
   obtain⟨g,A1⟩:=q
   obtain⟨c1,c2⟩:=hm.2 _ he
   simp only[Option.map_some]
   rw[hK A1 c1 c2]
 have Ji:∀ S K,bE h O ops i S K=iX h O o S K:=fun S K=>by
  unfold bE
  rw[ho]
  simp only[hg]
 split at hx
 ·rename_i T x y cA;exact absurd ⟨T,x,y,cA⟩ cD
 ·rename_i T l c cA
  simp only[Bool.and_eq_true] at hx
  refine key (Hu:=fun S=>iE h.tab S (some d) T l c) (HC hl hA hB hd T hx.1 hx.2) fun S K=>?_
  rw[Ji];unfold iX;rw[cA];simp only[ev,cA,nU];try rfl
 ·rename_i T cA
  refine key (Hu:=fun S=>qn h.tab h.hn S (some d) T) (Y2 hl hA hB hd T) fun S K=>?_
  rw[Ji];unfold iX;rw[cA];simp only[ev,cA,nU];try rfl
 ·rename_i T n ps cA
  refine key (Hu:=fun S=>cn h.tab h.hn S (some d) T n ps.toList) (ER hl hA hB hd T n (List.all_eq_true.1 hx)) fun S K=>?_
  rw[Ji];unfold iX;rw[cA];simp only[ev,cA,nU];try rfl
 ·rename_i T x cA
  refine key (Hu:=fun S=>iC h.tab S (some d) T x) (ace hl hA hB hd T hx) fun S K=>?_
  rw[Ji];unfold iX;rw[cA];simp only[ev,cA,nU];try rfl
 ·rename_i x cA
  refine key (Hu:=fun S=>qm h.tab S (some d) o.type x) (acf hl hA hB hd _ hx) fun S K=>?_
  rw[Ji];unfold iX;rw[cA];simp only[ev,cA,nU];try rfl
 ·rename_i x j cA
  refine key (Hu:=fun S=>gW S (some d) x j) (Ny hl hA hB hd hx j) fun S K=>?_
  rw[Ji];unfold iX;rw[cA];simp only[ev,cA,nU];try rfl
 ·rename_i op T x y T' cA
  simp only[Bool.and_eq_true,Bool.not_eq_true'] at hx
  obtain⟨h1,h2,h3⟩:=hx
  refine key (Hu:=fun S=>Ew h.tab S (some d) op T x y) (ah8 hl hA hB hd op T h1 h2) fun S K=>?_
  rw[Ji]
  unfold iX
  split
  ·rename_i e;rw[cA] at e;cases e
  ·rename_i e;rw[cA] at e;cases e
  ·rename_i e;rw[cA] at e;rw[cA] at h3;injection e with e1 e2 e3 e4 e5;subst e4;simp[qv] at h3
  ·rename_i e;rw[cA] at e;rw[cA] at h3;injection e with e1 e2 e3 e4 e5;subst e4;simp[qv] at h3
  ·simp only[ev,cA,nU];try rfl
 ·rename_i T x f cA
  refine key (Hu:=fun S=>iD h.tab S (some d) T x f) (HA hl hA hB hd T hx f) fun S K=>?_
  rw[Ji];unfold iX;rw[cA];simp only[ev,cA,nU];try rfl
 ·rename_i T x ix cA
  simp only[Bool.and_eq_true] at hx
  refine key (Hu:=fun S=>cN h.tab S (some d) T x ix) (HB hl hA hB hd T hx.1 hx.2) fun S K=>?_
  rw[Ji];unfold iX;rw[cA];simp only[ev,cA,nU];try rfl
 ·rename_i T T' x cA
  refine key (Hu:=fun S=>iL h.tab S (some d) T T' x) (NA hl hA hB hd T T' hx) fun S K=>?_
  rw[Ji];unfold iX;rw[cA];simp only[ev,cA,nU];try rfl
 ·rename_i as ts cA
  have xY:=List.all_eq_true.1 hx
  refine key (Hu:=fun S=>match cO h.tab S (some d) ts.toList as.toList with
   |some r=>some r
   |none=>gX h.tab S (some d) ts.toList as.toList) ?_ fun S K=>?_
  ·have h1:=R8 (Θ:=h.tab) (ts:=ts.toList) hl hA hB hd xY
   have h2:=Nz (Θ:=h.tab) (ts:=ts.toList) hl hA hB hd xY
   refine⟨?_,fun q hq=>?_⟩
   ·show(match cO h.tab (mix Δ A B) (some d) ts.toList as.toList with
     |some r=>some r
     |none=>gX h.tab (mix Δ A B) (some d) ts.toList as.toList)=_
    rw[h1.1]
    cases cO h.tab A (some d) ts.toList as.toList with
    |none=>exact h2.1
    |some r=>rfl
   ·split at hq
    ·rename_i r hr
     injection hq with hq
     subst hq
     exact h1.2 _ hr
    ·exact h2.2 _ hq
  ·rw[Ji];unfold iX;rw[cA];simp only[ev,cA,nU];try rfl
 ·rename_i f as ts cA
  have xY:=List.all_eq_true.1 hx
  rw[Ji,Ji]
  unfold iX
  rw[cA]
  simp only
  cases vP (O.sig f) 0 with
  |none=>exact ach hl hA hB nU hd xY hK
  |some j=>exact aci hl hA hB nU hd xY hK
 ·cases hx
end Go.Pv
namespace Go.Pv
set_option linter.unusedVariables false
set_option linter.unusedSimpArgs false
variable {h:Hint} {O:jS} {Θ:ee} {ops:Array Oper} {ret:ab} {Δ:Nat→Bool} {A B S:St} {K:St→Option ab}
theorem Ic {o:Oper} (ht:e7 Δ o=true):qv o.op=false:=by
 unfold e7 at ht
 simp only[Bool.and_eq_true] at ht
 have hx:=ht.2
 split at hx
 all_goals first |(rename_i cA;rw[cA];rfl) |(simp only[Bool.and_eq_true,Bool.not_eq_true'] at hx;exact hx.2.2) |cases hx
theorem Sb (hl:B.length=A.length) (hA:bF Δ A) (hB:bF Δ B):bF Δ (mix Δ A B):=fun i s hs=>by
 rw[lr hl] at hs
 cases hi:Δ i with
 |true=>rw[hi] at hs;rw[←hi];exact hA i s hs
 |false=>rw[hi] at hs;rw[←hi];exact hB i s hs
theorem NB (d:List Nat):(fun i=>!RU d i)=YP d:=by funext i;simp[RU]
theorem vU {d:List Nat}:bF (RU d) S↔bF (YP d) S:=
 ⟨fun h=>by have:=h.not;rwa [NB] at this,fun h=>h.not⟩
theorem ET (hS:bF Δ S) {i:Nat} {o:Oper} (ho:ops[i]?=some o) (ht:e7 Δ o=true) (c:St→Bool) (hc:∀ X,bF Δ X→c X=true):
  bE h O ops i S K=bE h O ops i S (fun X=>bif c X then K X else none):=by
 have h1:=py (h:=h) (O:=O) (A:=S) (B:=S) rfl hS hS ho ht (K:=fun A1=>open Classical in if bF Δ A1 then K (mix Δ A1 S) else none) (K':=K) (fun A1 hA hl=>(if_pos hA).symm)
 have h2:=py (h:=h) (O:=O) (A:=S) (B:=S) rfl hS hS ho ht (K:=fun A1=>open Classical in if bF Δ A1 then K (mix Δ A1 S) else none) (K':=fun X=>bif c X then K X else none) (fun A1 hA hl=>by
  show(bif c (mix Δ A1 S) then K (mix Δ A1 S) else none)=open Classical in if bF Δ A1 then K (mix Δ A1 S) else none
  rw[if_pos hA,hc _ (Sb (by rw[hl]) hA hS)];rfl)
 rw[EO] at h1 h2
 rw[h1,h2]
theorem NC (hS:bF Δ S) {i:Nat} {o:Oper} (ho:ops[i]?=some o) (ht:e7 Δ o=true):
  bE h O ops i S K=bE h O ops i S (fun X=>bif Nat.beq X.length S.length then K X else none):=by
 have h1:=py (h:=h) (O:=O) (A:=S) (B:=S) rfl hS hS ho ht (K:=fun A1=>K (mix Δ A1 S)) (K':=K) (fun A1 hA hl=>rfl)
 have h2:=py (h:=h) (O:=O) (A:=S) (B:=S) rfl hS hS ho ht (K:=fun A1=>K (mix Δ A1 S)) (K':=fun X=>bif Nat.beq X.length S.length then K X else none) (fun A1 hA hl=>by
  show(bif Nat.beq (mix Δ A1 S).length S.length then K (mix Δ A1 S) else none)=K (mix Δ A1 S)
  rw[ik,hl,Nat.beq_refl];rfl)
 rw[EO] at h1 h2
 rw[h1,h2]
theorem Ie (hS:bF Δ S) {i j:Nat} {oi oj:Oper} (hi:ops[i]?=some oi) (hj:ops[j]?=some oj) (ti:e7 Δ oi=true) (tj:e7 (fun i=>!Δ i) oj=true):
  bE h O ops i S (fun S1=>bE h O ops j S1 K)=bE h O ops i S (fun A1=>bE h O ops j S (fun B1=>K (mix Δ A1 B1))):=by
 have h1:=py (h:=h) (O:=O) (A:=S) (B:=S) rfl hS hS hi ti (K':=fun S1=>bE h O ops j S1 K) (K:=fun A1=>bE h O ops j S (fun B1=>K (mix Δ A1 B1))) (fun A1 hA hl=>by
  have h2:=py (h:=h) (O:=O) (Δ:=fun i=>!Δ i) (A:=S) (B:=A1) hl hS.not hA.not hj tj (K':=K) (K:=fun B1=>K (mix Δ A1 B1)) (fun B1 hB hlB=>by rw[Jg (by rw[hl,hlB])])
  rw[Jg (by rw[hl])] at h2
  exact h2)
 rw[EO] at h1
 exact h1
theorem EU (hO:pq O) (hS:bF Δ S) {i j:Nat} {oi oj:Oper} (hi:ops[i]?=some oi) (hj:ops[j]?=some oj) (ti:e7 Δ oi=true) (tj:e7 (fun i=>!Δ i) oj=true):
  bE h O ops i S (fun S1=>bE h O ops j S1 K)=bE h O ops j S (fun S1=>bE h O ops i S1 K):=by
 have tn:(fun i=>!(!Δ i))=Δ:=by funext i;simp
 rw[Ie hS hi hj ti tj,Ie (Δ:=fun i=>!Δ i) hS.not hj hi tj (by rw[tn];exact ti)]
 obtain⟨ri,h1⟩:=jF (h:=h) (O:=O) (ops:=ops) hO i (fun o ho=>by rw[hi] at ho;injection ho with ho;subst ho;exact Ic ti) S
 obtain⟨rj,h2⟩:=jF (h:=h) (O:=O) (ops:=ops) hO j (fun o ho=>by rw[hj] at ho;injection ho with ho;subst ho;exact Ic tj) S
 -- the lengths are the same
 have l1:=fun K=>NC (h:=h) (O:=O) (K:=K) hS hi ti
 have l2:=fun K=>NC (h:=h) (O:=O) (K:=K) hS.not hj tj
 cases ri with
 |none=>simp only[h1,h2,Option.bind_none];cases rj<;>rfl
 |some A1=>
  cases rj with
  |none=>simp only[h1,h2,Option.bind_none,Option.bind_some]
  |some B1=>
   simp only[h1,h2,Option.bind_some] at l1 l2 ⊢
   have hA:A1.length=S.length:=by
    have:=l1 (fun _=>some ⟨[],[]⟩)
    cases hq:Nat.beq A1.length S.length with
    |true=>exact Nat.eq_of_beq_eq_true hq
    |false=>rw[hq] at this;cases this
   have hB:B1.length=S.length:=by
    have:=l2 (fun _=>some ⟨[],[]⟩)
    cases hq:Nat.beq B1.length S.length with
    |true=>exact Nat.eq_of_beq_eq_true hq
    |false=>rw[hq] at this;cases this
   rw[Jg (by rw[hA,hB])]
theorem Y5 {S:St} {d:Nat} {a:AV} (h:S.at d=a) (hd:a≠ .dead):S.set d a=S:=by
 refine oV (List.length_set) fun i=>?_
 rw[dA]
 split
 ·rename_i hi
  rw[hi.1,h]
 ·rfl
theorem put_comm {S:St} {a b:Nat} {u v:AV} (u7:a≠b) (hu:∀ d,u.refs d=false) (hv:∀ d,v.refs d=false):(S.put (some a) u).put (some b) v=(S.put (some b) v).put (some a) u:=by
 refine oV (by simp only[cJ]) fun i=>?_
 have hV:∀ (S:St) (a b:Nat) (u:AV),a≠b→((S.put (some a) u).at b).AN=(S.at b).AN:=fun S a b u u7=>by
  rw[eU,if_neg (fun e=>u7 e.1.symm)]
  cases hr:(S.at b).refs a with
  |false=>rfl
  |true=>
   have:(S.at b).AN=false:=by cases hx:S.at b<;>first |rfl |(rw[hx] at hr;simp[AV.refs] at hr)
   rw[this]
   cases (S.at a).AN with
   |true=>rfl
   |false=>exact this
 simp only[eU,cJ,hu,hv,cond_false]
 have hVa:=hV S b a v (Ne.symm u7)
 have hVb:=hV S a b u u7
 simp only[eU,hu,hv,cond_false] at hVa hVb
 rw[hVa,hVb]
 by_cases h1:i=a
 ·subst h1
  by_cases hl:i<S.length
  ·rw[if_neg (fun e=>u7 e.1),if_pos ⟨rfl,hl⟩,if_pos ⟨rfl,hl⟩,hu];rfl
  ·rw[if_neg (fun e=>u7 e.1),if_neg (fun e=>hl e.2),if_neg (fun e=>hl e.2),if_neg (fun e=>u7 e.1),H9 (S:=S) (i:=i) (by omega)]
   simp[AV.refs]
 ·by_cases h2:i=b
  ·subst h2
   by_cases hl:i<S.length
   ·rw[if_pos ⟨rfl,hl⟩,if_neg (fun e=>h1 e.1),if_pos ⟨rfl,hl⟩,hv];rfl
   ·rw[if_neg (fun e=>hl e.2),if_neg (fun e=>h1 e.1),if_neg (fun e=>h1 e.1),if_neg (fun e=>hl e.2),H9 (S:=S) (i:=i) (by omega)]
    simp[AV.refs]
  ·rw[if_neg (fun e=>h2 e.1),if_neg (fun e=>h1 e.1),if_neg (fun e=>h1 e.1),if_neg (fun e=>h2 e.1)]
   have dr:∀ d,AV.dead.refs d=false:=fun _=>rfl
   cases hra:(S.at i).refs a<;>cases hrb:(S.at i).refs b<;>cases (S.at a).AN<;>cases (S.at b).AN<;>simp only[hra,hrb,dr,Bool.and_true,Bool.and_false,Bool.true_and,Bool.false_and,cond_true,cond_false]
theorem xZ {S:St} {a x:Nat} {u t:AV} (VT:a≠x) (ht:∀ d,t.refs d=false) (hx:∀ d,(S.at x).refs d=false):List.set (S.put (some a) u) x t=St.put (S.set x t) (some a) u:=by
 refine oV (by simp only[cJ,List.length_set]) fun i=>?_
 have h1:(St.at (S.set x t) a).AN=(S.at a).AN:=by rw[dA,if_neg (fun e=>VT e.1)]
 rw[dA,cJ,eU,eU,List.length_set,h1]
 by_cases hi:i=x∧x<S.length
 ·rw[if_pos hi,if_neg (fun e=>VT (e.1.symm.trans hi.1)),dA,if_pos hi,ht];rfl
 ·rw[if_neg hi,dA,if_neg hi]
theorem VX {i:Nat} {o:Oper} {a x p:Nat} (ho:ops[i]?=some o) (hg:o.guard=none) (hd:o.dst=some a) (cA:o.op=.extract (.tmp x) p) (S:St) (K:St→Option ab):bE h O ops i S K=match gW S (some a) (.tmp x) p with
  |some (g,S1)=>bif g then K S1 else none
  |none=>none:=by
 unfold bE
 rw[ho]
 simp only[hg]
 unfold iX
 rw[cA]
 simp only[ev,cA,hd]
 try rfl
theorem ah9 {i j:Nat} {oi oj:Oper} (hi:ops[i]?=some oi) (hj:ops[j]?=some oj) (hx:exB oi oj=true) (S:St) (K:St→Option ab):
  bE h O ops i S (fun S1=>bE h O ops j S1 K)=bE h O ops j S (fun S1=>bE h O ops i S1 K):=by
 unfold exB at hx
 split at hx
 case h_2=>cases hx
 rename_i a b x p y q g1 g2 d1 d2 o1 o2
 simp only[Bool.and_eq_true,Bool.not_eq_true'] at hx
 obtain⟨e1,e2,e3,e4,e5⟩:=hx
 have e1:=Nat.eq_of_beq_eq_true e1
 subst e1
 have e2:p≠q:=fun e=>by rw[e,Nat.beq_refl] at e2;cases e2
 have e3:a≠b:=fun e=>by rw[e,Nat.beq_refl] at e3;cases e3
 have e4:a≠x:=fun e=>by rw[e,Nat.beq_refl] at e4;cases e4
 have e5:b≠x:=fun e=>by rw[e,Nat.beq_refl] at e5;cases e5
 have bf:∀ {a x:Nat},a≠x→Nat.beq a x=false:=fun {a x} pj=>by
  cases hq:Nat.beq a x with
  |false=>rfl
  |true=>exact absurd (Nat.eq_of_beq_eq_true hq) pj
 -- one extraction,on its own
 have one:∀ (S:St) (a p:Nat),a≠x→gW S (some a) (.tmp x) p=match S.at x with
   | .u5 l=>(match l.getD p none with
    |some u=>some (true,St.put (S.set x (.u5 (bif u.m.cy then l else l.set p none))) (some a) (.v u []))
    |none=>none)
   |_=>none:=fun S a p VT=>by
  unfold gW
  simp only
  cases eJ:S.at x with
  |u5 l=>
   simp only
   cases l.getD p none with
   |none=>rfl
   |some u=>
    simp only
    cases u.m.cy with
    |true=>simp only[cond_true];rw[Y5 eJ (fun e=>by cases e)]
    |false=>simp only[cond_false,bf VT]
  |_=>rfl
 simp only[VX hi g1 d1 o1,VX hj g2 d2 o2,one _ _ _ e4,one _ _ _ e5]
 cases eJ:S.at x with
 |u5 l=>
  simp only
  have hxl:x<S.length:=by
   refine Classical.byContradiction fun hl=>?_
   rw[H9 (S:=S) (i:=x) (Nat.le_of_not_lt hl)] at eJ
   cases eJ
  -- the tuple,behind the first
  have after:∀ (t:AV) (u:TV) (a:Nat),(∀ d,t.refs d=false)→a≠x→(St.put (S.set x t) (some a) (.v u [])).at x=t:=fun t u a ht VT=>by
   rw[eU,if_neg (fun e=>VT e.1.symm),dA,if_pos ⟨rfl,hxl⟩,ht];rfl
  have oX:∀ (l:List (Option TV)) (p q:Nat) (c:Bool),p≠q→(bif c then l else l.set p none).getD q none=l.getD q none:=fun l p q c hpq=>by
   cases c with
   |true=>rfl
   |false=>simp only[cond_false,List.getD_eq_getElem?_getD];rw[List.getElem?_set_ne hpq]
  have ND:∀ (l:List (Option TV)) (d:Nat),(AV.u5 l).refs d=false:=fun _ _=>rfl
  have nv:∀ (b:TV) (d:Nat),(AV.v b []).refs d=false:=fun _ _=>rfl
  cases hp:l.getD p none with
  |none=>
   cases hq:l.getD q none with
   |none=>rfl
   |some w=>
    simp only[cond_true,after _ _ _ (ND _) e5,oX _ _ _ _ (Ne.symm e2),hp]
  |some u=>
   cases hq:l.getD q none with
   |none=>simp only[cond_true,after _ _ _ (ND _) e4,oX _ _ _ _ e2,hq]
   |some w=>
    simp only[cond_true,after _ _ _ (ND _) e4,after _ _ _ (ND _) e5,oX _ _ _ _ e2,oX _ _ _ _ (Ne.symm e2),hp,hq]
    congr 1
    rw[xZ e4 (ND _) (by rw[dA,if_pos ⟨rfl,hxl⟩];exact ND _),xZ e5 (ND _) (by rw[dA,if_pos ⟨rfl,hxl⟩];exact ND _),List.set_set,List.set_set,put_comm e3 (nv _) (nv _)]
    congr 3
    cases u.m.cy<;>cases w.m.cy<;>simp only[cond_true,cond_false]
    rw[List.set_comm _ _ e2]
 |_=>rfl
theorem vV {ds:List (List Nat)}:mo ds S=true↔∀ d∈ds,bF (YP d) S:=by
 unfold mo
 rw[List.all_eq_true]
 exact⟨fun h d hd=>jT.1 (h d hd),fun h d hd=>jT.2 (h d hd)⟩
theorem acj {ds:List (List Nat)} {o:Oper} {d:List Nat} (hd:d∈ds) (hs:EC ds o=true):e7 (YP d) o=true∨e7 (RU d) o=true:=by
 unfold EC at hs
 simpa using List.all_eq_true.1 hs d hd
theorem vW (hO:pq O) {ds:List (List Nat)} (hw:mo ds S=true) {i:Nat} {o:Oper} (ho:ops[i]?=some o) (hs:EC ds o=true) (hn:qv o.op=false) (e:bE h O ops i S K=some ret):∃ X,(∀ K,bE h O ops i S K=K X)∧mo ds X=true∧K X=some ret:=by
 obtain⟨ro,h1⟩:=jF (h:=h) (O:=O) (ops:=ops) hO i (fun o' Hw=>by rw[ho] at Hw;injection Hw with Hw;subst Hw;exact hn) S
 cases ro with
 |none=>rw[h1] at e;cases e
 |some X=>
  refine⟨X,fun K=>h1 K,vV.2 fun d hd=>?_,by rw[h1] at e;exact e⟩
  have hS:=vV.1 hw d hd
  rcases acj hd hs with ht |ht
  ·have:=ET (h:=h) (O:=O) (K:=fun _=>some ⟨[],[]⟩) hS ho ht (fun X=>lH (YP d) X 0) (fun X hX=>jT.2 hX)
   simp only[h1,Option.bind_some] at this
   cases hc:lH (YP d) X 0 with
   |true=>exact jT.1 hc
   |false=>rw[hc] at this;cases this
  ·have:=ET (h:=h) (O:=O) (K:=fun _=>some ⟨[],[]⟩) (vU.2 hS) ho ht (fun X=>lH (YP d) X 0) (fun X hX=>jT.2 (vU.1 hX))
   simp only[h1,Option.bind_some] at this
   cases hc:lH (YP d) X 0 with
   |true=>exact jT.1 hc
   |false=>rw[hc] at this;cases this
theorem Y6 (hO:pq O) {ds:List (List Nat)} (hw:mo ds S=true) {i j:Nat} {oi oj:Oper} (hi:ops[i]?=some oi) (hj:ops[j]?=some oj) (hp:YQ ds oi oj=true∨exB oi oj=true):
  bE h O ops i S (fun S1=>bE h O ops j S1 K)=bE h O ops j S (fun S1=>bE h O ops i S1 K):=by
 rcases hp with hp |hp
 ·unfold YQ at hp
  obtain⟨d,hd,hp⟩:=List.any_eq_true.1 hp
  have hS:=vV.1 hw d hd
  simp only[Bool.or_eq_true,Bool.and_eq_true] at hp
  rcases hp with⟨h1,h2⟩ |⟨h1,h2⟩
  ·exact EU hO hS hi hj h1 h2
  ·exact EU hO (vU.2 hS) hi hj h1 (by rw[NB];exact h2)
 ·exact ah9 hi hj hp S K
theorem Ig (hO:pq O) {ds:List (List Nat)} {j:Nat} {oj:Oper} (hj:ops[j]?=some oj):∀ (p r:List Nat) {S:St} {K:St→Option ab} {ret:ab},mo ds S=true→(∀ x∈p,∃ ox,ops[x]?=some ox∧EC ds ox=true∧qv ox.op=false∧(YQ ds ox oj=true∨exB ox oj=true))→
  n5 h O ops (p++j::r) S K=some ret→bE h O ops j S (fun S1=>n5 h O ops (p++r) S1 K)=some ret
 |[],r,S,K,ret,hw,hp,e=>e
 |x::p,r,S,K,ret,hw,hp,e=>by
  obtain⟨ox,hx,hs,hn,hc⟩:=hp x (by simp)
  simp only[List.cons_append,n5] at e ⊢
  obtain⟨X,h1,h2,h3⟩:=vW hO hw hx hs hn e
  have h4:=Ig hO hj p r h2 (fun y hy=>hp y (by simp[hy])) h3
  rw[←Y6 hO hw hx hj hc,h1]
  exact h4
def apk (ops:Array Oper) (as:List Nat) (ds:List (List Nat)) (i j:Nat):Prop:=∃ oi oj,ops[i]?=some oi∧ops[j]?=some oj∧i≠j∧(Nat.testBit (bz i as 0 0) j=true∨YQ ds oi oj=true∨exB oi oj=true)
theorem oY {as:List Nat} {ds:List (List Nat)}:∀ {l:List Nat},sM ops as ds l=true↔l.Pairwise (apk ops as ds)
 |[]=>by simp[sM]
 |i::r=>by
  simp only[sM,Bool.and_eq_true,List.all_eq_true,List.pairwise_cons]
  rw[oY]
  refine and_congr ?_ Iff.rfl
  refine forall_congr' fun j=>?_
  refine imp_congr Iff.rfl ?_
  unfold apk
  cases hi:ops[i]? with
  |none=>simp
  |some oi=>
   cases hj:ops[j]? with
   |none=>simp
   |some oj=>
    simp only[Bool.and_eq_true,Bool.not_eq_true',Bool.or_eq_true,Option.some.injEq]
    constructor
    ·rintro⟨h1,h2⟩
     exact⟨oi,oj,rfl,rfl,(fun e=>by rw[e,Nat.beq_refl] at h1;cases h1),h2⟩
    ·rintro⟨_,_,rfl,rfl,h1,h2⟩
     refine⟨?_,h2⟩
     cases hq:Nat.beq i j with
     |false=>rfl
     |true=>exact absurd (Nat.eq_of_beq_eq_true hq) h1
end Go.Pv
namespace Go.Pv
set_option linter.unusedVariables false
set_option linter.unusedSimpArgs false
def zc:Ty→List Value
 | .int k=>[.int k 0] | .bool=>[.bool false] | .str=>[.string ByteArray.empty] | .sl _=>[.slice none 0 0] | .ptr _=>[.pointer none]
 | .pair a b=>zc a++zc b | .unit=>[] | .arr n t=>(List.replicate n (zc t)).flatten
def iv:Path→Ty→Option Ty
 |[],t=>some t
 | .fst::p,.pair a _=>iv p a
 | .snd::p,.pair _ b=>iv p b
 |_,_=>none
def veq:Value→Value→Bool
 | .int k n,.int k' n'=>decide (k=k')&&decide (n=n')
 | .bool a,.bool b=>a==b
 | .string a,.string b=>a.data.toList==b.data.toList
 | .slice none a b,.slice none c d=>Nat.beq a c&&Nat.beq b d
 | .pointer none,.pointer none=>true
 |_,_=>false
def Sc:List Value→List Value→Bool
 |[],[]=>true
 |a::r,b::s=>veq a b&&Sc r s
 |_,_=>false
theorem aqM {a b:Value} (h:veq a b=true):a=b:=by
 unfold veq at h
 split at h<;>simp at h
 ·obtain⟨rfl,rfl⟩:=h;rfl
 ·subst h;rfl
 ·rename_i a b
  cases a;cases b
  simp at h
  rw[h]
 ·obtain⟨rfl,rfl⟩:=h;rfl
 ·rfl
theorem Jj:∀ {a b:List Value},Sc a b=true→a=b
 |[],[],_=>rfl
 |a::r,b::s,h=>by
  simp only[Sc,Bool.and_eq_true] at h
  rw[aqM h.1,Jj h.2]
 |[],_::_,h=>by simp[Sc] at h
 |_::_,[],h=>by simp[Sc] at h
def zOK (t:Ty) (z:Value):Bool:=match isAgg t,z with
 |true,.agg cs=>Sc cs.toList (zc t)
 |true,_=>false
 |false,z=>Sc [z] (zc t)
theorem Y7 {t:Ty} {z:Value} (h:zOK t z=true):aE t z (zc t):=by
 unfold zOK at h
 unfold aE
 split at h
 ·rename_i ha
  rw[if_pos ha,←Jj h]
 ·cases h
 ·rename_i ha
  rw[if_neg (by simp[ha]),←Jj h]
def lW (Θ:ee) (ty:Ty) (n:Nat):List Field→Nat→Bool
 |[],_=>true
 |f::r,k=>(match iv (nY k n) ty with
  |some t=>Θ.is f.type t&&Nat.beq f.offset (bp (nY k n) ty)&&Nat.blt 0 t.size
  |none=>false)&&lW Θ ty n r (k+1)
def nq (P:Program) (Θ:ee) (i:TI):Bool:=match i.ty,P.underlying i.T with
 | .int k,some (.int k')=>decide (k=k')
 | .bool,some .bool=>true
 | .str,some .string=>true
 | .sl t,some (.slice e)=>Nat.beq e i.e&&Θ.is e t&&Nat.blt 0 t.size
 | .pair _ _, some (.struct fs) => decide (fs.toList.map (·.type) = i.fs) && lW Θ i.ty fs.size fs.toList 0 && !P.eqGuardType P.depth i.T && !P.stoodInHeld i.T && fs.toList.all (fun f => f.name != "_")
 |_,_=>false
def apl (i:TI) (inf:TypeInfo):Bool:=Nat.beq inf.size i.ty.size&&Nat.ble i.ty.size 9000&&Nat.ble inf.bytes (32*i.ty.size)&&Nat.ble inf.bytes 256&&Nat.blt 0 inf.bytes&&match inf.zero with
 |some z=>zOK i.ty z
 |none=>false
def Ty.ht:Ty→Nat
 | .pair a b=>max a.ht b.ht+1
 |_=>0
def uOK (i:TI):Bool:=Nat.ble i.ty.ht 9000&&match i.fs,i.ty with
 |[_],.pair _ .unit=>true
 |[_],_=>false
 |[],.pair _ _=>false
 |_,_=>true
def aqN (P:Program) (Θ:ee) (i:TI):Bool:=((match P.info? i.T with
 |some inf=>apl i inf
 |none=>false)&&nq P Θ i)&&uOK i
def dv (P:Program) (Θ:ee):Bool:=Θ.all (aqN P Θ)
structure auM (P:Program) (i:TI):Prop where
 small:i.ty.size≤9000
 out:∃ inf z,P.info? i.T=some inf∧inf.size=i.ty.size∧inf.bytes≤32*i.ty.size∧inf.bytes≤256∧0<inf.bytes∧inf.zero=some z∧aE i.ty z (zc i.ty)
theorem x5 {Θ:ee} {T:TypeId} {i:TI} (h:Θ.find T=some i):i∈Θ∧i.T=T:=by
 induction Θ with
 |nil=>simp[ee.find] at h
 |cons j r ih=>
  simp only[ee.find] at h
  cases hb:Nat.beq j.T T with
  |true=>
   rw[hb] at h
   simp only[cond_true,Option.some.injEq] at h
   subst h
   exact⟨by simp,Nat.eq_of_beq_eq_true hb⟩
  |false=>
   rw[hb] at h
   simp only[cond_false] at h
   exact⟨List.mem_cons_of_mem _ (ih h).1,(ih h).2⟩
theorem dB {P:Program} {Θ:ee} (hT:dv P Θ=true) {T:TypeId} {i:TI} (h:Θ.find T=some i):auM P i∧nq P Θ i=true∧i.T=T:=by
 have h1:=List.all_eq_true.1 hT i (x5 h).1
 simp only[aqN,Bool.and_eq_true] at h1
 refine⟨?_,h1.1.2,(x5 h).2⟩
 have h2:=h1.1.1
 split at h2
 ·rename_i inf hi
  simp only[apl,Bool.and_eq_true] at h2
  obtain⟨⟨⟨⟨⟨a,sm⟩,b⟩,b'⟩,b''⟩,c⟩:=h2
  split at c
  ·rename_i z hz
   exact⟨Nat.le_of_ble_eq_true sm,⟨inf,z,hi,Nat.eq_of_beq_eq_true a,Nat.le_of_ble_eq_true b,Nat.le_of_ble_eq_true b',Nat.lt_of_succ_le (Nat.le_of_ble_eq_true b''),hz,Y7 c⟩⟩
  ·cases c
 ·cases h2
theorem apm {P:Program} {Θ:ee} (hT:dv P Θ=true) {T:TypeId} {i:TI} (h:Θ.find T=some i):uOK i=true:=by
 have h1:=List.all_eq_true.1 hT i (x5 h).1
 simp only[aqN,Bool.and_eq_true] at h1
 exact h1.2
theorem e8 {Θ:ee} {T:TypeId} {t:Ty} (h:Θ.is T t=true):∃ i,Θ.find T=some i∧i.ty=t:=by
 unfold ee.is at h
 split at h
 ·rename_i i hi;exact⟨i,hi,by simpa using h⟩
 ·cases h
theorem mr {P:Program} {Θ:ee} {i:TI} {t:Ty} (h:nq P Θ i=true) (ht:i.ty=.sl t):P.underlying i.T=some (.slice i.e)∧Θ.is i.e t=true∧0<t.size:=by
 unfold nq at h
 rw[ht] at h
 split at h<;>simp_all
 obtain⟨⟨a,b⟩,c⟩:=h
 rw[←a]
 exact b
theorem x6 {P:Program} {Θ:ee} {i:TI} {k:IntKind} (h:nq P Θ i=true) (ht:i.ty=.int k):P.underlying i.T=some (.int k):=by
 unfold nq at h
 rw[ht] at h
 split at h<;>simp_all
theorem x7 {P:Program} {Θ:ee} {i:TI} (h:nq P Θ i=true) (ht:i.ty=.bool):P.underlying i.T=some .bool:=by
 unfold nq at h
 rw[ht] at h
 split at h<;>simp_all
theorem qx {P:Program} {Θ:ee} {i:TI} (h:nq P Θ i=true) (ht:i.ty=.str):P.underlying i.T=some .string:=by
 unfold nq at h
 rw[ht] at h
 split at h<;>simp_all
theorem nr {P : Program} {Θ : ee} {i : TI} {a b : Ty} (h : nq P Θ i = true) (ht : i.ty = .pair a b) : ∃ fs, P.underlying i.T = some (.struct fs) ∧ fs.toList.map (·.type) = i.fs ∧ lW Θ i.ty fs.size fs.toList 0 = true ∧ P.eqGuardType P.depth i.T = false ∧ P.stoodInHeld i.T = false ∧ ∀ f ∈ fs, f.name ≠ "_" := by
 unfold nq at h
 rw[ht] at h
 split at h<;>simp_all
 intro f hf
 obtain⟨k,hk,rfl⟩:=Array.mem_iff_getElem.1 hf
 exact h.2 k hk
theorem x8 {P:Program} {Θ:ee} {i:TI} (h:nq P Θ i=true):(∃ d,P.underlying i.T=some d)∧(∀ t,i.ty≠ .ptr t)∧(∀ n t,i.ty≠ .arr n t)∧i.ty≠ .unit:=by
 unfold nq at h
 split at h<;>simp_all
theorem jU {Θ:ee} {ty:Ty} {n:Nat}:∀ {l:List Field} {k0:Nat},lW Θ ty n l k0=true→∀ k f,l[k]?=some f→∃ t,iv (nY (k0+k) n) ty=some t∧Θ.is f.type t=true∧f.offset=bp (nY (k0+k) n) ty∧0<t.size
 |[],_,_,k,f,h=>by simp at h
 |g::r,k0,jV,k,f,h=>by
  simp only[lW,Bool.and_eq_true] at jV
  cases k with
  |zero=>
   simp only[List.getElem?_cons_zero,Option.some.injEq] at h
   subst h
   have:=jV.1
   split at this
   ·rename_i t ht
    simp only[Bool.and_eq_true] at this
    exact⟨t,ht,this.1.1,Nat.eq_of_beq_eq_true this.1.2,Nat.lt_of_succ_le (Nat.le_of_ble_eq_true this.2)⟩
   ·cases this
  |succ k=>
   simp only[List.getElem?_cons_succ] at h
   have:=jU jV.2 k f h
   rw[show k0+1+k=k0+(k+1) from by omega] at this
   exact this
theorem jA {P:Program} {Θ:ee} (hT:dv P Θ=true) {T:TypeId} {t:Ty} (h:Θ.is T t=true):∃ inf,P.info? T=some inf∧inf.size=t.size∧P.cellsOf T=t.size:=by
 obtain⟨i,hi,rfl⟩:=e8 h
 obtain⟨⟨_,inf,z,h1,h2,_⟩,_,rfl⟩:=dB hT hi
 exact⟨inf,h1,h2,by simp[Program.cellsOf,h1,h2]⟩
theorem Sd {P:Program} {Θ:ee} (hT:dv P Θ=true) {T:TypeId} {t:Ty} (h:Θ.is T t=true) (w:World):(Go.isAgg T).run P w=.ok (isAgg t) w:=by
 obtain⟨i,hi,rfl⟩:=e8 h
 obtain⟨_,hu,rfl⟩:=dB hT hi
 have hn:=x8 hu
 unfold nq at hu
 unfold Go.isAgg
 split at hu<;>simp_all [underlying,program,isAgg,Sem.run]
end Go.Pv
namespace Go.Pv
set_option linter.unusedVariables false
set_option linter.unusedSimpArgs false
variable {w w':World} {A A':Nat→Prop} {H:Nat→Value} {tm sx:Nat→Value} {S S':St} {σ:Nat→Option Nat} {w0:World} {W0 Z:Nat→Prop} {a:Act} {own:Nat→Prop} {v:Value} {Θ:ee}
theorem kx (g off n:Nat):(⟨g,off,none⟩:Addr).add n=⟨g,off+n,none⟩:=by
 unfold Addr.add
 split
 ·rename_i h;subst h;rfl
 ·rfl
theorem VY {t:Ty} {xs:List t.I} {X:Option Addr} {c lo hi:Nat} (h:K w A (.sl t) xs [.slice X xs.length c]) (h1:lo≤hi) (h2:hi≤xs.length):
  K w A (.sl t) ((xs.take hi).drop lo) [.slice (if c=lo then X else X.map (·.add (lo*t.size))) (hi - lo) (c - lo)]:=by
 simp only[K] at h ⊢
 obtain⟨X',c',e,hc,h⟩:=h
 simp only[List.cons.injEq,Value.slice.injEq,and_true,true_and] at e
 obtain⟨rfl,rfl⟩:=e
 have hl:((xs.take hi).drop lo).length=hi - lo:=by rw[List.length_drop,List.length_take];omega
 refine⟨_,_,by rw[hl],by omega,fun hp=>?_⟩
 rw[hl] at hp
 obtain⟨g,off,cur,T,fr,rfl,hg,hw,ho,hj⟩:=h (by omega)
 have e1:(lo+(hi - lo))*t.size≤xs.length*t.size:=Nat.mul_le_mul_right _ (by omega)
 rw[Nat.add_mul] at e1
 refine⟨g,off+lo*t.size,cur,T,fr,?_,hg,hw,by rw[hl];omega,fun j Hs=>?_⟩
 rotate_left
 ·have qj:j<hi - lo:=by rw[←hl];exact Hs
  have:=hj (lo+j) (by omega)
  rw[show((xs.take hi).drop lo)[j]=xs[lo+j]'(by omega) from by simp]
  rw[show off+lo*t.size+j*t.size=off+(lo+j)*t.size from by rw[Nat.add_mul];omega]
  exact this
 ·rw[if_neg (by omega)]
  simp only[Option.map_some,kx]
theorem gY (h:bI σ w0 W0 Z H S a w) {t:Ty} {s:Nat} {p:Path} {r:TV} {dy:List Value} (hr:Ref (cG a) S t s p r dy):
  ∃ ex b du de,S.at s=.v r ex∧open_ p ex∧bQ p r.t r.m r.x=some b∧b.t=t∧M w (Av σ Z) H r.t r.m r.x dy (fun g=>σ g=some s) ex∧
   bu w p r.t dy=some du∧(∀ g,de g→σ g=some s)∧M w (Av σ Z) H b.t b.m b.x du de (xP p ex):=by
 obtain⟨⟨ex,h1,h2⟩,h3,⟨b,h4,h5⟩,h6⟩:=hr
 have hh:=h.holds s
 rw[h1] at hh
 obtain⟨cs,hm,hM⟩:=hh
 obtain rfl:=fN h6 hm
 obtain⟨du,de,k1,k2,k3⟩:=focus p hM h2 h3 h4
 exact⟨ex,b,du,de,h1,h2,h4,h5,hM,k1,k2,k3⟩
theorem dU (h:bI σ w0 W0 Z H S a w) {t:Ty} {s:Nat} {p:Path} {r:TV} {dy cs:List Value} {b:TV} (hr:Ref (cG a) S t s p r dy) (hc:bu w p r.t dy=some cs) (hp:S.place s p=some b):
  b.t=t∧∃ de,(∀ g,de g→σ g=some s)∧M w (Av σ Z) H b.t b.m b.x cs de []:=by
 obtain⟨ex,b',du,de,h1,h2,h3,h4,hM,k1,k2,k3⟩:=gY h hr
 unfold St.place at hp
 rw[h1] at hp
 simp only at hp
 cases gQ:ex.all fun q=>!iB q p with
 |false=>rw[gQ] at hp;cases hp
 |true=>
  rw[gQ] at hp
  simp only[cond_true] at hp
  rw[h3] at hp
  injection hp with hp
  subst hp
  rw[k1] at hc
  injection hc with hc
  subst hc
  rw[vj (fun q hq=>by simpa using List.all_eq_true.1 gQ q hq)] at k3
  exact⟨h4,de,k2,k3⟩
theorem sW (h:bI σ w0 W0 Z H S a w) {av:AV} {b:TV} (hh:Holds w (Av σ Z) H (cG a) S own av v) (e:S.uk av=some b):
  ∃ cs,aE b.t v cs∧K w (fun _=>False) b.t b.x cs∧(b.m.cy=true→K w (Av σ Z) b.t b.x cs):=by
 cases av with
 |v a ex=>
  cases ex with
  |cons _ _=>simp[St.uk] at e
  |nil=>
   simp only[St.uk,Option.some.injEq] at e
   subst e
   obtain⟨cs,h1,h2⟩:=hh
   exact⟨cs,h1,RX h2,fun hk=>gR _ hk h2⟩
 |al t s p=>
  simp only[St.uk] at e
  obtain⟨r,dy,cs,hr,hc,hm⟩:=hh
  obtain⟨rfl,de,k2,k3⟩:=dU h hr hc e
  exact⟨cs,hm,RX k3,fun hk=>gR _ hk k3⟩
 |cut t s p lo hi=>
  simp only[St.uk] at e
  obtain⟨r,dy,t',X,n,c,hr,rfl,hc,YW,EM,rfl⟩:=hh
  cases hp:S.place s p with
  |none=>rw[hp] at e;cases e
  |some b'=>
   obtain⟨ht,de,k2,k3⟩:=dU h hr hc hp
   obtain⟨bt,bm,bx⟩:=b'
   simp only at ht
   subst ht
   rw[hp] at e
   simp only[Option.some.injEq] at e
   subst e
   have hK:=RX k3
   have hn:n=List.length bx:=by
    simp only[K] at hK
    obtain⟨_,_,e,_⟩:=hK
    simp only[List.cons.injEq,Value.slice.injEq,and_true] at e
    exact e.2.1
   subst hn
   exact⟨_,by simp[aE,isAgg],VY hK YW EM,fun hk=>VY (gR _ hk k3) YW EM⟩
 |_=>simp[St.uk] at e
theorem jB (h:bI σ w0 W0 Z H S a w) {T:TypeId} {x:Operand} {b:TV} (e:S.rd Θ T x=some b):
  ∃ cs,aE b.t (a.eval x) cs∧K w (fun _=>False) b.t b.x cs∧(b.m.cy=true→K w (Av σ Z) b.t b.x cs):=by
 unfold St.rd at e
 split at e
 ·rename_i av eQ
  exact sW h (cf h eQ) e
 ·cases e
theorem dV {k:IntKind} {v:Value} {cs:List Value} {x:Int} (h:aE (.int k) v cs) (hk:K w A (.int k) x cs):v=.int k x:=by
 simp only[K] at hk;simp only[aE,isAgg] at h;subst hk;simpa using h.symm
theorem dW {v:Value} {cs:List Value} {x:Bool} (h:aE .bool v cs) (hk:K w A .bool x cs):v=.bool x:=by
 simp only[K] at hk;simp only[aE,isAgg] at h;subst hk;simpa using h.symm
theorem gf {v:Value} {cs:List Value} {x:ByteArray} (h:aE .str v cs) (hk:K w A .str x cs):v=.string x:=by
 simp only[K] at hk;simp only[aE,isAgg] at h;subst hk;simpa using h.symm
theorem pz {t:Ty} {v:Value} {cs:List Value} {x:List t.I} (h:aE (.sl t) v cs) (hk:K w A (.sl t) x cs):∃ X c,v=.slice X x.length c∧cs=[.slice X x.length c]∧x.length≤c:=by
 have gA:=hk
 simp only[K] at gA
 obtain⟨X,c,rfl,hc,_⟩:=gA
 simp only[aE,isAgg] at h
 exact⟨X,c,by simpa using h.symm,rfl,hc⟩
theorem jI (h:bI σ w0 W0 Z H S a w) {x:Operand} {n:Int} (e:S.mB Θ x=some n):∃ k,a.eval x=.int k n:=by
 unfold St.mB at e
 split at e
 ·rename_i k m n' hb
  injection e with e
  subst e
  obtain⟨cs,h1,h2,_⟩:=jB h hb
  exact⟨k,dV h1 h2⟩
 ·cases e
theorem qy {t:Ty} {x:t.I} {v:Value} {cs:List Value} (h:aE t v cs) (hk:K w A t x cs):Holds w A H tm S (fun _=>False) (.v ⟨t,.k,x⟩ []) v:=⟨cs,h,ib t hk⟩
theorem dM (k:IntKind) (n:Int):Holds w A H tm S (fun _=>False) (.v ⟨.int k,.k,n⟩ []) (.int k n):=qy (cs:=[.int k n]) (by simp[aE,isAgg]) (by simp[K])
theorem dk (b:Bool):Holds w A H tm S (fun _=>False) (.v ⟨.bool,.k,b⟩ []) (.bool b):=qy (cs:=[.bool b]) (by simp[aE,isAgg]) (by simp[K])
theorem Ih (b:ByteArray):Holds w A H tm S (fun _=>False) (.v ⟨.str,.k,b⟩ []) (.string b):=qy (cs:=[.string b]) (by simp[aE,isAgg]) (by simp[K])
end Go.Pv
namespace Go.Pv
set_option linter.unusedVariables false
set_option linter.unusedSimpArgs false
variable {P:Program} {w w':World} {A A':Nat→Prop} {H:Nat→Value} {tm sx:Nat→Value} {S S':St} {σ:Nat→Option Nat} {w0:World} {W0 Z:Nat→Prop} {a:Act} {own:Nat→Prop} {v:Value} {Θ:ee} {dst:Option Nat} {g:Bool}
def Jk (P:Program) (w0:World) (W0 Z:Nat→Prop) (H:Nat→Value) (S':St) (a:Act) (dst:Option Nat) (w:World) (s:Sem Next):Prop:=
 ∃ w' v,(s.run P w=.ok (.value v) w'∨(v=undef∧s.run P w=.ok .skip w'))∧Rel w0 W0 Z H S' (a.put dst v) w'
def Ext (w w':World):Prop:=∀ g,g<w.heap.size→w'.heap[g]?=w.heap[g]?
theorem Ext.refl (w:World):Ext w w:=fun _ _=>rfl
theorem Ext.stays (h:Ext w w'):bA w w' A A:=⟨fun g _ hg=>h g hg,fun _ _ h=>h⟩
def jg (P:Program) (w0:World) (W0 Z:Nat→Prop) (H:Nat→Value) (S':St) (a:Act) (dst:Option Nat) (w:World) (s:Sem Next):Prop:=
 ∃ v,(∀ w2,Ext w w2→s.run P w2=.ok (.value v) w2)∧Rel w0 W0 Z H S' (a.put dst v) w
theorem jg.auN {s:Sem Next} (h:jg P w0 W0 Z H S' a dst w s):Jk P w0 W0 Z H S' a dst w s:=by
 obtain⟨v,h1,h2⟩:=h
 exact⟨w,v,.inl (h1 w (Ext.refl w)),h2⟩
theorem c7 {s:Sem Next} {av:AV} (h:bI σ w0 W0 Z H S a w) (hr:∀ w2,Ext w w2→s.run P w2=.ok (.value v) w2) (hv:Holds w (Av σ Z) H (cG a) S (fun _=>False) av v):
  jg P w0 W0 Z H (S.put dst av) a dst w s:=⟨v,hr,_,h.pure hv⟩
def ns (P:Program) (w0:World) (W0 Z:Nat→Prop) (H:Nat→Value) (S':St) (a:Act) (dst:Option Nat) (w:World) (s:Sem Next):Prop:=
 ∃ v,(∀ w2,s.run P w2=.ok (.value v) w2)∧Rel w0 W0 Z H S' (a.put dst v) w
theorem ns.q {s:Sem Next} (h:ns P w0 W0 Z H S' a dst w s):jg P w0 W0 Z H S' a dst w s:=by
 obtain⟨v,h1,h2⟩:=h
 exact⟨v,fun w2 _=>h1 w2,h2⟩
theorem cP {s:Sem Next} {av:AV} (h:bI σ w0 W0 Z H S a w) (hr:∀ w2,s.run P w2=.ok (.value v) w2) (hv:Holds w (Av σ Z) H (cG a) S (fun _=>False) av v):
  ns P w0 W0 Z H (S.put dst av) a dst w s:=⟨v,hr,_,h.pure hv⟩
def scalar:Ty→Bool
 | .int _=>true | .bool=>true | .str=>true |_=>false
theorem EV {Ja:Nat→Prop} {tm1:Nat→Value} {S2:St} {r:TV} {v1 v2:Value} (hs:scalar r.t=true) (h1:Holds w A H tm S own (.v r []) v1) (h2:Holds w' A' H tm1 S2 Ja (.v r []) v2):v1=v2:=by
 obtain⟨rt,rm,rx⟩:=r
 obtain⟨cs,a1,a2⟩:=h1
 obtain⟨du,b1,b2⟩:=h2
 cases rt<;>simp[scalar] at hs<;>simp only[M] at a2 b2
 ·rw[dV a1 a2.2,dV b1 b2.2]
 ·rw[dW a1 a2.2,dW b1 b2.2]
 ·rw[gf a1 a2.2,gf b1 b2.2]
theorem qz (h:bI σ w0 W0 Z H S a w) {T:TypeId} {x:Operand} {a' av:AV} (ho:S.fb Θ T x=some a') (hc:S.copy x a'=some av):
  Holds w (Av σ Z) H (cG a) S (fun _=>False) av (a.eval x):=by
 have hh:=cf h ho
 cases a' with
 |v b ex=>
  simp only[St.copy] at hc
  cases hk:b.m.cy with
  |true=>
   simp only[hk,cond_true,Option.some.injEq] at hc
   subst hc
   obtain⟨cs,h1,h2⟩:=hh
   obtain⟨bt,bm,bx⟩:=b
   refine⟨cs,h1,?_⟩
   exact ph hk (gR _ hk h2)
  |false=>
   simp only[hk,cond_false] at hc
   cases x with
   |tmp i=>
    simp only[Option.some.injEq] at hc
    subst hc
    simp only[St.fb,Option.some.injEq] at ho
    obtain⟨cs,h1,h2⟩:=hh
    exact⟨b,cs,cs,⟨⟨ex,ho,fun q _ s r e=>by cases q<;>simp at e⟩,trivial,⟨b,rfl,rfl⟩,h1⟩,rfl,h1⟩
   |const c=>
    cases ex with
    |cons _ _=>simp at hc
    |nil=>
     simp only[Option.some.injEq] at hc
     subst hc
     obtain⟨cs,h1,h2⟩:=hh
     exact⟨cs,h1,bj (bA.refl _ _) _ (fun _ _ _=>rfl) (fun g hg _=>by obtain⟨i,hi,_⟩:=hg;cases hi) (fun _ h=>h) h2⟩
   |func f=>
    cases ex with
    |cons _ _=>simp at hc
    |nil=>simp[St.fb] at ho
   |global f=>
    cases ex with
    |cons _ _=>simp at hc
    |nil=>simp[St.fb] at ho
 |dead=>simp[St.copy] at hc
 |u5 l=>simp[St.copy] at hc
 |undef=>simp only[St.copy,Option.some.injEq] at hc;subst hc;exact hh
 |al t s p=>simp only[St.copy,Option.some.injEq] at hc;subst hc;exact hh
 |ad t s p=>simp only[St.copy,Option.some.injEq] at hc;subst hc;exact hh
 |cut t s p lo hi=>simp only[St.copy,Option.some.injEq] at hc;subst hc;exact hh
 |mg f c=>simp only[St.copy,Option.some.injEq] at hc;subst hc;exact hh
theorem ah' (h:bI σ w0 W0 Z H S a w) {o:Oper} {x:Operand} (ho:o.op=.move x) (hnt:∀ l,S.fb Θ o.type x≠some (.u5 l)) (e:qm Θ S o.dst o.type x=some (true,S')):ns P w0 W0 Z H S' a o.dst w (execOp a.eval o):=by
 unfold qm at e
 split at e
 ·rename_i l hl
  exact absurd hl (hnt l)
 ·rename_i a' _ ha
  split at e
  ·rename_i av hv
   injection e with e
   injection e with _ e
   subst e
   exact cP h (fun w2=>by simp only[execOp,ho];rfl) (qz h ha hv)
  ·cases e
 ·cases e
theorem ack {op:BinOp} {k k':IntKind} {x y:Int} {r:TV} (T:TypeId) (hk:k=k'∨op=.shl∨op=.shr) (e:ahW op k x y=some (true,r)):
  ∃ v,(binOp op T (.int k x) (.int k' y)).run P w=.ok v w∧Holds w A H tm S (fun _=>False) (.v r []) v:=by
 cases op<;>simp only[ahW,Option.some.injEq,Prod.mk.injEq,reduceCtorEq,true_and] at e
 case add=>
  obtain rfl:k=k':=by simpa using hk
  subst e;exact⟨_,by simp[binOp,Op.intArith],dM _ _⟩
 case sub=>
  obtain rfl:k=k':=by simpa using hk
  subst e;exact⟨_,by simp[binOp,Op.intArith],dM _ _⟩
 case mul=>
  obtain rfl:k=k':=by simpa using hk
  subst e;exact⟨_,by simp[binOp,Op.intArith],dM _ _⟩
 case quo=>
  obtain rfl:k=k':=by simpa using hk
  obtain⟨e0,rfl⟩:=e
  have h0: ¬y=0:=by simpa using e0
  exact⟨_,by simp[binOp,Op.intDiv,h0],dM _ _⟩
 case rem=>
  obtain rfl:k=k':=by simpa using hk
  obtain⟨e0,rfl⟩:=e
  have h0: ¬y=0:=by simpa using e0
  exact⟨_,by simp[binOp,Op.intDiv,h0],dM _ _⟩
 case and=>
  obtain rfl:k=k':=by simpa using hk
  subst e;exact⟨_,by simp[binOp,Op.intBits],dM _ _⟩
 case or=>
  obtain rfl:k=k':=by simpa using hk
  subst e;exact⟨_,by simp[binOp,Op.intBits],dM _ _⟩
 case xor=>
  obtain rfl:k=k':=by simpa using hk
  subst e;exact⟨_,by simp[binOp,Op.intBits],dM _ _⟩
 case eql=>
  obtain rfl:k=k':=by simpa using hk
  subst e;exact⟨_,by simp[binOp,Op.intCmp],dk _⟩
 case neq=>
  obtain rfl:k=k':=by simpa using hk
  subst e;exact⟨_,by simp[binOp,Op.intCmp],dk _⟩
 case lss=>
  obtain rfl:k=k':=by simpa using hk
  subst e;exact⟨_,by simp[binOp,Op.intCmp],dk _⟩
 case leq=>
  obtain rfl:k=k':=by simpa using hk
  subst e;exact⟨_,by simp[binOp,Op.intCmp],dk _⟩
 case gtr=>
  obtain rfl:k=k':=by simpa using hk
  subst e;exact⟨_,by simp[binOp,Op.intCmp],dk _⟩
 case geq=>
  obtain rfl:k=k':=by simpa using hk
  subst e;exact⟨_,by simp[binOp,Op.intCmp],dk _⟩
 case shl=>
  obtain⟨e0,rfl⟩:=e
  have h0: ¬y<0:=by
   have:0≤y:=by simpa using e0
   omega
  exact⟨_,by simp[binOp,Op.shift,h0],dM _ _⟩
 case shr=>
  obtain⟨e0,rfl⟩:=e
  have h0: ¬y<0:=by
   have:0≤y:=by simpa using e0
   omega
  exact⟨_,by simp[binOp,Op.shift,h0],dM _ _⟩
theorem acm {op:BinOp} {x y:ByteArray} {r:TV} (T:TypeId) (e:ahX op x y=some (true,r)):
  ∃ v,(binOp op T (.string x) (.string y)).run P w=.ok v w∧Holds w A H tm S (fun _=>False) (.v r []) v:=by
 cases op<;>simp only[ahX,Option.some.injEq,Prod.mk.injEq,reduceCtorEq,true_and] at e
 case add=>
  obtain⟨e0,rfl⟩:=e
  have h0:x.size+y.size≤9223372036854775807:=by simpa using e0
  refine⟨_,?_,Ih _⟩
  rw[binOp_string_add]
  simp only[Op.stringOp,IntKind.max_i64]
  rw[if_neg (by omega)]
  rfl
 case eql=>subst e;exact⟨_,by rw[binOp_string_eql];rfl,dk _⟩
 case neq=>subst e;exact⟨_,by rw[binOp_string_neq];rfl,dk _⟩
theorem NF {op:UnOp} {b r:TV} {v:Value} {cs:List Value} (hm:aE b.t v cs) (hK:K w (fun _=>False) b.t b.x cs) (e:ahY op b=some r):
  ∃ u,(Op.unary op v).run P w=.ok u w∧Holds w A H tm S (fun _=>False) (.v r []) u:=by
 unfold ahY at e
 split at e
 ·injection e with e;subst e
  obtain rfl:=dW hm hK
  exact⟨_,rfl,dk _⟩
 ·injection e with e;subst e
  obtain rfl:=dV hm hK
  exact⟨_,rfl,dM _ _⟩
 ·injection e with e;subst e
  obtain rfl:=dV hm hK
  exact⟨_,by simp[Op.unary,Op.intBits],dM _ _⟩
 ·cases e
theorem auO (h:bI σ w0 W0 Z H S a w) {o:Oper} {op:UnOp} {T:TypeId} {x:Operand} (ho:o.op=.unOp op T x) (e:aqG Θ S o.dst op x=some (true,S')):jg P w0 W0 Z H S' a o.dst w (execOp a.eval o):=by
 unfold aqG at e
 split at e
 ·rename_i b hb
  split at e
  ·rename_i r hr
   injection e with e;injection e with _ e;subst e
   obtain⟨cs,h1,h2,_⟩:=jB h hb
   obtain⟨u,h3,h4⟩:=NF (P:=P) (A:=Av σ Z) (H:=H) (tm:=cG a) (S:=S) h1 h2 hr
   have hsc:scalar r.t=true:=by
    unfold ahY at hr
    split at hr<;>first |(injection hr with hr;subst hr;rfl) |cases hr
   refine c7 h (fun w2 hw=>?_) h4
   obtain⟨u2,k3,k4⟩:=NF (w:=w2) (P:=P) (A:=Av σ Z) (H:=H) (tm:=cG a) (S:=S) h1 (cE hw.stays _ h2) hr
   rw[EV hsc h4 k4]
   simp[execOp,ho,k3]
  ·cases e
 ·cases e
theorem EW (hT:dv P Θ=true) (h:bI σ w0 W0 Z H S a w) {o:Oper} {T T':TypeId} {x:Operand} (ho:o.op=.convert T T' x) (hk:(match Θ.find T' with
  |some i=>(match i.ty with
   | .int _=>true
   |_=>false)
  |none=>false)=true) (e:iL Θ S o.dst T T' x=some (true,S')):ns P w0 W0 Z H S' a o.dst w (execOp a.eval o):=by
 unfold iL at e
 split at e
 ·rename_i k m n i _ k' _ _ hb hi hj
  injection e with e;injection e with _ e;subst e
  obtain⟨cs,h1,h2,_⟩:=jB h hb
  have hv:=dV h1 h2
  obtain⟨_,hu,rfl⟩:=dB hT hi
  obtain⟨_,uq,hT'⟩:=dB hT hj
  obtain⟨d,hd⟩:=(x8 hu).1
  have VZ:=x6 uq rfl
  rw[hT'] at VZ
  refine cP h (v:=.int k' (k'.wrap n)) (fun w2=>?_) (dM _ _)
  simp[execOp,ho,hv,convert,run_underlying hd,run_underlying VZ,Conv.intToInt]
 ·rename_i hj
  rw[hj] at hk
  cases hk
 ·cases e
theorem NG (hT:dv P Θ=true) (h:bI σ w0 W0 Z H S a w) {o:Oper} {T T':TypeId} {x:Operand} (ho:o.op=.convert T T' x) (e:iL Θ S o.dst T T' x=some (true,S')):jg P w0 W0 Z H S' a o.dst w (execOp a.eval o):=by
 have e0:=e
 unfold iL at e
 split at e
 ·rename_i hj
  exact(EW hT h ho (by rw[hj]) e0).q
 ·rename_i m xs _ _ _ _ _ _ hb hi hj
  injection e with e;injection e with _ e;subst e
  obtain⟨cs,h1,h2,_⟩:=jB h hb
  obtain⟨X,c,hv,rfl,hc⟩:=pz h1 h2
  obtain⟨_,hu,hT0⟩:=dB hT hi
  obtain⟨_,uq,hT'⟩:=dB hT hj
  obtain⟨hd,he,_⟩:=mr hu rfl
  have VZ:=qx uq rfl
  obtain⟨ie,hie,gG⟩:=e8 he
  obtain⟨_,hue,hTe⟩:=dB hT hie
  have hde:=x6 hue gG
  simp only at hT0 hT' hd VZ
  rw[hT0] at hd
  rw[hT'] at VZ
  rw[hTe] at hde
  refine c7 h (v:=.string (bytesOf xs)) (fun w2 hw=>?_) ⟨[.string (bytesOf xs)],by simp[aE,isAgg],by simp[M,K,Md.cy]⟩
  have hK:=cE hw.stays _ h2
  simp only[execOp,ho,hv,Sem.run_bind]
  rw[run_convert_bytes_string w2 T T' _ X xs.length c hd hde VZ]
  simp only[K] at hK
  obtain⟨X',c',e1,_,hx⟩:=hK
  simp only[List.cons.injEq,Value.slice.injEq,and_true] at e1
  obtain⟨rfl,_,rfl⟩:=e1
  by_cases h0:0<xs.length
  ·obtain⟨g,off,cur,T2,fr,rfl,_,sH,hlen,vX⟩:=hx h0
   rw[run_bytesToString w2 ⟨g,off,none⟩ xs.length c xs ?_]
   ·simp[bytesOf,Sem.run_pure]
   ·have:=run_loadCells_list (P:=P) (w:=w2) ⟨g,off,none⟩ (xs.map (Value.int .u8)) (fun j v hj=>?_)
    ·rwa [List.length_map] at this
    ·rw[List.getElem?_map] at hj
     cases qj:xs[j]? with
     |none=>rw[qj] at hj;cases hj
     |some n=>
      rw[qj] at hj
      simp only[Option.map_some,Option.some.injEq] at hj
      subst hj
      have ur:=(List.getElem?_eq_some_iff.1 qj).1
      have h3:=vX j ur
      have hn:xs[j]=n:=(List.getElem?_eq_some_iff.1 qj).2
      simp only[K,Ty.size,Nat.mul_one] at h3
      rw[hn] at h3
      have h4:(cur.toList.drop (off+j)).head?=some (.int .u8 n):=by
       cases hd:cur.toList.drop (off+j) with
       |nil=>rw[hd] at h3;simp at h3
       |cons y r=>rw[hd] at h3;simp at h3;simp[h3]
      rw[List.head?_drop] at h4
      rw[Addr.add_lit]
      simp only[World.cell?,sH]
      rw[←Array.getElem?_toList,h4]
      rfl
  ·have:xs=[]:=List.eq_nil_of_length_eq_zero (by omega)
   subst this
   cases X with
   |none=>simp[Conv.bytesToString,bytesOf,Sem.run_pure]
   |some A=>
    show((Conv.bytesToString (Value.slice (some A) 0 c)).run P w2).andThen _=_
    rw[run_bytesToString w2 A 0 c [] (by simpa using run_loadCells_list (P:=P) (w:=w2) A [] (fun j v hj=>by simp at hj))]
    simp[bytesOf,Sem.run_pure]
 ·cases e
theorem Y8 (x y:ByteArray):(x==y)=(x.toList==y.toList):=beq_toListBytes x y
theorem Ii {t:Ty} (h:isAgg t=false):t.size=1:=by cases t<;>simp[isAgg] at h<;>rfl
theorem pA (hT:dv P Θ=true) {T:TypeId} {t:Ty} (ht:Θ.is T t=true) {cs:List Value} {off:Nat} (hlen:off+t.size≤cs.length):
  ∃ u,(part T cs.toArray off).run P w=.ok u w∧aE t u ((cs.drop off).take t.size):=by
 have R2:=Sd hT ht w
 obtain⟨inf,s1,s2,_⟩:=jA hT ht
 have hso:(sizeOf T).run P w=.ok t.size w:=by simp[sizeOf,typeInfo,s1,s2]
 cases hca:isAgg t with
 |true=>
  refine⟨.agg (cs.toArray.extract off (off+t.size)),?_,?_⟩
  ·rw[hca] at R2
   unfold part
   simp only[Sem.run_bind,R2,Result.andThen_ok,if_true,hso]
   rfl
  ·unfold aE
   rw[if_pos hca]
   congr 1
   apply Array.toList_inj.1
   rw[Array.toList_extract,List.toList_toArray,List.toList_toArray,List.extract_eq_drop_take']
   rw[List.drop_take,Nat.add_sub_cancel_left]
 |false=>
  have h1:=Ii hca
  have Se:off<cs.length:=by omega
  refine⟨cs[off],?_,?_⟩
  ·rw[hca] at R2
   unfold part
   simp only[Sem.run_bind,R2,Result.andThen_ok,if_neg Bool.false_ne_true]
   rw[List.getElem?_toArray,List.getElem?_eq_getElem Se]
   rfl
  ·unfold aE
   rw[if_neg (by rw[hca];exact Bool.false_ne_true),h1,List.drop_eq_getElem_cons Se,List.take_succ_cons,List.take_zero]
theorem NH:∀ (p q:Path) (t:Ty),iv (p++q) t=(iv p t).bind (iv q):=by
 intro p
 induction p with
 |nil=>intro q t;rfl
 |cons s p ih=>intro q t;cases s<;>cases t<;>first |rfl |exact ih q _
theorem EX:∀ (p q:Path) (t u:Ty),iv p t=some u→bp (p++q) t=bp p t+bp q u:=by
 intro p
 induction p with
 |nil=>intro q t u h;simp only[iv,Option.some.injEq] at h;subst h;simp[bp]
 |cons s p ih=>
  intro q t u h
  cases s<;>cases t<;>simp only[iv,reduceCtorEq] at h
  ·simp only[List.cons_append,bp];exact ih q _ u h
  ·simp only[List.cons_append,bp];rw[ih q _ u h];omega
theorem aqO {k n:Nat} (h2:2≤n):nY k n=if k+1=n then List.replicate k .snd else List.replicate k .snd++[.fst]:=by
 unfold nY
 have h1:Nat.beq n 1=false:=by
  cases hb:Nat.beq n 1 with
  |false=>rfl
  |true=>have:=Nat.eq_of_beq_eq_true hb;omega
 by_cases hkn:k+1=n
 ·rw[if_pos hkn,hkn,Nat.beq_refl,h1];rfl
 ·have:Nat.beq (k+1) n=false:=by
   cases hb:Nat.beq (k+1) n with
   |false=>rfl
   |true=>exact absurd (Nat.eq_of_beq_eq_true hb) hkn
  rw[if_neg hkn,this];rfl
theorem uu {t:Ty} {v:Value} {cs:List Value} (ha:isAgg t=true) (h:aE t v cs):v=.agg cs.toArray:=by simpa[aE,ha] using h
theorem x9 (hT:dv P Θ=true):∀ (d:Nat) (t:Ty) {T:TypeId} {x y:t.I} {r:Bool} {cs du:List Value} {u v:Value},Θ.is T t=true→Nj t x y=some r→aE t u cs→aE t v du→K w (fun _=>False) t x cs→K w (fun _=>False) t y du→t.ht<d→
  (Op.equalIn d T u v).run P w=.ok r w
 |0,_,_,_,_,_,_,_,_,_,_,_,_,_,_,_,hd=>absurd hd (Nat.not_lt_zero _)
 |d+1,t,T,x,y,r,cs,du,u,v,hT1,he,hu,hv,hx,hy,hd=>by
  obtain⟨i,hi,gG⟩:=e8 hT1
  obtain⟨_,HD,h3⟩:=dB hT hi
  cases t with
  |int k=>
   have uq:=x6 HD gG
   rw[h3] at uq
   simp only[Nj,Option.some.injEq] at he
   subst he
   obtain rfl:=dV hu hx
   obtain rfl:=dV hv hy
   rw[run_equalIn_int w d T k k _ _ uq]
   congr 1
  |bool=>
   have uq:=x7 HD gG
   rw[h3] at uq
   simp only[Nj,Option.some.injEq] at he
   subst he
   obtain rfl:=dW hu hx
   obtain rfl:=dW hv hy
   exact run_equalIn_bool' w d T _ _ uq
  |str=>
   have uq:=qx HD gG
   rw[h3] at uq
   simp only[Nj,Option.some.injEq] at he
   subst he
   obtain rfl:=gf hu hx
   obtain rfl:=gf hv hy
   rw[run_equalIn_string w d T _ _ uq,Y8]
  |unit=>exact absurd gG (x8 HD).2.2.2
  |sl t=>simp[Nj] at he
  |ptr t=>simp[Nj] at he
  |arr n t=>simp[Nj] at he
  |pair pa pb=>
   obtain⟨fs,Y9,hft,jV,hg,hsh,hnb⟩:=nr HD gG
   rw[h3] at Y9 hsh
   obtain rfl:=uu rfl hu
   obtain rfl:=uu rfl hv
   have hfo:P.fieldsOf T=fs:=by unfold Program.fieldsOf;rw[Y9]
   rw[run_equalIn_struct w d T _ _ (by rw[hfo];exact Y9) hsh,hfo]
   have hlx:=(mh _ hx).1
   have hly:=(mh _ hy).1
   rw[gG] at jV
   have CS:fs.toList.length=i.fs.length:=by rw[←hft,List.length_map]
   have hU:=apm hT hi
   unfold uOK at hU
   rw[Bool.and_eq_true,gG] at hU
   have hU:=hU.2
   rcases Nat.lt_or_ge fs.size 2 with h2 |h2
   ·match hfi:i.fs,hfe:fs.toList with
    |[],_=>rw[hfi] at hU;simp at hU
    |[T1],[f]=>
     rw[hfi] at hU
     cases pb<;>simp at hU
     rw[hfe] at jV
     have hs1:fs.size=1:=by rw[←Array.length_toList,hfe];rfl
     simp only[lW,hs1,Bool.and_true] at jV
     have e1:nY 0 1=[.fst]:=rfl
     rw[e1] at jV
     simp only[iv,bp,Bool.and_eq_true] at jV
     obtain⟨⟨k1,k2⟩,k3⟩:=jV
     have k2:=Nat.eq_of_beq_eq_true k2
     simp only[Ty.size,Nat.add_zero] at hlx hly
     obtain⟨u1,p1,p2⟩:=pA (w:=w) hT k1 (cs:=cs) (off:=0) (by omega)
     obtain⟨v1,q1,q2⟩:=pA (w:=w) hT k1 (cs:=du) (off:=0) (by omega)
     rw[List.drop_zero,List.take_of_length_le (by omega)] at p2 q2
     simp only[Nj] at he
     split at he
     case h_2=>cases he
     rename_i p q hp hq
     injection hq with hq
     subst hq
     injection he with he
     subst he
     simp only[K] at hx hy
     obtain⟨c0,c1,rfl,hx0,hx1⟩:=hx
     obtain⟨c0',c1',rfl,hy0,hy1⟩:=hy
     subst hx1 hy1
     rw[List.append_nil] at p2 q2 p1 q1
     simp only[Ty.ht] at hd
     have hr:=x9 hT d _ k1 hp p2 q2 hx0 hy0 (by omega)
     have V0:=hnb f (by rw[←Array.mem_toList_iff,hfe];exact List.mem_singleton.2 rfl)
     simp only[Op.eqFields,V0,ne_eq,not_false_eq_true,if_true,Sem.run_bind,k2,List.append_nil,p1,q1,Result.andThen_ok,hr]
     cases p<;>simp
    |[T1],[]=>rw[hfi,hfe] at CS;simp at CS
    |[T1],_::_::_=>rw[hfi,hfe] at CS;simp at CS
    |_::_::_,_=>rw[hfi] at CS;simp only[Array.length_toList,List.length_cons] at CS;omega
   ·have key : ∀ (l : List Field) (k : Nat) (s : Ty) (x' y' : s.I) (c c' : List Value) (r : Bool), k + l.length = fs.size → l ≠ [] → (∀ f ∈ l, f.name ≠ "_") → lW Θ (.pair pa pb) fs.size l k = true → iv (List.replicate k .snd) (.pair pa pb) = some s →
      cs.drop (bp (List.replicate k .snd) (.pair pa pb))=c→du.drop (bp (List.replicate k .snd) (.pair pa pb))=c'→bp (List.replicate k .snd) (.pair pa pb)+s.size≤(Ty.pair pa pb).size→K w (fun _=>False) s x' c→K w (fun _=>False) s y' c'→(s.ht<d∨(1<l.length∧s.ht<d+1))→Nj s x' y'=some r→(Op.eqFields d cs.toArray du.toArray l).run P w=.ok r w:=by
     intro l
     induction l with
     |nil=>intro k s x' y' c c' r _ h;exact absurd rfl h
     |cons f l ih=>
      intro k s x' y' c c' r hk _ V0 jV hs hc YN j8 hx hy hd he
      have hnf:=V0 f (List.mem_cons_self ..)
      simp only[lW,Bool.and_eq_true] at jV
      obtain⟨jV,NI⟩:=jV
      rw[aqO h2] at jV
      cases l with
      |nil=>
       rw[if_pos (by simpa using hk),hs] at jV
       simp only[Bool.and_eq_true] at jV
       obtain⟨⟨k1,k2⟩,k3⟩:=jV
       have k2:=Nat.eq_of_beq_eq_true k2
       obtain⟨u1,p1,p2⟩:=pA (w:=w) hT k1 (cs:=cs) (off:=f.offset) (by omega)
       obtain⟨v1,q1,q2⟩:=pA (w:=w) hT k1 (cs:=du) (off:=f.offset) (by omega)
       have l1:=(mh _ hx).1
       have l2:=(mh _ hy).1
       rw[k2,hc,List.take_of_length_le (by omega)] at p2
       rw[k2,YN,List.take_of_length_le (by omega)] at q2
       have hr:=x9 hT d _ k1 he p2 q2 hx hy (by rcases hd with hd |hd;exact hd;simp at hd)
       simp only[Op.eqFields,hnf,ne_eq,not_false_eq_true,if_true,Sem.run_bind,p1,q1,Result.andThen_ok,hr]
       cases r<;>simp
      |cons f' l=>
       rw[if_neg (by simp only[List.length_cons] at hk;omega),NH,hs,Option.bind_some] at jV
       cases s with
       |pair sa sb=>
        simp only[iv,Bool.and_eq_true] at jV
        obtain⟨⟨k1,k2⟩,k3⟩:=jV
        have k2:=Nat.eq_of_beq_eq_true k2
        rw[EX _ _ _ _ hs] at k2
        simp only[bp,Nat.add_zero] at k2
        simp only[Nj] at he
        split at he
        case h_2=>cases he
        rename_i p q hp hq
        injection he with he
        subst he
        simp only[K] at hx hy
        obtain⟨c0,c1,hcc,hx0,hx1⟩:=hx
        obtain⟨c0',c1',auP,hy0,hy1⟩:=hy
        have l0:=(mh _ hx0).1
        have l0':=(mh _ hy0).1
        simp only[Ty.size] at j8 hlx hly
        obtain⟨u1,p1,p2⟩:=pA (w:=w) hT k1 (cs:=cs) (off:=f.offset) (by omega)
        obtain⟨v1,q1,q2⟩:=pA (w:=w) hT k1 (cs:=du) (off:=f.offset) (by omega)
        rw[k2,hc,hcc,←l0,List.take_left] at p2
        rw[k2,YN,auP,←l0',List.take_left] at q2
        have hdd:max sa.ht sb.ht+1<d+1:=by
         simp only[Ty.ht] at hd
         omega
        have hr:=x9 hT d _ k1 hp p2 q2 hx0 hy0 (by omega)
        have auQ:List.replicate (k+1) Step.snd=List.replicate k .snd++[.snd]:=List.replicate_succ'
        have aqP:bp (List.replicate (k+1) .snd) (.pair pa pb)=bp (List.replicate k .snd) (.pair pa pb)+sa.size:=by
         rw[auQ,EX _ _ _ _ hs];simp[bp]
        have hi:=ih (k+1) sb x'.2 y'.2 c1 c1' q (by simp only[List.length_cons] at hk ⊢;omega) (by simp) (fun f hf=>V0 f (List.mem_cons_of_mem _ hf)) NI (by rw[auQ,NH,hs];rfl)
         (by rw[aqP,←List.drop_drop,hc,hcc,←l0,List.drop_left]) (by rw[aqP,←List.drop_drop,YN,auP,←l0',List.drop_left]) (by rw[aqP];simp only[Ty.size];omega) hx1 hy1 (.inl (by omega)) hq
        simp only[Op.eqFields,hnf,ne_eq,not_false_eq_true,if_true,Sem.run_bind,p1,q1,Result.andThen_ok,hr]
        cases p with
        |false=>simp
        |true=>simpa[Op.eqFields] using hi
       |_=>simp[iv] at jV
    exact key fs.toList 0 _ x y cs du r (by simp) (fun e=>by rw[←Array.length_toList,e] at h2;simp at h2) (fun f hf=>hnb f (by simpa using hf)) jV rfl rfl rfl (by simp[bp]) hx hy (.inr ⟨by rw[Array.length_toList];omega,hd⟩) he
theorem V1 (hT:dv P Θ=true) {op:BinOp} {T:TypeId} {x y:Operand} {p q r:TV} {u v:Value} {cs du:List Value} (hp:aE p.t u cs) (hq:aE q.t v du) (kp:K w (fun _=>False) p.t p.x cs) (kq:K w (fun _=>False) q.t q.x du)
  (hi:p.t=.bool∨isAgg p.t=true→Θ.is T p.t=true) (e:iR op p q=some (true,r)):
  ∃ z,((do eqGuard op T x y u v;binOp op T u v):Sem Value).run P w=.ok z w∧Holds w A H tm S (fun _=>False) (.v r []) z:=by
 unfold iR at e
 split at e
 ·rename_i k _ x0 k' _ y0
  split at e
  ·rename_i hk
   obtain rfl:=dV hp kp
   obtain rfl:=dV hq kq
   obtain⟨z,h1,h2⟩:=ack (P:=P) (w:=w) (A:=A) (H:=H) (tm:=tm) (S:=S) T hk e
   exact⟨z,by rw[eqGuard_at_int];simpa using h1,h2⟩
  ·cases e
 ·obtain rfl:=gf hp kp
  obtain rfl:=gf hq kq
  obtain⟨z,h1,h2⟩:=acm (P:=P) (w:=w) (A:=A) (H:=H) (tm:=tm) (S:=S) T e
  exact⟨z,by rw[eqGuard_at_string];simpa using h1,h2⟩
 ·obtain rfl:=dW hp kp
  obtain rfl:=dW hq kq
  obtain⟨i,h1,h2⟩:=e8 (hi (.inl rfl))
  obtain⟨_,hu,h3⟩:=dB hT h1
  have uq:=x7 hu h2
  rw[h3] at uq
  split at e
  ·injection e with e;injection e with _ e;subst e
   refine⟨_,?_,dk _⟩
   rw[eqGuard_at_bool]
   simp[binOp,Op.equal,Op.maxDepth,run_equalIn_bool' w 9999 T _ _ uq]
  ·injection e with e;injection e with _ e;subst e
   refine⟨_,?_,dk _⟩
   rw[eqGuard_at_bool]
   simp[binOp,Op.equal,Op.maxDepth,run_equalIn_bool' w 9999 T _ _ uq]
  ·cases e
 ·rename_i t t' _ x0 t2 _ y0
  split at e
  ·rename_i ht
   subst ht
   have hTT:=hi (.inr rfl)
   obtain⟨i,h1,h2⟩:=e8 hTT
   obtain⟨fT,hu,h3⟩:=dB hT h1
   obtain⟨fs,Y9,_,_,hg,_,_⟩:=nr hu h2
   rw[h3] at hg
   have eu:=uu rfl hp
   have ev:=uu rfl hq
   have j8:(Ty.pair t t').ht<10000:=Nat.lt_of_le_of_lt (show(Ty.pair t t').ht≤9000 from by
    have hs:=apm hT h1
    unfold uOK at hs
    rw[Bool.and_eq_true,h2] at hs
    exact Nat.le_of_ble_eq_true hs.1) (by decide)
   split at e
   ·rename_i r0 h0
    injection e with e;injection e with _ e;subst e
    have hr:=x9 (P:=P) hT 10000 (.pair t t') hTT h0 hp hq kp kq j8
    rw[eu,ev] at hr ⊢
    refine⟨_,?_,dk _⟩
    simp only[Sem.run_bind,run_eqGuard_agg (P:=P) w _ T x y _ _ hg,Result.andThen_ok,run_eql_struct,hr]
   ·rename_i r0 h0
    injection e with e;injection e with _ e;subst e
    have hr:=x9 (P:=P) hT 10000 (.pair t t') hTT h0 hp hq kp kq j8
    rw[eu,ev] at hr ⊢
    refine⟨_,?_,dk _⟩
    simp only[Sem.run_bind,run_eqGuard_agg (P:=P) w _ T x y _ _ hg,Result.andThen_ok,run_neq_struct,hr]
   ·cases e
  ·cases e
 ·cases e
theorem Jl {op:BinOp} {p q r:TV} {g:Bool} (e:iR op p q=some (g,r)):scalar r.t=true:=by
 unfold iR at e
 split at e
 ·split at e
  ·unfold ahW at e
   split at e<;>first |(injection e with e;injection e with _ e;subst e;rfl) |cases e
  ·cases e
 ·unfold ahX at e
  split at e<;>first |(injection e with e;injection e with _ e;subst e;rfl) |cases e
 ·split at e<;>first |(injection e with e;injection e with _ e;subst e;rfl) |cases e
 ·split at e
  ·split at e<;>first |(injection e with e;injection e with _ e;subst e;rfl) |cases e
  ·cases e
 ·cases e
theorem pB:∀ (t:Ty) {x y:t.I} {r:Bool},Nj t x y=some r→∀ {z:t.I} {cs:List Value},K w A t z cs→K w' A t z cs
 | .int _,_,_,_,_,_,_,h=>h
 | .bool,_,_,_,_,_,_,h=>h
 | .str,_,_,_,_,_,_,h=>h
 | .unit,_,_,_,_,_,_,h=>h
 | .pair a b,x,y,r,e,z,cs,h=>by
  simp only[Nj] at e
  split at e
  ·rename_i p q hp hq
   obtain⟨c0,c1,h0,h1,h2⟩:=h
   exact⟨c0,c1,h0,pB a hp h1,pB b hq h2⟩
  ·cases e
 | .sl _,_,_,_,e,_,_,_=>by simp[Nj] at e
 | .ptr _,_,_,_,e,_,_,_=>by simp[Nj] at e
 | .arr _ _,_,_,_,e,_,_,_=>by simp[Nj] at e
theorem Sf {op:BinOp} {p q:TV} {gr:Bool×TV} (e:iR op p q=some gr) {cs:List Value} (h:K w A p.t p.x cs):K w' A p.t p.x cs:=by
 obtain⟨t,m,x⟩:=p
 obtain⟨t',m',y⟩:=q
 cases t with
 |int k=>exact h
 |bool=>exact h
 |str=>exact h
 |unit=>exact h
 |pair a b=>
  simp only[iR] at e
  split at e
  case isFalse=>cases e
  rename_i ht
  subst ht
  split at e
  ·rename_i hr;exact pB _ hr h
  ·rename_i hr;exact pB _ hr h
  ·cases e
 |_=>simp[iR] at e
theorem NJ {op:BinOp} {p q:TV} {gr:Bool×TV} (e:iR op p q=some gr) {cs:List Value} (h:K w A q.t q.x cs):K w' A q.t q.x cs:=by
 obtain⟨t,m,x⟩:=p
 obtain⟨t',m',y⟩:=q
 cases t with
 |pair a b=>
  simp only[iR] at e
  split at e
  case isFalse=>cases e
  rename_i ht
  subst ht
  split at e
  ·rename_i hr;exact pB _ hr h
  ·rename_i hr;exact pB _ hr h
  ·cases e
 |int k=>cases t'<;>first |exact h |(simp[iR] at e;done)
 |bool=>cases t'<;>first |exact h |(simp[iR] at e;done)
 |str=>cases t'<;>first |exact h |(simp[iR] at e;done)
 |_=>simp[iR] at e
theorem acn (hT:dv P Θ=true) (h:bI σ w0 W0 Z H S a w) {o:Oper} {op:BinOp} {T T':TypeId} {x y:Operand} (ho:o.op=.binOp op T x y T') (e:Ew Θ S o.dst op T x y=some (true,S')):ns P w0 W0 Z H S' a o.dst w (execOp a.eval o):=by
 unfold Ew at e
 split at e
 ·rename_i p q hp hq
  obtain⟨cs,h1,h2,_⟩:=jB h hp
  obtain⟨du,h1',h2',_⟩:=jB h hq
  have fin:∀ (r:TV),(p.t=.bool∨isAgg p.t=true→Θ.is T p.t=true)→iR op p q=some (true,r)→ns P w0 W0 Z H (S.put o.dst (.v r [])) a o.dst w (execOp a.eval o):=by
   intro r hi hb
   obtain⟨z,h3,h4⟩:=V1 (P:=P) (A:=Av σ Z) (H:=H) (tm:=cG a) (S:=S) (x:=x) (y:=y) hT h1 h1' h2 h2' hi hb
   have hsc:scalar r.t=true:=Jl hb
   refine cP h (v:=z) (fun w2=>?_) h4
   obtain⟨z2,k3,k4⟩:=V1 (w:=w2) (P:=P) (A:=Av σ Z) (H:=H) (tm:=cG a) (S:=S) (x:=x) (y:=y) hT h1 h1' (Sf hb h2) (NJ hb h2') hi hb
   rw[EV hsc h4 k4]
   simp only[execOp,ho]
   simp only[Sem.run_bind] at k3 ⊢
   rw[k3]
   rfl
  split at e
  ·rename_i ht
   cases hc:Θ.is T .bool with
   |false=>rw[hc] at e;cases e
   |true=>
    rw[hc] at e
    simp only[cond_true] at e
    split at e
    ·rename_i g r hb
     injection e with e;injection e with e1 e;subst e e1
     exact fin r (fun _=>by rw[ht];exact hc) hb
    ·cases e
  ·rename_i t t' ht
   cases hc:Θ.is T p.t with
   |false=>rw[hc] at e;cases e
   |true=>
    rw[hc] at e
    simp only[cond_true] at e
    split at e
    ·rename_i g r hb
     injection e with e;injection e with e1 e;subst e e1
     exact fin r (fun _=>hc) hb
    ·cases e
  ·rename_i n1 n2
   split at e
   ·rename_i g r hb
    injection e with e;injection e with e1 e;subst e e1
    refine fin r (fun hh=>?_) hb
    rcases hh with hh |hh
    ·exact absurd hh n1
    ·obtain⟨pt,pm,px⟩:=p
     simp only at hh n1 n2
     cases pt<;>simp[isAgg] at hh
     ·exact absurd rfl (n2 _ _)
     ·simp[iR] at hb
     ·simp[iR] at hb
   ·cases e
 ·cases e
end Go.Pv
namespace Go.Pv
set_option linter.unusedVariables false
set_option linter.unusedSimpArgs false
variable {P:Program} {w w':World} {A A':Nat→Prop} {H:Nat→Value} {tm sx:Nat→Value} {S S':St} {σ:Nat→Option Nat} {w0:World} {W0 Z:Nat→Prop} {a:Act} {own:Nat→Prop} {v:Value} {Θ:ee} {dst:Option Nat} {g:Bool}
theorem sX {n:Int} {len:Nat} (h:bC n len=true):0≤n∧n<(len:Int):=by
 simpa[bC] using h
theorem aco (hT:dv P Θ=true) (h:bI σ w0 W0 Z H S a w) {o:Oper} {T:TypeId} {x ix:Operand} (ho:o.op=.index T x ix) (e:I' Θ S o.dst T x ix=some (true,S')):jg P w0 W0 Z H S' a o.dst w (execOp a.eval o):=by
 unfold I' at e
 split at e
 ·rename_i m s n hb hn
  cases hc:Θ.is T .str with
  |false=>rw[hc] at e;cases e
  |true=>
   rw[hc] at e
   simp only[cond_true,Option.some.injEq,Prod.mk.injEq] at e
   obtain⟨e1,e⟩:=e
   subst e
   obtain⟨b1,b2⟩:=sX e1
   obtain⟨cs,h1,h2,_⟩:=jB h hb
   have hv:=gf h1 h2
   obtain⟨k,hk⟩:=jI h hn
   obtain⟨i,hi,gG⟩:=e8 hc
   obtain⟨_,hu,AL⟩:=dB hT hi
   have uq:=qx hu gG
   rw[AL] at uq
   refine c7 h (v:=.int .u8 (bt s n)) (fun w2 _=>?_) (dM _ _)
   have cZ:n.toNat<s.size:=by omega
   have fU:s[n.toNat]?=some s[n.toNat]:=ByteArray.getElem?_lt' s _ cZ
   have AQ:bt s n=(s[n.toNat].toNat:Int):=by unfold bt;rw[dif_pos cZ]
   simp[execOp,ho,hv,hk,Instr.index,asIntOf,run_underlying uq,b1,fU,AQ]
 ·cases e
theorem eV {s:Nat} {p:Path} {b:TV} (h:S.dS s p=some b):∃ r ex,S.at s=.v r ex∧(∀ q∈ex,under q p=false)∧bQ p r.t r.m r.x=some b:=by
 unfold St.dS at h
 split at h
 ·rename_i r ex he
  cases hc:ex.all fun q=>!under q p with
  |true=>
   rw[hc] at h
   exact⟨r,ex,he,fun q hq=>by simpa using List.all_eq_true.1 hc q hq,h⟩
  |false=>rw[hc] at h;cases h
 ·cases h
theorem nf:∀ (q:Path) (s:Step) (r:Path),under q (q++s::r)=true
 |[],_,_=>by simp[under]
 | .idx i::q,s,r=>by simp[under];exact nf q s r
 | .deref::q,s,r=>by simp[under];exact nf q s r
 | .fst::q,s,r=>by simp[under];exact nf q s r
 | .snd::q,s,r=>by simp[under];exact nf q s r
theorem fO {p:Path} {ex:List Path} (h:∀ q∈ex,under q p=false):open_ p ex:=fun q hq s r e=>by
 have:=h q hq
 rw[e,nf] at this
 cases this
theorem qA {s:Nat} {p:Path} {b:TV} (h:S.place s p=some b):∃ r ex,S.at s=.v r ex∧(∀ q∈ex,iB q p=false)∧bQ p r.t r.m r.x=some b:=by
 unfold St.place at h
 split at h
 ·rename_i r ex he
  cases hc:ex.all fun q=>!iB q p with
  |true=>
   rw[hc] at h
   exact⟨r,ex,he,fun q hq=>by simpa using List.all_eq_true.1 hc q hq,h⟩
  |false=>rw[hc] at h;cases h
 ·cases h
theorem acp (hT:dv P Θ=true) (h:bI σ w0 W0 Z H S a w) {o:Oper} {as:Array Operand} {ts:Array TypeId} (ho:o.op=.call { callee:=.builtin .len,args:=as,argTypes:=ts }) (e:ab1 Θ S o.dst ts.toList as.toList=some (true,S')):ns P w0 W0 Z H S' a o.dst w (execOp a.eval o):=by
 obtain⟨as⟩:=as
 obtain⟨ts⟩:=ts
 simp only at e
 unfold ab1 at e
 split at e
 ·rename_i x T
  split at e
  ·rename_i b hb
   cases hc:Θ.is T b.t with
   |false=>rw[hc] at e;cases e
   |true=>
    rw[hc] at e
    simp only[cond_true] at e
    split at e
    ·rename_i n hn
     injection e with e;injection e with _ e;subst e
     have kr:(∃ xs:ByteArray,b.t=.str∧a.eval x=.string xs∧n=(xs.size:Int))∨∃ t X c,∃ m:Nat,b.t=.sl t∧a.eval x=.slice X m c∧n=(m:Int):=by
      obtain⟨bt,bm,bx⟩:=b
      unfold ape at hn
      split at hn
      ·rename_i t m xs heq
       cases heq
       injection hn with hn
       right
       split at hb
       ·rename_i b' ex eQ
        cases hx:ex.any List.isEmpty with
        |true=>rw[hx] at hb;cases hb
        |false=>
         rw[hx] at hb
         simp only[cond_false,Option.some.injEq] at hb
         subst hb
         obtain⟨cs,h1,h2⟩:=cf h eQ
         simp only[M] at h2
         rcases h2 with⟨pj,_⟩ |⟨_,h2⟩ |⟨T',tag,me,X,c,_,rfl,_⟩
         ·have:ex.any List.isEmpty=true:=List.any_eq_true.2 ⟨[],pj,rfl⟩
          rw[hx] at this;cases this
         ·obtain⟨X,c,hv,_⟩:=pz h1 h2
          exact⟨_,X,c,_,rfl,hv,hn.symm⟩
         ·exact⟨_,X,c,_,rfl,by simpa[aE,isAgg] using h1.symm,hn.symm⟩
       ·rename_i t0 s0 p0 eQ
        split at hb
        ·rename_i b' V2
         injection hb with hb
         subst hb
         obtain⟨cs,h1,h2,_⟩:=sW (av:=.al t0 s0 p0) h (cf h eQ) (by simpa[St.uk] using V2)
         obtain⟨X,c,hv,_⟩:=pz h1 h2
         exact⟨_,X,c,_,rfl,hv,hn.symm⟩
        ·split at hb
         ·rename_i t1 m1 xs1 CR
          injection hb with hb
          cases hb
          obtain⟨r,dy,cs,hr,j9,hm⟩:=cf h eQ
          obtain⟨ex,b2,du,ow0,j1,j2,j3,j4,hM,j5,j6,j7⟩:=gY h hr
          rw[j9] at j5
          injection j5 with j5
          subst j5
          obtain⟨r2,ex2,q1,q2,q3⟩:=eV CR
          rw[j1] at q1
          injection q1 with q1 EY
          subst q1 EY
          rw[j3] at q3
          injection q3 with q3
          subst q3
          simp only at j4
          subst j4
          simp only[M] at j7
          rcases j7 with⟨_,_,X,c,rfl⟩ |⟨_,h2⟩ |⟨T',tag,me,X,c,_,rfl,_⟩
          ·exact⟨_,X,c,_,rfl,by simpa[aE,isAgg] using hm.symm,hn.symm⟩
          ·obtain⟨X,c,hv,_⟩:=pz hm h2
           exact⟨_,X,c,_,rfl,hv,hn.symm⟩
          ·exact⟨_,X,c,_,rfl,by simpa[aE,isAgg] using hm.symm,hn.symm⟩
         ·cases hb
       ·rename_i a' _ _ eQ
        obtain⟨cs,h1,h2,_⟩:=sW h (cf h eQ) hb
        obtain⟨X,c,hv,_⟩:=pz h1 h2
        exact⟨_,X,c,_,rfl,hv,hn.symm⟩
       ·cases hb
      ·rename_i m xs heq
       cases heq
       injection hn with hn
       left
       split at hb
       ·rename_i b' ex eQ
        cases hx:ex.any List.isEmpty with
        |true=>rw[hx] at hb;cases hb
        |false=>
         rw[hx] at hb
         simp only[cond_false,Option.some.injEq] at hb
         subst hb
         obtain⟨cs,h1,h2⟩:=cf h eQ
         simp only[M] at h2
         exact⟨_,rfl,gf h1 h2.2,hn.symm⟩
       ·rename_i t0 s0 p0 eQ
        split at hb
        ·rename_i b' V2
         injection hb with hb
         subst hb
         obtain⟨cs,h1,h2,_⟩:=sW (av:=.al t0 s0 p0) h (cf h eQ) (by simpa[St.uk] using V2)
         exact⟨_,rfl,gf h1 h2,hn.symm⟩
        ·split at hb
         ·injection hb with hb;cases hb
         ·cases hb
       ·rename_i a' _ _ eQ
        obtain⟨cs,h1,h2,_⟩:=sW h (cf h eQ) hb
        exact⟨_,rfl,gf h1 h2,hn.symm⟩
       ·cases hb
      ·cases hn
     obtain⟨i,hi,gG⟩:=e8 hc
     obtain⟨_,hu,AL⟩:=dB hT hi
     rcases kr with⟨xs,ht,hv,rfl⟩ |⟨t,X,c,m,ht,hv,rfl⟩
     ·have uq:=qx hu (gG.trans ht)
      rw[AL] at uq
      refine cP h (v:=.int .i64 xs.size) (fun w2=>?_) (dM _ _)
      simp[execOp,ho,hv,resolve,invoke,builtin,Builtin.len_,run_underlying uq,goInt]
     ·have uq:=(mr hu (gG.trans ht)).1
      rw[AL] at uq
      refine cP h (v:=.int .i64 m) (fun w2=>?_) (dM _ _)
      simp[execOp,ho,hv,resolve,invoke,builtin,Builtin.len_,run_underlying uq,goInt]
    ·cases e
  ·cases e
 ·cases e
theorem aia (h:bI σ w0 W0 Z H S a w) {o:Oper} {c x y:Operand} (ho:o.op=.pick c x y) (e:RR Θ S o.dst o.type c x y=some (true,S')):jg P w0 W0 Z H S' a o.dst w (execOp a.eval o):=by
 unfold RR at e
 split at e
 ·rename_i m q hq
  obtain⟨cs,h1,h2,_⟩:=jB h hq
  have hv:=dW h1 h2
  have cQ:∀ w2,Ext w w2→(execOp a.eval o).run P w2=.ok (.value (if q=true then a.eval x else a.eval y)) w2:=fun w2 _=>by
   simp only[execOp,ho,hv,asBool]
   rfl
  split at e
  ·rename_i m1 x1 e1 m2 y1 e2 hx hy
   injection e with e;injection e with _ e;subst e
   refine c7 h cQ ?_
   obtain⟨c1,k1,k2⟩:=cf h hx
   obtain⟨c2,k3,k4⟩:=cf h hy
   simp only[M] at k2 k4
   have:=dW k1 k2.2
   have:=dW k3 k4.2
   cases q<;>simp_all<;>exact dk _
  ·rename_i p r pj hx hy
   cases q with
   |true=>
    simp only[cond_true] at e
    split at e
    ·rename_i av eQ
     injection e with e;injection e with _ e;subst e
     exact c7 h (fun w2 hw=>by simpa using cQ w2 hw) (qz h hx eQ)
    ·cases e
   |false=>
    simp only[cond_false] at e
    split at e
    ·rename_i av eQ
     injection e with e;injection e with _ e;subst e
     exact c7 h (fun w2 hw=>by simpa using cQ w2 hw) (qz h hy eQ)
    ·cases e
  ·cases e
 ·cases e
end Go.Pv
