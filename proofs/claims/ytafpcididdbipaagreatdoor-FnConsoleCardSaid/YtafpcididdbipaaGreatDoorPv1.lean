/- A verified evaluator of the program's form over pure values, part 1: what it tells of a function holds. -/
import Derived.Test.YtafpcididdbipaaGreatDoorPv0
import Derived.WideKeyPair
set_option linter.unusedSimpArgs false
set_option linter.unusedVariables false
namespace Go.Pv
open List Int IntKind
variable {h:Hint} {O:n9} {ops:Array Oper} {Θ:fA}
structure FR where
 db:List Nat
 d:Nat
 v:AV
def cj:List Nat->St->St
 |[],S=>S
 |x::r,S=>cj r (S.put (some x) .dead)
def FR.app (E:FR) (S:St):St:=(cj E.db S).put (some E.d) E.v
def CI (a:AV):Prop:=∀ d,a.refs d=false
theorem G1 {S:St} {x:Operand} (hx:rp S x=true) (T:TypeId):(∃ i a,x=.tmp i/\S.at i=.v a []/\S.jT Θ T x=some (.v a []))∨∃ c,x=.const c:=by
 cases x with
 |tmp i=>
 simp only[rp] at hx;split at hx
 ·rename_i a ha;exact .inl ⟨i,a,rfl,ha,by simp[St.jT,ha]⟩
 cases hx
 |const c=>exact .inr ⟨c,rfl⟩
 |func f=>simp[rp] at hx
 |global g=>simp[rp] at hx
def C7 (S S':St) (l:List Nat):Prop:=∀ r∈l,S'.at r=S.at r
theorem QO {S S':St} {x:Operand} (ha:C7 S S' (aQ x)) (T:TypeId):S'.jT Θ T x=S.jT Θ T x:=by
 cases x with
 |tmp i=>simp only[St.jT];rw[ha i (by simp[aQ])]
 |const c=>rfl
 |func f=>rfl
 |global g=>rfl
theorem Wb {S S':St} {x:Operand} (hx:rp S x=true) (ha:C7 S S' (aQ x)) (T:TypeId):S'.rd Θ T x=S.rd Θ T x:=by
 unfold St.rd;rw[QO ha];rcases G1 (Θ:=Θ) hx T with⟨i,a,rfl,h1,h2⟩ |⟨c,rfl⟩
 ·rw[h2];rfl
 simp only[St.jT];cases BC Θ T c<;>rfl
theorem Ah {S S':St}:∀ (xs:List Operand) (Ts:List TypeId) (l:List (Option TV)),(∀ x∈xs,rp S x=true)->C7 S S' (xs.flatMap aQ)->reads Θ S' xs Ts l=reads Θ S xs Ts l
 |[],_,_,_,_=>rfl
 |x::xs,[],l,_,_=>rfl
 |x::xs,T::Ts,[],_,_=>rfl
 |x::xs,T::Ts,p::ps,hx,ha=>by
  have ih:=Ah xs Ts ps (λy hy=>hx y (by simp[hy])) (λr hr=>ha r (by simp[hr]));have ho:=QO (Θ:=Θ) (x:=x) (λr hr=>ha r (by simp[hr])) T;simp only[reads,ih,ho];cases p with
  |some a=>rfl
  |none=>
  simp only;rcases G1 (Θ:=Θ) (hx x (by simp)) T with⟨i,a,rfl,h1,h2⟩ |⟨c,rfl⟩
  ·rw[h2];rfl
  simp only[St.jT];cases BC Θ T c<;>rfl
theorem Oo {S S':St}:∀ (xs:List Operand) (l:List (Option TV)) (as:List Arg),C7 S S' (xs.flatMap aQ)->rn S' xs l as=rn S xs l as
 |[],_,_,_=>rfl
 |x::xs,[],_,_=>rfl
 |x::xs,p::ps,[],_=>rfl
 |x::xs,p::ps,r::rs,ha=>by
  have ih:=Oo xs ps rs (λr hr=>ha r (by simp[hr]));have hf:JD S' x=JD S x:=by
   cases x with
   |tmp i=>simp only[JD];rw[ha i (by simp[aQ])]
   |const c=>rfl
   |func f=>rfl
   |global g=>rfl
  simp only[rn,ih,hf]
theorem US:∀ (xs:List Operand) (Ts:List TypeId) (ps:List Pass),(ps.all λp=>match p with
   | .val=>true
   |_=>false)=true->(∀ S,ph Θ S xs Ts ps=none)∨∃ l,∀ S,ph Θ S xs Ts ps=some (l,S)
 |[],_,_,_=>.inr ⟨[],λS=>by simp[ph]⟩
 |x::xs,[],_,_=>.inl λS=>by simp[ph]
 |x::xs,T::Ts,[],_=>.inl λS=>by simp[ph]
 |x::xs,T::Ts,p::ps,h=>by
  simp only[List.all_cons,Bool.and_eq_true] at h
  cases p with
  |take=>cases h.1
  |Al=>cases h.1
  |val=>
   rcases US xs Ts ps h.2 with h1 |⟨l,h1⟩
   ·exact .inl λS=>by simp only[ph,h1]
   ·exact .inr ⟨none::l,λS=>by simp only[ph,h1]⟩
theorem PF:∀ (l:List Pass) (n:Nat),(l.all λp=>match p with
   | .val=>true
   |_=>false)=true->Kl l n=none
 |[],_,_=>rfl
 | .val::r,n,h=>by simp only[Kl];exact PF r (n+1) (by simpa using h)
 | .take::r,n,h=>by simp at h
 | .Al::r,n,h=>by simp at h
theorem Ro (l:List TV):CI (UN l):=by intro d;unfold UN;split<;>rfl
theorem agn (hO:C4 O) {i:Nat} {o:Oper} (ho:ops[i]?=some o) (hg:o.guard=none) {d:Nat} (hd:o.dst=some d) {f:FuncId} {as:Array Operand} {ts:Array TypeId} (cw:o.op=.call { callee:=.value (.func f),args:=as,argTypes:=ts }) (hv:age O f=true) {S:St} (hx:∀ x∈as.toList,rp S x=true): ∃ oE:Option FR,(∀ E,oE=some E->E.d=d/\E.db=[]/\CI E.v)/\∀ S',C7 S S' (as.toList.flatMap aQ)->∀ K,aW h O ops i S' K=oE.bind λE=>K (E.app S'):=by
 have v8:∀ S' K,aW h O ops i S' K=qX h O o f none as.toList ts.toList S' K:=by intro S' K;unfold aW;rw[ho];simp only[hg];unfold qs;rw[cw];simp only[PF _ 0 hv]
 rcases US (Θ:=h.tab) as.toList ts.toList (O.sig f) hv with ht |⟨l,ht⟩
 ·exact⟨none,λE hE=>(by cases hE),λS' _ K=>by rw[v8];unfold qX;simp only[ht];rfl⟩
 cases hr:reads h.tab S as.toList ts.toList l with
 |none=>exact⟨none,λE hE=>(by cases hE),λS' ha K=>by rw[v8];unfold qX;simp only[ht,Ah _ _ _ hx ha,hr];rfl⟩
 |some args=>
 obtain⟨oR,hR⟩:=hO f (args++([]:List TV).map .tv);cases oR with
 |none=>refine⟨none,λE hE=>(by cases hE),λS' ha K=>?_⟩;rw[v8];unfold qX;simp only[ht,Ah _ _ _ hx ha,hr,GV,hR];rfl
 |some ret=>
 cases hrefs:ret.refs with
 |nil=>
  cases hc:(ret.res.all (λd=>oa d.t d.m)||(([]:List TV).isEmpty&&rn S as.toList l args)) with
  |false=>refine⟨none,λE hE=>(by cases hE),λS' ha K=>?_⟩;rw[v8];unfold qX;simp only[ht,Ah _ _ _ hx ha,Oo _ _ _ ha,hr,GV,hR,Option.bind_some,hrefs,hc];rfl
  |true=>
  refine⟨some ⟨[],d,UN ret.res⟩,λE hE=>?_,λS' ha K=>?_⟩
  ·injection hE with hE;subst hE;exact⟨rfl,rfl,Ro _⟩
  rw[v8];unfold qX;simp only[ht,Ah _ _ _ hx ha,Oo _ _ _ ha,hr,GV,hR,Option.bind_some,hrefs,hd,hc];rfl
 |cons _ _=>refine⟨none,λE hE=>(by cases hE),λS' ha K=>?_⟩;rw[v8];unfold qX;simp only[ht,Ah _ _ _ hx ha,hr,GV,hR,Option.bind_some,hrefs];rfl
def VD (a:AV):Prop:=(∃ b,a=.v b [])∨a=.dead
def aeV (S:St):Operand->Prop
 | .tmp i=>VD (S.at i)
 | .const _=>True
 |_=>False
theorem ado {S:St} {x:Operand} (h:rp S x=true):aeV S x:=by
 cases x with
 |tmp i=>
 simp only[rp] at h;split at h
 ·rename_i a ha;exact .inl ⟨a,ha⟩
 cases h
 |const c=>trivial
 |func f=>simp[rp] at h
 |global g=>simp[rp] at h
theorem UT {S:St} {x:Operand} (hx:aeV S x) (T:TypeId):∃ oB:Option (TV×List Nat),(∀ b ks,oB=some (b,ks)->ks.Nodup/\∀ r∈ks,r∈aQ x/\∃ a,S.at r=.v a [])/\∀ S',C7 S S' (aQ x)->S'.take Θ T x=oB.map λq=>(q.1,cj q.2 S'):=by
 cases x with
 |tmp i=>
  rcases hx with⟨a,ha⟩ |ha
  ·cases hk:a.m.b5 with
   |true=>
   refine⟨some (a,[]),λb ks e=>?_,λS' hs=>?_⟩
   ·injection e with e;injection e with _ e;subst e;exact⟨List.nodup_nil,λr hr=>by cases hr⟩
   have h2:=(hs i (by simp[aQ])).trans ha;unfold St.take;simp[St.jT,h2,St.jL,hk,cj]
   |false=>
   refine⟨some (a,[i]),λb ks e=>?_,λS' hs=>?_⟩
   ·injection e with e;injection e with _ e;subst e;refine⟨by simp,λr hr=>?_⟩;simp only[List.mem_singleton] at hr;subst hr;exact⟨by simp[aQ],a,ha⟩
   have h2:=(hs i (by simp[aQ])).trans ha;unfold St.take;simp[St.jT,h2,St.jL,hk,cj]
  refine⟨none,λb ks e=>(by cases e),λS' hs=>?_⟩;have h2:=(hs i (by simp[aQ])).trans ha;unfold St.take;simp[St.jT,h2,St.jL]
 |const c=>
  cases hc:BC Θ T c with
  |none=>exact⟨none,λb ks e=>(by cases e),λS' ha=>(by unfold St.take;simp[St.jT,hc])⟩
  |some a=>
  refine⟨some (a,[]),λb ks e=>?_,λS' ha=>?_⟩
  ·injection e with e;injection e with _ e;subst e;exact⟨List.nodup_nil,λr hr=>by cases hr⟩
  unfold St.take;simp only[St.jT,hc,St.jL];cases a.m.b5<;>simp[cj]
 |func f=>exact hx.elim
 |global g=>exact hx.elim
theorem Ye {S:St} {x:Operand} (hx:rp S x=true) (T:TypeId):∃ oB:Option (TV×List Nat),(∀ b ks,oB=some (b,ks)->ks.Nodup/\∀ r∈ks,r∈aQ x)/\∀ S',C7 S S' (aQ x)->S'.take Θ T x=oB.map λq=>(q.1,cj q.2 S'):=by obtain⟨oB,h1,h2⟩:=UT (Θ:=Θ) (ado hx) T;exact⟨oB,λb ks e=>⟨(h1 b ks e).1,λr hr=>((h1 b ks e).2 r hr).1⟩,h2⟩
theorem Oq {S:St} {i j:Nat} {a:TV} (h:S.at j=.v a []) (Ev:j≠i):(S.put (some i) .dead).at j=.v a []:=by rw[iA,if_neg (λe=>Ev e.1),h];simp[AV.refs]
theorem UU {S:St} {i:Nat} {a:TV} (h:S.at i=.v a []):(S.put (some i) .dead).at i=.dead:=by
 have hl:i<S.length:=by
  rcases Nat.lt_or_ge i S.length with hl |hl
  ·exact hl
  unfold St.at at h;rw[List.getD_eq_getElem?_getD,List.getElem?_eq_none hl] at h;cases h
 rw[iA,if_pos ⟨rfl,hl⟩];simp[AV.refs]
theorem aa7 {ks:List Nat} {S:St} {j:Nat} {a:TV} (h:S.at j=.v a []) (hj:j∉ks):(cj ks S).at j=.v a []:=by
 induction ks generalizing S with
 |nil=>exact h
 |cons x r ih=>exact ih (Oq h (λe=>hj (by simp[e]))) (λe=>hj (by simp[e]))
theorem aeW {ks:List Nat} {S S':St} {y:Operand} (hy:rp S y=true) (ha:C7 S S' (aQ y)) (hn:∀ r∈aQ y,r∉ks):C7 S (cj ks S') (aQ y):=by
 intro r hr;cases y with
 |tmp j=>
 simp only[aQ,List.mem_singleton] at hr;subst hr;rcases G1 (Θ:=[]) hy 0 with⟨i,a,e,h1,_⟩ |⟨c,e⟩
 ·injection e with e;subst e;rw[h1];exact aa7 ((ha r (by simp[aQ])).trans h1) (hn r (by simp[aQ]))
 cases e
 |const c=>simp[aQ] at hr
 |func f=>simp[aQ] at hr
 |global g=>simp[aQ] at hr
theorem aa8 {ks:List Nat} {S:St} {j:Nat} {a:TV} (h:S.at j=.v a []) (hj:j∈ks):(cj ks S).at j=.dead:=by
 have dead:∀ (ks:List Nat) (S:St),S.at j=.dead->(cj ks S).at j=.dead:=by
  intro ks;induction ks with
  |nil=>intro S h;exact h
  |cons x r ih=>
  intro S h;refine ih _ ?_;rw[iA];split
  ·simp[AV.refs]
  rw[h];simp[AV.refs]
 induction ks generalizing S with
 |nil=>cases hj
 |cons x r ih=>
 by_cases hx:j=x
 ·subst hx;exact dead r _ (UU h)
 exact ih (Oq h hx) (by rcases List.mem_cons.1 hj with e |e;exact absurd e hx;exact e)
theorem PG (a b:List Nat) (S:St):cj (a++b) S=cj b (cj a S):=by
 induction a generalizing S with
 |nil=>rfl
 |cons x r ih=>exact ih _
theorem aa9 {S:St} {d:Nat} {x y:Operand} {T T':TypeId} (hx:rp S x=true) (hy:rp S y=true): ∃ oG:Option (Bool×FR),(∀ g E,oG=some (g,E)->E.d=d/\CI E.v/\E.db.Nodup/\∀ r∈E.db,r∈aQ x++aQ y)/\∀ S',C7 S S' (aQ x++aQ y)->dD Θ S' (some d) [T,T'] [x,y]=oG.map λq=>(q.1,q.2.app S'):=by
 obtain⟨oB,hB1,hB2⟩:=Ye (Θ:=Θ) hx T;have hax:∀ {S':St},C7 S S' (aQ x++aQ y)->C7 S S' (aQ x):=λha r hr=>ha r (by simp[hr]);have hay:∀ {S':St},C7 S S' (aQ x++aQ y)->C7 S S' (aQ y):=λha r hr=>ha r (by simp[hr]);cases oB with
 |none=>exact⟨none,λg E e=>(by cases e),λS' ha=>by unfold dD;simp only[hB2 S' (hax ha)];rfl⟩
 |some q=>
  obtain⟨b,ks⟩:=q
  obtain⟨UW,Oc⟩:=hB1 b ks rfl
  -- is the second gone?
  by_cases amz:∃ r∈aQ y,r∈ks
  ·obtain⟨r,hr,hrk⟩:=amz
   cases y with
   |const c=>simp[aQ] at hr
   |func f=>simp[aQ] at hr
   |global g=>simp[aQ] at hr
   |tmp j=>
    simp only[aQ,List.mem_singleton] at hr
    subst hr
    refine⟨none,λg E e=>(by cases e),λS' ha=>?_⟩
    rcases G1 (Θ:=Θ) hy 0 with⟨i,a,e,h1,_⟩ |⟨c,e⟩
    ·injection e with e
     subst e
     have FQ:=aa8 (ks:=ks) ((ha r (by simp[aQ])).trans h1) hrk
     unfold dD
     simp only[hB2 S' (hax ha),Option.map_some]
     have hrd:(cj ks S').rd Θ T' (.tmp r)=none:=by unfold St.rd;simp only[St.jT,FQ,St.Ii]
     have Wc:(cj ks S').take Θ T' (.tmp r)=none:=by unfold St.take;simp only[St.jT,FQ,St.jL]
     split
     ·rename_i t e1 tg me xs S1 i heq hf
      simp only[Option.some.injEq,Prod.mk.injEq] at heq
      obtain⟨rfl,rfl⟩:=heq
      simp only[hrd,Wc,cond_false]
      cases me.b5<;>cases (decide (i.ty=t.sl)&&Nat.beq i.e e1&&Θ.is T' t.sl)<;>rfl
     ·rfl
    ·cases e
  ·have hn:∀ r∈aQ y,r∉ks:=λr hr hk=>amz ⟨r,hr,hk⟩
   obtain⟨oC,hC1,hC2⟩:=Ye (Θ:=Θ) hy T'
   cases hf:Θ.find T with
   |none=>exact⟨none,λg E e=>(by cases e),λS' ha=>by unfold dD;simp only[hB2 S' (hax ha),hf];split<;>simp_all⟩
   |some ti=>
   by_cases PH:∃ (t:Ty) (e1:TypeId) (tg:Option Nat) (me:Md) (xs:List t.I),b=⟨.sl t,.o e1 tg me,xs⟩
   rotate_left
   ·refine⟨none,λg E e=>(by cases e),λS' ha=>?_⟩
    unfold dD
    simp only[hB2 S' (hax ha),hf,Option.map_some]
    split
    ·rename_i t e1 tg me xs S1 i heq atP
     simp only[Option.some.injEq,Prod.mk.injEq] at heq
     exact absurd ⟨t,e1,tg,me,xs,heq.1⟩ PH
    ·rfl
   obtain⟨t,e1,tg,me,xs,rfl⟩:=PH
   have hS:∀ S',C7 S S' (aQ x++aQ y)->C7 S (cj ks S') (aQ y):=λS' ha=>aeW hy (hay ha) hn
   cases hc:(decide (ti.ty=.sl t)&&Nat.beq ti.e e1&&Θ.is T' (.sl t)) with
   |false=>exact⟨none,λg E e=>(by cases e),λS' ha=>by unfold dD;simp only[hB2 S' (hax ha),hf,Option.map_some,hc,cond_false];rfl⟩
   |true=>
   cases hk:me.b5 with
   |true=>
    have QP:∀ S',C7 S S' (aQ x++aQ y)->dD Θ S' (some d) [T,T'] [x,y]=(match S.rd Θ T' y with
     |some ⟨.sl t',m',ys⟩=>bif m'.UK.b5 then(if h:t'=t then
       some (decide ((xs.length+ys.length)*t.size<=4398046511104),(cj ks S').put (some d) (.v ⟨.sl t,.o e1 none me,xs++(h▸ys)⟩ [])) else none) else none
     |_=>none):=λS' ha=>by
     unfold dD
     simp only[hB2 S' (hax ha),hf,Option.map_some,hc,cond_true,hk,Wb hy (hS S' ha)]
     rfl
    cases hr:S.rd Θ T' y with
    |none=>exact⟨none,λg E e=>(by cases e),λS' ha=>by rw[QP S' ha,hr];rfl⟩
    |some c=>
     by_cases hf2:∃ (m':Md) (ys:List t.I),c=⟨.sl t,m',ys⟩/\m'.UK.b5=true
     ·obtain⟨m',ys,rfl,hm⟩:=hf2
      refine⟨some (decide ((length xs+length ys)*t.size<=4398046511104),⟨ks,d,.v ⟨.sl t,.o e1 none me,xs++ys⟩ []⟩),λg E e=>?_,λS' ha=>?_⟩
      rotate_left
      ·rw[QP S' ha,hr]
       simp only[hm,cond_true,dite_true,Option.map_some,FR.app]
      ·injection e with e
       injection e with _ e
       subst e
       exact⟨rfl,λ_=>rfl,UW,λr hr=>by simp[Oc r hr]⟩
     ·refine⟨none,λg E e=>(by cases e),λS' ha=>?_⟩
      rw[QP S' ha,hr]
      split
      ·rename_i t' m' ys heq
       injection heq with heq
       subst heq
       cases hm:m'.UK.b5 with
       |false=>rfl
       |true=>
        simp only[cond_true]
        by_cases ht:t'=t
        ·subst ht
         exact absurd ⟨m',ys,rfl,hm⟩ hf2
        ·rw[dif_neg ht];rfl
      ·rfl
   |false=>
    have QP:∀ S',C7 S S' (aQ x++aQ y)->dD Θ S' (some d) [T,T'] [x,y]=(match oC.map (λq=>(q.1,cj q.2 (cj ks S'))) with
     |some (⟨.sl t',m',ys⟩,S2)=>if h:t'=t then
       (if m'.UK=me then some (decide ((xs.length+ys.length)*t.size<=4398046511104),S2.put (some d) (.v ⟨.sl t,.o e1 none me,xs++(h▸ys)⟩ [])) else none) else none
     |_=>none):=λS' ha=>by
     unfold dD
     simp only[hB2 S' (hax ha),hf,Option.map_some,hc,cond_true,cond_false,hk,hC2 _ (hS S' ha)]
     rfl
    cases oC with
    |none=>exact⟨none,λg E e=>(by cases e),λS' ha=>by rw[QP S' ha];rfl⟩
    |some c=>
     obtain⟨c,ks2⟩:=c
     obtain⟨ago,agp⟩:=hC1 c ks2 rfl
     by_cases hf2:∃ (m':Md) (ys:List t.I),c=⟨.sl t,m',ys⟩/\m'.UK=me
     ·obtain⟨m',ys,rfl,hm⟩:=hf2
      refine⟨some (decide ((length xs+length ys)*t.size<=4398046511104),⟨ks++ks2,d,.v ⟨.sl t,.o e1 none me,xs++ys⟩ []⟩),λg E e=>?_,λS' ha=>?_⟩
      rotate_left
      ·rw[QP S' ha]
       simp only[Option.map_some,dite_true,hm,if_true,FR.app,PG]
      ·injection e with e
       injection e with _ e
       subst e
       refine⟨rfl,λ_=>rfl,List.nodup_append.2 ⟨UW,ago,λa ha b hb e=>by subst e;exact hn a (agp a hb) ha⟩,λr hr=>?_⟩
       rcases List.mem_append.1 hr with hr |hr
       ·simp[Oc r hr]
       ·simp[agp r hr]
     ·refine⟨none,λg E e=>(by cases e),λS' ha=>?_⟩
      rw[QP S' ha]
      simp only[Option.map_some]
      split
      ·rename_i t' m' ys S2 heq
       injection heq with heq
       injection heq with heq _
       by_cases ht:t'=t
       ·subst ht
        by_cases hm:m'.UK=me
        ·exact absurd ⟨m',ys,heq,hm⟩ hf2
        ·rw[dif_pos rfl,if_neg hm];rfl
       ·rw[dif_neg ht];rfl
      ·rfl
theorem PI (ks:List Nat) (S:St):(cj ks S).length=S.length:=by
 induction ks generalizing S with
 |nil=>rfl
 |cons x r ih=>simp only[cj,ih,bK]
theorem Kp:∀ (ks:List Nat) (S:St),ks.Nodup->(∀ x∈ks,∃ a,S.at x=.v a [])->∀ i,(cj ks S).at i=if i∈ks then .dead else bif ks.any (S.at i).refs then .dead else S.at i
 |[],S,_,_,i=>by simp[cj]
 |x::r,S,hn,hv,i=>by
  obtain⟨a,ha⟩:=hv x (by simp);simp only[List.nodup_cons] at hn;have hv':∀ y∈r,∃ b,(S.put (some x) .dead).at y=.v b []:=λy hy=>(by obtain⟨b,hb⟩:=hv y (by simp[hy]);exact⟨b,Oq hb (λe=>hn.1 (by rw[←e];exact hy))⟩);simp only[cj];rw[Kp r _ hn.2 hv' i];by_cases hir:i∈r
  ·simp[hir]
  by_cases hix:i=x
  ·subst hix;simp only[hir,if_false,UU ha,List.mem_cons,true_or,if_true];simp[AV.refs]
  simp only[hir,if_false,List.mem_cons,hix,or_self];rw[iA,if_neg (λe=>hix e.1),ha];simp only[AV.LG,Bool.and_true,List.any_cons];cases hr:(S.at i).refs x<;>simp[AV.refs]
structure FR.In (E:FR) (S:St):Prop where
 nd:E.db.Nodup
 bT:∀ x∈E.db,∃ a,S.at x=.v a []
 slot:(S.at E.d).LG=false
 lt:E.d<S.length
 refs:CI E.v
 out:E.d∉E.db
theorem FR.Wd (E:FR) (S:St):(E.app S).length=S.length:=by unfold FR.app;rw[bK,PI]
theorem FR.G2 {E:FR} {S:St} (h:E.In S) (i:Nat):(E.app S).at i=if i=E.d then E.v else if i∈E.db then .dead else bif E.db.any (S.at i).refs then .dead else S.at i:=by
 unfold FR.app;have hd:((cj E.db S).at E.d).LG=false:=by
  rw[Kp _ _ h.nd h.bT];split
  ·rfl
  cases E.db.any (S.at E.d).refs with
  |true=>rfl
  |false=>exact h.slot
 rw[iA,PI,hd];by_cases hi:i=E.d
 ·rw[if_pos ⟨hi,h.lt⟩,if_pos hi,h.refs];rfl
 rw[if_neg (λe=>hi e.1),if_neg hi];simp only[Bool.and_false,cond_false];exact Kp _ _ h.nd h.bT i
theorem yF {S S':St} (hl:S.length=S'.length) (h:∀ i,S.at i=S'.at i):S=S':=by apply List.ext_getElem hl;intro i h1 h2;have:=h i;unfold St.at at this;rw[List.getD_eq_getElem?_getD,List.getD_eq_getElem?_getD,List.getElem?_eq_getElem h1,List.getElem?_eq_getElem h2] at this;exact this
theorem FR.comm {E F:FR} {S:St} (hE:E.In S) (hF:F.In S) (hd:E.d≠F.d) (h1:E.d∉F.db) (h2:F.d∉E.db) (hEF:E.In (F.app S)) (hFE:F.In (E.app S)):E.app (F.app S)=F.app (E.app S):=by
 refine yF (by simp[FR.Wd]) λi=>?_;rw[FR.G2 hEF,FR.G2 hFE,FR.G2 hF,FR.G2 hE];by_cases hiE:i=E.d
 ·subst hiE;have hv:F.db.any E.v.refs=false:=List.any_eq_false.2 λx _=>by rw[hE.refs];simp
  simp[hd,h1,hv]
 by_cases hiF:i=F.d
 ·subst hiF;have hv:E.db.any F.v.refs=false:=List.any_eq_false.2 λx _=>by rw[hF.refs];simp
  simp[hiE,h2,hv]
 simp only[hiE,hiF,if_false];by_cases hkE:i∈E.db
 ·by_cases hkF:i∈F.db
  ·simp[hkE,hkF]
  have hv:F.db.any AV.dead.refs=false:=List.any_eq_false.2 λx _=>(by simp[AV.refs]);simp[hkE,hkF,hv]
 by_cases hkF:i∈F.db
 ·have hv:E.db.any AV.dead.refs=false:=List.any_eq_false.2 λx _=>(by simp[AV.refs]);simp[hkE,hkF,hv]
 have hvE:E.db.any AV.dead.refs=false:=List.any_eq_false.2 λx _=>by simp[AV.refs]
 have hvF:F.db.any AV.dead.refs=false:=List.any_eq_false.2 λx _=>by simp[AV.refs]
 simp only[hkE,hkF,if_false];cases hE':E.db.any (S.at i).refs<;>cases hF':F.db.any (S.at i).refs<;>simp[hE',hF',hvE,hvF]
theorem Yf {S:St} {r x:Nat} (h:VD (S.at r)):(S.put (some x) .dead).at r=if r=x then .dead else S.at r:=by
 have hr:(S.at r).refs x=false:=by rcases h with⟨a,h⟩ |h<;>rw[h]<;>rfl
 rw[iA,hr];by_cases hx:r=x
 ·subst hx;by_cases hl:r<S.length
  ·simp[hl,AV.refs]
  have:S.at r=.dead:=(by unfold St.at;rw[List.getD_eq_getElem?_getD,List.getElem?_eq_none (by omega)];rfl);simp[hl,this]
 simp[hx]
theorem G3:∀ (ks:List Nat) {S:St} {r:Nat},VD (S.at r)->(cj ks S).at r=if r∈ks then .dead else S.at r
 |[],S,r,h=>by simp[cj]
 |x::l,S,r,h=>by have h1:=Yf (x:=x) h;have hv:VD ((S.put (some x) .dead).at r):=(by rw[h1];split;exact .inr rfl;exact h);simp only[cj];rw[G3 l hv,h1];by_cases hx:r=x<;>by_cases hl:r∈l<;>simp[hx,hl]
theorem aa' {S:St} {ks:List Nat} {x:Operand} (h:aeV S x):aeV (cj ks S) x:=by
 cases x with
 |tmp i=>
 simp only[aeV] at h ⊢;rw[G3 ks h];split
 ·exact .inr rfl
 exact h
 |const c=>trivial
 |func f=>exact h
 |global g=>exact h
theorem Ot {ps:List (Nat×Operand)}:∀ (r:List TypeId) (j:Nat) {S:St},(∀ q∈ps,aeV S q.2)->∃ oL:Option (List TV×List Nat),(∀ l ks,oL=some (l,ks)->ks.Nodup/\∀ x∈ks,x∈ps.flatMap (λq=>aQ q.2)/\∃ a,S.at x=.v a [])/\ ∀ S',C7 S S' (ps.flatMap λq=>aQ q.2)->S'.parts Θ ps r j=oL.map λq=>(q.1,cj q.2 S')
 |[],j,S,hx=>⟨some ([],[]),λl ks e=>by
  injection e with e
  injection e with _ e
  subst e
  exact⟨List.nodup_nil,λx hx=>by cases hx⟩,λS' ha=>rfl⟩
 |T::r,j,S,hx=>by
  cases hf:ps.find? (λq=>Nat.beq q.1 j) with
  |none=>
   cases hz:GO Θ T with
   |none=>exact⟨none,λl ks e=>(by cases e),λS' ha=>by simp only[St.parts,hf,hz];rfl⟩
   |some a=>
   obtain⟨oL,h1,h2⟩:=Ot r (j+1) hx;cases oL with
   |none=>exact⟨none,λl ks e=>(by cases e),λS' ha=>by simp only[St.parts,hf,hz,h2 S' ha];rfl⟩
   |some q=>refine⟨some (a::q.1,q.2),λl ks e=>?_,λS' ha=>by simp only[St.parts,hf,hz,h2 S' ha];rfl⟩;injection e with e;injection e with _ e;subst e;exact h1 q.1 q.2 rfl
  |some q=>
  have hq:q∈ps:=List.mem_of_find?_eq_some hf;have Ui:∀ r∈aQ q.2,r∈ps.flatMap λq=>aQ q.2:=λr hr=>List.mem_flatMap.2 ⟨q,hq,hr⟩;obtain⟨oB,b1,b2⟩:=UT (Θ:=Θ) (hx q hq) T;cases oB with
  |none=>exact⟨none,λl ks e=>(by cases e),λS' ha=>by simp only[St.parts,hf,b2 S' λr hr=>ha r (Ui r hr)];rfl⟩
  |some bk=>
  obtain⟨b,ks⟩:=bk;obtain⟨UW,Oc⟩:=b1 b ks rfl;obtain⟨oL,h1,h2⟩:=Ot r (j+1) (S:=cj ks S) (λq hq=>aa' (hx q hq));have hag:∀ S',C7 S S' (ps.flatMap λq=>aQ q.2)->C7 (cj ks S) (cj ks S') (ps.flatMap λq=>aQ q.2):=λS' ha r hr=>by
   obtain⟨q',Gy,Ou⟩:=List.mem_flatMap.1 hr;have hv:VD (S.at r):=by
    have:=hx q' Gy;cases UX:q'.2 with
    |tmp i=>rw[UX] at this Ou;simp only[aQ,List.mem_singleton] at Ou;subst Ou;exact this
    |const c=>rw[UX] at Ou;simp[aQ] at Ou
    |func f=>rw[UX] at Ou;simp[aQ] at Ou
    |global g=>rw[UX] at Ou;simp[aQ] at Ou
   rw[G3 ks hv,G3 ks (by rw[ha r hr];exact hv),ha r hr]
  cases oL with
  |none=>exact⟨none,λl ks e=>(by cases e),λS' ha=>by simp only[St.parts,hf,b2 S' λr hr=>ha r (Ui r hr),Option.map_some,h2 _ (hag S' ha)];rfl⟩
  |some lk=>
  obtain⟨l,ks2⟩:=lk;obtain⟨ago,agp⟩:=h1 l ks2 rfl;refine⟨some (b::l,ks++ks2),λl' ks' e=>?_,λS' ha=>by simp only[St.parts,hf,b2 S' λr hr=>ha r (Ui r hr),Option.map_some,h2 _ (hag S' ha),PG]⟩;injection e with e;injection e with _ e;subst e;have X5:∀ x∈ks2,x∉ks/\∃ a,S.at x=.v a []:=λx BK=>by
   obtain⟨m1,a,m2⟩:=agp x BK;have hv:VD (S.at x):=by
    obtain⟨q',Gy,Ou⟩:=List.mem_flatMap.1 m1;have:=hx q' Gy;cases UX:q'.2 with
    |tmp i=>rw[UX] at this Ou;simp only[aQ,List.mem_singleton] at Ou;subst Ou;exact this
    |const c=>rw[UX] at Ou;simp[aQ] at Ou
    |func f=>rw[UX] at Ou;simp[aQ] at Ou
    |global g=>rw[UX] at Ou;simp[aQ] at Ou
   rw[G3 ks hv] at m2;by_cases hk:x∈ks
   ·rw[if_pos hk] at m2;cases m2
   rw[if_neg hk] at m2;exact⟨hk,a,m2⟩
  refine⟨List.nodup_append.2 ⟨UW,ago,λa ha b hb e=>by subst e;exact(X5 a hb).1 ha⟩,λx BK=>?_⟩;rcases List.mem_append.1 BK with BK |BK
  ·exact⟨Ui x (Oc x BK).1,(Oc x BK).2⟩
  exact⟨(agp x BK).1,(X5 x BK).2⟩
theorem aeX {S:St} {d:Nat} {T:TypeId} {n:Nat} {hn:Hn} {ps:List (Nat×Operand)} (hx:∀ q∈ps,rp S q.2=true): ∃ oG:Option (Bool×FR),(∀ g E,oG=some (g,E)->E.d=d/\CI E.v/\E.db.Nodup/\∀ r∈E.db,r∈ps.flatMap λq=>aQ q.2)/\∀ S',C7 S S' (ps.flatMap λq=>aQ q.2)->b6 Θ hn S' (some d) T n ps=oG.map λq=>(q.1,q.2.app S'):=by
 cases hf:Θ.find T with
 |none=>exact⟨none,λg E e=>(by cases e),λS' ha=>by unfold b6;simp only[hf];rfl⟩
 |some i=>
  by_cases PH:∃ t,i.ty=.sl t
  rotate_left
  ·refine⟨none,λg E e=>(by cases e),λS' ha=>?_⟩
   unfold b6
   simp only[hf]
   split
   ·rename_i heq
    injection heq with heq
    subst heq
    exact absurd ⟨_,rfl⟩ PH
   ·rfl
  obtain⟨t,ht⟩:=PH
  obtain⟨q1,ty,e,q4⟩:=i
  simp only at ht
  subst ht
  obtain⟨oL,l1,l2⟩:=Ot (Θ:=Θ) (List.replicate n e) 0 (λq hq=>ado (hx q hq))
  cases hc:(xB n ps&&Nat.ble n 1800) with
  |false=>exact⟨none,λg E e=>(by cases e),λS' ha=>by unfold b6;simp only[hf,hc,cond_false];rfl⟩
  |true=>
   cases oL with
   |none=>exact⟨none,λg E e=>(by cases e),λS' ha=>by unfold b6;simp only[hf,hc,cond_true,l2 S' ha];rfl⟩
   |some q=>
    obtain⟨l,ks⟩:=q
    obtain⟨UW,Oc⟩:=l1 l ks rfl
    cases l with
    |nil=>
     refine⟨some (true,⟨ks,d,.v ⟨.sl t,bif hn.aeQ (some d) then .k else .o e none (hn.find (some d) .k),[]⟩ []⟩),λg E e=>?_,λS' ha=>by unfold b6;simp only[hf,hc,cond_true,l2 S' ha];rfl⟩
     injection e with e
     injection e with _ e
     subst e
     exact⟨rfl,λ_=>rfl,UW,λr hr=>(Oc r hr).1⟩
    |cons a l=>
     cases hl:GP t a.m (a::l) with
     |none=>exact⟨none,λg E e=>(by cases e),λS' ha=>by unfold b6;simp only[hf,hc,cond_true,l2 S' ha,Option.map_some,hl];rfl⟩
     |some xs=>
      refine⟨some (true,⟨ks,d,.v ⟨.sl t,bif hn.aeQ (some d)&&a.m.b5 then .k else .o e none a.m,xs⟩ []⟩),λg E e=>?_,λS' ha=>by unfold b6;simp only[hf,hc,cond_true,l2 S' ha,Option.map_some,hl];rfl⟩
      injection e with e
      injection e with _ e
      subst e
      exact⟨rfl,λ_=>rfl,UW,λr hr=>(Oc r hr).1⟩
theorem aba {S:St} {x:Operand} (h:opK S x=true):rp S x=true:=by
 cases x with
 |tmp i=>
 simp only[opK] at h;simp only[rp];split at h
 ·rename_i ha;rw[ha]
 cases h
 |const c=>rfl
 |func f=>exact h
 |global g=>exact h
theorem Rp {S S':St} {d:Int} {x:Option Operand} (h:PE S x=true) (ha:C7 S S' (mI x)):qV Θ S' d x=qV Θ S d x:=by
 cases x with
 |none=>rfl
 |some x=>simp only[qV,St.y8,Wb h ha]
theorem akt {S:St} {d:Nat} {T:TypeId} {x:Operand} {lo hi:Option Operand} (hx:opK S x=true) (Yg:PE S lo=true) (Rq:PE S hi=true):
  ∃ o:Option (Bool×TV),∀ S',C7 S S' (aQ x++(mI lo++mI hi))->lr Θ S' (some d) T x lo hi none=o.map λq=>(q.1,S'.put (some d) (.v q.2 [])):=by
 have ag:∀ {S':St},C7 S S' (aQ x++(mI lo++mI hi))->S'.jT Θ 0 x=S.jT Θ 0 x/\S'.rd Θ 0 x=S.rd Θ 0 x/\qV Θ S' 0 lo=qV Θ S 0 lo/\∀ n,qV Θ S' n hi=qV Θ S n hi:=λha=>
  ⟨QO (λr hr=>ha r (by simp[hr])) 0,Wb (aba hx) (λr hr=>ha r (by simp[hr])) 0,Rp Yg λr hr=>ha r (by simp[hr]),λn=>Rp Rq λr hr=>ha r (by simp[hr])⟩
 have jU:(∃ t y,S.jT Θ 0 x=some (.v ⟨t,.k,y⟩ [])/\S.rd Θ 0 x=some ⟨t,.k,y⟩)∨∃ c,x=.const c:=by
  cases x with
  |tmp i=>
   simp only[opK] at hx
   split at hx
   ·rename_i t y ha
    exact .inl ⟨t,y,by simp[St.jT,ha],by simp[St.rd,St.jT,ha,St.Ii]⟩
   ·cases hx
  |const c=>exact .inr ⟨c,rfl⟩
  |func f=>simp[opK] at hx
  |global g=>simp[opK] at hx
 have tS:(∃ a,S.jT Θ 0 x=some (.v a [])/\S.rd Θ 0 x=some a/\(a.m=.k∨∃ c,x=.const c))∨S.jT Θ 0 x=none:=by
  rcases jU with⟨t,y,h1,h2⟩ |⟨c,rfl⟩
  ·exact .inl ⟨_,h1,h2,.inl rfl⟩
  ·simp only[St.rd,St.jT]
   cases BC Θ 0 c with
   |none=>exact .inr rfl
   |some a=>exact .inl ⟨a,rfl,rfl,.inr ⟨c,rfl⟩⟩
 rcases tS with⟨a,h1,h2,hm⟩ |h1
 rotate_left
 ·exact⟨none,λS' ha=>by unfold lr;rw[(ag ha).1,h1];rfl⟩
 cases hl:qV Θ S 0 lo with
 |none=>
  refine⟨none,λS' ha=>?_⟩
  obtain⟨e1,e2,e3,e4⟩:=ag ha
  unfold lr
  rw[e1,e2,e3,h1,h2,hl]
  obtain⟨t,m,y⟩:=a
  cases t<;>rfl
 |some l=>
  obtain⟨t,m,y⟩:=a
  have atK:(∀ S',lr Θ S' (some d) T x lo hi none=none)->∃ o:Option (Bool×TV),∀ S',C7 S S' (aQ x++(mI lo++mI hi))->lr Θ S' (some d) T x lo hi none=o.map λq=>(q.1,S'.put (some d) (.v q.2 [])):=λh=>⟨none,λS' _=>h S'⟩
  cases t with
  |str=>
   cases hh:qV Θ S (ByteArray.size y:Int) hi with
   |none=>
    refine⟨none,λS' ha=>?_⟩
    obtain⟨e1,e2,e3,e4⟩:=ag ha
    unfold lr
    rw[e1,e2,e3,h1,h2,hl]
    simp only[e4,hh]
    rfl
   |some h'=>
    cases hT:Θ.is T .str with
    |false=>
     refine⟨none,λS' ha=>?_⟩
     obtain⟨e1,e2,e3,e4⟩:=ag ha
     unfold lr
     rw[e1,e2,e3,h1,h2,hl]
     simp only[e4,hh,hT]
     rfl
    |true=>
     refine⟨some (decide (0<=l)&&decide (l<=h')&&decide (h'<=(ByteArray.size y:Int)),⟨.str,.k,ByteArray.extract y l.toNat h'.toNat⟩),λS' ha=>?_⟩
     obtain⟨e1,e2,e3,e4⟩:=ag ha
     unfold lr
     rw[e1,e2,e3,h1,h2,hl]
     simp only[e4,hh,hT]
     rfl
  |sl t=>
   cases hT:Θ.is T (.sl t) with
   |false=>
    refine⟨none,λS' ha=>?_⟩
    obtain⟨e1,e2,e3,e4⟩:=ag ha
    unfold lr
    rw[e1,e2,e3,h1,h2,hl]
    simp only[hT]
    rfl
   |true=>
    cases hh:qV Θ S (length y:Int) hi with
    |none=>
     refine⟨none,λS' ha=>?_⟩
     obtain⟨e1,e2,e3,e4⟩:=ag ha
     unfold lr
     rw[e1,e2,e3,h1,h2,hl]
     simp only[hT,e4,hh]
     rfl
    |some h'=>
     by_cases hk:m=.k
     ·subst hk
      refine⟨some (decide (0<=l)&&decide (l<=h')&&decide (h'<=(length y:Int)),⟨.sl t,.k,(List.take h'.toNat y).drop l.toNat⟩),λS' ha=>?_⟩
      obtain⟨e1,e2,e3,e4⟩:=ag ha
      unfold lr
      rw[e1,e2,e3,h1,h2,hl]
      simp only[hT,e4,hh]
      rfl
     ·obtain⟨c,rfl⟩:=hm.resolve_left hk
      refine⟨none,λS' ha=>?_⟩
      obtain⟨e1,e2,e3,e4⟩:=ag ha
      unfold lr
      rw[e1,e2,e3,h1,h2,hl]
      simp only[hT,e4,hh,cond_true]
      cases m<;>first |exact absurd rfl hk |rfl
  |_=>
   refine⟨none,λS' ha=>?_⟩
   obtain⟨e1,e2,e3,e4⟩:=ag ha
   unfold lr
   rw[e1,e2,e3,h1,h2,hl]
   rfl
theorem aeY {S:St} {d:Nat} {T:TypeId} {x ix:Operand} (hx:opK S x=true) (hix:rp S ix=true):
  ∃ o:Option (Bool×TV),∀ S',C7 S S' (aQ x++aQ ix)->dC Θ S' (some d) T x ix=o.map λq=>(q.1,S'.put (some d) (.v q.2 [])):=by
 have ag:∀ {S':St},C7 S S' (aQ x++aQ ix)->S'.jT Θ 0 x=S.jT Θ 0 x/\S'.y8 Θ ix=S.y8 Θ ix:=λha=>
  ⟨QO (λr hr=>ha r (by simp[hr])) 0,by unfold St.y8;rw[Wb hix (λr hr=>ha r (by simp[hr])) 0]⟩
 have tS:(∃ a,S.jT Θ 0 x=some (.v a [])/\(a.m=.k∨∃ c,x=.const c))∨S.jT Θ 0 x=none:=by
  cases x with
  |tmp i=>
   simp only[opK] at hx
   split at hx
   ·rename_i t y ha
    exact .inl ⟨⟨t,.k,y⟩,by simp[St.jT,ha],.inl rfl⟩
   ·cases hx
  |const c=>
   simp only[St.jT]
   cases BC Θ 0 c with
   |none=>exact .inr rfl
   |some a=>exact .inl ⟨a,rfl,.inr ⟨c,rfl⟩⟩
  |func f=>simp[opK] at hx
  |global g=>simp[opK] at hx
 rcases tS with⟨a,h1,hm⟩ |h1
 rotate_left
 ·exact⟨none,λS' ha=>by unfold dC;rw[(ag ha).1,h1];rfl⟩
 cases hn:S.y8 Θ ix with
 |none=>
  refine⟨none,λS' ha=>?_⟩
  obtain⟨e1,e2⟩:=ag ha
  unfold dC
  rw[e1,e2,h1,hn]
  obtain⟨t,m,y⟩:=a
  cases t<;>rfl
 |some n=>
  obtain⟨t,m,y⟩:=a
  cases t with
  |sl t=>
   cases hT:Θ.is T (.sl t) with
   |false=>
    refine⟨none,λS' ha=>?_⟩
    obtain⟨e1,e2⟩:=ag ha
    unfold dC
    rw[e1,e2,h1,hn]
    simp only[hT]
    rfl
   |true=>
    by_cases hk:m=.k
    ·subst hk
     refine⟨some (aD n (length y),⟨.ptr t,.k,getD y n.toNat t.z⟩),λS' ha=>?_⟩
     obtain⟨e1,e2⟩:=ag ha
     unfold dC
     rw[e1,e2,h1,hn]
     simp only[hT]
     rfl
    ·obtain⟨c,rfl⟩:=hm.resolve_left hk
     refine⟨none,λS' ha=>?_⟩
     obtain⟨e1,e2⟩:=ag ha
     unfold dC
     rw[e1,e2,h1,hn]
     simp only[hT,cond_true]
     cases m<;>first |exact absurd rfl hk |rfl
  |_=>
   refine⟨none,λS' ha=>?_⟩
   obtain⟨e1,e2⟩:=ag ha
   unfold dC
   rw[e1,e2,h1,hn]
   rfl
theorem LR {S:St} {o:Oper} (hg:vZ O ops S o=true):o.guard=none/\∃ d,o.dst=some d/\(S.at d).LG=false/\d<S.length:=by
 unfold vZ at hg;simp only[Bool.and_eq_true] at hg;obtain⟨⟨h1,h2⟩,_⟩:=hg;refine⟨?_,?_⟩
 ·split at h1
  ·assumption
  cases h1
 split at h2
 ·rename_i d hd;simp only[Bool.and_eq_true,Bool.not_eq_true'] at h2;exact⟨d,hd,h2.1,Nat.lt_of_lt_of_le (Nat.lt_succ_self _) (Nat.le_of_ble_eq_true h2.2)⟩
 cases h2
theorem sx {S:St} {x:Operand} (h:rp S x=true):∀ r∈aQ x,∃ a,S.at r=.v a []:=by
 intro r hr;rcases G1 (Θ:=[]) h 0 with⟨i,a,rfl,h1,_⟩ |⟨c,rfl⟩
 ·simp only[aQ,List.mem_singleton] at hr;subst hr;exact⟨a,h1⟩
 simp[aQ] at hr
theorem We {S S':St} {Θ:fA} {dst:Option Nat}:∀ {as:List Operand} {ts:List TypeId},(∀ x∈as,rp S x=true)->C7 S S' (as.flatMap aQ)->oK Θ S' dst ts as=none:=by
 intro as ts cw ha;unfold oK;split
 ·rename_i x y T T';split
  ·rename_i tt s st pp jU;exfalso;have h1:=cw x (by simp);cases x with
   |tmp i=>have h2:=ha i (by simp[aQ]);simp only[St.jT,Option.some.injEq] at jU;rw[h2] at jU;simp only[rp,jU] at h1;cases h1
   |const c=>simp only[St.jT] at jU;split at jU<;>cases jU
   |func f=>simp[rp] at h1
   |global g=>simp[rp] at h1
  rfl
 rfl
theorem adp (hO:C4 O) {i:Nat} {o:Oper} (ho:ops[i]?=some o) {S:St} (hg:vZ O ops S o=true) {d:Nat} (hd:o.dst=some d): ∃ oE:Option FR,(∀ E,oE=some E->E.d=d/\CI E.v/\E.db.Nodup/\(∀ r∈E.db,r∈aZ ops o)/\(v7 o=true->E.db=[]))/\∀ S',C7 S S' (aZ ops o)->∀ K,aW h O ops i S' K=oE.bind λE=>K (E.app S'):=by
 have hgd:=(LR hg).1;have val:∀ {o':Option (Bool×TV)} {Uc:St->JC},v7 o=true->(∀ S' K,aW h O ops i S' K=match Uc S' with
    |some (g,S1)=>bif g then K S1 else none
    |none=>none)->(∀ S',C7 S S' (aZ ops o)->Uc S'=o'.map λq=>(q.1,S'.put (some d) (.v q.2 [])))->
   ∃ oE:Option FR,(∀ E,oE=some E->E.d=d/\CI E.v/\E.db.Nodup/\(∀ r∈E.db,r∈aZ ops o)/\(v7 o=true->E.db=[]))/\∀ S',C7 S S' (aZ ops o)->∀ K,aW h O ops i S' K=oE.bind λE=>K (E.app S'):=by
  intro o' Uc hc cP QP
  cases o' with
  |none=>exact⟨none,λE e=>(by cases e),λS' ha K=>by rw[cP,QP S' ha];rfl⟩
  |some q=>
   obtain⟨g,r⟩:=q
   cases g with
   |false=>exact⟨none,λE e=>(by cases e),λS' ha K=>by rw[cP,QP S' ha];rfl⟩
   |true=>
    refine⟨some ⟨[],d,.v r []⟩,λE e=>?_,λS' ha K=>by rw[cP,QP S' ha];rfl⟩
    injection e with e
    subst e
    exact⟨rfl,λ_=>rfl,List.nodup_nil,λr hr=>(by cases hr),λ_=>rfl⟩
 unfold vZ at hg;simp only[Bool.and_eq_true] at hg;have cw:=hg.2;split at cw
 ·rename_i f as ts fI;simp only[Bool.and_eq_true,List.all_eq_true] at cw;obtain⟨oE,h1,h2⟩:=agn (h:=h) hO ho hgd hd fI cw.1 cw.2;have hl:aZ ops o=as.toList.flatMap aQ:=by unfold aZ;rw[fI]
  refine⟨oE,λE hE=>?_,λS' ha=>h2 S' (by rw[hl] at ha;exact ha)⟩;obtain⟨e1,e2,e3⟩:=h1 E hE;exact⟨e1,e3,by rw[e2];exact List.nodup_nil,λr hr=>by rw[e2] at hr;(cases hr),λ_=>e2⟩
 ·rename_i as ts fI;simp only[List.all_eq_true] at cw;have hl:aZ ops o=as.toList.flatMap aQ:=by unfold aZ;rw[fI]
  have hcb:v7 o=false:=(by unfold v7;rw[fI]);have v8:∀ S' K,C7 S S' (as.toList.flatMap aQ)->aW h O ops i S' K=match dD h.tab S' (some d) ts.toList as.toList with
    |some (g,S1)=>bif g then K S1 else none
    |none=>none:=by
   intro S' K ha
   unfold aW
   rw[ho]
   simp only[hgd]
   unfold qs
   rw[fI]
   simp only[ev,fI,hd]
   rcases dD h.tab S' (some d) ts.toList as.toList with _ |⟨g,S1⟩
   ·simp only[We cw ha]
   ·rfl
  have fin:∀ oG:Option (Bool×FR),(∀ g E,oG=some (g,E)->E.d=d/\CI E.v/\E.db.Nodup/\∀ r∈E.db,r∈as.toList.flatMap aQ)->(∀ S',C7 S S' (as.toList.flatMap aQ)->dD h.tab S' (some d) ts.toList as.toList=oG.map λq=>(q.1,q.2.app S'))->
    ∃ oE:Option FR,(∀ E,oE=some E->E.d=d/\CI E.v/\E.db.Nodup/\(∀ r∈E.db,r∈aZ ops o)/\(v7 o=true->E.db=[]))/\∀ S',C7 S S' (aZ ops o)->∀ K,aW h O ops i S' K=oE.bind λE=>K (E.app S'):=by
   intro oG h1 h2
   cases oG with
   |none=>exact⟨none,λE e=>(by cases e),λS' ha K=>by rw[v8 S' K (by rw[hl] at ha;exact ha),h2 S' (by rw[hl] at ha;exact ha)];rfl⟩
   |some q=>
    obtain⟨g,E⟩:=q
    cases g with
    |false=>exact⟨none,λE e=>(by cases e),λS' ha K=>by rw[v8 S' K (by rw[hl] at ha;exact ha),h2 S' (by rw[hl] at ha;exact ha)];rfl⟩
    |true=>
     refine⟨some E,λE' e=>?_,λS' ha K=>by rw[v8 S' K (by rw[hl] at ha;exact ha),h2 S' (by rw[hl] at ha;exact ha)];rfl⟩
     injection e with e
     subst e
     obtain⟨e1,e2,e3,e4⟩:=h1 true E rfl
     exact⟨e1,e2,e3,by rw[hl];exact e4,λhc=>by rw[hcb] at hc;cases hc⟩
  by_cases PH:∃ x y T T',as.toList=[x,y]/\ts.toList=[T,T']
  ·obtain⟨x,y,T,T',ha,ht⟩:=PH;rw[ha] at cw;obtain⟨oG,h1,h2⟩:=aa9 (Θ:=h.tab) (d:=d) (T:=T) (T':=T') (cw x (by simp)) (cw y (by simp));refine fin oG ?_ ?_
   ·intro g E e;obtain⟨e1,e2,e3,e4⟩:=h1 g E e;exact⟨e1,e2,e3,λr hr=>by rw[ha];simpa using e4 r hr⟩
   intro S' hs;rw[ha,ht];exact h2 S' (by rw[ha] at hs;simpa using hs)
  refine fin none (λg E e=>(by cases e)) λS' hs=>?_;unfold dD;split
  ·rename_i x y T T' ha ht;exact absurd ⟨x,y,T,T',ha,ht⟩ PH
  rfl
 ·rename_i T n ps fI;simp only[List.all_eq_true] at cw;have hl:aZ ops o=ps.toList.flatMap λq=>aQ q.2:=by unfold aZ;rw[fI]
  have hcb:v7 o=false:=(by unfold v7;rw[fI]);have v8:∀ S' K,aW h O ops i S' K=match b6 h.tab h.hn S' (some d) T n ps.toList with
    |some (g,S1)=>bif g then K S1 else none
    |none=>none:=by
   intro S' K
   unfold aW
   rw[ho]
   simp only[hgd]
   unfold qs
   rw[fI]
   simp only[ev,fI,hd]
   rcases b6 h.tab h.hn S' (some d) T n ps.toList with _ |⟨g,S1⟩<;>rfl
  obtain⟨oG,h1,h2⟩:=aeX (Θ:=h.tab) (d:=d) (T:=T) (n:=n) (hn:=h.hn) cw;cases oG with
  |none=>exact⟨none,λE e=>(by cases e),λS' ha K=>by rw[v8,h2 S' (by rw[hl] at ha;exact ha)];rfl⟩
  |some q=>
  obtain⟨g,E⟩:=q;cases g with
  |false=>exact⟨none,λE e=>(by cases e),λS' ha K=>by rw[v8,h2 S' (by rw[hl] at ha;exact ha)];rfl⟩
  |true=>refine⟨some E,λE' e=>?_,λS' ha K=>by rw[v8,h2 S' (by rw[hl] at ha;exact ha)];rfl⟩;injection e with e;subst e;obtain⟨e1,e2,e3,e4⟩:=h1 true E rfl;exact⟨e1,e2,e3,by rw[hl];exact e4,λhc=>by rw[hcb] at hc;cases hc⟩
 ·rename_i T x fI;split at cw;case h_4=>cases cw
  case h_2=>
   rename_i t y hb hx
   have hl:aZ ops o=[x]:=by unfold aZ;rw[fI];simp only[hb]
   refine val (Uc:=λS'=>nt h.tab S' (some d) T (.tmp x)) (o':=(bif h.tab.is T t then some (true,⟨t,.k,y⟩) else none)) (by unfold v7;rw[fI]) (λS' K=>by unfold aW;rw[ho];simp only[hgd];unfold qs;rw[fI];simp only[ev,fI,hd];rcases nt h.tab S' (some d) T (.tmp x) with _ |⟨g,S1⟩<;>rfl) λS' ha=>?_
   rw[hl] at ha
   have h1:S'.at x=.v ⟨.ptr t,.k,y⟩ []:=(ha x (by simp)).trans hx
   unfold nt
   simp only[St.jT,h1,St.JB,St.loadAt,Tgt.ty,kTV]
   cases h.tab.is T t<;>rfl
  case h_3=>
   rename_i t T1 tg me y hb hx
   have hl:aZ ops o=[x]:=by unfold aZ;rw[fI];simp only[hb]
   split at cw
   case h_2=>cases cw
   rename_i b PJ
   refine val (Uc:=λS'=>nt h.tab S' (some d) T (.tmp x)) (o':=match S.place x [.deref] with
    |some c=>bif h.tab.is T t then some (true,kTV c) else none
    |none=>none) (by unfold v7;rw[fI]) (λS' K=>by unfold aW;rw[ho];simp only[hgd];unfold qs;rw[fI];simp only[ev,fI,hd];rcases nt h.tab S' (some d) T (.tmp x) with _ |⟨g,S1⟩<;>rfl) λS' ha=>?_
   rw[hl] at ha
   have h1:S'.at x=.v ⟨.ptr t,.o T1 tg me,y⟩ []:=(ha x (by simp)).trans hx
   have h2:S'.dW x [.deref]=some b:=by rw[←PJ];unfold St.dW;rw[ha x (by simp)]
   have h3:S'.place x [.deref]=S.place x [.deref]:=by unfold St.place;rw[ha x (by simp)]
   unfold nt
   simp only[St.jT,h1,St.JB,St.loadAt,h2,cw,cond_true,h3,Tgt.ty]
   cases S.place x [.deref] with
   |none=>rfl
   |some c=>simp only;cases h.tab.is T t<;>rfl
  rename_i s t s' p hb hx;simp only[Bool.and_eq_true] at cw;obtain⟨hs,hk⟩:=cw;have:=Nat.eq_of_beq_eq_true hs;subst this;have hl:aZ ops o=[x,s']:=by unfold aZ;rw[fI];simp only[hb]
  have v8:∀ S' K,aW h O ops i S' K=match nt h.tab S' (some d) T (.tmp x) with
    |some (g,S1)=>bif g then K S1 else none
    |none=>none:=by
   intro S' K
   unfold aW
   rw[ho]
   simp only[hgd]
   unfold qs
   rw[fI]
   simp only[ev,fI,hd]
   rcases nt h.tab S' (some d) T (.tmp x) with _ |⟨g,S1⟩<;>rfl
  split at hk;case h_2=>cases hk
  rename_i b PJ;have QP:∀ S',C7 S S' [x,s']->nt h.tab S' (some d) T (.tmp x)=match S.place s' p with
    |some c=>bif h.tab.is T t then some (true,S'.put (some d) (.v (kTV c) [])) else none
    |none=>none:=by
   intro S' ha
   have h1:S'.at x=.ad t s' p:=(ha x (by simp)).trans hx
   have h2:S'.dW s' p=some b:=by rw[←PJ];unfold St.dW;rw[ha s' (by simp)]
   have h3:S'.place s' p=S.place s' p:=by unfold St.place;rw[ha s' (by simp)]
   unfold nt
   simp only[St.jT,h1,St.JB,St.loadAt,h2,hk,cond_true,h3]
   cases S.place s' p<;>rfl
  cases hp:S.place s' p with
  |none=>exact⟨none,λE e=>(by cases e),λS' ha K=>by rw[v8,QP S' (by rw[hl] at ha;exact ha),hp];rfl⟩
  |some c=>
  cases hT:h.tab.is T t with
  |false=>exact⟨none,λE e=>(by cases e),λS' ha K=>by rw[v8,QP S' (by rw[hl] at ha;exact ha),hp];simp only[hT];rfl⟩
  |true=>refine⟨some ⟨[],d,.v (kTV c) []⟩,λE e=>?_,λS' ha K=>by rw[v8,QP S' (by rw[hl] at ha;exact ha),hp];simp only[hT];rfl⟩;injection e with e;subst e;exact⟨rfl,λ_=>rfl,List.nodup_nil,λr hr=>(by cases hr),λ_=>rfl⟩
 ·rename_i T x lo hi fI;simp only[Bool.and_eq_true] at cw;obtain⟨o',h1⟩:=akt (Θ:=h.tab) (d:=d) (T:=T) cw.1 cw.2.1 cw.2.2;have hl:aZ ops o=aQ x++(mI lo++mI hi):=by unfold aZ;rw[fI]
  exact val (o':=o') (by unfold v7;rw[fI]) (λS' K=>by unfold aW;rw[ho];simp only[hgd];unfold qs;rw[fI];simp only[ev,fI,hd];rcases lr h.tab S' (some d) T x lo hi none with _ |⟨g,S1⟩<;>rfl) λS' ha=>h1 S' (by rw[hl] at ha;exact ha)
 ·rename_i T x ix fI;simp only[Bool.and_eq_true] at cw;obtain⟨o',h1⟩:=aeY (Θ:=h.tab) (d:=d) (T:=T) cw.1 cw.2;have hl:aZ ops o=aQ x++aQ ix:=by unfold aZ;rw[fI]
  exact val (o':=o') (by unfold v7;rw[fI]) (λS' K=>by unfold aW;rw[ho];simp only[hgd];unfold qs;rw[fI];simp only[ev,fI,hd];rcases dC h.tab S' (some d) T x ix with _ |⟨g,S1⟩<;>rfl) λS' ha=>h1 S' (by rw[hl] at ha;exact ha)
 cases cw
theorem Ov {S:St} {o:Oper} (hg:vZ O ops S o=true):(v7 o=true∨∀ r∈aZ ops o,∃ a,S.at r=.v a [])/\∀ r∈aZ ops o,S.at r≠ .dead/\∀ x,(S.at r).refs x=true->x∈aZ ops o:=by
 have key:(∀ r∈aZ ops o,∃ a,S.at r=.v a [])->(v7 o=true∨∀ r∈aZ ops o,∃ a,S.at r=.v a [])/\∀ r∈aZ ops o,S.at r≠ .dead/\∀ x,(S.at r).refs x=true->x∈aZ ops o:=λh=>by refine⟨.inr h,λr hr=>?_⟩;obtain⟨a,ha⟩:=h r hr;rw[ha];exact⟨λe=>(by cases e),λx hx=>by simp[AV.refs] at hx⟩
 unfold vZ at hg;simp only[Bool.and_eq_true] at hg;have cw:=hg.2;split at cw
 ·rename_i f as ts fI;simp only[Bool.and_eq_true,List.all_eq_true] at cw;refine key λr hr=>?_;unfold aZ at hr;rw[fI] at hr;obtain⟨x,hx,hr⟩:=List.mem_flatMap.1 hr;exact sx (cw.2 x hx) r hr
 ·rename_i as ts fI;simp only[List.all_eq_true] at cw;refine key λr hr=>?_;unfold aZ at hr;rw[fI] at hr;obtain⟨x,hx,hr⟩:=List.mem_flatMap.1 hr;exact sx (cw x hx) r hr
 ·rename_i T n ps fI;simp only[List.all_eq_true] at cw;refine key λr hr=>?_;unfold aZ at hr;rw[fI] at hr;obtain⟨x,hx,hr⟩:=List.mem_flatMap.1 hr;exact sx (cw x hx) r hr
 ·rename_i T x fI;split at cw;case h_4=>cases cw
  case h_2=>
   rename_i t y hb hx
   have hl:aZ ops o=[x]:=by unfold aZ;rw[fI];simp only[hb]
   refine key λr hr=>?_
   rw[hl] at hr
   simp only[List.mem_singleton] at hr
   subst hr
   exact⟨_,hx⟩
  case h_3=>
   rename_i t T1 tg me y hb hx
   have hl:aZ ops o=[x]:=by unfold aZ;rw[fI];simp only[hb]
   refine key λr hr=>?_
   rw[hl] at hr
   simp only[List.mem_singleton] at hr
   subst hr
   exact⟨_,hx⟩
  rename_i s t s' p hb hx;simp only[Bool.and_eq_true] at cw;obtain⟨hs,hk⟩:=cw;have:=Nat.eq_of_beq_eq_true hs;subst this;have hl:aZ ops o=[x,s']:=by unfold aZ;rw[fI];simp only[hb]
  refine⟨.inl (by unfold v7;rw[fI]),λr hr=>?_⟩;rw[hl] at hr ⊢;simp only[List.mem_cons,List.not_mem_nil,or_false] at hr;rcases hr with rfl |rfl
  ·rw[hx];refine⟨λe=>(by cases e),λy hy=>?_⟩;simp only[AV.refs] at hy;have:=Nat.eq_of_beq_eq_true hy;simp[this]
  split at hk;case h_2=>cases hk
  rename_i b PJ;unfold St.dW at PJ;split at PJ
  ·rename_i a ex ha;rw[ha];exact⟨λe=>(by cases e),λy hy=>by simp[AV.refs] at hy⟩
  cases PJ
 ·rename_i T x lo hi fI;simp only[Bool.and_eq_true] at cw;have hl:aZ ops o=aQ x++(mI lo++mI hi):=by unfold aZ;rw[fI]
  refine key λr hr=>?_;rw[hl] at hr;have agq:∀ {y:Option Operand},PE S y=true->r∈mI y->∃ a,S.at r=.v a []:=λ{y} h hr=>by
   cases y with
   |none=>simp[mI] at hr
   |some y=>exact sx h r hr
  rcases List.mem_append.1 hr with hr |hr
  ·exact sx (aba cw.1) r hr
  rcases List.mem_append.1 hr with hr |hr
  ·exact agq cw.2.1 hr
  exact agq cw.2.2 hr
 ·rename_i T x ix fI;simp only[Bool.and_eq_true] at cw;have hl:aZ ops o=aQ x++aQ ix:=by unfold aZ;rw[fI]
  refine key λr hr=>?_;rw[hl] at hr;rcases List.mem_append.1 hr with hr |hr
  ·exact sx (aba cw.1) r hr
  exact sx cw.2 r hr
 cases cw
theorem G4 {S S':St} {x:Operand} (h:rp S x=true) (ha:C7 S S' (aQ x)):rp S' x=true:=by
 cases x with
 |tmp i=>simp only[rp,ha i (by simp[aQ])] at h ⊢;exact h
 |const c=>rfl
 |func f=>exact h
 |global g=>exact h
theorem adq {S S':St} {x:Operand} (h:opK S x=true) (ha:C7 S S' (aQ x)):opK S' x=true:=by
 cases x with
 |tmp i=>simp only[opK,ha i (by simp[aQ])] at h ⊢;exact h
 |const c=>rfl
 |func f=>exact h
 |global g=>exact h
theorem UY {S S':St} {o:Oper} (hg:vZ O ops S o=true) (ha:C7 S S' (aZ ops o)) (hl:S'.length=S.length) (hd:∀ d,o.dst=some d->(S'.at d).LG=false):vZ O ops S' o=true:=by
 obtain⟨h1,d,h2,h3,h4⟩:=LR hg;unfold vZ at hg ⊢;simp only[Bool.and_eq_true] at hg ⊢;refine⟨⟨hg.1.1,?_⟩,?_⟩
 ·rw[h2];simp only[hd d h2,Bool.not_false,Bool.true_and];rw[hl];exact Nat.ble_eq_true_of_le h4
 have cw:=hg.2;split at cw
 ·rename_i f as ts fI;have hlk:aZ ops o=as.toList.flatMap aQ:=by unfold aZ;rw[fI]
  rw[hlk] at ha;simp only[Bool.and_eq_true,List.all_eq_true] at cw;simp only[Bool.and_eq_true,List.all_eq_true];exact⟨cw.1,λx hx=>G4 (cw.2 x hx) λr hr=>ha r (List.mem_flatMap.2 ⟨x,hx,hr⟩)⟩
 ·rename_i as ts fI;have hlk:aZ ops o=as.toList.flatMap aQ:=by unfold aZ;rw[fI]
  rw[hlk] at ha;simp only[List.all_eq_true] at cw;simp only[List.all_eq_true];exact λx hx=>G4 (cw x hx) λr hr=>ha r (List.mem_flatMap.2 ⟨x,hx,hr⟩)
 ·rename_i T n ps fI;have hlk:aZ ops o=ps.toList.flatMap λq=>aQ q.2:=by unfold aZ;rw[fI]
  rw[hlk] at ha;simp only[List.all_eq_true] at cw;simp only[List.all_eq_true];exact λx hx=>G4 (cw x hx) λr hr=>ha r (List.mem_flatMap.2 ⟨x,hx,hr⟩)
 ·rename_i T x fI;split at cw;case h_4=>cases cw
  case h_2=>
   rename_i t y hb hx
   have hlk:aZ ops o=[x]:=by unfold aZ;rw[fI];simp only[hb]
   rw[hlk] at ha
   rw[hb,(ha x (by simp)).trans hx]
  case h_3=>
   rename_i t T1 tg me y hb hx
   have hlk:aZ ops o=[x]:=by unfold aZ;rw[fI];simp only[hb]
   rw[hlk] at ha
   have h2:S'.dW x [.deref]=S.dW x [.deref]:=by unfold St.dW;rw[ha x (by simp)]
   rw[hb,(ha x (by simp)).trans hx]
   simp only[h2]
   exact cw
  rename_i s t s' p hb hx;simp only[Bool.and_eq_true] at cw;obtain⟨hs,hk⟩:=cw;have:=Nat.eq_of_beq_eq_true hs;subst this;have hlk:aZ ops o=[x,s']:=by unfold aZ;rw[fI];simp only[hb]
  rw[hlk] at ha;have h1:S'.at x=.ad t s' p:=(ha x (by simp)).trans hx;have h2:S'.dW s' p=S.dW s' p:=(by unfold St.dW;rw[ha s' (by simp)]);rw[hb,h1];simp only[Bool.and_eq_true,h2];exact⟨Nat.beq_refl _,hk⟩
 ·rename_i T x lo hi fI;simp only[Bool.and_eq_true] at cw;have hlk:aZ ops o=aQ x++(mI lo++mI hi):=by unfold aZ;rw[fI]
  rw[hlk] at ha;simp only[Bool.and_eq_true];have agq:∀ {y:Option Operand},PE S y=true->(∀ r∈mI y,r∈aQ x++(mI lo++mI hi))->PE S' y=true:=λ{y} h hs=>by
   cases y with
   |none=>rfl
   |some y=>exact G4 h λr hr=>ha r (hs r hr)
  exact⟨adq cw.1 λr hr=>ha r (by simp[hr]),agq cw.2.1 λr hr=>by simp[hr],agq cw.2.2 λr hr=>by simp[hr]⟩
 ·rename_i T x ix fI;simp only[Bool.and_eq_true] at cw;have hlk:aZ ops o=aQ x++aQ ix:=by unfold aZ;rw[fI]
  rw[hlk] at ha;simp only[Bool.and_eq_true];exact⟨adq cw.1 λr hr=>ha r (by simp[hr]),G4 cw.2 λr hr=>ha r (by simp[hr])⟩
 cases cw
theorem Wf {S:St} {o:Oper} (hg:vZ O ops S o=true) {d:Nat} (hd:o.dst=some d) {E:FR} (he:E.d=d/\CI E.v/\E.db.Nodup/\(∀ r∈E.db,r∈aZ ops o)/\(v7 o=true->E.db=[])):E.In S:=by
 obtain⟨_,d',h2,h3,h4⟩:=LR hg;rw[hd] at h2;injection h2 with h2;subst h2;obtain⟨e1,e2,e3,e4,e5⟩:=he;have hv:∀ r∈E.db,∃ a,S.at r=.v a []:=λr hr=>by
  rcases(Ov hg).1 with hc |hv
  ·rw[e5 hc] at hr;cases hr
  exact hv r (e4 r hr)
 refine⟨e3,hv,by rw[e1];exact h3,by rw[e1];exact h4,e2,λhk=>?_⟩;obtain⟨a,ha⟩:=hv _ hk;rw[e1] at ha;rw[ha] at h3;cases h3
theorem aeZ {a:AV} {x:Nat} (h:a.refs x=true):a.LG=false:=by cases a<;>first |rfl |(simp[AV.refs] at h)
theorem aku {E:FR} {S:St} (h:E.In S) {i:Nat} (hi:i≠E.d) (hv:(S.at i).LG=false):((E.app S).at i).LG=false:=by
 rw[FR.G2 h,if_neg hi];split
 ·rfl
 cases E.db.any (S.at i).refs with
 |true=>rfl
 |false=>exact hv
theorem agr {E:FR} {S:St} (h:E.In S) {i:Nat} (hi:i≠E.d) (hk:i∉E.db) (hv:((E.app S).at i).LG=false):(S.at i).LG=false:=by
 rw[FR.G2 h,if_neg hi,if_neg hk] at hv;cases ha:E.db.any (S.at i).refs with
 |true=>obtain⟨x,_,hx⟩:=List.any_eq_true.1 ha;exact aeZ hx
 |false=>rw[ha] at hv;exact hv
theorem ap1 {E:FR} {S:St} (h:E.In S) {i:Nat} (hi:i≠E.d) (hv:(E.app S).at i≠ .dead):S.at i=(E.app S).at i:=by
 rw[FR.G2 h,if_neg hi] at hv ⊢;split at hv
 ·exact absurd rfl hv
 rename_i hk;rw[if_neg hk];cases ha:E.db.any (S.at i).refs with
 |true=>rw[ha] at hv;exact absurd rfl hv
 |false=>rfl
theorem ap2 {E:FR} {S:St} (h:E.In S) {i:Nat} (hi:i≠E.d) (hk:i∉E.db) (hr:∀ x,(S.at i).refs x=true->x∉E.db):(E.app S).at i=S.at i:=by rw[FR.G2 h,if_neg hi,if_neg hk];have:E.db.any (S.at i).refs=false:=List.any_eq_false.2 λx hx BK=>hr x BK hx;rw[this];rfl
theorem ags (hO:C4 O) {i j:Nat} {oi oj:Oper} (hi:ops[i]?=some oi) (hj:ops[j]?=some oj) (hd:UO ops oi oj=true) {r:List Nat} {S:St} {K:St->Option aa} {ret:aa} (e:BJ h O ops (i::j::r) S K=some ret):BJ h O ops (j::i::r) S K=some ret:=by
 simp only[BJ,hi,hj] at e ⊢;cases gi:vZ O ops S oi with
 |false=>rw[gi] at e;cases e
 |true=>rw[gi] at e;simp only[cond_true] at e;obtain⟨_,di,hdi,hvi,_⟩:=LR gi;obtain⟨oE,E1,E2⟩:=adp (h:=h) hO hi gi hdi;rw[E2 S (λ_ _=>rfl)] at e;cases oE with
 |none=>cases e
 |some E=>simp only[Option.bind_some] at e;have EI:=Wf gi hdi (E1 E rfl);obtain⟨Ed,Er,En,Ek,Ec⟩:=E1 E rfl;cases gj:vZ O ops (E.app S) oj with
 |false=>rw[gj] at e;cases e
 |true=>rw[gj] at e;simp only[cond_true] at e;obtain⟨_,dj,hdj,hvj,_⟩:=LR gj;obtain⟨oF,F1,F2⟩:=adp (h:=h) hO hj gj hdj;rw[F2 _ (λ_ _=>rfl)] at e;cases oF with
 |none=>cases e
 |some F=>
 simp only[Option.bind_some] at e;have FI1:=Wf gj hdj (F1 F rfl);obtain⟨Fd,Fr,Fn,Fk,Fc⟩:=F1 F rfl;unfold UO at hd;rw[hdi,hdj] at hd;simp only[Bool.and_eq_true,Bool.not_eq_true',Bool.or_eq_true] at hd;obtain⟨⟨⟨d1,d2⟩,d3⟩,d4⟩:=hd;have d1:di≠dj:=λe=>by subst e;rw[Nat.beq_refl] at d1;cases d1
 have d2:di∉aZ ops oj:=λhm=>by have:=List.any_eq_false.1 d2 di hm;rw[Nat.beq_refl] at this;exact this rfl
 have d3:dj∉aZ ops oi:=λhm=>by have:=List.any_eq_false.1 d3 dj hm;rw[Nat.beq_refl] at this;exact this rfl
 have d5:∀ r∈aZ ops oi,r∉F.db:=λr hr hk=>by
  rcases d4 with d4 |d4
  ·rw[Fc d4.2] at hk;cases hk
  have h1:=List.any_eq_false.1 d4 r hr;have h2:(aZ ops oj).any (Nat.beq r)=true:=List.any_eq_true.2 ⟨r,Fk r hk,Nat.beq_refl r⟩;exact h1 h2
 have ag1:C7 (E.app S) S (aZ ops oj):=λr hr=>by exact ap1 EI (λe=>d2 (by rw[←Ed,←e];exact hr)) ((Ov gj).2 r hr).1
 have asQ:dj∉E.db:=λhk=>d3 (Ek dj hk);have gj0:vZ O ops S oj=true:=UY gj ag1 (FR.Wd E S).symm (λd hd=>by
  rw[hdj] at hd
  injection hd with hd
  subst hd
  exact agr EI (λe=>d1 (by rw[←Ed,←e])) asQ hvj)
 have FI:=Wf gj0 hdj (F1 F rfl);have ag2:C7 S (F.app S) (aZ ops oi):=λr hr=>by exact ap2 FI (λe=>d3 (by rw[←Fd,←e];exact hr)) (d5 r hr) λx hx=>d5 x (((Ov gi).2 r hr).2 x hx)
 have gi1:vZ O ops (F.app S) oi=true:=UY gi ag2 (FR.Wd F S) (λd hd=>by
  rw[hdi] at hd
  injection hd with hd
  subst hd
  exact aku FI (λe=>d1 (by rw[←Fd,←e])) hvi)
 have EI1:=Wf gi1 hdi (E1 E rfl);rw[gj0];simp only[cond_true];rw[F2 S ag1];simp only[Option.bind_some];rw[gi1];simp only[cond_true];rw[E2 _ ag2];simp only[Option.bind_some];rw[FR.comm EI FI (by rw[Ed,Fd];exact d1) (λhk=>by rw[Ed] at hk;exact d2 (Fk _ hk)) (λhk=>by rw[Fd] at hk;exact d3 (Ek _ hk)) EI1 FI1];exact e
theorem UZ (hO:C4 O) {j:Nat} {oj:Oper} (hj:ops[j]?=some oj):∀ (p r:List Nat) {S:St} {K:St->Option aa} {ret:aa},(∀ x∈p,∃ ox,ops[x]?=some ox/\UO ops ox oj=true)->BJ h O ops (p++j::r) S K=some ret->BJ h O ops (j::(p++r)) S K=some ret
 |[],r,S,K,ret,_,e=>e
 |x::p,r,S,K,ret,hp,e=>by
  obtain⟨ox,hox,hdx⟩:=hp x (by simp);refine ags hO hox hj hdx ?_;simp only[List.cons_append] at e;unfold BJ at e ⊢;rw[hox] at e ⊢;simp only at e ⊢;cases gx:vZ O ops S ox with
  |false=>rw[gx] at e;cases e
  |true=>
  rw[gx] at e;simp only[cond_true] at e ⊢;obtain⟨o,ho⟩:=sw (h:=h) (ops:=ops) hO x (λo' Rh=>by
   rw[hox] at Rh
   injection Rh with Rh
   subst Rh
   unfold vZ at gx
   simp only[Bool.and_eq_true] at gx
   have g2:=gx.2
   split at g2<;>first |(rename_i cw;rw[cw];rfl) |cases g2) S
  rw[ho] at e ⊢;cases o with
  |none=>cases e
  |some S1=>simp only[Option.bind_some] at e ⊢;exact UZ hO hj p r (λy hy=>hp y (by simp[hy])) e
end Go.Pv
namespace Go.Pv
open List Int IntKind
variable {h:Hint} {O:n9} {Θ:fA} {ops:Array Oper} {ret:aa}
theorem Rr {a:AV} {s:Nat}:a.refs s=true↔s∈slotsOf a:=by
 cases a with
 |al t s' p=>simp only[AV.refs,slotsOf,List.mem_singleton,Nat.beq_eq];exact eq_comm
 |ad t s' p=>simp only[AV.refs,slotsOf,List.mem_singleton,Nat.beq_eq];exact eq_comm
 |cut t s' p lo hi=>simp only[AV.refs,slotsOf,List.mem_singleton,Nat.beq_eq];exact eq_comm
 |vY f fc=>
  simp only[AV.refs,slotsOf,List.any_eq_true,List.mem_filterMap];constructor
  ·rintro⟨c,hc,h⟩;refine⟨c,hc,?_⟩;cases c with
   |kv b=>cases h
   |pl t s' p=>simp at h;simp[h]
  rintro⟨c,hc,h⟩;refine⟨c,hc,?_⟩;cases c with
  |kv b=>cases h
  |pl t s' p=>simp at h;simp[h]
 |_=>simp[AV.refs,slotsOf]
def aN (Δ:Nat->Bool) (S:St):Prop:=∀ i s,(S.at i).refs s=true->Δ i=Δ s
theorem EM {Δ:Nat->Bool}:∀ {S:St} {k:Nat},pj Δ S k=true↔∀ i s,(S.at i).refs s=true->Δ (k+i)=Δ s
 |[],k=>by simp[pj,St.at,AV.refs]
 |a::r,k=>by
  simp only[pj,Bool.and_eq_true,List.all_eq_true,beq_iff_eq];constructor
  ·rintro⟨h1,h2⟩ i s hs;cases i with
   |zero=>exact h1 s (Rr.1 (by simpa[St.at] using hs))
   |succ i=>have:=(EM.1 h2) i s (by simpa[St.at] using hs);rw[←this];congr 1;omega
  intro hh;refine⟨λs hs=>by simpa using hh 0 s (by simpa[St.at] using Rr.2 hs),EM.2 λi s hs=>?_⟩;have:=hh (i+1) s (by simpa[St.at] using hs);rw[←this];congr 1;omega
theorem s7 {Δ:Nat->Bool} {S:St}:pj Δ S 0=true↔aN Δ S:=by rw[EM];simp only[Nat.zero_add,aN]
def mix (Δ:Nat->Bool) (A B:St):St:=(List.range A.length).map λi=>bif Δ i then A.at i else B.at i
theorem FT {S:St} {i:Nat} (h:S.length<=i):S.at i=.dead:=by unfold St.at;rw[List.getD_eq_getElem?_getD,List.getElem?_eq_none h];rfl
theorem lx (Δ:Nat->Bool) (A B:St):(mix Δ A B).length=A.length:=by simp[mix]
theorem qZ {Δ:Nat->Bool} {A B:St} (hl:B.length=A.length) (i:Nat):(mix Δ A B).at i=bif Δ i then A.at i else B.at i:=by
 by_cases hi:i<A.length
 ·unfold mix;conv=>lhs;unfold St.at
  rw[List.getD_eq_getElem?_getD,List.getElem?_map,List.getElem?_range hi];rfl
 rw[FT (by rw[lx];omega),FT (S:=A) (by omega),FT (S:=B) (by omega)];cases Δ i<;>rfl
theorem wY {Δ:Nat->Bool} {A B:St} (hl:B.length=A.length) {i:Nat} (hi:Δ i=true):(mix Δ A B).at i=A.at i:=by rw[qZ hl,hi];rfl
theorem Rs (Δ:Nat->Bool) (S:St):mix Δ S S=S:=yF (lx _ _ _) λi=>by rw[qZ rfl];cases Δ i<;>rfl
theorem Wg {Δ:Nat->Bool} {A B:St} (hl:B.length=A.length):mix (λi=>!Δ i) B A=mix Δ A B:=yF (by rw[lx,lx,hl]) λi=>by rw[qZ hl,qZ hl.symm];cases Δ i<;>rfl
theorem aN.not {Δ:Nat->Bool} {S:St} (h:aN Δ S):aN (λi=>!Δ i) S:=λi s hs=>by simp only[h i s hs]
section
variable {Δ:Nat->Bool} {A B:St}
theorem Ow (hB:aN Δ B) {i d:Nat} (hi:Δ i=false) (hd:Δ d=true):(B.at i).refs d=false:=by
 cases hr:(B.at i).refs d with
 |false=>rfl
 |true=>have:=hB i d hr;rw[hi,hd] at this;cases this
theorem Ik (hl:B.length=A.length) (hB:aN Δ B) {d:Nat} (hd:Δ d=true) (a:AV):(mix Δ A B).put (some d) a=mix Δ (A.put (some d) a) B:=by
 refine yF (by rw[bK,lx,lx,bK]) λi=>?_;rw[qZ (by rw[bK,hl]),iA,iA,lx,qZ hl,wY hl hd];cases hi:Δ i with
 |true=>rfl
 |false=>have hid: ¬(i=d/\d<A.length):=λe=>(by rw[e.1,hd] at hi;cases hi);rw[if_neg hid];simp only[cond_false];rw[Ow hB hi hd];rfl
theorem LS (hl:B.length=A.length) {d:Nat} (hd:Δ d=true) (a:AV):(mix Δ A B).set d a=mix Δ (A.set d a) B:=by
 refine yF (by rw[List.length_set,lx,lx,List.length_set]) λi=>?_;rw[qZ (by rw[List.length_set,hl]),eH,eH,lx,qZ hl];cases hi:Δ i with
 |true=>rfl
 |false=>have hid: ¬(i=d/\d<A.length):=λe=>(by rw[e.1,hd] at hi;cases hi);rw[if_neg hid];rfl
theorem abb {a:AV} {d:Nat} (h:a.refs d=false):a.kS d=false:=by
 cases a with
 |al t s p=>simp only[AV.refs] at h;simp only[AV.kS,h];rfl
 |ad t s p=>simp only[AV.refs] at h;simp only[AV.kS,h];rfl
 |cut t s p lo hi=>simpa only[AV.refs,AV.kS] using h
 |vY f fc=>
  simp only[AV.refs,AV.kS,List.any_eq_false] at h ⊢;intro c hc;have:=h c hc;cases c with
  |kv b=>simp
  |pl t s p=>cases p<;>simp_all
 |_=>rfl
theorem Kq (hl:B.length=A.length) (hB:aN Δ B) {d:Nat} (hd:Δ d=true):(mix Δ A B).weaken d=mix Δ (A.weaken d) B:=by
 refine yF (by simp[St.weaken,lx]) λi=>?_;rw[qZ (by simp[St.weaken,hl]),s6,s6,qZ hl];cases hi:Δ i with
 |true=>rfl
 |false=>simp only[cond_false];rw[abb (Ow hB hi hd)];rfl
theorem Ox (S:St) (d:Nat) (p:Path) (i:Nat):(S.cover d p).at i=match S.at i with
 | .ad t s q=>bif Nat.beq s d&&under p q then .dead else .ad t s q
 |a=>a:=Rn S _ rfl i
theorem U0 (hl:B.length=A.length) (hB:aN Δ B) {d:Nat} (hd:Δ d=true) (p:Path):(mix Δ A B).cover d p=mix Δ (A.cover d p) B:=by
 refine yF (by simp[St.cover,lx]) λi=>?_;rw[qZ (by simp[St.cover,hl]),Ox,Ox,qZ hl];cases hi:Δ i with
 |true=>rfl
 |false=>
 simp only[cond_false];have:=Ow hB hi hd;cases hb:B.at i with
 |ad t s q=>rw[hb] at this;simp only[AV.refs] at this;simp only[this];rfl
 |_=>rfl
theorem LU {c:Bool} {a:AV} {s:Nat} (h:(bif c then AV.dead else a).refs s=true):a.refs s=true:=by
 cases c with
 |true=>simp[AV.refs] at h
 |false=>exact h
theorem wZ (hA:aN Δ A) {d:Nat} (hd:Δ d=true) {a:AV} (ha:∀ s,a.refs s=true->Δ s=true):aN Δ (A.put (some d) a):=λi s hs=>by
 rw[iA] at hs;split at hs
 ·rename_i hi;rw[hi.1,hd];exact(ha s (LU hs)).symm
 exact hA i s (LU hs)
theorem Aq (hA:aN Δ A) {d:Nat} (hd:Δ d=true) {a:AV} (ha:∀ s,a.refs s=true->Δ s=true):aN Δ (A.set d a):=λi s hs=>by
 rw[eH] at hs;split at hs
 ·rename_i hi;rw[hi.1,hd];exact(ha s hs).symm
 exact hA i s hs
theorem CJ (hA:aN Δ A) (d:Nat):aN Δ (A.weaken d):=λi s hs=>by rw[s6] at hs;exact hA i s (LU hs)
theorem LV (hA:aN Δ A) (d:Nat) (p:Path):aN Δ (A.cover d p):=λi s hs=>by
 rw[Ox] at hs;refine hA i s ?_;cases hb:A.at i with
 |ad t s' q=>rw[hb] at hs;exact LU hs
 |_=>rw[hb] at hs;exact hs
theorem tT (hl:B.length=A.length) {x:Operand} (hx:Ag Δ x=true) (T:TypeId):(mix Δ A B).jT Θ T x=A.jT Θ T x:=by
 cases x with
 |tmp i=>simp only[St.jT];rw[wY hl hx]
 |_=>rfl
theorem pU (hA:aN Δ A) {x:Operand} (hx:Ag Δ x=true) {T:TypeId} {a:AV} (e:A.jT Θ T x=some a):∀ s,a.refs s=true->Δ s=true:=λs hs=>by
 cases x with
 |tmp i=>simp only[St.jT,Option.some.injEq] at e;subst e;rw[←hA i s hs];exact hx
 |const c=>
 simp only[St.jT] at e;split at e
 ·injection e with e;subst e;simp[AV.refs] at hs
 cases e
 |func f=>simp only[St.jT,Option.some.injEq] at e;subst e;simp[AV.refs] at hs
 |global g=>cases e
theorem Ai (hl:B.length=A.length) {s:Nat} (hs:Δ s=true) (p:Path):(mix Δ A B).place s p=A.place s p:=by unfold St.place;rw[wY hl hs]
theorem w4 (hl:B.length=A.length) {s:Nat} (hs:Δ s=true) (p:Path):(mix Δ A B).dW s p=A.dW s p:=by unfold St.dW;rw[wY hl hs]
theorem BL {t:Ty} {s:Nat} {p:Path}:(AV.al t s p).refs s=true:=by simp[AV.refs]
theorem akv {t:Ty} {s:Nat} {p:Path}:(AV.ad t s p).refs s=true:=by simp[AV.refs]
theorem Yh {t:Ty} {s:Nat} {p:Path} {lo hi:Nat}:(AV.cut t s p lo hi).refs s=true:=by simp[AV.refs]
theorem adr (hl:B.length=A.length) {a:AV} (ha:∀ s,a.refs s=true->Δ s=true):(mix Δ A B).Ii a=A.Ii a:=by
 cases a with
 |al t s p=>simp only[St.Ii];exact Ai hl (ha s BL) p
 |cut t s p lo hi=>simp only[St.Ii];rw[Ai hl (ha s Yh) p]
 |v b ex=>cases ex<;>rfl
 |_=>rfl
theorem Oy (hl:B.length=A.length) (hA:aN Δ A) {x:Operand} (hx:Ag Δ x=true) (T:TypeId):(mix Δ A B).rd Θ T x=A.rd Θ T x:=by
 unfold St.rd;rw[tT hl hx];cases e:A.jT Θ T x with
 |none=>rfl
 |some a=>exact adr hl (pU hA hx e)
theorem Oz (hl:B.length=A.length) (hA:aN Δ A) {x:Operand} (hx:Ag Δ x=true):(mix Δ A B).y8 Θ x=A.y8 Θ x:=by unfold St.y8;rw[Oy hl hA hx]
theorem fe {b:TV} {ex:List Path}:∀ s,(AV.v b ex).refs s=true->Δ s=true:=λs hs=>by simp[AV.refs] at hs
def Mx (Δ:Nat->Bool) (A B:St) {α:Type} (X Y:Option (α×St)):Prop:=Y=X.map (λq=>(q.1,mix Δ q.2 B))/\∀ q,X=some q->aN Δ q.2/\q.2.length=A.length
theorem az {α:Type}:Mx Δ A B (α:=α) none none:=⟨rfl,λ_ h=>by cases h⟩
theorem pk {α:Type} {c:α} {A1 S1:St} (h:S1=mix Δ A1 B) (hc:aN Δ A1) (hl:A1.length=A.length):Mx Δ A B (some (c,A1)) (some (c,S1)):=⟨by rw[h];rfl,λq hq=>by injection hq with hq;subst hq;exact⟨hc,hl⟩⟩
theorem jV {α:Type} {c:α} {d:Nat} {a:AV} (hl:B.length=A.length) (hB:aN Δ B) {A1:St} (hA:aN Δ A1) (OA:A1.length=A.length) (hd:Δ d=true) (ha:∀ s,a.refs s=true->Δ s=true):
  Mx Δ A B (some (c,A1.put (some d) a)) (some (c,(mix Δ A1 B).put (some d) a)):=pk (Ik (by rw[hl,OA]) hB hd a) (wZ hA hd ha) (by rw[bK,OA])
theorem U1 (hl:B.length=A.length) (hA:aN Δ A) (hB:aN Δ B) {x:Operand} (hx:Ag Δ x=true) {a:AV} (ha:∀ s,a.refs s=true->Δ s=true):Mx Δ A B (A.jL x a) ((mix Δ A B).jL x a):=by
 have FQ:∀ s,AV.dead.refs s=true->Δ s=true:=λs hs=>by simp[AV.refs] at hs
 cases a with
 |v b ex=>
  simp only[St.jL];cases b.m.b5 with
  |true=>exact pk rfl hA rfl
  |false=>
  simp only[cond_false];cases ex with
  |nil=>
   cases x with
   |tmp i=>exact jV hl hB hA rfl hx FQ
   |const c=>exact pk rfl hA rfl
   |func f=>exact pk rfl hA rfl
   |global g=>exact pk rfl hA rfl
  |cons _ _=>cases x<;>exact az
 |al t s p=>
  have hs:=ha s BL;simp only[St.jL];rw[Ai hl hs];cases hp:A.place s p with
  |none=>exact az
  |some b=>
  simp only;cases b.m.b5 with
  |true=>exact pk rfl hA rfl
  |false=>
  simp only[cond_false];cases p with
  |nil=>exact jV hl hB hA rfl hs FQ
  |cons st pp=>
  rw[wY hl hs];cases A.at s with
  |v r ex=>have h1:=LV (CJ hA s) s (st::pp);have l1:B.length=(A.weaken s).length:=(by simp[St.weaken,hl]);have l2:B.length=((A.weaken s).cover s (st::pp)).length:=(by simp[St.weaken,St.cover,hl]);refine pk ?_ (Aq h1 hs fe) (by simp[St.weaken,St.cover]);rw[Kq hl hB hs,U0 l1 hB hs,LS l2 hs]
  |_=>exact az
 |cut t s p lo hi=>
  have hs:=ha s Yh;cases p with
  |cons _ _=>exact az
  |nil=>
  simp only[St.jL];rw[Ai hl hs];split
  ·cases Nat.beq lo 0 with
   |true=>exact jV hl hB hA rfl hs FQ
   |false=>exact az
  exact az
 |_=>exact az
theorem G5 (hl:B.length=A.length) (hA:aN Δ A) (hB:aN Δ B) {x:Operand} (hx:Ag Δ x=true) (T:TypeId):Mx Δ A B (A.take Θ T x) ((mix Δ A B).take Θ T x):=by
 unfold St.take;rw[tT hl hx];cases e:A.jT Θ T x with
 |none=>exact az
 |some a=>exact U1 hl hA hB hx (pU hA hx e)
theorem OB (hB:aN Δ B) {ps:List (Nat×Operand)} (hx:∀ q∈ps,Ag Δ q.2=true):∀ (r:List TypeId) (j:Nat) {A:St},B.length=A.length->aN Δ A->Mx Δ A B (A.parts Θ ps r j) ((mix Δ A B).parts Θ ps r j)
 |[],j,A,hl,hA=>pk rfl hA rfl
 |T::r,j,A,hl,hA=>by
  simp only[St.parts];cases hf:ps.find? (λq=>Nat.beq q.1 j) with
  |some q=>
   simp only;obtain⟨h1,h2⟩:=G5 (Θ:=Θ) hl hA hB (hx q (List.mem_of_find?_eq_some hf)) T;rw[h1];cases ht:A.take Θ T q.2 with
   |none=>exact az
   |some b=>
   obtain⟨b,A1⟩:=b;obtain⟨c1,c2⟩:=h2 _ ht;simp only[Option.map_some];obtain⟨k1,k2⟩:=OB hB hx r (j+1) (by rw[c2,hl]) c1;rw[k1];cases hp:St.parts Θ A1 ps r (j+1) with
   |none=>exact az
   |some l=>obtain⟨d1,d2⟩:=k2 _ hp;exact pk rfl d1 (by rw[d2,c2])
  |none=>
  simp only;cases GO Θ T with
  |none=>exact az
  |some z=>
  simp only;obtain⟨k1,k2⟩:=OB hB hx r (j+1) hl hA;rw[k1];cases hp:St.parts Θ A ps r (j+1) with
  |none=>exact az
  |some l=>obtain⟨d1,d2⟩:=k2 _ hp;exact pk rfl d1 d2
end
end Go.Pv
namespace Go.Pv
open List Int IntKind
variable {h:Hint} {O:n9} {Θ:fA} {hn:Hn} {ops:Array Oper} {ret:aa} {Δ:Nat->Bool} {A B:St}
theorem ae0 (S S':St) (x:Operand) (a:AV):S.copy x a=S'.copy x a:=by cases a<;>rfl
theorem ae1 {x:Operand} (hx:Ag Δ x=true) {a a':AV} (ha:∀ s,a.refs s=true->Δ s=true) (e:A.copy x a=some a'):∀ s,a'.refs s=true->Δ s=true:=λs hs=>by
 cases a with
 |v b ex=>
  simp only[St.copy] at e;cases hk:b.m.b5 with
  |true=>rw[hk] at e;simp only[cond_true,Option.some.injEq] at e;subst e;simp[AV.refs] at hs
  |false=>
  rw[hk] at e;simp only[cond_false] at e;cases x with
  |tmp i=>simp only[Option.some.injEq] at e;subst e;simp only[AV.refs,Nat.beq_eq] at hs;subst hs;exact hx
  |_=>
  simp only at e;split at e
  ·injection e with e;subst e;simp[AV.refs] at hs
  cases e
 |Ih l=>cases e
 |dead=>cases e
 |_=>simp only[St.copy,Option.some.injEq] at e;subst e;exact ha s hs
theorem Wh (hl:B.length=A.length) {x:Operand} {a:AV} (ha:∀ s,a.refs s=true->Δ s=true):(mix Δ A B).JB x a=A.JB x a:=by
 cases a with
 |v b ex=>obtain⟨t,m,y⟩:=b;cases t<;>cases m<;>cases ex<;>rfl
 |al t s p=>
  cases t with
  |ptr t=>simp only[St.JB];rw[w4 hl (ha s BL)]
  |_=>rfl
 |_=>rfl
theorem Rt {x:Operand} (hx:Ag Δ x=true) {a:AV} (ha:∀ s,a.refs s=true->Δ s=true) {t:Ty} {s:Nat} {p:Path} (e:A.JB x a=some (.pl t s p)):Δ s=true:=by
 cases a with
 |v b ex=>
 obtain⟨t',m,y⟩:=b;simp only[St.JB] at e;split at e
 ·rename_i heq;injection heq with h1 h2;split at e
  ·cases e
  ·injection e with e;injection e with _ e _;subst e;exact hx
  cases e
 ·split at e
  ·injection e with e;injection e with _ e _;subst e;exact hx
  cases e
 all_goals first |(rename_i heq;cases heq;done) |(cases e;done)
 |al t' s' p'=>
 simp only[St.JB] at e;split at e
 ·rename_i heq;cases heq
 ·rename_i heq;cases heq
 ·rename_i heq;injection heq with h1 h2 h3;subst h2;split at e
  ·cases e
  ·injection e with e;injection e with _ e _;subst e;exact ha _ BL
  cases e
 ·rename_i heq;cases heq
 cases e
 |ad t' s' p'=>simp only[St.JB,Option.some.injEq,Tgt.pl.injEq] at e;rw[←e.2.1];exact ha _ akv
 |_=>simp[St.JB] at e
theorem abc (hl:B.length=A.length) {g:Tgt} (hg:∀ t s p,g=.pl t s p->Δ s=true):(mix Δ A B).loadAt g=A.loadAt g:=by
 cases g with
 |k a=>rfl
 |pl t s p=>simp only[St.loadAt];rw[w4 hl (hg t s p rfl),Ai hl (hg t s p rfl)]
theorem Yi {g:Tgt} (hg:∀ t s p,g=.pl t s p->Δ s=true) {a:AV} (e:A.loadAt g=some a):∀ s,a.refs s=true->Δ s=true:=λs hs=>by
 cases g with
 |k b=>simp only[St.loadAt,Option.some.injEq] at e;subst e;simp[AV.refs] at hs
 |pl t s' p=>
 simp only[St.loadAt] at e;split at e;case h_2=>cases e
 rename_i b hb;cases hk:b.m.b5 with
 |true=>
 rw[hk] at e;simp only[cond_true] at e;split at e
 ·injection e with e;subst e;simp[AV.refs] at hs
 cases e
 |false=>rw[hk] at e;simp only[cond_false,Option.some.injEq] at e;subst e;simp only[AV.refs,Nat.beq_eq] at hs;subst hs;exact hg _ _ _ rfl
section
variable (hl:B.length=A.length) (hA:aN Δ A) (hB:aN Δ B) {d:Nat} (hd:Δ d=true)
include hl hA hB hd
theorem ae2 (T:TypeId):Mx Δ A B (EC Θ hn A (some d) T) (EC Θ hn (mix Δ A B) (some d) T):=by
 unfold EC;cases GO Θ T with
 |none=>exact az
 |some z=>
 simp only;cases Ki z.t (hn.find (some d) z.m) with
 |true=>exact jV hl hB hA rfl hd fe
 |false=>exact az
theorem agt (T:TypeId) {x:Operand} (hx:Ag Δ x=true):Mx Δ A B (nt Θ A (some d) T x) (nt Θ (mix Δ A B) (some d) T x):=by
 unfold nt;rw[tT hl hx];cases e:A.jT Θ 0 x with
 |none=>exact az
 |some a=>
 simp only;have ha:=pU hA hx e;rw[Wh hl ha];cases et:A.JB x a with
 |none=>exact az
 |some g=>
 simp only;have hg:∀ t s p,g=.pl t s p->Δ s=true:=λt s p eg=>by subst eg;exact Rt hx ha et
 rw[abc hl hg];cases el:A.loadAt g with
 |none=>exact az
 |some r=>
 simp only;cases (X8 g.ty r&&Θ.is T g.ty) with
 |true=>exact jV hl hB hA rfl hd (Yi hg el)
 |false=>exact az
theorem agu (T:TypeId) {x:Operand} (hx:Ag Δ x=true):Mx Δ A B (EB Θ A (some d) T x) (EB Θ (mix Δ A B) (some d) T x):=by
 unfold EB;rw[tT hl hx,lx];have FQ:∀ s,AV.dead.refs s=true->Δ s=true:=λs hs=>by simp[AV.refs] at hs
 cases e:A.jT Θ T x with
 |none=>exact az
 |some a=>
 have ha:=pU hA hx e;cases a with
 |Ih l=>
  cases x with
  |tmp i=>
   simp only;cases (Nat.beq d i|| !Nat.blt d A.length) with
   |true=>exact az
   |false=>simp only[cond_false];have h1:(mix Δ A B).put (some i) .dead=mix Δ (A.put (some i) .dead) B:=Ik hl hB hx .dead;rw[h1];exact jV hl hB (wZ hA hx FQ) (bK _ _ _) hd (λs hs=>by simp[AV.refs] at hs)
  |_=>exact az
 |_=>
 simp only;rw[ae0 (mix Δ A B) A];split
 ·rename_i a' hc;exact jV hl hB hA rfl hd (ae1 hx ha hc)
 exact az
theorem Yj {x:Operand} (hx:Ag Δ x=true) (j:Nat):Mx Δ A B (oJ A (some d) x j) (oJ (mix Δ A B) (some d) x j):=by
 unfold oJ;cases x with
 |tmp i=>
  simp only;rw[wY hl hx];split
  ·rename_i l hi;split
   ·rename_i a ha;cases a.m.b5 with
    |true=>exact jV hl hB hA rfl hd fe
    |false=>
    simp only[cond_false];cases Nat.beq d i with
    |true=>exact az
    |false=>simp only[cond_false];have h1:(mix Δ A B).set i (.Ih (l.set j none))=mix Δ (A.set i (.Ih (l.set j none))) B:=LS hl hx _;rw[h1];exact jV hl hB (Aq hA hx (λs hs=>by simp[AV.refs] at hs)) (by simp) hd fe
   exact az
  exact az
 |_=>exact az
theorem Ru (T:TypeId) (n:Nat) {ps:List (Nat×Operand)} (hx:∀ q∈ps,Ag Δ q.2=true):Mx Δ A B (b6 Θ hn A (some d) T n ps) (b6 Θ hn (mix Δ A B) (some d) T n ps):=by
 unfold b6;split
 ·cases (xB n ps&&Nat.ble n 1800) with
  |false=>exact az
  |true=>
  simp only[cond_true];rename_i t e fs _;obtain⟨k1,k2⟩:=OB (Θ:=Θ) hB hx (List.replicate n e) 0 hl hA;rw[k1];cases hp:St.parts Θ A ps (List.replicate n e) 0 with
  |none=>exact az
  |some q=>
  obtain⟨l,A1⟩:=q;obtain⟨c1,c2⟩:=k2 _ hp;simp only[Option.map_some];cases l with
  |nil=>exact jV hl hB c1 c2 hd fe
  |cons a l=>
  simp only;cases GP t a.m (a::l) with
  |none=>exact az
  |some xs=>exact jV hl hB c1 c2 hd fe
 exact az
theorem abd {ts:List TypeId} {as:List Operand} (hx:∀ x∈as,Ag Δ x=true):Mx Δ A B (dD Θ A (some d) ts as) (dD Θ (mix Δ A B) (some d) ts as):=by
 unfold dD;split
 ·rename_i x y T T';obtain⟨k1,k2⟩:=G5 (Θ:=Θ) hl hA hB (hx x (by simp)) T;rw[k1];cases ht:A.take Θ T x with
  |none=>exact az
  |some q=>
  obtain⟨⟨t,m,xs⟩,A1⟩:=q;obtain⟨c1,c2⟩:=k2 _ ht;have OA:B.length=A1.length:=(by rw[c2,hl]);simp only[Option.map_some];cases t with
  |sl t=>
   cases m with
   |o e tag me=>
    cases hf:Θ.find T with
    |none=>exact az
    |some i=>
    simp only;cases (decide (i.ty=.sl t)&&Nat.beq i.e e&&Θ.is T' (.sl t)) with
    |false=>exact az
    |true=>
    simp only[cond_true];cases me.b5 with
    |true=>
     simp only[cond_true];rw[Oy OA c1 (hx y (by simp))];split
     ·rename_i t' m' ys _;cases m'.UK.b5 with
      |false=>exact az
      |true=>
      simp only[cond_true];split
      ·exact jV hl hB c1 c2 hd fe
      exact az
     exact az
    |false=>
    simp only[cond_false];obtain⟨j1,j2⟩:=G5 (Θ:=Θ) OA c1 hB (hx y (by simp)) T';rw[j1];cases hy:A1.take Θ T' y with
    |none=>exact az
    |some q=>
    obtain⟨⟨t',m',ys⟩,A2⟩:=q;obtain⟨d1,d2⟩:=j2 _ hy;simp only[Option.map_some];cases t' with
    |sl t'=>
    simp only;split
    ·split
     ·exact jV hl hB d1 (by rw[d2,c2]) hd fe
     exact az
    exact az
    |_=>exact az
   |_=>exact az
  |_=>exact az
 exact az
theorem Yk {ts:List TypeId} {as:List Operand} (hx:∀ x∈as,Ag Δ x=true):Mx Δ A B (oK Θ A (some d) ts as) (oK Θ (mix Δ A B) (some d) ts as):=by
 unfold oK;split
 ·rename_i x y T T';rw[tT hl (hx x (by simp))];split
  ·rename_i t s st pp jU;have hs:=pU hA (hx x (by simp)) jU s BL;rw[wY hl hs];split
   ·rename_i r ex iT;split
    ·rename_i t e tag me xs i _ _;cases (decide (i.ty=.sl t)&&Nat.beq i.e e&&Θ.is T' (.sl t)&&me.b5) with
     |false=>exact az
     |true=>
     simp only[cond_true];have l1:B.length=(A.weaken s).length:=by simp[St.weaken,hl]
     have l2:B.length=((A.weaken s).cover s (st::pp)).length:=(by simp[St.weaken,St.cover,hl]);have l3:B.length=(((A.weaken s).cover s (st::pp)).set s (.v r (ex++[st::pp]))).length:=(by simp[St.weaken,St.cover,hl]);have e1:List.set (((mix Δ A B).weaken s).cover s (st::pp)) s (.v r (ex++[st::pp]))=mix Δ (((A.weaken s).cover s (st::pp)).set s (.v r (ex++[st::pp]))) B:=(by rw[Kq hl hB hs,U0 l1 hB hs,LS l2 hs]);have c1:aN Δ (((A.weaken s).cover s (st::pp)).set s (.v r (ex++[st::pp]))):=Aq (LV (CJ hA s) s _) hs fe;rw[e1,Oy l3 c1 (hx y (by simp))];split
     ·rename_i t' m' ys _;cases m'.UK.b5 with
      |false=>exact az
      |true=>
      simp only[cond_true];split
      ·exact jV hl hB c1 (by simp[St.weaken,St.cover]) hd fe
      exact az
     exact az
    exact az
   exact az
  exact az
 exact az
theorem akw (op:BinOp) (T:TypeId) {x y:Operand} (hx:Ag Δ x=true) (hy:Ag Δ y=true):Mx Δ A B (Q7 Θ A (some d) op T x y) (Q7 Θ (mix Δ A B) (some d) op T x y):=by
 unfold Q7;rw[Oy hl hA hx,Oy hl hA hy];have fin:∀ a b:TV,Mx Δ A B (match qJ op a b with
   |some (g,r)=>some (g,A.put (some d) (.v r []))
   |none=>none) (match qJ op a b with
   |some (g,r)=>some (g,(mix Δ A B).put (some d) (.v r []))
   |none=>none):=λa b=>by
  cases qJ op a b with
  |none=>exact az
  |some q=>exact jV hl hB hA rfl hd fe
 cases A.rd Θ T x with
 |none=>exact az
 |some a=>
 cases A.rd Θ T y with
 |none=>exact az
 |some b=>
 simp only;split
 ·cases Θ.is T .bool with
  |true=>exact fin a b
  |false=>exact az
 ·cases Θ.is T a.t with
  |true=>exact fin a b
  |false=>exact az
 exact fin a b
theorem Uj (T:TypeId) {x:Operand} (hx:Ag Δ x=true) (f:Nat):Mx Δ A B (pS Θ A (some d) T x f) (pS Θ (mix Δ A B) (some d) T x f):=by
 unfold pS;rw[tT hl hx];cases e:A.jT Θ 0 x with
 |none=>exact az
 |some a=>
 have ha:=pU hA hx e;cases Θ.find T with
 |none=>exact az
 |some i=>
 simp only;cases Nat.blt f i.fs.length with
 |false=>exact az
 |true=>
 simp only[cond_true];rw[Wh hl ha];cases et:A.JB x a with
 |none=>exact az
 |some g=>
 cases g with
 |k b=>
  obtain⟨t,m,y⟩:=b;simp only;cases decide (i.ty=t) with
  |false=>exact az
  |true=>
  simp only[cond_true];split
  ·exact jV hl hB hA rfl hd fe
  exact az
 |pl t s p=>
 have hs:=Rt hx ha et;simp only;cases decide (i.ty=t) with
 |false=>exact az
 |true=>
 simp only[cond_true];rw[w4 hl hs];split
 ·exact jV hl hB hA rfl hd (λs' h'=>by simp only[AV.refs,Nat.beq_eq] at h';rw[←h'];exact hs)
 exact az
theorem Uk (T:TypeId) {x ix:Operand} (hx:Ag Δ x=true) (hi:Ag Δ ix=true):Mx Δ A B (dC Θ A (some d) T x ix) (dC Θ (mix Δ A B) (some d) T x ix):=by
 unfold dC;rw[tT hl hx,Oz hl hA hi];have hr:∀ {t:Ty} {s:Nat} {p:Path},Δ s=true->∀ s',(AV.ad t s p).refs s'=true->Δ s'=true:=λhs s' h'=>by simp only[AV.refs,Nat.beq_eq] at h';rw[←h'];exact hs
 split
 ·rename_i t m xs ex n jU _;cases Θ.is T (.sl t) with
  |false=>exact az
  |true=>
  simp only[cond_true];split
  ·exact jV hl hB hA rfl hd fe
  ·rename_i j;rw[w4 hl hx];split
   ·exact jV hl hB hA rfl hd (hr hx)
   exact az
  exact az
 ·rename_i t s p n jU _;have hs:=pU hA hx jU s BL;cases Θ.is T (.sl t) with
  |false=>exact az
  |true=>
  simp only[cond_true];rw[w4 hl hs,w4 hl hs];split
  ·exact jV hl hB hA rfl hd fe
  ·split
   ·exact jV hl hB hA rfl hd (hr hs)
   exact az
  exact az
 exact az
theorem Ul (T:TypeId) {l c:Operand} (hx:Ag Δ l=true) (hc:Ag Δ c=true):Mx Δ A B (pT Θ A (some d) T l c) (pT Θ (mix Δ A B) (some d) T l c):=by
 unfold pT;rw[Oz hl hA hx,Oz hl hA hc];split
 ·split
  ·split
   ·exact jV hl hB hA rfl hd fe
   exact az
  exact az
 exact az
theorem Yl (T T':TypeId) {x:Operand} (hx:Ag Δ x=true):Mx Δ A B (qm Θ A (some d) T T' x) (qm Θ (mix Δ A B) (some d) T T' x):=by
 unfold qm;rw[Oy hl hA hx];split
 ·exact jV hl hB hA rfl hd fe
 ·exact jV hl hB hA rfl hd fe
 exact az
end
theorem ae3 (hl:B.length=A.length) (hA:aN Δ A) (hB:aN Δ B) (T:TypeId) {x y:Operand} (hx:Ag Δ x=true) (hy:Ag Δ y=true):Mx Δ A B (tO Θ A T x y) (tO Θ (mix Δ A B) T x y):=by
 unfold tO;rw[tT hl hx];cases e:A.jT Θ 0 x with
 |none=>exact az
 |some a=>
 have ha:=pU hA hx e;simp only;rw[Wh hl ha];cases et:A.JB x a with
 |none=>exact az
 |some g=>
 cases g with
 |k b=>exact az
 |pl t s p=>
 have hs:=Rt hx ha et;simp only;obtain⟨k1,k2⟩:=G5 (Θ:=Θ) hl hA hB hy T;rw[k1];cases ht:A.take Θ T y with
 |none=>exact az
 |some q=>
 obtain⟨b,A1⟩:=q;obtain⟨c1,c2⟩:=k2 _ ht;have OA:B.length=A1.length:=by rw[c2,hl]
 simp only[Option.map_some];cases Θ.is T b.t with
 |false=>exact az
 |true=>
 simp only[cond_true];rw[wY OA hs];cases A1.at s with
 |v r ex=>
  simp only;cases pR b p r.t r.m r.x with
  |none=>exact az
  |some mz=>
  simp only;cases ex.all (λh=>!under h p) with
  |false=>exact az
  |true=>
  simp only[cond_true];have l2:B.length=(A1.weaken s).length:=by simp[St.weaken,OA]
  refine pk ?_ (Aq (CJ c1 s) hs fe) (by simp[St.weaken,c2]);rw[Kq OA hB hs,LS l2 hs]
 |_=>exact az
theorem abe (hl:B.length=A.length) (hA:aN Δ A) (hB:aN Δ B) (T:TypeId) {y:Operand} (hy:Ag Δ y=true) {A1:St} (OA:A1.length=A.length) (hA1:aN Δ A1): ED Θ (mix Δ A B) (mix Δ A1 B) T y=mix Δ (ED Θ A A1 T y) B/\aN Δ (ED Θ A A1 T y)/\(ED Θ A A1 T y).length=A.length:=by
 unfold ED;rw[tT hl hy];split
 ·rename_i t s jU;have hs:=pU hA hy jU s BL;rw[wY hl hs,wY (by rw[hl,OA]) hs];split
  ·rename_i t m xs _ _;cases m.b5 with
   |true=>exact⟨rfl,hA1,OA⟩
   |false=>exact⟨LS (by rw[hl,OA]) hs _,Aq hA1 hs fe,by simp[OA]⟩
  exact⟨rfl,hA1,OA⟩
 exact⟨rfl,hA1,OA⟩
end Go.Pv
namespace Go.Pv
open List Int IntKind
variable {h:Hint} {O:n9} {Θ:fA} {hn:Hn} {ops:Array Oper} {ret:aa} {Δ:Nat->Bool} {A B:St}
theorem OC (hB:aN Δ B):∀ (xs:List Operand) (Ts:List TypeId) (ps:List Pass) {A:St},B.length=A.length->aN Δ A->(∀ x∈xs,Ag Δ x=true)->Mx Δ A B (ph Θ A xs Ts ps) (ph Θ (mix Δ A B) xs Ts ps)
 |[],_,_,A,hl,hA,_=>by simp only[ph];exact pk rfl hA rfl
 |x::xs,[],_,A,hl,hA,_=>by simp only[ph];exact az
 |x::xs,T::Ts,[],A,hl,hA,_=>by simp only[ph];exact az
 |x::xs,T::Ts,p::ps,A,hl,hA,hx=>by
  simp only[ph];cases p with
  |val=>
   simp only;obtain⟨k1,k2⟩:=OC hB xs Ts ps hl hA (λy hy=>hx y (by simp[hy]));rw[k1];cases ht:ph Θ A xs Ts ps with
   |none=>exact az
   |some q=>obtain⟨c1,c2⟩:=k2 _ ht;exact pk rfl c1 c2
  |take=>
   simp only;obtain⟨j1,j2⟩:=G5 (Θ:=Θ) hl hA hB (hx x (by simp)) T;rw[j1];cases hk:A.take Θ T x with
   |none=>exact az
   |some q=>
   obtain⟨a,A1⟩:=q;obtain⟨d1,d2⟩:=j2 _ hk;simp only[Option.map_some];obtain⟨k1,k2⟩:=OC hB xs Ts ps (by rw[d2,hl]) d1 (λy hy=>hx y (by simp[hy]));rw[k1];cases ht:ph Θ A1 xs Ts ps with
   |none=>exact az
   |some q=>obtain⟨c1,c2⟩:=k2 _ ht;exact pk rfl c1 (by rw[c2,d2])
  |Al=>exact az
theorem Rv (hl:B.length=A.length):∀ {fc:List V6},(∀ c∈fc,∀ t s p,c=.pl t s p->Δ s=true)->EJ (mix Δ A B) fc=EJ A fc
 |[],_=>rfl
 |c::r,hc=>by
  simp only[EJ];rw[Rv hl (λc' h'=>hc c' (by simp[h']))];have:UM (mix Δ A B) c=UM A c:=by
   cases c with
   |pl t s p=>simp only[UM];rw[Ai hl (hc _ (by simp) t s p rfl)]
   |kv a=>rfl
  rw[this]
theorem OD (hl:B.length=A.length) (hA:aN Δ A):∀ (xs:List Operand) (Ts:List TypeId) (l:List (Option TV)),(∀ x∈xs,Ag Δ x=true)->reads Θ (mix Δ A B) xs Ts l=reads Θ A xs Ts l
 |[],_,_,_=>by simp[reads]
 |x::xs,[],_,_=>by simp[reads]
 |x::xs,T::Ts,[],_=>by simp[reads]
 |x::xs,T::Ts,p::ps,hx=>by
  simp only[reads];rw[OD hl hA xs Ts ps (λy hy=>hx y (by simp[hy])),tT hl (hx x (by simp))];cases p with
  |some a=>rfl
  |none=>
  simp only;cases e:A.jT Θ T x with
  |none=>rfl
  |some a=>
  have ha:=pU hA (hx x (by simp)) e;cases a with
  |vY f fc=>
  simp only;rw[Rv hl (λc hc t s p ec=>ha s (by
   simp only[AV.refs,List.any_eq_true]
   exact⟨c,hc,by rw[ec];simp⟩))]
  |_=>simp only;rw[adr hl ha]
theorem ae4 (hl:B.length=A.length) {x:Operand} (hx:Ag Δ x=true):JD (mix Δ A B) x=JD A x:=by
 cases x with
 |tmp i=>simp only[JD];rw[wY hl hx]
 |_=>rfl
theorem OE (hl:B.length=A.length):∀ (xs:List Operand) (l:List (Option TV)) (as:List Arg),(∀ x∈xs,Ag Δ x=true)->rn (mix Δ A B) xs l as=rn A xs l as
 |[],_,_,_=>rfl
 |x::xs,[],_,_=>rfl
 |x::xs,p::ps,[],_=>rfl
 |x::xs,p::ps,r::rs,hx=>by simp only[rn,OE hl xs ps rs (λy hy=>hx y (by simp[hy])),ae4 hl (hx x (by simp))]
def agv (Δ:Nat->Bool) (A B:St) (K K':St->Option aa):Prop:=∀ A1,aN Δ A1->A1.length=A.length->K' (mix Δ A1 B)=K A1
theorem LW (l:List TV):∀ s,(UN l).refs s=true->Δ s=true:=λs hs=>by rw[Ro] at hs;cases hs
theorem agw (hl:B.length=A.length) (hA:aN Δ A) (hB:aN Δ B) {o:Oper} {d:Nat} (xZ:o.dst=some d) (hd:Δ d=true) {f:FuncId} {as:List Operand} {ts:List TypeId} (hx:∀ x∈as,Ag Δ x=true) {K K':St->Option aa} (hK:agv Δ A B K K'): qX h O o f none as ts (mix Δ A B) K'=qX h O o f none as ts A K:=by
 unfold qX;obtain⟨k1,k2⟩:=OC (Θ:=h.tab) hB as ts (O.sig f) hl hA hx;rw[k1];cases ht:ph h.tab A as ts (O.sig f) with
 |none=>rfl
 |some q=>
 obtain⟨l,A1⟩:=q;obtain⟨c1,c2⟩:=k2 _ ht;have OA:B.length=A1.length:=by rw[c2,hl]
 simp only[Option.map_some,GV];rw[OD OA c1 as ts l hx];cases reads h.tab A1 as ts l with
 |none=>rfl
 |some args=>
 simp only;congr 1;funext rt;cases rt.refs with
 |cons _ _=>rfl
 |nil=>simp only;rw[OE OA as l args hx,xZ,Ik OA hB hd];rw[hK _ (wZ c1 hd (LW _)) (by rw[bK,c2])]
theorem abf (hl:B.length=A.length) (hA:aN Δ A) (hB:aN Δ B) {s:Nat} (hs:Δ s=true) (b:TV) (p:Path):(mix Δ A B).EK s b p=(A.EK s b p).map (λS=>mix Δ S B)/\∀ S,A.EK s b p=some S->aN Δ S/\S.length=A.length:=by
 cases p with
 |nil=>simp only[St.EK];refine⟨by rw[Ik hl hB hs];rfl,λS e=>?_⟩;injection e with e;subst e;exact⟨wZ hA hs fe,bK _ _ _⟩
 |cons st pp=>
 simp only[St.EK];rw[wY hl hs];cases A.at s with
 |v r ex=>
  simp only;cases pR b (st::pp) r.t r.m r.x with
  |none=>exact⟨rfl,λ_ e=>by cases e⟩
  |some q=>simp only;refine⟨by rw[Ik hl hB hs];rfl,λS e=>?_⟩;injection e with e;subst e;exact⟨wZ hA hs fe,bK _ _ _⟩
 |_=>exact⟨rfl,λ_ e=>by cases e⟩
theorem agx {S S2:St} (hl:S2.length=S.length) {f:AV->AV->AV} (hf:f .dead .dead=.dead) (i:Nat):St.at (List.zipWith f S S2) i=f (S.at i) (S2.at i):=by
 by_cases hi:i<S.length
 ·unfold St.at;rw[List.getD_eq_getElem?_getD,List.getD_eq_getElem?_getD,List.getD_eq_getElem?_getD,List.getElem?_zipWith,List.getElem?_eq_getElem hi,List.getElem?_eq_getElem (by omega:i<S2.length)];rfl
 rw[FT (S:=S) (by omega),FT (S:=S2) (by omega),FT (by rw[List.length_zipWith];omega),hf]
theorem U2 {S S2:St} {s:Nat} (hl:S2.length=S.length):(S.again S2 s).length=S.length:=by
 unfold St.again;split
 ·rw[List.length_zipWith];omega
 exact hl
theorem Wi {S S2:St} {s:Nat} (hl:S2.length=S.length) (hS:aN Δ S) (h2:aN Δ S2):aN Δ (S.again S2 s):=λi k hk=>by
 rcases again_at (s:=s) hl i with hx |⟨t,r,ex,ha,_,_,_,hx⟩
 ·rw[hx] at hk;exact h2 i k hk
 rw[hx] at hk;exact hS i k (by rw[ha];exact hk)
theorem ae5 {A2:St} (hl:B.length=A.length) (hl2:A2.length=A.length) {s:Nat} (hs:Δ s=true):(mix Δ A B).again (mix Δ A2 B) s=mix Δ (A.again A2 s) B:=by
 unfold St.again;rw[wY (by omega) hs];cases hA2:A2.at s with
 |v r ex=>
  simp only;refine yF (by simp only[List.length_zipWith,lx]) λi=>?_;rw[agx (by rw[lx,lx,hl2]) rfl,qZ hl,qZ (A:=A2) (by omega),qZ (A:=List.zipWith (Og s r.t) A A2) (by rw[List.length_zipWith];omega)];cases Δ i with
  |true=>simp only[cond_true];rw[agx hl2 rfl]
  |false=>simp only[cond_false];unfold Og;split<;>first |rfl |(rename_i h1 h2;rw[h1] at h2;cases h2)
 |_=>rfl
theorem agy (hl:B.length=A.length) (hA:aN Δ A) (hB:aN Δ B) {o:Oper} {d:Nat} (xZ:o.dst=some d) (hd:Δ d=true) {f:FuncId} {j:Nat} {as:List Operand} {ts:List TypeId} (hx:∀ x∈as,Ag Δ x=true) {K K':St->Option aa} (hK:agv Δ A B K K'): GX h O o f j as ts (mix Δ A B) K'=GX h O o f j as ts A K:=by
 unfold GX;split;case h_2=>rfl
 rename_i x T hxj _;have hxx:=hx x (List.mem_of_getElem? hxj);rw[tT hl hxx];cases e:A.jT h.tab T x with
 |none=>rfl
 |some av=>
 simp only;have ha:=pU hA hxx e;obtain⟨k1,k2⟩:=U1 hl hA hB hxx ha;rw[k1];cases hp:wW x av with
 |none=>cases A.jL x av<;>rfl
 |some sp=>
 obtain⟨s,p⟩:=sp;have hs:Δ s=true:=by
  cases av with
  |v b ex=>
   cases x with
   |tmp i=>simp only[wW,Option.some.injEq,Prod.mk.injEq] at hp;rw[←hp.1];exact hxx
   |_=>simp[wW] at hp
  |al t s' p'=>simp only[wW,Option.some.injEq,Prod.mk.injEq] at hp;rw[←hp.1];exact ha _ BL
  |_=>simp[wW] at hp
 cases ht:A.jL x av with
 |none=>rfl
 |some q=>
 obtain⟨b,A1⟩:=q;obtain⟨c1,c2⟩:=k2 _ ht;have OA:B.length=A1.length:=by rw[c2,hl]
 simp only[Option.map_some];cases (!b.m.b5&&mH b.t b.m) with
 |false=>rfl
 |true=>
 simp only[cond_true];rw[OD OA c1 as ts _ hx];cases reads h.tab A1 as ts ((List.replicate as.length none).set j (some ⟨b.t,qY b.t b.m 0,b.x⟩)) with
 |none=>rfl
 |some args=>
 simp only;rw[OE OA as _ args hx];cases (GW b.t b.m||rn A1 as ((List.replicate as.length none).set j (some ⟨b.t,qY b.t b.m 0,b.x⟩)) args) with
 |false=>rfl
 |true=>
 simp only[cond_true];congr 1;funext rt;split;case h_2=>rfl
 rename_i c _;cases (rt.res.all λd=>BH d.m&&(oa d.t d.m||rn A1 as ((List.replicate as.length none).set j (some ⟨b.t,qY b.t b.m 0,b.x⟩)) args)) with
 |false=>rfl
 |true=>
 simp only[cond_true];split;case isFalse=>rfl
 split;case isFalse=>rfl
 obtain⟨r1,r2⟩:=abf OA c1 hB hs ⟨b.t,b.m,lR b.t b.m b.x (‹c.t=b.t›▸c.x)⟩ p;rw[r1];cases hr:A1.EK s ⟨b.t,b.m,lR b.t b.m b.x (‹c.t=b.t›▸c.x)⟩ p with
 |none=>rfl
 |some A2=>obtain⟨d1,d2⟩:=r2 _ hr;simp only[Option.map_some];rw[ae5 hl (by rw[d2,c2]) hs,xZ,Ik (by rw[U2 (by rw[d2,c2]),hl]) hB hd];exact hK _ (wZ (Wi (by rw[d2,c2]) hA d1) hd (LW _)) (by rw[bK,U2 (by rw[d2,c2])])
theorem C8 (hl:B.length=A.length) (hA:aN Δ A) (hB:aN Δ B) {i:Nat} {o:Oper} (ho:ops[i]?=some o) (ht:mr Δ o=true) {K K':St->Option aa} (hK:agv Δ A B K K'): aW h O ops i (mix Δ A B) K'=aW h O ops i A K:=by
 unfold mr at ht;simp only[Bool.and_eq_true] at ht;obtain⟨⟨hg,hd⟩,hx⟩:=ht;have hg:o.guard=none:=by
  cases hq:o.guard with
  |none=>rfl
  |some _=>rw[hq] at hg;cases hg
 by_cases cP:∃ T x y,o.op=.store T x y
 ·obtain⟨T,x,y,cw⟩:=cP;have hdn:o.dst=none:=by
   cases hq:o.dst with
   |none=>rfl
   |some d=>unfold akp at hd;rw[hq,cw] at hd;cases hd
  rw[cw] at hx;simp only[Bool.and_eq_true] at hx;have e1:∀ S K,aW h O ops i S K=match tO h.tab S T x y with
    |some (g,S1)=>bif g then K (ED h.tab S S1 T y) else none
    |none=>none:=λS K=>by
   unfold aW
   rw[ho]
   simp only[hg]
   unfold qs
   rw[cw]
   simp only[ev,cw,hdn]
   cases tO h.tab S T x y with
   |none=>rfl
   |some q=>rfl
  have hm:=ae3 (Θ:=h.tab) hl hA hB T hx.1 hx.2;rw[e1,e1,hm.1];cases he:tO h.tab A T x y with
  |none=>rfl
  |some q=>obtain⟨g,A1⟩:=q;obtain⟨c1,c2⟩:=hm.2 _ he;simp only[Option.map_some];obtain⟨s1,s2,s3⟩:=abe (Θ:=h.tab) (A1:=A1) hl hA hB T hx.2 c2 c1;rw[s1,hK _ s2 s3]
 obtain⟨d,xZ⟩:∃ d,o.dst=some d:=by
  cases hq:o.dst with
  |none=>
   exfalso;cases cw:o.op with
   |store T x y=>exact cP ⟨T,x,y,cw⟩
   |_=>simp[akp,hq,cw] at hd
  |some d=>exact⟨d,rfl⟩
 have hd:Δ d=true:=by
  cases cw:o.op with
  |store T x y=>exact absurd ⟨T,x,y,cw⟩ cP
  |_=>simpa[akp,xZ,cw] using hd
 have key:∀ {Uc:St->JC},Mx Δ A B (Uc A) (Uc (mix Δ A B))->(∀ S K,aW h O ops i S K=match Uc S with
   |some (g,S1)=>bif g then K S1 else none
   |none=>none)->aW h O ops i (mix Δ A B) K'=aW h O ops i A K:=by
  intro Uc hm hs
  rw[hs,hs,hm.1]
  cases he:Uc A with
  |none=>rfl
  |some q=>
   obtain⟨g,A1⟩:=q
   obtain⟨c1,c2⟩:=hm.2 _ he
   simp only[Option.map_some]
   rw[hK A1 c1 c2]
 have Wj:∀ S K,aW h O ops i S K=qs h O o S K:=λS K=>by unfold aW;rw[ho];simp only[hg]
 split at hx
 ·rename_i T x y cw;exact absurd ⟨T,x,y,cw⟩ cP
 ·rename_i T l c cw;simp only[Bool.and_eq_true] at hx;refine key (Uc:=λS=>pT h.tab S (some d) T l c) (Ul hl hA hB hd T hx.1 hx.2) λS K=>?_;rw[Wj];unfold qs;rw[cw];simp only[ev,cw,xZ];try rfl
 ·rename_i T cw;refine key (Uc:=λS=>EC h.tab h.hn S (some d) T) (ae2 hl hA hB hd T) λS K=>?_;rw[Wj];unfold qs;rw[cw];simp only[ev,cw,xZ];try rfl
 ·rename_i T n ps cw;refine key (Uc:=λS=>b6 h.tab h.hn S (some d) T n ps.toList) (Ru hl hA hB hd T n (List.all_eq_true.1 hx)) λS K=>?_;rw[Wj];unfold qs;rw[cw];simp only[ev,cw,xZ];try rfl
 ·rename_i T x cw;refine key (Uc:=λS=>nt h.tab S (some d) T x) (agt hl hA hB hd T hx) λS K=>?_;rw[Wj];unfold qs;rw[cw];simp only[ev,cw,xZ];try rfl
 ·rename_i x cw;refine key (Uc:=λS=>EB h.tab S (some d) o.type x) (agu hl hA hB hd _ hx) λS K=>?_;rw[Wj];unfold qs;rw[cw];simp only[ev,cw,xZ];try rfl
 ·rename_i x j cw;refine key (Uc:=λS=>oJ S (some d) x j) (Yj hl hA hB hd hx j) λS K=>?_;rw[Wj];unfold qs;rw[cw];simp only[ev,cw,xZ];try rfl
 ·rename_i op T x y T' cw;simp only[Bool.and_eq_true,Bool.not_eq_true'] at hx;obtain⟨h1,h2,h3⟩:=hx;refine key (Uc:=λS=>Q7 h.tab S (some d) op T x y) (akw hl hA hB hd op T h1 h2) λS K=>?_;rw[Wj];unfold qs;split
  ·rename_i e;rw[cw] at e;cases e
  ·rename_i e;rw[cw] at e;cases e
  ·rename_i e;rw[cw] at e;rw[cw] at h3;injection e with e1 e2 e3 e4 e5;subst e4;simp[EL] at h3
  ·rename_i e;rw[cw] at e;rw[cw] at h3;injection e with e1 e2 e3 e4 e5;subst e4;simp[EL] at h3
  simp only[ev,cw,xZ];try rfl
 ·rename_i T x f cw;refine key (Uc:=λS=>pS h.tab S (some d) T x f) (Uj hl hA hB hd T hx f) λS K=>?_;rw[Wj];unfold qs;rw[cw];simp only[ev,cw,xZ];try rfl
 ·rename_i T x ix cw;simp only[Bool.and_eq_true] at hx;refine key (Uc:=λS=>dC h.tab S (some d) T x ix) (Uk hl hA hB hd T hx.1 hx.2) λS K=>?_;rw[Wj];unfold qs;rw[cw];simp only[ev,cw,xZ];try rfl
 ·rename_i T T' x cw;refine key (Uc:=λS=>qm h.tab S (some d) T T' x) (Yl hl hA hB hd T T' hx) λS K=>?_;rw[Wj];unfold qs;rw[cw];simp only[ev,cw,xZ];try rfl
 ·rename_i as ts cw;have GM:=List.all_eq_true.1 hx;refine key (Uc:=λS=>match dD h.tab S (some d) ts.toList as.toList with
   |some r=>some r
   |none=>oK h.tab S (some d) ts.toList as.toList) ?_ λS K=>?_
  ·have h1:=abd (Θ:=h.tab) (ts:=ts.toList) hl hA hB hd GM;have h2:=Yk (Θ:=h.tab) (ts:=ts.toList) hl hA hB hd GM;refine⟨?_,λq hq=>?_⟩
   ·show(match dD h.tab (mix Δ A B) (some d) ts.toList as.toList with
     |some r=>some r
     |none=>oK h.tab (mix Δ A B) (some d) ts.toList as.toList)=_
    rw[h1.1];cases dD h.tab A (some d) ts.toList as.toList with
    |none=>exact h2.1
    |some r=>rfl
   split at hq
   ·rename_i r hr;injection hq with hq;subst hq;exact h1.2 _ hr
   exact h2.2 _ hq
  rw[Wj];unfold qs;rw[cw];simp only[ev,cw,xZ];try rfl
 ·rename_i f as ts cw;have GM:=List.all_eq_true.1 hx;rw[Wj,Wj];unfold qs;rw[cw];simp only;cases Kl (O.sig f) 0 with
  |none=>exact agw hl hA hB xZ hd GM hK
  |some j=>exact agy hl hA hB xZ hd GM hK
 cases hx
end Go.Pv
namespace Go.Pv
open List Int IntKind
variable {h:Hint} {O:n9} {Θ:fA} {ops:Array Oper} {ret:aa} {Δ:Nat->Bool} {A B S:St} {K:St->Option aa}
theorem U3 {o:Oper} (ht:mr Δ o=true):EL o.op=false:=by unfold mr at ht;simp only[Bool.and_eq_true] at ht;have hx:=ht.2;split at hx;all_goals first |(rename_i cw;rw[cw];rfl) |(simp only[Bool.and_eq_true,Bool.not_eq_true'] at hx;exact hx.2.2) |cases hx
theorem abg (hl:B.length=A.length) (hA:aN Δ A) (hB:aN Δ B):aN Δ (mix Δ A B):=λi s hs=>by
 rw[qZ hl] at hs;cases hi:Δ i with
 |true=>rw[hi] at hs;rw[←hi];exact hA i s hs
 |false=>rw[hi] at hs;rw[←hi];exact hB i s hs
theorem Ym (d:List Nat):(λi=>!aeS d i)=Km d:=by funext i;simp[aeS]
theorem Kr {d:List Nat}:aN (aeS d) S↔aN (Km d) S:=
 ⟨λh=>by have:=h.not;rwa [Ym] at this,λh=>h.not⟩
theorem Rw (hS:aN Δ S) {i:Nat} {o:Oper} (ho:ops[i]?=some o) (ht:mr Δ o=true) (c:St->Bool) (hc:∀ X,aN Δ X->c X=true): aW h O ops i S K=aW h O ops i S (λX=>bif c X then K X else none):=by
 have h1:=C8 (h:=h) (O:=O) (A:=S) (B:=S) rfl hS hS ho ht (K:=λA1=>open Classical in if aN Δ A1 then K (mix Δ A1 S) else none) (K':=K) (λA1 hA hl=>(if_pos hA).symm);have h2:=C8 (h:=h) (O:=O) (A:=S) (B:=S) rfl hS hS ho ht (K:=λA1=>open Classical in if aN Δ A1 then K (mix Δ A1 S) else none) (K':=λX=>bif c X then K X else none) (λA1 hA hl=>by
  show(bif c (mix Δ A1 S) then K (mix Δ A1 S) else none)=open Classical in if aN Δ A1 then K (mix Δ A1 S) else none
  rw[if_pos hA,hc _ (abg (by rw[hl]) hA hS)];rfl)
 rw[Rs] at h1 h2;rw[h1,h2]
theorem Yn (hS:aN Δ S) {i:Nat} {o:Oper} (ho:ops[i]?=some o) (ht:mr Δ o=true): aW h O ops i S K=aW h O ops i S (λX=>bif Nat.beq X.length S.length then K X else none):=by
 have h1:=C8 (h:=h) (O:=O) (A:=S) (B:=S) rfl hS hS ho ht (K:=λA1=>K (mix Δ A1 S)) (K':=K) (λA1 hA hl=>rfl);have h2:=C8 (h:=h) (O:=O) (A:=S) (B:=S) rfl hS hS ho ht (K:=λA1=>K (mix Δ A1 S)) (K':=λX=>bif Nat.beq X.length S.length then K X else none) (λA1 hA hl=>by
  show(bif Nat.beq (mix Δ A1 S).length S.length then K (mix Δ A1 S) else none)=K (mix Δ A1 S)
  rw[lx,hl,Nat.beq_refl];rfl)
 rw[Rs] at h1 h2;rw[h1,h2]
theorem U4 (hS:aN Δ S) {i j:Nat} {oi oj:Oper} (hi:ops[i]?=some oi) (hj:ops[j]?=some oj) (ti:mr Δ oi=true) (tj:mr (λi=>!Δ i) oj=true): aW h O ops i S (λS1=>aW h O ops j S1 K)=aW h O ops i S (λA1=>aW h O ops j S (λB1=>K (mix Δ A1 B1))):=by
 have h1:=C8 (h:=h) (O:=O) (A:=S) (B:=S) rfl hS hS hi ti (K':=λS1=>aW h O ops j S1 K) (K:=λA1=>aW h O ops j S (λB1=>K (mix Δ A1 B1))) (λA1 hA hl=>by
  have h2:=C8 (h:=h) (O:=O) (Δ:=λi=>!Δ i) (A:=S) (B:=A1) hl hS.not hA.not hj tj (K':=K) (K:=λB1=>K (mix Δ A1 B1)) (λB1 hB hlB=>by rw[Wg (by rw[hl,hlB])])
  rw[Wg (by rw[hl])] at h2
  exact h2)
 rw[Rs] at h1;exact h1
theorem Rx (hO:C4 O) (hS:aN Δ S) {i j:Nat} {oi oj:Oper} (hi:ops[i]?=some oi) (hj:ops[j]?=some oj) (ti:mr Δ oi=true) (tj:mr (λi=>!Δ i) oj=true):
  aW h O ops i S (λS1=>aW h O ops j S1 K)=aW h O ops j S (λS1=>aW h O ops i S1 K):=by
 have tn:(λi=>!(!Δ i))=Δ:=by funext i;simp
 rw[U4 hS hi hj ti tj,U4 (Δ:=λi=>!Δ i) hS.not hj hi tj (by rw[tn];exact ti)]
 obtain⟨ri,h1⟩:=sw (h:=h) (O:=O) (ops:=ops) hO i (λo ho=>by rw[hi] at ho;injection ho with ho;subst ho;exact U3 ti) S
 obtain⟨rj,h2⟩:=sw (h:=h) (O:=O) (ops:=ops) hO j (λo ho=>by rw[hj] at ho;injection ho with ho;subst ho;exact U3 tj) S
 -- the lengths are the same
 have l1:=λK=>Yn (h:=h) (O:=O) (K:=K) hS hi ti
 have l2:=λK=>Yn (h:=h) (O:=O) (K:=K) hS.not hj tj
 cases ri with
 |none=>simp only[h1,h2,Option.bind_none];cases rj<;>rfl
 |some A1=>
  cases rj with
  |none=>simp only[h1,h2,Option.bind_none,Option.bind_some]
  |some B1=>
   simp only[h1,h2,Option.bind_some] at l1 l2 ⊢
   have hA:A1.length=S.length:=by
    have:=l1 (λ_=>some ⟨[],[]⟩)
    cases hq:Nat.beq A1.length S.length with
    |true=>exact Nat.eq_of_beq_eq_true hq
    |false=>rw[hq] at this;cases this
   have hB:B1.length=S.length:=by
    have:=l2 (λ_=>some ⟨[],[]⟩)
    cases hq:Nat.beq B1.length S.length with
    |true=>exact Nat.eq_of_beq_eq_true hq
    |false=>rw[hq] at this;cases this
   rw[Wg (by rw[hA,hB])]
theorem ae6 {S:St} {d:Nat} {a:AV} (h:S.at d=a) (hd:a≠ .dead):S.set d a=S:=by
 refine yF (List.length_set) λi=>?_;rw[eH];split
 ·rename_i hi;rw[hi.1,h]
 rfl
theorem put_comm {S:St} {a b:Nat} {u v:AV} (G6:a≠b) (hu:∀ d,u.refs d=false) (hv:∀ d,v.refs d=false):(S.put (some a) u).put (some b) v=(S.put (some b) v).put (some a) u:=by
 refine yF (by simp only[bK]) λi=>?_;have hV:∀ (S:St) (a b:Nat) (u:AV),a≠b->((S.put (some a) u).at b).LG=(S.at b).LG:=λS a b u G6=>by
  rw[iA,if_neg (λe=>G6 e.1.symm)];cases hr:(S.at b).refs a with
  |false=>rfl
  |true=>
  have:(S.at b).LG=false:=(by cases hx:S.at b<;>first |rfl |(rw[hx] at hr;simp[AV.refs] at hr));rw[this];cases (S.at a).LG with
  |true=>rfl
  |false=>exact this
 simp only[iA,bK,hu,hv,cond_false];have hVa:=hV S b a v (Ne.symm G6);have hVb:=hV S a b u G6;simp only[iA,hu,hv,cond_false] at hVa hVb;rw[hVa,hVb];by_cases h1:i=a
 ·subst h1;by_cases hl:i<S.length
  ·rw[if_neg (λe=>G6 e.1),if_pos ⟨rfl,hl⟩,if_pos ⟨rfl,hl⟩,hu];rfl
  rw[if_neg (λe=>G6 e.1),if_neg (λe=>hl e.2),if_neg (λe=>hl e.2),if_neg (λe=>G6 e.1),FT (S:=S) (i:=i) (by omega)];simp[AV.refs]
 by_cases h2:i=b
 ·subst h2;by_cases hl:i<S.length
  ·rw[if_pos ⟨rfl,hl⟩,if_neg (λe=>h1 e.1),if_pos ⟨rfl,hl⟩,hv];rfl
  rw[if_neg (λe=>hl e.2),if_neg (λe=>h1 e.1),if_neg (λe=>h1 e.1),if_neg (λe=>hl e.2),FT (S:=S) (i:=i) (by omega)];simp[AV.refs]
 rw[if_neg (λe=>h2 e.1),if_neg (λe=>h1 e.1),if_neg (λe=>h1 e.1),if_neg (λe=>h2 e.1)];have dr:∀ d,AV.dead.refs d=false:=λ_=>rfl;cases hra:(S.at i).refs a<;>cases hrb:(S.at i).refs b<;>cases (S.at a).LG<;>cases (S.at b).LG<;>simp only[hra,hrb,dr,Bool.and_true,Bool.and_false,Bool.true_and,Bool.false_and,cond_true,cond_false]
theorem LX {S:St} {a x:Nat} {u t:AV} (hax:a≠x) (ht:∀ d,t.refs d=false) (hx:∀ d,(S.at x).refs d=false):List.set (S.put (some a) u) x t=St.put (S.set x t) (some a) u:=by
 refine yF (by simp only[bK,List.length_set]) λi=>?_;have h1:(St.at (S.set x t) a).LG=(S.at a).LG:=by rw[eH,if_neg (λe=>hax e.1)]
 rw[eH,bK,iA,iA,List.length_set,h1];by_cases hi:i=x/\x<S.length
 ·rw[if_pos hi,if_neg (λe=>hax (e.1.symm.trans hi.1)),eH,if_pos hi,ht];rfl
 rw[if_neg hi,eH,if_neg hi]
theorem ads {i:Nat} {o:Oper} {a x p:Nat} (ho:ops[i]?=some o) (hg:o.guard=none) (hd:o.dst=some a) (cw:o.op=.extract (.tmp x) p) (S:St) (K:St->Option aa):aW h O ops i S K=match oJ S (some a) (.tmp x) p with
  |some (g,S1)=>bif g then K S1 else none
  |none=>none:=by
 unfold aW
 rw[ho]
 simp only[hg]
 unfold qs
 rw[cw]
 simp only[ev,cw,hd]
 try rfl
theorem akx {i j:Nat} {oi oj:Oper} (hi:ops[i]?=some oi) (hj:ops[j]?=some oj) (hx:exB oi oj=true) (S:St) (K:St->Option aa):
  aW h O ops i S (λS1=>aW h O ops j S1 K)=aW h O ops j S (λS1=>aW h O ops i S1 K):=by
 unfold exB at hx
 split at hx
 case h_2=>cases hx
 rename_i a b x p y q g1 g2 d1 d2 o1 o2
 simp only[Bool.and_eq_true,Bool.not_eq_true'] at hx
 obtain⟨e1,e2,e3,e4,e5⟩:=hx
 have e1:=Nat.eq_of_beq_eq_true e1
 subst e1
 have e2:p≠q:=λe=>by rw[e,Nat.beq_refl] at e2;cases e2
 have e3:a≠b:=λe=>by rw[e,Nat.beq_refl] at e3;cases e3
 have e4:a≠x:=λe=>by rw[e,Nat.beq_refl] at e4;cases e4
 have e5:b≠x:=λe=>by rw[e,Nat.beq_refl] at e5;cases e5
 have bf:∀ {a x:Nat},a≠x->Nat.beq a x=false:=λ{a x} wU=>by
  cases hq:Nat.beq a x with
  |false=>rfl
  |true=>exact absurd (Nat.eq_of_beq_eq_true hq) wU
 -- one extraction,on its own
 have one:∀ (S:St) (a p:Nat),a≠x->oJ S (some a) (.tmp x) p=match S.at x with
   | .Ih l=>(match l.getD p none with
    |some u=>some (true,St.put (S.set x (.Ih (bif u.m.b5 then l else l.set p none))) (some a) (.v u []))
    |none=>none)
   |_=>none:=λS a p hax=>by
  unfold oJ
  simp only
  cases iT:S.at x with
  |Ih l=>
   simp only
   cases l.getD p none with
   |none=>rfl
   |some u=>
    simp only
    cases u.m.b5 with
    |true=>simp only[cond_true];rw[ae6 iT (λe=>by cases e)]
    |false=>simp only[cond_false,bf hax]
  |_=>rfl
 simp only[ads hi g1 d1 o1,ads hj g2 d2 o2,one _ _ _ e4,one _ _ _ e5]
 cases iT:S.at x with
 |Ih l=>
  simp only
  have hxl:x<S.length:=by
   refine Classical.byContradiction λhl=>?_
   rw[FT (S:=S) (i:=x) (Nat.le_of_not_lt hl)] at iT
   cases iT
  -- the tuple,behind the first
  have after:∀ (t:AV) (u:TV) (a:Nat),(∀ d,t.refs d=false)->a≠x->(St.put (S.set x t) (some a) (.v u [])).at x=t:=λt u a ht hax=>by
   rw[iA,if_neg (λe=>hax e.1.symm),eH,if_pos ⟨rfl,hxl⟩,ht];rfl
  have CL:∀ (l:List (Option TV)) (p q:Nat) (c:Bool),p≠q->(bif c then l else l.set p none).getD q none=l.getD q none:=λl p q c hpq=>by
   cases c with
   |true=>rfl
   |false=>simp only[cond_false,List.getD_eq_getElem?_getD];rw[List.getElem?_set_ne hpq]
  have Yo:∀ (l:List (Option TV)) (d:Nat),(AV.Ih l).refs d=false:=λ_ _=>rfl
  have nv:∀ (b:TV) (d:Nat),(AV.v b []).refs d=false:=λ_ _=>rfl
  cases hp:l.getD p none with
  |none=>
   cases hq:l.getD q none with
   |none=>rfl
   |some w=>
    simp only[cond_true,after _ _ _ (Yo _) e5,CL _ _ _ _ (Ne.symm e2),hp]
  |some u=>
   cases hq:l.getD q none with
   |none=>simp only[cond_true,after _ _ _ (Yo _) e4,CL _ _ _ _ e2,hq]
   |some w=>
    simp only[cond_true,after _ _ _ (Yo _) e4,after _ _ _ (Yo _) e5,CL _ _ _ _ e2,CL _ _ _ _ (Ne.symm e2),hp,hq]
    congr 1
    rw[LX e4 (Yo _) (by rw[eH,if_pos ⟨rfl,hxl⟩];exact Yo _),LX e5 (Yo _) (by rw[eH,if_pos ⟨rfl,hxl⟩];exact Yo _),List.set_set,List.set_set,put_comm e3 (nv _) (nv _)]
    congr 3
    cases u.m.b5<;>cases w.m.b5<;>simp only[cond_true,cond_false]
    rw[List.set_comm _ _ e2]
 |_=>rfl
theorem Ar {ds:List (List Nat)}:An ds S=true↔∀ d∈ds,aN (Km d) S:=by unfold An;rw[List.all_eq_true];exact⟨λh d hd=>s7.1 (h d hd),λh d hd=>s7.2 (h d hd)⟩
end Go.Pv
namespace Go.Pv
open List Int IntKind
variable {h:Hint} {O:n9} {Θ:fA} {ops:Array Oper} {ret:aa} {Δ:Nat->Bool} {A B S S':St} {K:St->Option aa}
def U5 (Θ:fA) (S:St) (T:TypeId) (x:Nat):Option AV:=match S.JB (.tmp x) (S.at x) with
 |some g=>match S.loadAt g with
  |some r=>bif X8 g.ty r&&Θ.is T g.ty then some r else none
  |none=>none
 |none=>none
theorem ap3 (S:St) (dst:Option Nat) (T:TypeId) (x:Nat):nt Θ S dst T (.tmp x)=(U5 Θ S T x).map λr=>(true,S.put dst r):=by
 unfold nt U5;simp only[St.jT];cases S.JB (.tmp x) (S.at x) with
 |none=>rfl
 |some g=>
 simp only;cases S.loadAt g with
 |none=>rfl
 |some r=>simp only;cases (X8 g.ty r&&Θ.is T g.ty)<;>rfl
def rootOf (x:Nat):AV->Nat
 | .al _ s _=>s
 | .ad _ s _=>s
 |_=>x
theorem U6 {s:Nat} (hs:S'.at s=S.at s) (p:Path):S'.dW s p=S.dW s p:=by unfold St.dW;rw[hs]
theorem agz {s:Nat} (hs:S'.at s=S.at s) (p:Path):S'.place s p=S.place s p:=by unfold St.place;rw[hs]
theorem Yp {x:Nat} {a:AV} {g:Tgt} (e:S.JB (.tmp x) a=some g):(∀ t s p,g=.pl t s p->s=rootOf x a):=by
 intro t s p hg;subst hg;unfold St.JB at e;split at e
 ·split at e
  ·cases e<;>rfl
  ·rename_i h1;injection h1 with h1;injection e with e;injection e with _ e _;rw[←e,←h1];rfl
  cases e<;>rfl
 ·split at e
  ·rename_i h1;injection h1 with h1;injection e with e;injection e with _ e _;rw[←e,←h1];rfl
  cases e<;>rfl
 ·split at e
  ·cases e<;>rfl
  ·injection e with e;injection e with _ e _;rw[←e];rfl
  cases e<;>rfl
 ·injection e with e;injection e with _ e _;rw[←e];rfl
 cases e
theorem ae7 {x:Nat} {a:AV} (hs:S'.at (rootOf x a)=S.at (rootOf x a)):S'.JB (.tmp x) a=S.JB (.tmp x) a:=by unfold St.JB;split<;>first |rfl |(rename_i t s p;rw[show S'.dW s p=S.dW s p from U6 hs p])
theorem U7 {T:TypeId} {x:Nat} (hx:S'.at x=S.at x) (hs:S'.at (rootOf x (S.at x))=S.at (rootOf x (S.at x))):U5 Θ S' T x=U5 Θ S T x:=by
 unfold U5;rw[hx,ae7 hs];cases hg:S.JB (.tmp x) (S.at x) with
 |none=>rfl
 |some g=>
 simp only;have:S'.loadAt g=S.loadAt g:=by
  unfold St.loadAt;cases g with
  |k a=>rfl
  |pl t s p=>have:=Yp hg t s p rfl;subst this;simp only[U6 hs,agz hs]
 rw[this]
theorem agA {T:TypeId} {x:Nat} {r:AV} (e:U5 Θ S T x=some r) (k:Nat) (hk:r.refs k=true):k=rootOf x (S.at x):=by
 unfold U5 at e;cases hg:S.JB (.tmp x) (S.at x) with
 |none=>rw[hg] at e;cases e
 |some g=>
 rw[hg] at e;simp only at e;cases hl:S.loadAt g with
 |none=>rw[hl] at e;cases e
 |some r'=>
 rw[hl] at e;simp only at e;cases hT:(X8 g.ty r'&&Θ.is T g.ty) with
 |false=>rw[hT] at e;cases e
 |true=>
 rw[hT] at e;simp only[cond_true,Option.some.injEq] at e;subst e;unfold St.loadAt at hl;split at hl
 ·injection hl with hl;rw[←hl] at hk;cases hk
 rename_i t s p;have hr:=Yp hg t s p rfl;split at hl;case h_2=>cases hl
 rename_i a _;cases ha:a.m.b5 with
 |true=>
 rw[ha] at hl;simp only[cond_true] at hl;split at hl
 ·injection hl with hl;rw[←hl] at hk;cases hk
 cases hl
 |false=>rw[ha] at hl;simp only[cond_false,Option.some.injEq] at hl;rw[←hl] at hk;have:s=k:=Nat.eq_of_beq_eq_true hk;rw[←this];exact hr
theorem ae8 {x:Nat} {a:AV}:rootOf x a=x∨a.refs (rootOf x a)=true:=by cases a<;>first |exact .inl rfl |exact .inr (Nat.beq_refl _)
def Lone (a:Nat) (S:St):Prop:=∀ i,(S.at i).refs a=true->i=a
theorem adt {a:Nat} (h:aN (Km [a]) S):Lone a S:=λi hi=>by
 have:=h i a hi;have ha:Km [a] a=true:=by simp[Km]
 rw[ha] at this;unfold Km at this;simp only[List.any_cons,List.any_nil,Bool.or_false] at this;exact Nat.eq_of_beq_eq_true this
theorem EN {c:Nat} {u:AV} (lc:Lone c S) {k:Nat} (hk:k≠c):(S.put (some c) u).at k=S.at k:=by
 rw[iA,if_neg (λe=>hk e.1)];cases hq:(S.at k).refs c with
 |false=>rfl
 |true=>exact absurd (lc k hq) hk
theorem LY {c:Nat} {u:AV} (hu:u.refs c=false) (hc:c<S.length):(S.put (some c) u).at c=u:=by rw[iA,if_pos ⟨rfl,hc⟩,hu];rfl
theorem Yq {a b:Nat} {u:AV} (la:Lone a S) (lb:Lone b S) (hua:u.refs a=false) (hub:u.refs b=false):Lone b (S.put (some a) u):=λi hi=>by
 by_cases h1:i=a
 ·subst h1;by_cases hl:i<S.length
  ·rw[LY hua hl,hub] at hi;cases hi
  rw[FT (by rw[bK];omega)] at hi;cases hi
 rw[EN la h1] at hi;exact lb i hi
theorem ae9 {S:St} {a b:Nat} {u v:AV} (G6:a≠b) (hua:u.refs a=false) (hub:u.refs b=false) (hva:v.refs a=false) (hvb:v.refs b=false) (la:Lone a S) (lb:Lone b S):(S.put (some a) u).put (some b) v=(S.put (some b) v).put (some a) u:=by
 have lb1:=Yq la lb hua hub
 have la1:=Yq lb la hvb hva
 refine yF (by simp only[bK]) λi=>?_
 by_cases hl:i<S.length
 rotate_left
 ·rw[FT (by rw[bK,bK];omega),FT (by rw[bK,bK];omega)]
 by_cases h1:i=a
 ·subst h1
  rw[EN lb1 G6,LY hua hl,LY hua (by rw[bK];exact hl)]
 ·by_cases h2:i=b
  ·subst h2
   rw[LY hvb (by rw[bK];exact hl),EN la1 h1,LY hvb hl]
  ·rw[EN lb1 h2,EN la h1,EN la1 h1,EN lb h2]
theorem Wk {i:Nat} {o:Oper} {T:TypeId} {a x:Nat} (ho:ops[i]?=some o) (hg:o.guard=none) (hd:o.dst=some a) (cw:o.op=.load T (.tmp x)) (S:St) (K:St->Option aa):aW h O ops i S K=(U5 h.tab S T x).bind λr=>K (S.put (some a) r):=by unfold aW;rw[ho];simp only[hg];unfold qs;rw[cw];simp only[ev,cw,hd,ap3];cases U5 h.tab S T x<;>rfl
theorem aky {i j:Nat} {oi oj:Oper} (hi:ops[i]?=some oi) (hj:ops[j]?=some oj) (hx:ldB oi oj=true) {S:St} (hSi:aN (Km (agh oi)) S) (hSj:aN (Km (agh oj)) S) (K:St->Option aa):
  aW h O ops i S (λS1=>aW h O ops j S1 K)=aW h O ops j S (λS1=>aW h O ops i S1 K):=by
 unfold ldB at hx
 split at hx
 case h_2=>cases hx
 rename_i a b T x T' y g1 g2 d1 d2 o1 o2
 simp only[Bool.and_eq_true,Bool.not_eq_true'] at hx
 obtain⟨e1,e2,e3,e4,e5⟩:=hx
 have ne:∀ {p q:Nat},Nat.beq p q=false->p≠q:=λe h=>by rw[h,Nat.beq_refl] at e;cases e
 have e1:=ne e1
 have e2:=ne e2
 have e3:=ne e3
 have e4:=ne e4
 have e5:=ne e5
 unfold agh at hSi hSj
 rw[d1] at hSi
 rw[d2] at hSj
 have la:=adt hSi
 have lb:=adt hSj
 simp only[Wk hi g1 d1 o1,Wk hj g2 d2 o2]
 -- what stands elsewhere stays
 have keep:∀ {c:Nat} {u:AV},Lone c S->∀ k,k≠c->(S.put (some c) u).at k=S.at k:=λ{c u} lc k hk=>by
  rw[iA,if_neg (λe=>hk e.1)]
  cases hq:(S.at k).refs c with
  |false=>rfl
  |true=>exact absurd (lc k hq) hk
 have root:∀ {c z:Nat},Lone c S->c≠z->rootOf z (S.at z)≠c:=λ{c z} lc hz e=>by
  rcases ae8 (x:=z) (a:=S.at z) with h1 |h1
  ·exact hz (by rw[←e,h1])
  ·rw[e] at h1;exact hz (lc z h1).symm
 have ey:∀ u,U5 h.tab (S.put (some a) u) T' y=U5 h.tab S T' y:=λu=>U7 (keep la y (Ne.symm e3)) (keep la _ (root la e3))
 have ex:∀ u,U5 h.tab (S.put (some b) u) T x=U5 h.tab S T x:=λu=>U7 (keep lb x (Ne.symm e4)) (keep lb _ (root lb e4))
 simp only[ey,ex]
 cases hu:U5 h.tab S T x with
 |none=>cases U5 h.tab S T' y<;>rfl
 |some u=>
  cases hv:U5 h.tab S T' y with
  |none=>rfl
  |some v=>
   simp only[Option.bind_some]
   have rf:∀ {c z:Nat} {T:TypeId} {r:AV},U5 h.tab S T z=some r->Lone c S->c≠z->r.refs c=false:=λ{c z T r} hr lc hz=>by
    cases hq:r.refs c with
    |false=>rfl
    |true=>exact absurd (agA hr c hq).symm (root lc hz)
   rw[ae9 e1 (rf hu la e2) (rf hu lb e4) (rf hv la e3) (rf hv lb e5) la lb]
theorem Ry:∀ (a b:List Nat),eqN a b=true->a=b
 |[],[],_=>rfl
 |x::r,y::s,h=>by simp only[eqN,Bool.and_eq_true] at h;rw[Nat.eq_of_beq_eq_true h.1,Ry r s h.2]
theorem abh {T:TypeId} {x d:Nat} {r:AV} {i:TI} (hT:Θ.find T=some i) (hf:i.ty.flat=true) (e:U5 Θ S T x=some r) (hS:aN Δ S):aN Δ (S.put (some d) r):=by
 have hr:∀ s,r.refs s=false:=by
  unfold U5 at e;cases hg:S.JB (.tmp x) (S.at x) with
  |none=>rw[hg] at e;cases e
  |some g=>
  rw[hg] at e;simp only at e;cases hl:S.loadAt g with
  |none=>rw[hl] at e;cases e
  |some r'=>
  rw[hl] at e;simp only at e;cases hq:(X8 g.ty r'&&Θ.is T g.ty) with
  |false=>rw[hq] at e;cases e
  |true=>
  rw[hq] at e;simp only[cond_true,Option.some.injEq] at e;subst e;simp only[Bool.and_eq_true] at hq;obtain⟨h1,h2⟩:=hq;have lU:i.ty=g.ty:=(by unfold fA.is at h2;rw[hT] at h2;simpa using h2);unfold St.loadAt at hl;split at hl
  ·injection hl with hl;rw[←hl];intro s;rfl
  split at hl;case h_2=>cases hl
  rename_i a _;cases ha:a.m.b5 with
  |true=>
  rw[ha] at hl;simp only[cond_true] at hl;split at hl
  ·injection hl with hl;rw[←hl];intro s;rfl
  cases hl
  |false=>rw[ha] at hl;simp only[cond_false,Option.some.injEq] at hl;rw[←hl] at h1;unfold X8 at h1;rw[←lU,hf] at h1;cases h1
 intro k s hs;rw[iA] at hs;split at hs
 ·cases hq:r.refs d with
  |true=>rw[hr] at hq;cases hq
  |false=>rw[hq,cond_false,hr] at hs;cases hs
 revert hs;cases (S.at k).refs d&&(S.at d).LG with
 |true=>intro hs;cases hs
 |false=>intro hs;exact hS k s hs
theorem Rz (hO:C4 O) {i:Nat} {o:Oper} (ho:ops[i]?=some o) (hn:EL o.op=false) (e:aW h O ops i S K=some ret):∃ X,(∀ K,aW h O ops i S K=K X)/\K X=some ret/\∀ d,GY h.tab d o=true->aN (Km d) S->aN (Km d) X:=by
 obtain⟨ro,h1⟩:=sw (h:=h) (O:=O) (ops:=ops) hO i (λo' Rh=>by rw[ho] at Rh;injection Rh with Rh;subst Rh;exact hn) S;cases ro with
 |none=>rw[h1] at e;cases e
 |some X=>
 refine⟨X,λK=>h1 K,by rw[h1] at e;exact e,λd hk hS=>?_⟩;unfold GY at hk;simp only[Bool.or_eq_true] at hk;rcases hk with ht |ht |ht
 ·have:=Rw (h:=h) (O:=O) (K:=λ_=>some ⟨[],[]⟩) hS ho ht (λX=>pj (Km d) X 0) (λX hX=>s7.2 hX);simp only[h1,Option.bind_some] at this;cases hc:pj (Km d) X 0 with
  |true=>exact s7.1 hc
  |false=>rw[hc] at this;cases this
 ·have:=Rw (h:=h) (O:=O) (K:=λ_=>some ⟨[],[]⟩) (Kr.2 hS) ho ht (λX=>pj (Km d) X 0) (λX hX=>s7.2 (Kr.1 hX));simp only[h1,Option.bind_some] at this;cases hc:pj (Km d) X 0 with
  |true=>exact s7.1 hc
  |false=>rw[hc] at this;cases this
 unfold agi at ht;split at ht;case h_2=>cases ht
 rename_i d' T x g1 g2 g3;split at ht;case h_2=>cases ht
 rename_i ti hti;have h2:=λK=>(Wk (h:=h) (O:=O) ho g1 g2 g3 S K).symm.trans (h1 K);cases hv:U5 h.tab S T x with
 |none=>have:=h2 (λ_=>some ⟨[],[]⟩);rw[hv] at this;cases this
 |some r=>have hX:S.put (some d') r=X:=(by refine Classical.byContradiction λwU=>?_;have:=h2 (λY=>open Classical in if Y=X then some ⟨[],[]⟩ else none);rw[hv] at this;simp only[Option.bind_some,if_neg wU,if_true] at this;cases this);rw[←hX];exact abh hti ht hv hS
theorem akz (hO:C4 O) {us:List (List Nat)} (hw:∀ d∈us,aN (Km d) S) {i j:Nat} {oi oj:Oper} (hi:ops[i]?=some oi) (hj:ops[j]?=some oj) (hp:LO us oi oj=true): aW h O ops i S (λS1=>aW h O ops j S1 K)=aW h O ops j S (λS1=>aW h O ops i S1 K):=by
 unfold LO at hp;simp only[Bool.or_eq_true,Bool.and_eq_true] at hp;rcases hp with hp |⟨h1,h2,h3⟩ |hp
 ·exact akx hi hj hp S K
 ·have mem:∀ d,adm us d=true->d∈us:=λd hd=>(by unfold adm at hd;obtain⟨e,he,hq⟩:=List.any_eq_true.1 hd;rw[Ry _ _ hq];exact he);exact aky hi hj h1 (hw _ (mem _ h2)) (hw _ (mem _ h3)) K
 unfold ap0 at hp;obtain⟨d,hd,hp⟩:=List.any_eq_true.1 hp;simp only[Bool.or_eq_true,Bool.and_eq_true] at hp;rcases hp with⟨h1,h2⟩ |⟨h1,h2⟩
 ·exact Rx hO (hw d hd) hi hj h1 h2
 exact Rx hO (Kr.2 (hw d hd)) hi hj h1 (by rw[Ym];exact h2)
theorem RA (hO:C4 O) {U:Nat->List (List Nat)} {j:Nat} {oj:Oper} (hj:ops[j]?=some oj):∀ (p r:List Nat) {S:St} {K:St->Option aa} {ret:aa},(∀ x∈p,∃ ox,ops[x]?=some ox/\EL ox.op=false/\LO (U x) ox oj=true/\∀ d∈U x,aN (Km d) S)-> p.Pairwise (λy x=>∀ d∈U x,∀ oy,ops[y]?=some oy->GY h.tab d oy=true)-> BI h O ops (p++j::r) S K=some ret->aW h O ops j S (λS1=>BI h O ops (p++r) S1 K)=some ret
 |[],r,S,K,ret,hp,_,e=>e
 |x::p,r,S,K,ret,hp,hk,e=>by
  obtain⟨ox,hx,hn,hc,hw⟩:=hp x (by simp);simp only[List.cons_append,BI] at e ⊢;obtain⟨X,h1,h3,h2⟩:=Rz hO hx hn e;rw[List.pairwise_cons] at hk;have h4:=RA hO hj p r (λy hy=>by
   obtain⟨oy,y1,y2,y3,y4⟩:=hp y (by simp[hy])
   exact⟨oy,y1,y2,y3,λd hd=>h2 d (hk.1 y hy d hd ox hx) (y4 d hd)⟩) hk.2 h3
  rw[←akz hO hw hx hj hc,h1];exact h4
def agB (Θ:fA) (ops:Array Oper) (as:List Nat) (ds:List (List Nat)) (l:List Nat) (i j:Nat):Prop:=∃ oi oj,ops[i]?=some oi/\ops[j]?=some oj/\i≠j/\Nat.testBit (aX j as 0 0) i=false/\(Nat.testBit (aX i as 0 0) j=true∨LO (ds.filter (V9 Θ ops as l i j)) oi oj=true)
theorem CM {as:List Nat} {ds:List (List Nat)} {q:List Nat}:∀ {l:List Nat},C2 Θ ops as ds q l=true↔l.Pairwise (agB Θ ops as ds q)
 |[]=>by simp[C2]
 |i::r=>by
  simp only[C2,Bool.and_eq_true,List.all_eq_true,List.pairwise_cons];rw[CM];refine and_congr ?_ Iff.rfl;refine forall_congr' λj=>?_;refine imp_congr Iff.rfl ?_;unfold agB;cases hi:ops[i]? with
  |none=>simp
  |some oi=>
  cases hj:ops[j]? with
  |none=>simp
  |some oj=>
  simp only[Bool.and_eq_true,Bool.not_eq_true',Bool.or_eq_true,Option.some.injEq];constructor
  ·rintro⟨h1,h2⟩;exact⟨oi,oj,rfl,rfl,(λe=>by rw[e,Nat.beq_refl] at h1;cases h1),h2⟩
  rintro⟨_,_,rfl,rfl,h1,h2⟩;refine⟨?_,h2⟩;cases hq:Nat.beq i j with
  |false=>rfl
  |true=>exact absurd (Nat.eq_of_beq_eq_true hq) h1
theorem U8 {as l:List Nat} {i j z:Nat} {d:List Nat} (h:V9 Θ ops as l i j d=true) (hz:z∈l) (h1:z≠i) (h2:z≠j) (h3:Nat.testBit (aX i as 0 0) z=false) (h4:Nat.testBit (aX j as 0 0) z=false) {oz:Oper} (ho:ops[z]?=some oz):GY Θ d oz=true:=by
 unfold V9 at h;have h5:=List.all_eq_true.1 h z hz;rw[h3,h4,ho] at h5;simp only[Bool.or_eq_true,Bool.false_or] at h5;rcases h5 with h5 |h5 |h5
 ·exact absurd (Nat.eq_of_beq_eq_true h5) h1
 ·exact absurd (Nat.eq_of_beq_eq_true h5) h2
 exact h5
theorem agC {as l l':List Nat} {i j:Nat} {d:List Nat} (hl:∀ z∈l',z∈l) (h:V9 Θ ops as l i j d=true):V9 Θ ops as l' i j d=true:=List.all_eq_true.2 λz hz=>List.all_eq_true.1 h z (hl z hz)
theorem abi {us us':List (List Nat)} (hu:∀ d∈us,d∈us') {oi oj:Oper} (h:LO us oi oj=true):LO us' oi oj=true:=by
 have any:∀ f:List Nat->Bool,us.any f=true->us'.any f=true:=λf hf=>by obtain⟨d,hd,hq⟩:=List.any_eq_true.1 hf;exact List.any_eq_true.2 ⟨d,hu d hd,hq⟩
 unfold LO at h ⊢;simp only[Bool.or_eq_true,Bool.and_eq_true] at h ⊢;rcases h with h |⟨h1,h2,h3⟩ |h
 ·exact .inl h
 ·exact .inr (.inl ⟨h1,any _ h2,any _ h3⟩)
 exact .inr (.inr (any _ h))
end Go.Pv
namespace Go.Pv
open List Int IntKind
def zc:Ty->List Value
 | .int k=>[.int k 0] | .bool=>[.bool false] | .str=>[.string ByteArray.empty] | .sl _=>[.slice none 0 0] | .ptr _=>[.pointer none] | .mp=>[.map none]
 | .pair a b=>zc a++zc b | .unit=>[] | .arr n t=>(List.replicate n (zc t)).flatten
def pN:Path->Ty->Option Ty
 |[],t=>some t
 | .fst::p,.pair a _=>pN p a
 | .snd::p,.pair _ b=>pN p b
 |_,_=>none
def veq:Value->Value->Bool
 | .int k n,.int k' n'=>decide (k=k')&&decide (n=n')
 | .bool a,.bool b=>a==b
 | .string a,.string b=>a.data.toList==b.data.toList
 | .slice none a b,.slice none c d=>Nat.beq a c&&Nat.beq b d
 | .pointer none,.pointer none=>true
 | .map none,.map none=>true
 |_,_=>false
def abj:List Value->List Value->Bool
 |[],[]=>true
 |a::r,b::s=>veq a b&&abj r s
 |_,_=>false
theorem anA {a b:Value} (h:veq a b=true):a=b:=by
 unfold veq at h;split at h<;>simp at h
 ·obtain⟨rfl,rfl⟩:=h;rfl
 ·subst h;rfl
 ·rename_i a b;cases a;cases b;simp at h;rw[h]
 ·obtain⟨rfl,rfl⟩:=h;rfl
 ·rfl
 rfl
theorem Wl:∀ {a b:List Value},abj a b=true->a=b
 |[],[],_=>rfl
 |a::r,b::s,h=>by simp only[abj,Bool.and_eq_true] at h;rw[anA h.1,Wl h.2]
 |[],_::_,h=>by simp[abj] at h
 |_::_,[],h=>by simp[abj] at h
def zOK (t:Ty) (z:Value):Bool:=match isAgg t,z with
 |true,.agg cs=>abj cs.toList (zc t)
 |true,_=>false
 |false,z=>abj [z] (zc t)
theorem ae' {t:Ty} {z:Value} (h:zOK t z=true):ah t z (zc t):=by
 unfold zOK at h;unfold ah;split at h
 ·rename_i ha;rw[if_pos ha,←Wl h]
 ·cases h
 rename_i ha;rw[if_neg (by simp[ha]),←Wl h]
def x5 (Θ:fA) (ty:Ty) (n:Nat):List Field->Nat->Bool
 |[],_=>true
 |f::r,k=>(match pN (BD k n) ty with
  |some t=>Θ.is f.type t&&Nat.beq f.offset (aE (BD k n) ty)&&Nat.blt 0 t.size
  |none=>false)&&x5 Θ ty n r (k+1)
def ap4 (P:Program) (k e:TypeId):Bool:=match P.underlying k,P.underlying e,P.info? e with
 |some (.array n t),some .bool,some inf=>Nat.beq n 2&&Nat.beq (P.cellsOf k) 2&&Nat.beq (P.cellsOf t) 1&& !P.types.isEmpty&&(match P.underlying t with
  |some (.int .i64)=>true
  |_=>false)&&(match inf.zero with
  |some (.bool false)=>true
  |_=>false)
 |_,_,_=>false
def tU (P:Program) (Θ:fA) (i:TI):Bool:=match i.ty,P.underlying i.T with
 | .int k,some (.int k')=>decide (k=k')
 | .bool,some .bool=>true
 | .str,some .string=>true
 | .sl t,some (.slice e)=>Nat.beq e i.e&&Θ.is e t&&Nat.blt 0 t.size
 | .mp,some (.map k e)=>ap4 P k e
 | .arr n t,some (.array m e)=>Nat.beq m n&&Nat.beq e i.e&&Θ.is e t&&Nat.blt 0 t.size
 | .pair _ _, some (.struct fs) => decide (fs.toList.map (·.type) = i.fs) && x5 Θ i.ty fs.size fs.toList 0 && !P.eqGuardType P.depth i.T && !P.stoodInHeld i.T && fs.toList.all (fun f => f.name != "_")
 |_,_=>false
def amA (i:TI) (inf:TypeInfo):Bool:=Nat.beq inf.size i.ty.size&&Nat.ble i.ty.size 9000&&Nat.ble inf.bytes (32*i.ty.size)&&Nat.ble inf.bytes 256&&Nat.blt 0 inf.bytes&&match inf.zero with
 |some z=>zOK i.ty z
 |none=>false
def Ty.ht:Ty->Nat
 | .pair a b=>max a.ht b.ht+1
 |_=>0
def uOK (i:TI):Bool:=Nat.ble i.ty.ht 9000&&match i.fs,i.ty with
 |[_],.pair _ .unit=>true
 |[_],_=>false
 |[],.pair _ _=>false
 |_,_=>true
def anB (P:Program) (Θ:fA) (i:TI):Bool:=((match P.info? i.T with
 |some inf=>amA i inf
 |none=>false)&&tU P Θ i)&&uOK i
def eA (P:Program) (Θ:fA):Bool:=Θ.all (anB P Θ)
structure ap5 (P:Program) (i:TI):Prop where
 small:i.ty.size<=9000
 out:∃ inf z,P.info? i.T=some inf/\inf.size=i.ty.size/\inf.bytes<=32*i.ty.size/\inf.bytes<=256/\0<inf.bytes/\inf.zero=some z/\ah i.ty z (zc i.ty)
theorem C9 {Θ:fA} {T:TypeId} {i:TI} (h:Θ.find T=some i):i∈Θ/\i.T=T:=by
 induction Θ with
 |nil=>simp[fA.find] at h
 |cons j r ih=>
 simp only[fA.find] at h;cases hb:Nat.beq j.T T with
 |true=>rw[hb] at h;simp only[cond_true,Option.some.injEq] at h;subst h;exact⟨by simp,Nat.eq_of_beq_eq_true hb⟩
 |false=>rw[hb] at h;simp only[cond_false] at h;exact⟨List.mem_cons_of_mem _ (ih h).1,(ih h).2⟩
theorem fJ {P:Program} {Θ:fA} (hT:eA P Θ=true) {T:TypeId} {i:TI} (h:Θ.find T=some i):ap5 P i/\tU P Θ i=true/\i.T=T:=by
 have h1:=List.all_eq_true.1 hT i (C9 h).1;simp only[anB,Bool.and_eq_true] at h1;refine⟨?_,h1.1.2,(C9 h).2⟩;have h2:=h1.1.1;split at h2
 ·rename_i inf hi;simp only[amA,Bool.and_eq_true] at h2;obtain⟨⟨⟨⟨⟨a,sm⟩,b⟩,b'⟩,b''⟩,c⟩:=h2;split at c
  ·rename_i z hz;exact⟨Nat.le_of_ble_eq_true sm,⟨inf,z,hi,Nat.eq_of_beq_eq_true a,Nat.le_of_ble_eq_true b,Nat.le_of_ble_eq_true b',Nat.lt_of_succ_le (Nat.le_of_ble_eq_true b''),hz,ae' c⟩⟩
  cases c
 cases h2
theorem amB {P:Program} {Θ:fA} (hT:eA P Θ=true) {T:TypeId} {i:TI} (h:Θ.find T=some i):uOK i=true:=by have h1:=List.all_eq_true.1 hT i (C9 h).1;simp only[anB,Bool.and_eq_true] at h1;exact h1.2
theorem jW {Θ:fA} {T:TypeId} {t:Ty} (h:Θ.is T t=true):∃ i,Θ.find T=some i/\i.ty=t:=by
 unfold fA.is at h;split at h
 ·rename_i i hi;exact⟨i,hi,by simpa using h⟩
 cases h
theorem yG {P:Program} {Θ:fA} {i:TI} {t:Ty} (h:tU P Θ i=true) (ht:i.ty=.sl t):P.underlying i.T=some (.slice i.e)/\Θ.is i.e t=true/\0<t.size:=by unfold tU at h;rw[ht] at h;split at h<;>simp_all;obtain⟨⟨a,b⟩,c⟩:=h;rw[←a];exact b
theorem LZ {P:Program} {Θ:fA} {i:TI} {k:IntKind} (h:tU P Θ i=true) (ht:i.ty=.int k):P.underlying i.T=some (.int k):=by unfold tU at h;rw[ht] at h;split at h<;>simp_all
theorem L0 {P:Program} {Θ:fA} {i:TI} (h:tU P Θ i=true) (ht:i.ty=.bool):P.underlying i.T=some .bool:=by unfold tU at h;rw[ht] at h;split at h<;>simp_all
theorem EO {P:Program} {Θ:fA} {i:TI} (h:tU P Θ i=true) (ht:i.ty=.str):P.underlying i.T=some .string:=by unfold tU at h;rw[ht] at h;split at h<;>simp_all
theorem As {P : Program} {Θ : fA} {i : TI} {a b : Ty} (h : tU P Θ i = true) (ht : i.ty = .pair a b) : ∃ fs, P.underlying i.T = some (.struct fs) ∧ fs.toList.map (·.type) = i.fs ∧ x5 Θ i.ty fs.size fs.toList 0 = true ∧ P.eqGuardType P.depth i.T = false ∧ P.stoodInHeld i.T = false ∧ ∀ f ∈ fs, f.name ≠ "_" := by
 unfold tU at h
 rw[ht] at h
 split at h<;>simp_all
 intro f hf
 obtain⟨k,hk,rfl⟩:=Array.mem_iff_getElem.1 hf
 exact h.2 k hk
theorem anC {P:Program} {Θ:fA} {i:TI} (h:tU P Θ i=true) (ht:i.ty=.mp):∃ k e t,P.underlying i.T=some (.map k e)/\WideMaps.ArrKey P k t 2/\P.underlying t=some (.int .i64)/\(∃ m,P.types.size=m+1)/\∃ inf,P.info? e=some inf/\inf.zero=some (.bool false):=by
 unfold tU at h;rw[ht] at h;split at h<;>simp_all;rename_i k e he;unfold ap4 at h;split at h;case h_2=>cases h
 rename_i n t inf hk hb hi;simp only[Bool.and_eq_true] at h;obtain⟨⟨⟨⟨⟨h1,h2⟩,h3⟩,h4⟩,h5⟩,h6⟩:=h;have h1:=Nat.eq_of_beq_eq_true h1;subst h1;split at h5;case h_2=>cases h5
 rename_i hti;split at h6;case h_2=>cases h6
 rename_i hz;refine⟨k,e,⟨rfl,rfl⟩,t,⟨hk,by simp[Program.plainKey,hti],Nat.eq_of_beq_eq_true h3,Nat.eq_of_beq_eq_true h2⟩,hti,?_,inf,hi,hz⟩;have h4:0<P.types.size:=Array.size_pos_iff.2 (by simpa using h4);first |exact⟨P.types.size - 1,by omega⟩ |omega
theorem akA {P:Program} {Θ:fA} {i:TI} {n:Nat} {t:Ty} (h:tU P Θ i=true) (ht:i.ty=.arr n t):∃ e,P.underlying i.T=some (.array n e)/\Θ.is e t=true/\0<t.size:=by unfold tU at h;rw[ht] at h;split at h<;>simp_all;rw[←h.1.1.2];exact h.1.2
theorem L1 {P:Program} {Θ:fA} {i:TI} (h:tU P Θ i=true):(∃ d,P.underlying i.T=some d)/\(∀ t,i.ty≠ .ptr t)/\i.ty≠ .unit:=by unfold tU at h;split at h<;>simp_all
theorem s8 {Θ:fA} {ty:Ty} {n:Nat}:∀ {l:List Field} {k0:Nat},x5 Θ ty n l k0=true->∀ k f,l[k]?=some f->∃ t,pN (BD (k0+k) n) ty=some t/\Θ.is f.type t=true/\f.offset=aE (BD (k0+k) n) ty/\0<t.size
 |[],_,_,k,f,h=>by simp at h
 |g::r,k0,tM,k,f,h=>by
  simp only[x5,Bool.and_eq_true] at tM;cases k with
  |zero=>
  simp only[List.getElem?_cons_zero,Option.some.injEq] at h;subst h;have:=tM.1;split at this
  ·rename_i t ht;simp only[Bool.and_eq_true] at this;exact⟨t,ht,this.1.1,Nat.eq_of_beq_eq_true this.1.2,Nat.lt_of_succ_le (Nat.le_of_ble_eq_true this.2)⟩
  cases this
  |succ k=>simp only[List.getElem?_cons_succ] at h;have:=s8 tM.2 k f h;rw[show k0+1+k=k0+(k+1) from by omega] at this;exact this
theorem qt {P:Program} {Θ:fA} (hT:eA P Θ=true) {T:TypeId} {t:Ty} (h:Θ.is T t=true):∃ inf,P.info? T=some inf/\inf.size=t.size/\P.cellsOf T=t.size:=by obtain⟨i,hi,rfl⟩:=jW h;obtain⟨⟨_,inf,z,h1,h2,_⟩,_,rfl⟩:=fJ hT hi;exact⟨inf,h1,h2,by simp[Program.cellsOf,h1,h2]⟩
theorem abk {P:Program} {Θ:fA} (hT:eA P Θ=true) {T:TypeId} {t:Ty} (h:Θ.is T t=true) (w:World):(Go.isAgg T).run P w=.ok (isAgg t) w:=by obtain⟨i,hi,rfl⟩:=jW h;obtain⟨_,hu,rfl⟩:=fJ hT hi;have hn:=L1 hu;unfold tU at hu;unfold Go.isAgg;split at hu<;>simp_all [underlying,program,isAgg,Sem.run]
end Go.Pv
namespace Go.Pv
open List Int IntKind
variable {w w':World} {A A':Nat->Prop} {H:Nat->Value} {tm FP:Nat->Value} {S S':St} {σ:Nat->Option Nat} {w0:World} {W0 Z:Nat->Prop} {a:Act} {own:Nat->Prop} {v:Value} {Θ:fA}
theorem tV (g off n:Nat):(⟨g,off,none⟩:Addr).add n=⟨g,off+n,none⟩:=by
 unfold Addr.add;split
 ·rename_i h;subst h;rfl
 rfl
theorem adu {t:Ty} {xs:List t.I} {X:Option Addr} {c lo hi:Nat} (h:K w A (.sl t) xs [.slice X xs.length c]) (h1:lo<=hi) (h2:hi<=xs.length):
  K w A (.sl t) ((xs.take hi).drop lo) [.slice (if c=lo then X else X.map (·.add (lo*t.size))) (hi - lo) (c - lo)]:=by
 simp only[K] at h ⊢
 obtain⟨X',c',e,hc,h⟩:=h
 simp only[List.cons.injEq,Value.slice.injEq,and_true,true_and] at e
 obtain⟨rfl,rfl⟩:=e
 have hl:((xs.take hi).drop lo).length=hi - lo:=by rw[List.length_drop,List.length_take];omega
 refine⟨_,_,by rw[hl],by omega,λhp=>?_⟩
 rw[hl] at hp
 obtain⟨g,off,cur,T,fr,rfl,hg,hw,ho,hj⟩:=h (by omega)
 have e1:(lo+(hi - lo))*t.size<=xs.length*t.size:=Nat.mul_le_mul_right _ (by omega)
 rw[Nat.add_mul] at e1
 refine⟨g,off+lo*t.size,cur,T,fr,?_,hg,hw,by rw[hl];omega,λj Ub=>?_⟩
 rotate_left
 ·have Ew:j<hi - lo:=by rw[←hl];exact Ub
  have:=hj (lo+j) (by omega)
  rw[show((xs.take hi).drop lo)[j]=xs[lo+j]'(by omega) from by simp]
  rw[show off+lo*t.size+j*t.size=off+(lo+j)*t.size from by rw[Nat.add_mul];omega]
  exact this
 ·rw[if_neg (by omega)]
  simp only[Option.map_some,tV]
theorem oM (h:a6 σ w0 W0 Z H S a w) {t:Ty} {s:Nat} {p:Path} {r:TV} {dw:List Value} (hr:Ref (cn a) S t s p r dw): ∃ ex b fH fp,S.at s=.v r ex/\open_ p ex/\a7 p r.t r.m r.x=some b/\b.t=t/\M w (Av σ Z) H r.t r.m r.x dw (λg=>σ g=some s) ex/\ aH w p r.t dw=some fH/\(∀ g,fp g->σ g=some s)/\M w (Av σ Z) H b.t b.m b.x fH fp (LM p ex):=by
 obtain⟨⟨ex,h1,h2⟩,h3,⟨b,h4,h5⟩,h6⟩:=hr;have hh:=h.holds s;rw[h1] at hh;obtain⟨cs,hm,hM⟩:=hh;obtain rfl:=eG h6 hm;obtain⟨fH,fp,k1,k2,k3⟩:=focus p hM h2 h3 h4
 exact⟨ex,b,fH,fp,h1,h2,h4,h5,hM,k1,k2,k3⟩
theorem gy (h:a6 σ w0 W0 Z H S a w) {t:Ty} {s:Nat} {p:Path} {r:TV} {dw cs:List Value} {b:TV} (hr:Ref (cn a) S t s p r dw) (hc:aH w p r.t dw=some cs) (hp:S.place s p=some b): b.t=t/\∃ fp,(∀ g,fp g->σ g=some s)/\M w (Av σ Z) H b.t b.m b.x cs fp []:=by
 obtain⟨ex,b',fH,fp,h1,h2,h3,h4,hM,k1,k2,k3⟩:=oM h hr;unfold St.place at hp;rw[h1] at hp;simp only at hp;cases lP:ex.all λq=>!jk q p with
 |false=>rw[lP] at hp;cases hp
 |true=>rw[lP] at hp;simp only[cond_true] at hp;rw[h3] at hp;injection hp with hp;subst hp;rw[k1] at hc;injection hc with hc;subst hc;rw[JF (λq hq=>by simpa using List.all_eq_true.1 lP q hq)] at k3;exact⟨h4,fp,k2,k3⟩
theorem G7 (h:a6 σ w0 W0 Z H S a w) {av:AV} {b:TV} (hh:Holds w (Av σ Z) H (cn a) S own av v) (e:S.Ii av=some b): ∃ cs,ah b.t v cs/\K w (λ_=>False) b.t b.x cs/\(b.m.b5=true->K w (Av σ Z) b.t b.x cs):=by
 cases av with
 |v a ex=>
  cases ex with
  |cons _ _=>simp[St.Ii] at e
  |nil=>simp only[St.Ii,Option.some.injEq] at e;subst e;obtain⟨cs,h1,h2⟩:=hh;exact⟨cs,h1,aa5 h2,λhk=>nj _ hk h2⟩
 |al t s p=>simp only[St.Ii] at e;obtain⟨r,dw,cs,hr,hc,hm⟩:=hh;obtain⟨rfl,fp,k2,k3⟩:=gy h hr hc e;exact⟨cs,hm,aa5 k3,λhk=>nj _ hk k3⟩
 |cut t s p lo hi=>
  simp only[St.Ii] at e;obtain⟨r,dw,t',X,n,c,hr,rfl,hc,Yg,Rq,rfl⟩:=hh;cases hp:S.place s p with
  |none=>rw[hp] at e;cases e
  |some b'=>obtain⟨ht,fp,k2,k3⟩:=gy h hr hc hp;obtain⟨bt,bm,bx⟩:=b';simp only at ht;subst ht;rw[hp] at e;simp only[Option.some.injEq] at e;subst e;have hK:=aa5 k3;have hn:n=length bx:=(by simp only[K] at hK;obtain⟨_,_,e,_⟩:=hK;simp only[List.cons.injEq,Value.slice.injEq,and_true] at e;exact e.2.1);subst hn;exact⟨_,by simp[ah,isAgg],adu hK Yg Rq,λhk=>adu (nj _ hk k3) Yg Rq⟩
 |_=>simp[St.Ii] at e
theorem kQ (h:a6 σ w0 W0 Z H S a w) {T:TypeId} {x:Operand} {b:TV} (e:S.rd Θ T x=some b): ∃ cs,ah b.t (a.eval x) cs/\K w (λ_=>False) b.t b.x cs/\(b.m.b5=true->K w (Av σ Z) b.t b.x cs):=by
 unfold St.rd at e;split at e
 ·rename_i av jU;exact G7 h (bM h jU) e
 cases e
theorem e9 {k:IntKind} {v:Value} {cs:List Value} {x:Int} (h:ah (.int k) v cs) (hk:K w A (.int k) x cs):v=.int k x:=by simp only[K] at hk;simp only[ah,isAgg] at h;subst hk;simpa using h.symm
theorem gz {v:Value} {cs:List Value} {x:Bool} (h:ah .bool v cs) (hk:K w A .bool x cs):v=.bool x:=by simp only[K] at hk;simp only[ah,isAgg] at h;subst hk;simpa using h.symm
theorem kY {v:Value} {cs:List Value} {x:ByteArray} (h:ah .str v cs) (hk:K w A .str x cs):v=.string x:=by simp only[K] at hk;simp only[ah,isAgg] at h;subst hk;simpa using h.symm
theorem Au {t:Ty} {v:Value} {cs:List Value} {x:List t.I} (h:ah (.sl t) v cs) (hk:K w A (.sl t) x cs):∃ X c,v=.slice X x.length c/\cs=[.slice X x.length c]/\x.length<=c:=by have mc:=hk;simp only[K] at mc;obtain⟨X,c,rfl,hc,_⟩:=mc;simp only[ah,isAgg] at h;exact⟨X,c,by simpa using h.symm,rfl,hc⟩
theorem sy (h:a6 σ w0 W0 Z H S a w) {x:Operand} {n:Int} (e:S.y8 Θ x=some n):∃ k,a.eval x=.int k n:=by
 unfold St.y8 at e;split at e
 ·rename_i k m n' hb;injection e with e;subst e;obtain⟨cs,h1,h2,_⟩:=kQ h hb;exact⟨k,e9 h1 h2⟩
 cases e
theorem EP {t:Ty} {x:t.I} {v:Value} {cs:List Value} (h:ah t v cs) (hk:K w A t x cs):Holds w A H tm S (λ_=>False) (.v ⟨t,.k,x⟩ []) v:=⟨cs,h,nu t hk⟩
theorem gY (k:IntKind) (n:Int):Holds w A H tm S (λ_=>False) (.v ⟨.int k,.k,n⟩ []) (.int k n):=EP (cs:=[.int k n]) (by simp[ah,isAgg]) (by simp[K])
theorem eI (b:Bool):Holds w A H tm S (λ_=>False) (.v ⟨.bool,.k,b⟩ []) (.bool b):=EP (cs:=[.bool b]) (by simp[ah,isAgg]) (by simp[K])
theorem U9 (b:ByteArray):Holds w A H tm S (λ_=>False) (.v ⟨.str,.k,b⟩ []) (.string b):=EP (cs:=[.string b]) (by simp[ah,isAgg]) (by simp[K])
end Go.Pv
