/- A verified evaluator of the program's form over pure values, part 1: what it tells of a function holds. -/
import Derived.Test.YtpcoilhcgcpjmaaGreatDoorPv0
import Derived.WideKeyPair
set_option linter.unusedSimpArgs false
set_option linter.unusedVariables false
namespace Go.Pv
open List Int IntKind
abbrev eK:= @Bool.false_or
abbrev bV:= @Bool.not_eq_true'
abbrev bC:= @Bool.not_false
abbrev bd:= @Bool.or_eq_true
abbrev AY:= @Bool.or_false
abbrev aA:= @Bool.true_and
abbrev ca:= @Classical.byContradiction
abbrev lO:= @List.all_cons
abbrev vG:= @List.any_cons
abbrev cV:= @List.any_eq_false
abbrev dW:= @List.cons.injEq
abbrev wx:= @List.ext_getElem
abbrev eO:= @List.getElem?_cons_succ
abbrev aD:= @List.getElem?_cons_zero
abbrev lP:= @List.getElem?_set_ne
abbrev aS:= @List.mem_cons
abbrev er:= @List.mem_cons_of_mem
abbrev eD:= @List.mem_flatMap
abbrev bj:= @List.mem_singleton
abbrev ft:= @List.nodup_append
abbrev ek:= @List.nodup_cons
abbrev gu:= @List.nodup_nil
abbrev bZ:= @List.pairwise_cons
abbrev xf:= @List.set_set
abbrev pX:= @Nat.beq_eq
abbrev bS:= @Nat.beq_refl
abbrev tV:= @Nat.ble_eq_true_of_le
abbrev bJ:= @Nat.le_of_ble_eq_true
abbrev oY:= @Nat.lt_of_lt_of_le
abbrev jC:= @Nat.lt_of_succ_le
abbrev gD:= @Nat.lt_or_ge
abbrev sr:= @Nat.lt_succ_self
abbrev pd:= @Ne.symm
abbrev gd:= @Option.bind_none
abbrev aF:= @Prod.mk.injEq
abbrev fc:= @Go.Value.slice.injEq
abbrev iJ:= @and_true
abbrev bP:= @beq_iff_eq
abbrev pf:= @dif_neg
abbrev jc:= @dif_pos
abbrev AZ:= @forall_congr'
abbrev cl:= @true_and
end Go.Pv
namespace Go.Pv
open List Int IntKind
abbrev aa:=Option iI
end Go.Pv
namespace Go.Pv
open List Int IntKind
variable {h:Hint} {O:va} {ops:Array Oper} {Θ:kR}
structure Ob where
 gV:List Nat
 d:Nat
 v:AV
def fo:List Nat->St->St
 |[],S=>S
 |x::r,S=>fo r (S.put (some x) .dead)
def Ob.app (E:Ob) (S:St):St:=(fo E.gV S).put (some E.d) E.v
def KW (a:AV):Prop:=∀ d,a.refs d=false
theorem Pt {S:St} {x:Operand} (hx:x6 S x=true) (T:TypeId):(∃ i a,x=.tmp i/\S.at i=.v a []/\S.pJ Θ T x=some (.v a []))∨∃ c,x=.const c:=by
 cases x with
 |tmp i=>
 simp only[x6] at hx;split at hx
 ·rename_i a ha;exact .inl ⟨i,a,rfl,ha,by simp[St.pJ,ha]⟩
 cases hx
 |const c=>exact .inr ⟨c,rfl⟩
 |func f=>simp[x6] at hx
 |global g=>simp[x6] at hx
def Lw (S S':St) (l:List Nat):Prop:=∀ r∈l,S'.at r=S.at r
theorem aan {S S':St} {x:Operand} (ha:Lw S S' (cF x)) (T:TypeId):S'.pJ Θ T x=S.pJ Θ T x:=by
 cases x with
 |tmp i=>simp only[St.pJ];rw[ha i (by simp[cF])]
 |const c=>rfl
 |func f=>rfl
 |global g=>rfl
theorem afl {S S':St} {x:Operand} (hx:x6 S x=true) (ha:Lw S S' (cF x)) (T:TypeId):S'.rd Θ T x=S.rd Θ T x:=by
 unfold St.rd;rw[aan ha];rcases Pt (Θ:=Θ) hx T with⟨i,a,rfl,h1,h2⟩ |⟨c,rfl⟩
 ·rw[h2];rfl
 simp only[St.pJ];cases JH Θ T c<;>rfl
theorem H6 {S S':St}:∀ (xs:List Operand) (Ts:List TypeId) (l:List (Option TV)),(∀ x∈xs,x6 S x=true)->Lw S S' (xs.flatMap cF)->reads Θ S' xs Ts l=reads Θ S xs Ts l
 |[],_,_,_,_=>rfl
 |x::xs,[],l,_,_=>rfl
 |x::xs,T::Ts,[],_,_=>rfl
 |x::xs,T::Ts,p::ps,hx,ha=>by
  have ih:=H6 xs Ts ps (λy hy=>hx y (by simp[hy])) (λr hr=>ha r (by simp[hr]));have ho:=aan (Θ:=Θ) (x:=x) (λr hr=>ha r (by simp[hr])) T;simp only[reads,ih,ho];cases p with
  |some a=>rfl
  |none=>
  simp only;rcases Pt (Θ:=Θ) (hx x (by simp)) T with⟨i,a,rfl,h1,h2⟩ |⟨c,rfl⟩
  ·rw[h2];rfl
  simp only[St.pJ];cases JH Θ T c<;>rfl
theorem XM {S S':St}:∀ (xs:List Operand) (l:List (Option TV)) (as:List Arg),Lw S S' (xs.flatMap cF)->x5 S' xs l as=x5 S xs l as
 |[],_,_,_=>rfl
 |x::xs,[],_,_=>rfl
 |x::xs,p::ps,[],_=>rfl
 |x::xs,p::ps,r::rs,ha=>by
  have ih:=XM xs ps rs (λr hr=>ha r (by simp[hr]));have hf:Sx S' x=Sx S x:=by
   cases x with
   |tmp i=>simp only[Sx];rw[ha i (by simp[cF])]
   |const c=>rfl
   |func f=>rfl
   |global g=>rfl
  simp only[x5,ih,hf]
theorem adY:∀ (xs:List Operand) (Ts:List TypeId) (ps:List Pass),(ps.all λp=>match p with
   | .val=>true
   |_=>false)=true->(∀ S,vE Θ S xs Ts ps=none)∨∃ l,∀ S,vE Θ S xs Ts ps=some (l,S)
 |[],_,_,_=>.inr ⟨[],λS=>by simp[vE]⟩
 |x::xs,[],_,_=>.inl λS=>by simp[vE]
 |x::xs,T::Ts,[],_=>.inl λS=>by simp[vE]
 |x::xs,T::Ts,p::ps,h=>by
  simp only[lO,ai] at h
  cases p with
  |take=>cases h.1
  |OU=>cases h.1
  |val=>
   rcases adY xs Ts ps h.2 with h1 |⟨l,h1⟩
   ·exact .inl λS=>by simp only[vE,h1]
   ·exact .inr ⟨none::l,λS=>by simp only[vE,h1]⟩
theorem Ze:∀ (l:List Pass) (n:Nat),(l.all λp=>match p with
   | .val=>true
   |_=>false)=true->To l n=none
 |[],_,_=>rfl
 | .val::r,n,h=>by simp only[To];exact Ze r (n+1) (by simpa using h)
 | .take::r,n,h=>by simp at h
 | .OU::r,n,h=>by simp at h
theorem aaR (l:List TV):KW (adT l):=by intro d;unfold adT;split<;>rfl
theorem apJ (hO:Lt O) {i:Nat} {o:Oper} (ho:ops[i]?=some o) (hg:o.guard=none) {d:Nat} (hd:o.dst=some d) {f:FuncId} {as:Array Operand} {ts:Array TypeId} (fp:o.op=.call { callee:=.value (.func f),args:=as,argTypes:=ts }) (hv:apA O f=true) {S:St} (hx:∀ x∈as.toList,x6 S x=true): ∃ oE:Option Ob,(∀ E,oE=some E->E.d=d/\E.gV=[]/\KW E.v)/\∀ S',Lw S S' (as.toList.flatMap cF)->∀ K,cP h O ops i S' K=oE.bind λE=>K (E.app S'):=by
 have De:∀ S' K,cP h O ops i S' K=xN h O o f none as.toList ts.toList S' K:=by intro S' K;unfold cP;rw[ho];simp only[hg];unfold xe;rw[fp];simp only[Ze _ 0 hv]
 rcases adY (Θ:=h.tab) as.toList ts.toList (O.sig f) hv with ht |⟨l,ht⟩
 ·exact⟨none,λE hE=>(by cases hE),λS' _ K=>by rw[De];unfold xN;simp only[ht];rfl⟩
 cases hr:reads h.tab S as.toList ts.toList l with
 |none=>exact⟨none,λE hE=>(by cases hE),λS' ha K=>by rw[De];unfold xN;simp only[ht,H6 _ _ _ hx ha,hr];rfl⟩
 |some args=>
 obtain⟨oR,hR⟩:=hO f (args++([]:List TV).map .tv);cases oR with
 |none=>refine⟨none,λE hE=>(by cases hE),λS' ha K=>?_⟩;rw[De];unfold xN;simp only[ht,H6 _ _ _ hx ha,hr,Pp,hR];rfl
 |some ret=>
 cases hrefs:ret.refs with
 |nil=>
  cases hc:(ret.res.all (λd=>uI d.t d.m)||(([]:List TV).isEmpty&&x5 S as.toList l args)) with
  |false=>refine⟨none,λE hE=>(by cases hE),λS' ha K=>?_⟩;rw[De];unfold xN;simp only[ht,H6 _ _ _ hx ha,XM _ _ _ ha,hr,Pp,hR,aI,hrefs,hc];rfl
  |true=>
  refine⟨some ⟨[],d,adT ret.res⟩,λE hE=>?_,λS' ha K=>?_⟩
  ·injection hE with hE;subst hE;exact⟨rfl,rfl,aaR _⟩
  rw[De];unfold xN;simp only[ht,H6 _ _ _ hx ha,XM _ _ _ ha,hr,Pp,hR,aI,hrefs,hd,hc];rfl
 |cons _ _=>refine⟨none,λE hE=>(by cases hE),λS' ha K=>?_⟩;rw[De];unfold xN;simp only[ht,H6 _ _ _ hx ha,hr,Pp,hR,aI,hrefs];rfl
def VD (a:AV):Prop:=(∃ b,a=.v b [])∨a=.dead
def aod (S:St):Operand->Prop
 | .tmp i=>VD (S.at i)
 | .const _=>True
 |_=>False
theorem amr {S:St} {x:Operand} (h:x6 S x=true):aod S x:=by
 cases x with
 |tmp i=>
 simp only[x6] at h;split at h
 ·rename_i a ha;exact .inl ⟨a,ha⟩
 cases h
 |const c=>trivial
 |func f=>simp[x6] at h
 |global g=>simp[x6] at h
theorem adZ {S:St} {x:Operand} (hx:aod S x) (T:TypeId):∃ oB:Option (TV×List Nat),(∀ b ks,oB=some (b,ks)->ks.Nodup/\∀ r∈ks,r∈cF x/\∃ a,S.at r=.v a [])/\∀ S',Lw S S' (cF x)->S'.take Θ T x=oB.map λq=>(q.1,fo q.2 S'):=by
 cases x with
 |tmp i=>
  rcases hx with⟨a,ha⟩ |ha
  ·cases hk:a.m.eY with
   |true=>
   refine⟨some (a,[]),λb ks e=>?_,λS' hs=>?_⟩
   ·injection e with e;injection e with _ e;subst e;exact⟨gu,λr hr=>by cases hr⟩
   have h2:=(hs i (by simp[cF])).trans ha;unfold St.take;simp[St.pJ,h2,St.pA,hk,fo]
   |false=>
   refine⟨some (a,[i]),λb ks e=>?_,λS' hs=>?_⟩
   ·injection e with e;injection e with _ e;subst e;refine⟨by simp,λr hr=>?_⟩;simp only[bj] at hr;subst hr;exact⟨by simp[cF],a,ha⟩
   have h2:=(hs i (by simp[cF])).trans ha;unfold St.take;simp[St.pJ,h2,St.pA,hk,fo]
  refine⟨none,λb ks e=>(by cases e),λS' hs=>?_⟩;have h2:=(hs i (by simp[cF])).trans ha;unfold St.take;simp[St.pJ,h2,St.pA]
 |const c=>
  cases hc:JH Θ T c with
  |none=>exact⟨none,λb ks e=>(by cases e),λS' ha=>(by unfold St.take;simp[St.pJ,hc])⟩
  |some a=>
  refine⟨some (a,[]),λb ks e=>?_,λS' ha=>?_⟩
  ·injection e with e;injection e with _ e;subst e;exact⟨gu,λr hr=>by cases hr⟩
  unfold St.take;simp only[St.pJ,hc,St.pA];cases a.m.eY<;>simp[fo]
 |func f=>exact hx.elim
 |global g=>exact hx.elim
theorem ahe {S:St} {x:Operand} (hx:x6 S x=true) (T:TypeId):∃ oB:Option (TV×List Nat),(∀ b ks,oB=some (b,ks)->ks.Nodup/\∀ r∈ks,r∈cF x)/\∀ S',Lw S S' (cF x)->S'.take Θ T x=oB.map λq=>(q.1,fo q.2 S'):=by obtain⟨oB,h1,h2⟩:=adZ (Θ:=Θ) (amr hx) T;exact⟨oB,λb ks e=>⟨(h1 b ks e).1,λr hr=>((h1 b ks e).2 r hr).1⟩,h2⟩
theorem XN {S:St} {i j:Nat} {a:TV} (h:S.at j=.v a []) (QX:j≠i):(S.put (some i) .dead).at j=.v a []:=by rw[nm,ar (λe=>QX e.1),h];simp[AV.refs]
theorem ad0 {S:St} {i:Nat} {a:TV} (h:S.at i=.v a []):(S.put (some i) .dead).at i=.dead:=by
 have hl:i<S.length:=by
  rcases gD i S.length with hl |hl
  ·exact hl
  unfold St.at at h;rw[aG,cv hl] at h;cases h
 rw[nm,ay ⟨rfl,hl⟩];simp[AV.refs]
theorem aj' {ks:List Nat} {S:St} {j:Nat} {a:TV} (h:S.at j=.v a []) (hj:j∉ks):(fo ks S).at j=.v a []:=by
 induction ks generalizing S with
 |nil=>exact h
 |cons x r ih=>exact ih (XN h (λe=>hj (by simp[e]))) (λe=>hj (by simp[e]))
theorem aoe {ks:List Nat} {S S':St} {y:Operand} (hy:x6 S y=true) (ha:Lw S S' (cF y)) (hn:∀ r∈cF y,r∉ks):Lw S (fo ks S') (cF y):=by
 intro r hr;cases y with
 |tmp j=>
 simp only[cF,bj] at hr;subst hr;rcases Pt (Θ:=[]) hy 0 with⟨i,a,e,h1,_⟩ |⟨c,e⟩
 ·injection e with e;subst e;rw[h1];exact aj' ((ha r (by simp[cF])).trans h1) (hn r (by simp[cF]))
 cases e
 |const c=>simp[cF] at hr
 |func f=>simp[cF] at hr
 |global g=>simp[cF] at hr
theorem aka {ks:List Nat} {S:St} {j:Nat} {a:TV} (h:S.at j=.v a []) (hj:j∈ks):(fo ks S).at j=.dead:=by
 have dead:∀ (ks:List Nat) (S:St),S.at j=.dead->(fo ks S).at j=.dead:=by
  intro ks;induction ks with
  |nil=>intro S h;exact h
  |cons x r ih=>
  intro S h;refine ih _ ?_;rw[nm];split
  ·simp[AV.refs]
  rw[h];simp[AV.refs]
 induction ks generalizing S with
 |nil=>cases hj
 |cons x r ih=>
 by_cases hx:j=x
 ·subst hx;exact dead r _ (ad0 h)
 exact ih (XN h hx) (by rcases aS.1 hj with e |e;exact absurd e hx;exact e)
theorem Zf (a b:List Nat) (S:St):fo (a++b) S=fo b (fo a S):=by
 induction a generalizing S with
 |nil=>rfl
 |cons x r ih=>exact ih _
theorem akb {S:St} {d:Nat} {x y:Operand} {T T':TypeId} (hx:x6 S x=true) (hy:x6 S y=true): ∃ oG:Option (Bool×Ob),(∀ g E,oG=some (g,E)->E.d=d/\KW E.v/\E.gV.Nodup/\∀ r∈E.gV,r∈cF x++cF y)/\∀ S',Lw S S' (cF x++cF y)->iH Θ S' (some d) [T,T'] [x,y]=oG.map λq=>(q.1,q.2.app S'):=by
 obtain⟨oB,hB1,hB2⟩:=ahe (Θ:=Θ) hx T;have hax:∀ {S':St},Lw S S' (cF x++cF y)->Lw S S' (cF x):=λha r hr=>ha r (by simp[hr]);have hay:∀ {S':St},Lw S S' (cF x++cF y)->Lw S S' (cF y):=λha r hr=>ha r (by simp[hr]);cases oB with
 |none=>exact⟨none,λg E e=>(by cases e),λS' ha=>by unfold iH;simp only[hB2 S' (hax ha)];rfl⟩
 |some q=>
  obtain⟨b,ks⟩:=q
  obtain⟨hnd,XE⟩:=hB1 b ks rfl
  -- is the second gone?
  by_cases aw0:∃ r∈cF y,r∈ks
  ·obtain⟨r,hr,hrk⟩:=aw0
   cases y with
   |const c=>simp[cF] at hr
   |func f=>simp[cF] at hr
   |global g=>simp[cF] at hr
   |tmp j=>
    simp only[cF,bj] at hr
    subst hr
    refine⟨none,λg E e=>(by cases e),λS' ha=>?_⟩
    rcases Pt (Θ:=Θ) hy 0 with⟨i,a,e,h1,_⟩ |⟨c,e⟩
    ·injection e with e
     subst e
     have Oa:=aka (ks:=ks) ((ha r (by simp[cF])).trans h1) hrk
     unfold iH
     simp only[hB2 S' (hax ha),aP]
     have hrd:(fo ks S').rd Θ T' (.tmp r)=none:=by unfold St.rd;simp only[St.pJ,Oa,St.QV]
     have htk:(fo ks S').take Θ T' (.tmp r)=none:=by unfold St.take;simp only[St.pJ,Oa,St.pA]
     split
     ·rename_i t e1 tg me xs S1 i heq hf
      simp only[ah,aF] at heq
      obtain⟨rfl,rfl⟩:=heq
      simp only[hrd,htk,ae]
      cases me.eY<;>cases (decide (i.ty=t.sl)&&Nat.beq i.e e1&&Θ.is T' t.sl)<;>rfl
     ·rfl
    ·cases e
  ·have hn:∀ r∈cF y,r∉ks:=λr hr hk=>aw0 ⟨r,hr,hk⟩
   obtain⟨oC,hC1,hC2⟩:=ahe (Θ:=Θ) hy T'
   cases hf:Θ.find T with
   |none=>exact⟨none,λg E e=>(by cases e),λS' ha=>by unfold iH;simp only[hB2 S' (hax ha),hf];split<;>simp_all⟩
   |some ti=>
   by_cases Oc:∃ (t:Ty) (e1:TypeId) (tg:Option Nat) (me:Md) (xs:List t.I),b=⟨.sl t,.o e1 tg me,xs⟩
   rotate_left
   ·refine⟨none,λg E e=>(by cases e),λS' ha=>?_⟩
    unfold iH
    simp only[hB2 S' (hax ha),hf,aP]
    split
    ·rename_i t e1 tg me xs S1 i heq aD5
     simp only[ah,aF] at heq
     exact absurd ⟨t,e1,tg,me,xs,heq.1⟩ Oc
    ·rfl
   obtain⟨t,e1,tg,me,xs,rfl⟩:=Oc
   have hS:∀ S',Lw S S' (cF x++cF y)->Lw S (fo ks S') (cF y):=λS' ha=>aoe hy (hay ha) hn
   cases hc:(decide (ti.ty=.sl t)&&Nat.beq ti.e e1&&Θ.is T' (.sl t)) with
   |false=>exact⟨none,λg E e=>(by cases e),λS' ha=>by unfold iH;simp only[hB2 S' (hax ha),hf,aP,hc,ae];rfl⟩
   |true=>
   cases hk:me.eY with
   |true=>
    have hev:∀ S',Lw S S' (cF x++cF y)->iH Θ S' (some d) [T,T'] [x,y]=(match S.rd Θ T' y with
     |some ⟨.sl t',m',ys⟩=>bif m'.inn.eY then(if h:t'=t then
       some (decide ((xs.length+ys.length)*t.size<=4398046511104),(fo ks S').put (some d) (.v ⟨.sl t,.o e1 none me,xs++(h▸ys)⟩ [])) else none) else none
     |_=>none):=λS' ha=>by
     unfold iH
     simp only[hB2 S' (hax ha),hf,aP,hc,ab,hk,afl hy (hS S' ha)]
     rfl
    cases hr:S.rd Θ T' y with
    |none=>exact⟨none,λg E e=>(by cases e),λS' ha=>by rw[hev S' ha,hr];rfl⟩
    |some c=>
     by_cases hf2:∃ (m':Md) (ys:List t.I),c=⟨.sl t,m',ys⟩/\m'.inn.eY=true
     ·obtain⟨m',ys,rfl,hm⟩:=hf2
      refine⟨some (decide ((length xs+length ys)*t.size<=4398046511104),⟨ks,d,.v ⟨.sl t,.o e1 none me,xs++ys⟩ []⟩),λg E e=>?_,λS' ha=>?_⟩
      rotate_left
      ·rw[hev S' ha,hr]
       simp only[hm,ab,dite_true,aP,Ob.app]
      ·injection e with e
       injection e with _ e
       subst e
       exact⟨rfl,λ_=>rfl,hnd,λr hr=>by simp[XE r hr]⟩
     ·refine⟨none,λg E e=>(by cases e),λS' ha=>?_⟩
      rw[hev S' ha,hr]
      split
      ·rename_i t' m' ys heq
       injection heq with heq
       subst heq
       cases hm:m'.inn.eY with
       |false=>rfl
       |true=>
        simp only[ab]
        by_cases ht:t'=t
        ·subst ht
         exact absurd ⟨m',ys,rfl,hm⟩ hf2
        ·rw[pf ht];rfl
      ·rfl
   |false=>
    have hev:∀ S',Lw S S' (cF x++cF y)->iH Θ S' (some d) [T,T'] [x,y]=(match oC.map (λq=>(q.1,fo q.2 (fo ks S'))) with
     |some (⟨.sl t',m',ys⟩,S2)=>if h:t'=t then
       (if m'.inn=me then some (decide ((xs.length+ys.length)*t.size<=4398046511104),S2.put (some d) (.v ⟨.sl t,.o e1 none me,xs++(h▸ys)⟩ [])) else none) else none
     |_=>none):=λS' ha=>by
     unfold iH
     simp only[hB2 S' (hax ha),hf,aP,hc,ab,ae,hk,hC2 _ (hS S' ha)]
     rfl
    cases oC with
    |none=>exact⟨none,λg E e=>(by cases e),λS' ha=>by rw[hev S' ha];rfl⟩
    |some c=>
     obtain⟨c,ks2⟩:=c
     obtain⟨apK,apL⟩:=hC1 c ks2 rfl
     by_cases hf2:∃ (m':Md) (ys:List t.I),c=⟨.sl t,m',ys⟩/\m'.inn=me
     ·obtain⟨m',ys,rfl,hm⟩:=hf2
      refine⟨some (decide ((length xs+length ys)*t.size<=4398046511104),⟨ks++ks2,d,.v ⟨.sl t,.o e1 none me,xs++ys⟩ []⟩),λg E e=>?_,λS' ha=>?_⟩
      rotate_left
      ·rw[hev S' ha]
       simp only[aP,dite_true,hm,dy,Ob.app,Zf]
      ·injection e with e
       injection e with _ e
       subst e
       refine⟨rfl,λ_=>rfl,ft.2 ⟨hnd,apK,λa ha b hb e=>by subst e;exact hn a (apL a hb) ha⟩,λr hr=>?_⟩
       rcases a8.1 hr with hr |hr
       ·simp[XE r hr]
       ·simp[apL r hr]
     ·refine⟨none,λg E e=>(by cases e),λS' ha=>?_⟩
      rw[hev S' ha]
      simp only[aP]
      split
      ·rename_i t' m' ys S2 heq
       injection heq with heq
       injection heq with heq _
       by_cases ht:t'=t
       ·subst ht
        by_cases hm:m'.inn=me
        ·exact absurd ⟨m',ys,heq,hm⟩ hf2
        ·rw[jc rfl,ar hm];rfl
       ·rw[pf ht];rfl
      ·rfl
theorem Zg (ks:List Nat) (S:St):(fo ks S).length=S.length:=by
 induction ks generalizing S with
 |nil=>rfl
 |cons x r ih=>simp only[fo,ih,eC]
theorem Tt:∀ (ks:List Nat) (S:St),ks.Nodup->(∀ x∈ks,∃ a,S.at x=.v a [])->∀ i,(fo ks S).at i=if i∈ks then .dead else bif ks.any (S.at i).refs then .dead else S.at i
 |[],S,_,_,i=>by simp[fo]
 |x::r,S,hn,hv,i=>by
  obtain⟨a,ha⟩:=hv x (by simp);simp only[ek] at hn;have hv':∀ y∈r,∃ b,(S.put (some x) .dead).at y=.v b []:=λy hy=>(by obtain⟨b,hb⟩:=hv y (by simp[hy]);exact⟨b,XN hb (λe=>hn.1 (by rw[←e];exact hy))⟩);simp only[fo];rw[Tt r _ hn.2 hv' i];by_cases hir:i∈r
  ·simp[hir]
  by_cases hix:i=x
  ·subst hix;simp only[hir,cT,ad0 ha,aS,true_or,dy];simp[AV.refs]
  simp only[hir,cT,aS,hix,or_self];rw[nm,ar (λe=>hix e.1),ha];simp only[AV.UX,cM,vG];cases hr:(S.at i).refs x<;>simp[AV.refs]
structure Ob.In (E:Ob) (S:St):Prop where
 nd:E.gV.Nodup
 fe:∀ x∈E.gV,∃ a,S.at x=.v a []
 slot:(S.at E.d).UX=false
 lt:E.d<S.length
 refs:KW E.v
 out:E.d∉E.gV
theorem Ob.afm (E:Ob) (S:St):(E.app S).length=S.length:=by unfold Ob.app;rw[eC,Zg]
theorem Ob.Pu {E:Ob} {S:St} (h:E.In S) (i:Nat):(E.app S).at i=if i=E.d then E.v else if i∈E.gV then .dead else bif E.gV.any (S.at i).refs then .dead else S.at i:=by
 unfold Ob.app;have hd:((fo E.gV S).at E.d).UX=false:=by
  rw[Tt _ _ h.nd h.fe];split
  ·rfl
  cases E.gV.any (S.at E.d).refs with
  |true=>rfl
  |false=>exact h.slot
 rw[nm,Zg,hd];by_cases hi:i=E.d
 ·rw[ay ⟨hi,h.lt⟩,ay hi,h.refs];rfl
 rw[ar (λe=>hi e.1),ar hi];simp only[dN,ae];exact Tt _ _ h.nd h.fe i
theorem F8 {S S':St} (hl:S.length=S'.length) (h:∀ i,S.at i=S'.at i):S=S':=by apply wx hl;intro i h1 h2;have:=h i;unfold St.at at this;rw[aG,aG,aN h1,aN h2] at this;exact this
theorem Ob.comm {E F:Ob} {S:St} (hE:E.In S) (hF:F.In S) (hd:E.d≠F.d) (h1:E.d∉F.gV) (h2:F.d∉E.gV) (hEF:E.In (F.app S)) (hFE:F.In (E.app S)):E.app (F.app S)=F.app (E.app S):=by
 refine F8 (by simp[Ob.afm]) λi=>?_;rw[Ob.Pu hEF,Ob.Pu hFE,Ob.Pu hF,Ob.Pu hE];by_cases hiE:i=E.d
 ·subst hiE;have hv:F.gV.any E.v.refs=false:=cV.2 λx _=>by rw[hE.refs];simp
  simp[hd,h1,hv]
 by_cases hiF:i=F.d
 ·subst hiF;have hv:E.gV.any F.v.refs=false:=cV.2 λx _=>by rw[hF.refs];simp
  simp[hiE,h2,hv]
 simp only[hiE,hiF,cT];by_cases hkE:i∈E.gV
 ·by_cases hkF:i∈F.gV
  ·simp[hkE,hkF]
  have hv:F.gV.any AV.dead.refs=false:=cV.2 λx _=>(by simp[AV.refs]);simp[hkE,hkF,hv]
 by_cases hkF:i∈F.gV
 ·have hv:E.gV.any AV.dead.refs=false:=cV.2 λx _=>(by simp[AV.refs]);simp[hkE,hkF,hv]
 have hvE:E.gV.any AV.dead.refs=false:=cV.2 λx _=>by simp[AV.refs]
 have hvF:F.gV.any AV.dead.refs=false:=cV.2 λx _=>by simp[AV.refs]
 simp only[hkE,hkF,cT];cases hE':E.gV.any (S.at i).refs<;>cases hF':F.gV.any (S.at i).refs<;>simp[hE',hF',hvE,hvF]
theorem ahf {S:St} {r x:Nat} (h:VD (S.at r)):(S.put (some x) .dead).at r=if r=x then .dead else S.at r:=by
 have hr:(S.at r).refs x=false:=by rcases h with⟨a,h⟩ |h<;>rw[h]<;>rfl
 rw[nm,hr];by_cases hx:r=x
 ·subst hx;by_cases hl:r<S.length
  ·simp[hl,AV.refs]
  have:S.at r=.dead:=(by unfold St.at;rw[aG,cv (by omega)];rfl);simp[hl,this]
 simp[hx]
theorem Pw:∀ (ks:List Nat) {S:St} {r:Nat},VD (S.at r)->(fo ks S).at r=if r∈ks then .dead else S.at r
 |[],S,r,h=>by simp[fo]
 |x::l,S,r,h=>by have h1:=ahf (x:=x) h;have hv:VD ((S.put (some x) .dead).at r):=(by rw[h1];split;exact .inr rfl;exact h);simp only[fo];rw[Pw l hv,h1];by_cases hx:r=x<;>by_cases hl:r∈l<;>simp[hx,hl]
theorem akc {S:St} {ks:List Nat} {x:Operand} (h:aod S x):aod (fo ks S) x:=by
 cases x with
 |tmp i=>
 simp only[aod] at h ⊢;rw[Pw ks h];split
 ·exact .inr rfl
 exact h
 |const c=>trivial
 |func f=>exact h
 |global g=>exact h
theorem XO {ps:List (Nat×Operand)}:∀ (r:List TypeId) (j:Nat) {S:St},(∀ q∈ps,aod S q.2)->∃ oL:Option (List TV×List Nat),(∀ l ks,oL=some (l,ks)->ks.Nodup/\∀ x∈ks,x∈ps.flatMap (λq=>cF q.2)/\∃ a,S.at x=.v a [])/\ ∀ S',Lw S S' (ps.flatMap λq=>cF q.2)->S'.parts Θ ps r j=oL.map λq=>(q.1,fo q.2 S')
 |[],j,S,hx=>⟨some ([],[]),λl ks e=>by
  injection e with e
  injection e with _ e
  subst e
  exact⟨gu,λx hx=>by cases hx⟩,λS' ha=>rfl⟩
 |T::r,j,S,hx=>by
  cases hf:ps.find? (λq=>Nat.beq q.1 j) with
  |none=>
   cases hz:Pj Θ T with
   |none=>exact⟨none,λl ks e=>(by cases e),λS' ha=>by simp only[St.parts,hf,hz];rfl⟩
   |some a=>
   obtain⟨oL,h1,h2⟩:=XO r (j+1) hx;cases oL with
   |none=>exact⟨none,λl ks e=>(by cases e),λS' ha=>by simp only[St.parts,hf,hz,h2 S' ha];rfl⟩
   |some q=>refine⟨some (a::q.1,q.2),λl ks e=>?_,λS' ha=>by simp only[St.parts,hf,hz,h2 S' ha];rfl⟩;injection e with e;injection e with _ e;subst e;exact h1 q.1 q.2 rfl
  |some q=>
  have hq:q∈ps:=List.mem_of_find?_eq_some hf;have adr:∀ r∈cF q.2,r∈ps.flatMap λq=>cF q.2:=λr hr=>eD.2 ⟨q,hq,hr⟩;obtain⟨oB,b1,b2⟩:=adZ (Θ:=Θ) (hx q hq) T;cases oB with
  |none=>exact⟨none,λl ks e=>(by cases e),λS' ha=>by simp only[St.parts,hf,b2 S' λr hr=>ha r (adr r hr)];rfl⟩
  |some bk=>
  obtain⟨b,ks⟩:=bk;obtain⟨hnd,XE⟩:=b1 b ks rfl;obtain⟨oL,h1,h2⟩:=XO r (j+1) (S:=fo ks S) (λq hq=>akc (hx q hq));have hag:∀ S',Lw S S' (ps.flatMap λq=>cF q.2)->Lw (fo ks S) (fo ks S') (ps.flatMap λq=>cF q.2):=λS' ha r hr=>by
   obtain⟨q',OV,XP⟩:=eD.1 hr;have hv:VD (S.at r):=by
    have:=hx q' OV;cases hq2:q'.2 with
    |tmp i=>rw[hq2] at this XP;simp only[cF,bj] at XP;subst XP;exact this
    |const c=>rw[hq2] at XP;simp[cF] at XP
    |func f=>rw[hq2] at XP;simp[cF] at XP
    |global g=>rw[hq2] at XP;simp[cF] at XP
   rw[Pw ks hv,Pw ks (by rw[ha r hr];exact hv),ha r hr]
  cases oL with
  |none=>exact⟨none,λl ks e=>(by cases e),λS' ha=>by simp only[St.parts,hf,b2 S' λr hr=>ha r (adr r hr),aP,h2 _ (hag S' ha)];rfl⟩
  |some lk=>
  obtain⟨l,ks2⟩:=lk;obtain⟨apK,apL⟩:=h1 l ks2 rfl;refine⟨some (b::l,ks++ks2),λl' ks' e=>?_,λS' ha=>by simp only[St.parts,hf,b2 S' λr hr=>ha r (adr r hr),aP,h2 _ (hag S' ha),Zf]⟩;injection e with e;injection e with _ e;subst e;have hv2:∀ x∈ks2,x∉ks/\∃ a,S.at x=.v a []:=λx UY=>by
   obtain⟨m1,a,m2⟩:=apL x UY;have hv:VD (S.at x):=by
    obtain⟨q',OV,XP⟩:=eD.1 m1;have:=hx q' OV;cases hq2:q'.2 with
    |tmp i=>rw[hq2] at this XP;simp only[cF,bj] at XP;subst XP;exact this
    |const c=>rw[hq2] at XP;simp[cF] at XP
    |func f=>rw[hq2] at XP;simp[cF] at XP
    |global g=>rw[hq2] at XP;simp[cF] at XP
   rw[Pw ks hv] at m2;by_cases hk:x∈ks
   ·rw[ay hk] at m2;cases m2
   rw[ar hk] at m2;exact⟨hk,a,m2⟩
  refine⟨ft.2 ⟨hnd,apK,λa ha b hb e=>by subst e;exact(hv2 a hb).1 ha⟩,λx UY=>?_⟩;rcases a8.1 UY with UY |UY
  ·exact⟨adr x (XE x UY).1,(XE x UY).2⟩
  exact⟨(apL x UY).1,(hv2 x UY).2⟩
theorem aof {S:St} {d:Nat} {T:TypeId} {n:Nat} {hn:Hn} {ps:List (Nat×Operand)} (hx:∀ q∈ps,x6 S q.2=true): ∃ oG:Option (Bool×Ob),(∀ g E,oG=some (g,E)->E.d=d/\KW E.v/\E.gV.Nodup/\∀ r∈E.gV,r∈ps.flatMap λq=>cF q.2)/\∀ S',Lw S S' (ps.flatMap λq=>cF q.2)->fb Θ hn S' (some d) T n ps=oG.map λq=>(q.1,q.2.app S'):=by
 cases hf:Θ.find T with
 |none=>exact⟨none,λg E e=>(by cases e),λS' ha=>by unfold fb;simp only[hf];rfl⟩
 |some i=>
  by_cases Oc:∃ t,i.ty=.sl t
  rotate_left
  ·refine⟨none,λg E e=>(by cases e),λS' ha=>?_⟩
   unfold fb
   simp only[hf]
   split
   ·rename_i heq
    injection heq with heq
    subst heq
    exact absurd ⟨_,rfl⟩ Oc
   ·rfl
  obtain⟨t,ht⟩:=Oc
  obtain⟨q1,ty,e,q4⟩:=i
  simp only at ht
  subst ht
  obtain⟨oL,l1,l2⟩:=XO (Θ:=Θ) (List.replicate n e) 0 (λq hq=>amr (hx q hq))
  cases hc:(EM n ps&&Nat.ble n 1800) with
  |false=>exact⟨none,λg E e=>(by cases e),λS' ha=>by unfold fb;simp only[hf,hc,ae];rfl⟩
  |true=>
   cases oL with
   |none=>exact⟨none,λg E e=>(by cases e),λS' ha=>by unfold fb;simp only[hf,hc,ab,l2 S' ha];rfl⟩
   |some q=>
    obtain⟨l,ks⟩:=q
    obtain⟨hnd,XE⟩:=l1 l ks rfl
    cases l with
    |nil=>
     refine⟨some (true,⟨ks,d,.v ⟨.sl t,bif hn.an9 (some d) then .k else .o e none (hn.find (some d) .k),[]⟩ []⟩),λg E e=>?_,λS' ha=>by unfold fb;simp only[hf,hc,ab,l2 S' ha];rfl⟩
     injection e with e
     injection e with _ e
     subst e
     exact⟨rfl,λ_=>rfl,hnd,λr hr=>(XE r hr).1⟩
    |cons a l=>
     cases hl:Pl t a.m (a::l) with
     |none=>exact⟨none,λg E e=>(by cases e),λS' ha=>by unfold fb;simp only[hf,hc,ab,l2 S' ha,aP,hl];rfl⟩
     |some xs=>
      refine⟨some (true,⟨ks,d,.v ⟨.sl t,bif hn.an9 (some d)&&a.m.eY then .k else .o e none a.m,xs⟩ []⟩),λg E e=>?_,λS' ha=>by unfold fb;simp only[hf,hc,ab,l2 S' ha,aP,hl];rfl⟩
      injection e with e
      injection e with _ e
      subst e
      exact⟨rfl,λ_=>rfl,hnd,λr hr=>(XE r hr).1⟩
theorem akd {S:St} {x:Operand} (h:opK S x=true):x6 S x=true:=by
 cases x with
 |tmp i=>
 simp only[opK] at h;simp only[x6];split at h
 ·rename_i ha;rw[ha]
 cases h
 |const c=>rfl
 |func f=>exact h
 |global g=>exact h
theorem aaS {S S':St} {d:Int} {x:Option Operand} (h:Zd S x=true) (ha:Lw S S' (sK x)):xL Θ S' d x=xL Θ S d x:=by
 cases x with
 |none=>rfl
 |some x=>simp only[xL,St.GI,afl h ha]
theorem auG {S:St} {d:Nat} {T:TypeId} {x:Operand} {lo hi:Option Operand} (hx:opK S x=true) (hlo:Zd S lo=true) (hhi:Zd S hi=true):
  ∃ o:Option (Bool×TV),∀ S',Lw S S' (cF x++(sK lo++sK hi))->qQ Θ S' (some d) T x lo hi none=o.map λq=>(q.1,S'.put (some d) (.v q.2 [])):=by
 have ag:∀ {S':St},Lw S S' (cF x++(sK lo++sK hi))->S'.pJ Θ 0 x=S.pJ Θ 0 x/\S'.rd Θ 0 x=S.rd Θ 0 x/\xL Θ S' 0 lo=xL Θ S 0 lo/\∀ n,xL Θ S' n hi=xL Θ S n hi:=λha=>
  ⟨aan (λr hr=>ha r (by simp[hr])) 0,afl (akd hx) (λr hr=>ha r (by simp[hr])) 0,aaS hlo λr hr=>ha r (by simp[hr]),λn=>aaS hhi λr hr=>ha r (by simp[hr])⟩
 have pL:(∃ t y,S.pJ Θ 0 x=some (.v ⟨t,.k,y⟩ [])/\S.rd Θ 0 x=some ⟨t,.k,y⟩)∨∃ c,x=.const c:=by
  cases x with
  |tmp i=>
   simp only[opK] at hx
   split at hx
   ·rename_i t y ha
    exact .inl ⟨t,y,by simp[St.pJ,ha],by simp[St.rd,St.pJ,ha,St.QV]⟩
   ·cases hx
  |const c=>exact .inr ⟨c,rfl⟩
  |func f=>simp[opK] at hx
  |global g=>simp[opK] at hx
 have A3:(∃ a,S.pJ Θ 0 x=some (.v a [])/\S.rd Θ 0 x=some a/\(a.m=.k∨∃ c,x=.const c))∨S.pJ Θ 0 x=none:=by
  rcases pL with⟨t,y,h1,h2⟩ |⟨c,rfl⟩
  ·exact .inl ⟨_,h1,h2,.inl rfl⟩
  ·simp only[St.rd,St.pJ]
   cases JH Θ 0 c with
   |none=>exact .inr rfl
   |some a=>exact .inl ⟨a,rfl,rfl,.inr ⟨c,rfl⟩⟩
 rcases A3 with⟨a,h1,h2,hm⟩ |h1
 rotate_left
 ·exact⟨none,λS' ha=>by unfold qQ;rw[(ag ha).1,h1];rfl⟩
 cases hl:xL Θ S 0 lo with
 |none=>
  refine⟨none,λS' ha=>?_⟩
  obtain⟨e1,e2,e3,e4⟩:=ag ha
  unfold qQ
  rw[e1,e2,e3,h1,h2,hl]
  obtain⟨t,m,y⟩:=a
  cases t<;>rfl
 |some l=>
  obtain⟨t,m,y⟩:=a
  have aD0:(∀ S',qQ Θ S' (some d) T x lo hi none=none)->∃ o:Option (Bool×TV),∀ S',Lw S S' (cF x++(sK lo++sK hi))->qQ Θ S' (some d) T x lo hi none=o.map λq=>(q.1,S'.put (some d) (.v q.2 [])):=λh=>⟨none,λS' _=>h S'⟩
  cases t with
  |str=>
   cases hh:xL Θ S (ByteArray.size y:Int) hi with
   |none=>
    refine⟨none,λS' ha=>?_⟩
    obtain⟨e1,e2,e3,e4⟩:=ag ha
    unfold qQ
    rw[e1,e2,e3,h1,h2,hl]
    simp only[e4,hh]
    rfl
   |some h'=>
    cases hT:Θ.is T .str with
    |false=>
     refine⟨none,λS' ha=>?_⟩
     obtain⟨e1,e2,e3,e4⟩:=ag ha
     unfold qQ
     rw[e1,e2,e3,h1,h2,hl]
     simp only[e4,hh,hT]
     rfl
    |true=>
     refine⟨some (decide (0<=l)&&decide (l<=h')&&decide (h'<=(ByteArray.size y:Int)),⟨.str,.k,ByteArray.extract y l.toNat h'.toNat⟩),λS' ha=>?_⟩
     obtain⟨e1,e2,e3,e4⟩:=ag ha
     unfold qQ
     rw[e1,e2,e3,h1,h2,hl]
     simp only[e4,hh,hT]
     rfl
  |sl t=>
   cases hT:Θ.is T (.sl t) with
   |false=>
    refine⟨none,λS' ha=>?_⟩
    obtain⟨e1,e2,e3,e4⟩:=ag ha
    unfold qQ
    rw[e1,e2,e3,h1,h2,hl]
    simp only[hT]
    rfl
   |true=>
    cases hh:xL Θ S (length y:Int) hi with
    |none=>
     refine⟨none,λS' ha=>?_⟩
     obtain⟨e1,e2,e3,e4⟩:=ag ha
     unfold qQ
     rw[e1,e2,e3,h1,h2,hl]
     simp only[hT,e4,hh]
     rfl
    |some h'=>
     by_cases hk:m=.k
     ·subst hk
      refine⟨some (decide (0<=l)&&decide (l<=h')&&decide (h'<=(length y:Int)),⟨.sl t,.k,(List.take h'.toNat y).drop l.toNat⟩),λS' ha=>?_⟩
      obtain⟨e1,e2,e3,e4⟩:=ag ha
      unfold qQ
      rw[e1,e2,e3,h1,h2,hl]
      simp only[hT,e4,hh]
      rfl
     ·obtain⟨c,rfl⟩:=hm.resolve_left hk
      refine⟨none,λS' ha=>?_⟩
      obtain⟨e1,e2,e3,e4⟩:=ag ha
      unfold qQ
      rw[e1,e2,e3,h1,h2,hl]
      simp only[hT,e4,hh,ab]
      cases m<;>first |exact absurd rfl hk |rfl
  |_=>
   refine⟨none,λS' ha=>?_⟩
   obtain⟨e1,e2,e3,e4⟩:=ag ha
   unfold qQ
   rw[e1,e2,e3,h1,h2,hl]
   rfl
theorem aog {S:St} {d:Nat} {T:TypeId} {x ix:Operand} (hx:opK S x=true) (hix:x6 S ix=true):
  ∃ o:Option (Bool×TV),∀ S',Lw S S' (cF x++cF ix)->iG Θ S' (some d) T x ix=o.map λq=>(q.1,S'.put (some d) (.v q.2 [])):=by
 have ag:∀ {S':St},Lw S S' (cF x++cF ix)->S'.pJ Θ 0 x=S.pJ Θ 0 x/\S'.GI Θ ix=S.GI Θ ix:=λha=>
  ⟨aan (λr hr=>ha r (by simp[hr])) 0,by unfold St.GI;rw[afl hix (λr hr=>ha r (by simp[hr])) 0]⟩
 have A3:(∃ a,S.pJ Θ 0 x=some (.v a [])/\(a.m=.k∨∃ c,x=.const c))∨S.pJ Θ 0 x=none:=by
  cases x with
  |tmp i=>
   simp only[opK] at hx
   split at hx
   ·rename_i t y ha
    exact .inl ⟨⟨t,.k,y⟩,by simp[St.pJ,ha],.inl rfl⟩
   ·cases hx
  |const c=>
   simp only[St.pJ]
   cases JH Θ 0 c with
   |none=>exact .inr rfl
   |some a=>exact .inl ⟨a,rfl,.inr ⟨c,rfl⟩⟩
  |func f=>simp[opK] at hx
  |global g=>simp[opK] at hx
 rcases A3 with⟨a,h1,hm⟩ |h1
 rotate_left
 ·exact⟨none,λS' ha=>by unfold iG;rw[(ag ha).1,h1];rfl⟩
 cases hn:S.GI Θ ix with
 |none=>
  refine⟨none,λS' ha=>?_⟩
  obtain⟨e1,e2⟩:=ag ha
  unfold iG
  rw[e1,e2,h1,hn]
  obtain⟨t,m,y⟩:=a
  cases t<;>rfl
 |some n=>
  obtain⟨t,m,y⟩:=a
  cases t with
  |sl t=>
   cases hT:Θ.is T (.sl t) with
   |false=>
    refine⟨none,λS' ha=>?_⟩
    obtain⟨e1,e2⟩:=ag ha
    unfold iG
    rw[e1,e2,h1,hn]
    simp only[hT]
    rfl
   |true=>
    by_cases hk:m=.k
    ·subst hk
     refine⟨some (bp n (length y),⟨.ptr t,.k,getD y n.toNat t.z⟩),λS' ha=>?_⟩
     obtain⟨e1,e2⟩:=ag ha
     unfold iG
     rw[e1,e2,h1,hn]
     simp only[hT]
     rfl
    ·obtain⟨c,rfl⟩:=hm.resolve_left hk
     refine⟨none,λS' ha=>?_⟩
     obtain⟨e1,e2⟩:=ag ha
     unfold iG
     rw[e1,e2,h1,hn]
     simp only[hT,ab]
     cases m<;>first |exact absurd rfl hk |rfl
  |_=>
   refine⟨none,λS' ha=>?_⟩
   obtain⟨e1,e2⟩:=ag ha
   unfold iG
   rw[e1,e2,h1,hn]
   rfl
theorem U7 {S:St} {o:Oper} (hg:Dc O ops S o=true):o.guard=none/\∃ d,o.dst=some d/\(S.at d).UX=false/\d<S.length:=by
 unfold Dc at hg;simp only[ai] at hg;obtain⟨⟨h1,h2⟩,_⟩:=hg;refine⟨?_,?_⟩
 ·split at h1
  ·assumption
  cases h1
 split at h2
 ·rename_i d hd;simp only[ai,bV] at h2;exact⟨d,hd,h2.1,oY (sr _) (bJ h2.2)⟩
 cases h2
theorem zq {S:St} {x:Operand} (h:x6 S x=true):∀ r∈cF x,∃ a,S.at r=.v a []:=by
 intro r hr;rcases Pt (Θ:=[]) h 0 with⟨i,a,rfl,h1,_⟩ |⟨c,rfl⟩
 ·simp only[cF,bj] at hr;subst hr;exact⟨a,h1⟩
 simp[cF] at hr
theorem afn {S S':St} {Θ:kR} {dst:Option Nat}:∀ {as:List Operand} {ts:List TypeId},(∀ x∈as,x6 S x=true)->Lw S S' (as.flatMap cF)->u9 Θ S' dst ts as=none:=by
 intro as ts fp ha;unfold u9;split
 ·rename_i x y T T';split
  ·rename_i tt s st pp pL;exfalso;have h1:=fp x (by simp);cases x with
   |tmp i=>have h2:=ha i (by simp[cF]);simp only[St.pJ,ah] at pL;rw[h2] at pL;simp only[x6,pL] at h1;cases h1
   |const c=>simp only[St.pJ] at pL;split at pL<;>cases pL
   |func f=>simp[x6] at h1
   |global g=>simp[x6] at h1
  rfl
 rfl
theorem ams (hO:Lt O) {i:Nat} {o:Oper} (ho:ops[i]?=some o) {S:St} (hg:Dc O ops S o=true) {d:Nat} (hd:o.dst=some d): ∃ oE:Option Ob,(∀ E,oE=some E->E.d=d/\KW E.v/\E.gV.Nodup/\(∀ r∈E.gV,r∈cQ ops o)/\(Dd o=true->E.gV=[]))/\∀ S',Lw S S' (cQ ops o)->∀ K,cP h O ops i S' K=oE.bind λE=>K (E.app S'):=by
 have hgd:=(U7 hg).1;have val:∀ {o':Option (Bool×TV)} {evf:St->Tk},Dd o=true->(∀ S' K,cP h O ops i S' K=match evf S' with
    |some (g,S1)=>bif g then K S1 else none
    |none=>none)->(∀ S',Lw S S' (cQ ops o)->evf S'=o'.map λq=>(q.1,S'.put (some d) (.v q.2 [])))->
   ∃ oE:Option Ob,(∀ E,oE=some E->E.d=d/\KW E.v/\E.gV.Nodup/\(∀ r∈E.gV,r∈cQ ops o)/\(Dd o=true->E.gV=[]))/\∀ S',Lw S S' (cQ ops o)->∀ K,cP h O ops i S' K=oE.bind λE=>K (E.app S'):=by
  intro o' evf hc fZ hev
  cases o' with
  |none=>exact⟨none,λE e=>(by cases e),λS' ha K=>by rw[fZ,hev S' ha];rfl⟩
  |some q=>
   obtain⟨g,r⟩:=q
   cases g with
   |false=>exact⟨none,λE e=>(by cases e),λS' ha K=>by rw[fZ,hev S' ha];rfl⟩
   |true=>
    refine⟨some ⟨[],d,.v r []⟩,λE e=>?_,λS' ha K=>by rw[fZ,hev S' ha];rfl⟩
    injection e with e
    subst e
    exact⟨rfl,λ_=>rfl,gu,λr hr=>(by cases hr),λ_=>rfl⟩
 unfold Dc at hg;simp only[ai] at hg;have fp:=hg.2;split at fp
 ·rename_i f as ts kU;simp only[ai,aJ] at fp;obtain⟨oE,h1,h2⟩:=apJ (h:=h) hO ho hgd hd kU fp.1 fp.2;have hl:cQ ops o=as.toList.flatMap cF:=by unfold cQ;rw[kU]
  refine⟨oE,λE hE=>?_,λS' ha=>h2 S' (by rw[hl] at ha;exact ha)⟩;obtain⟨e1,e2,e3⟩:=h1 E hE;exact⟨e1,e3,by rw[e2];exact gu,λr hr=>by rw[e2] at hr;(cases hr),λ_=>e2⟩
 ·rename_i as ts kU;simp only[aJ] at fp;have hl:cQ ops o=as.toList.flatMap cF:=by unfold cQ;rw[kU]
  have hcb:Dd o=false:=(by unfold Dd;rw[kU]);have De:∀ S' K,Lw S S' (as.toList.flatMap cF)->cP h O ops i S' K=match iH h.tab S' (some d) ts.toList as.toList with
    |some (g,S1)=>bif g then K S1 else none
    |none=>none:=by
   intro S' K ha
   unfold cP
   rw[ho]
   simp only[hgd]
   unfold xe
   rw[kU]
   simp only[ev,kU,hd]
   rcases iH h.tab S' (some d) ts.toList as.toList with _ |⟨g,S1⟩
   ·simp only[afn fp ha]
   ·rfl
  have fin:∀ oG:Option (Bool×Ob),(∀ g E,oG=some (g,E)->E.d=d/\KW E.v/\E.gV.Nodup/\∀ r∈E.gV,r∈as.toList.flatMap cF)->(∀ S',Lw S S' (as.toList.flatMap cF)->iH h.tab S' (some d) ts.toList as.toList=oG.map λq=>(q.1,q.2.app S'))->
    ∃ oE:Option Ob,(∀ E,oE=some E->E.d=d/\KW E.v/\E.gV.Nodup/\(∀ r∈E.gV,r∈cQ ops o)/\(Dd o=true->E.gV=[]))/\∀ S',Lw S S' (cQ ops o)->∀ K,cP h O ops i S' K=oE.bind λE=>K (E.app S'):=by
   intro oG h1 h2
   cases oG with
   |none=>exact⟨none,λE e=>(by cases e),λS' ha K=>by rw[De S' K (by rw[hl] at ha;exact ha),h2 S' (by rw[hl] at ha;exact ha)];rfl⟩
   |some q=>
    obtain⟨g,E⟩:=q
    cases g with
    |false=>exact⟨none,λE e=>(by cases e),λS' ha K=>by rw[De S' K (by rw[hl] at ha;exact ha),h2 S' (by rw[hl] at ha;exact ha)];rfl⟩
    |true=>
     refine⟨some E,λE' e=>?_,λS' ha K=>by rw[De S' K (by rw[hl] at ha;exact ha),h2 S' (by rw[hl] at ha;exact ha)];rfl⟩
     injection e with e
     subst e
     obtain⟨e1,e2,e3,e4⟩:=h1 true E rfl
     exact⟨e1,e2,e3,by rw[hl];exact e4,λhc=>by rw[hcb] at hc;cases hc⟩
  by_cases Oc:∃ x y T T',as.toList=[x,y]/\ts.toList=[T,T']
  ·obtain⟨x,y,T,T',ha,ht⟩:=Oc;rw[ha] at fp;obtain⟨oG,h1,h2⟩:=akb (Θ:=h.tab) (d:=d) (T:=T) (T':=T') (fp x (by simp)) (fp y (by simp));refine fin oG ?_ ?_
   ·intro g E e;obtain⟨e1,e2,e3,e4⟩:=h1 g E e;exact⟨e1,e2,e3,λr hr=>by rw[ha];simpa using e4 r hr⟩
   intro S' hs;rw[ha,ht];exact h2 S' (by rw[ha] at hs;simpa using hs)
  refine fin none (λg E e=>(by cases e)) λS' hs=>?_;unfold iH;split
  ·rename_i x y T T' ha ht;exact absurd ⟨x,y,T,T',ha,ht⟩ Oc
  rfl
 ·rename_i T n ps kU;simp only[aJ] at fp;have hl:cQ ops o=ps.toList.flatMap λq=>cF q.2:=by unfold cQ;rw[kU]
  have hcb:Dd o=false:=(by unfold Dd;rw[kU]);have De:∀ S' K,cP h O ops i S' K=match fb h.tab h.hn S' (some d) T n ps.toList with
    |some (g,S1)=>bif g then K S1 else none
    |none=>none:=by
   intro S' K
   unfold cP
   rw[ho]
   simp only[hgd]
   unfold xe
   rw[kU]
   simp only[ev,kU,hd]
   rcases fb h.tab h.hn S' (some d) T n ps.toList with _ |⟨g,S1⟩<;>rfl
  obtain⟨oG,h1,h2⟩:=aof (Θ:=h.tab) (d:=d) (T:=T) (n:=n) (hn:=h.hn) fp;cases oG with
  |none=>exact⟨none,λE e=>(by cases e),λS' ha K=>by rw[De,h2 S' (by rw[hl] at ha;exact ha)];rfl⟩
  |some q=>
  obtain⟨g,E⟩:=q;cases g with
  |false=>exact⟨none,λE e=>(by cases e),λS' ha K=>by rw[De,h2 S' (by rw[hl] at ha;exact ha)];rfl⟩
  |true=>refine⟨some E,λE' e=>?_,λS' ha K=>by rw[De,h2 S' (by rw[hl] at ha;exact ha)];rfl⟩;injection e with e;subst e;obtain⟨e1,e2,e3,e4⟩:=h1 true E rfl;exact⟨e1,e2,e3,by rw[hl];exact e4,λhc=>by rw[hcb] at hc;cases hc⟩
 ·rename_i T x kU;split at fp;case h_4=>cases fp
  case h_2=>
   rename_i t y hb hx
   have hl:cQ ops o=[x]:=by unfold cQ;rw[kU];simp only[hb]
   refine val (evf:=λS'=>tQ h.tab S' (some d) T (.tmp x)) (o':=(bif h.tab.is T t then some (true,⟨t,.k,y⟩) else none)) (by unfold Dd;rw[kU]) (λS' K=>by unfold cP;rw[ho];simp only[hgd];unfold xe;rw[kU];simp only[ev,kU,hd];rcases tQ h.tab S' (some d) T (.tmp x) with _ |⟨g,S1⟩<;>rfl) λS' ha=>?_
   rw[hl] at ha
   have h1:S'.at x=.v ⟨.ptr t,.k,y⟩ []:=(ha x (by simp)).trans hx
   unfold tQ
   simp only[St.pJ,h1,St.Tj,St.loadAt,Tgt.ty,kTV]
   cases h.tab.is T t<;>rfl
  case h_3=>
   rename_i t T1 tg me y hb hx
   have hl:cQ ops o=[x]:=by unfold cQ;rw[kU];simp only[hb]
   split at fp
   case h_2=>cases fp
   rename_i b Zh
   refine val (evf:=λS'=>tQ h.tab S' (some d) T (.tmp x)) (o':=match S.place x [.deref] with
    |some c=>bif h.tab.is T t then some (true,kTV c) else none
    |none=>none) (by unfold Dd;rw[kU]) (λS' K=>by unfold cP;rw[ho];simp only[hgd];unfold xe;rw[kU];simp only[ev,kU,hd];rcases tQ h.tab S' (some d) T (.tmp x) with _ |⟨g,S1⟩<;>rfl) λS' ha=>?_
   rw[hl] at ha
   have h1:S'.at x=.v ⟨.ptr t,.o T1 tg me,y⟩ []:=(ha x (by simp)).trans hx
   have h2:S'.ko x [.deref]=some b:=by rw[←Zh];unfold St.ko;rw[ha x (by simp)]
   have h3:S'.place x [.deref]=S.place x [.deref]:=by unfold St.place;rw[ha x (by simp)]
   unfold tQ
   simp only[St.pJ,h1,St.Tj,St.loadAt,h2,fp,ab,h3,Tgt.ty]
   cases S.place x [.deref] with
   |none=>rfl
   |some c=>simp only;cases h.tab.is T t<;>rfl
  rename_i s t s' p hb hx;simp only[ai] at fp;obtain⟨hs,hk⟩:=fp;have:=aw hs;subst this;have hl:cQ ops o=[x,s']:=by unfold cQ;rw[kU];simp only[hb]
  have De:∀ S' K,cP h O ops i S' K=match tQ h.tab S' (some d) T (.tmp x) with
    |some (g,S1)=>bif g then K S1 else none
    |none=>none:=by
   intro S' K
   unfold cP
   rw[ho]
   simp only[hgd]
   unfold xe
   rw[kU]
   simp only[ev,kU,hd]
   rcases tQ h.tab S' (some d) T (.tmp x) with _ |⟨g,S1⟩<;>rfl
  split at hk;case h_2=>cases hk
  rename_i b Zh;have hev:∀ S',Lw S S' [x,s']->tQ h.tab S' (some d) T (.tmp x)=match S.place s' p with
    |some c=>bif h.tab.is T t then some (true,S'.put (some d) (.v (kTV c) [])) else none
    |none=>none:=by
   intro S' ha
   have h1:S'.at x=.ad t s' p:=(ha x (by simp)).trans hx
   have h2:S'.ko s' p=some b:=by rw[←Zh];unfold St.ko;rw[ha s' (by simp)]
   have h3:S'.place s' p=S.place s' p:=by unfold St.place;rw[ha s' (by simp)]
   unfold tQ
   simp only[St.pJ,h1,St.Tj,St.loadAt,h2,hk,ab,h3]
   cases S.place s' p<;>rfl
  cases hp:S.place s' p with
  |none=>exact⟨none,λE e=>(by cases e),λS' ha K=>by rw[De,hev S' (by rw[hl] at ha;exact ha),hp];rfl⟩
  |some c=>
  cases hT:h.tab.is T t with
  |false=>exact⟨none,λE e=>(by cases e),λS' ha K=>by rw[De,hev S' (by rw[hl] at ha;exact ha),hp];simp only[hT];rfl⟩
  |true=>refine⟨some ⟨[],d,.v (kTV c) []⟩,λE e=>?_,λS' ha K=>by rw[De,hev S' (by rw[hl] at ha;exact ha),hp];simp only[hT];rfl⟩;injection e with e;subst e;exact⟨rfl,λ_=>rfl,gu,λr hr=>(by cases hr),λ_=>rfl⟩
 ·rename_i T x lo hi kU;simp only[ai] at fp;obtain⟨o',h1⟩:=auG (Θ:=h.tab) (d:=d) (T:=T) fp.1 fp.2.1 fp.2.2;have hl:cQ ops o=cF x++(sK lo++sK hi):=by unfold cQ;rw[kU]
  exact val (o':=o') (by unfold Dd;rw[kU]) (λS' K=>by unfold cP;rw[ho];simp only[hgd];unfold xe;rw[kU];simp only[ev,kU,hd];rcases qQ h.tab S' (some d) T x lo hi none with _ |⟨g,S1⟩<;>rfl) λS' ha=>h1 S' (by rw[hl] at ha;exact ha)
 ·rename_i T x ix kU;simp only[ai] at fp;obtain⟨o',h1⟩:=aog (Θ:=h.tab) (d:=d) (T:=T) fp.1 fp.2;have hl:cQ ops o=cF x++cF ix:=by unfold cQ;rw[kU]
  exact val (o':=o') (by unfold Dd;rw[kU]) (λS' K=>by unfold cP;rw[ho];simp only[hgd];unfold xe;rw[kU];simp only[ev,kU,hd];rcases iG h.tab S' (some d) T x ix with _ |⟨g,S1⟩<;>rfl) λS' ha=>h1 S' (by rw[hl] at ha;exact ha)
 cases fp
theorem XQ {S:St} {o:Oper} (hg:Dc O ops S o=true):(Dd o=true∨∀ r∈cQ ops o,∃ a,S.at r=.v a [])/\∀ r∈cQ ops o,S.at r≠ .dead/\∀ x,(S.at r).refs x=true->x∈cQ ops o:=by
 have key:(∀ r∈cQ ops o,∃ a,S.at r=.v a [])->(Dd o=true∨∀ r∈cQ ops o,∃ a,S.at r=.v a [])/\∀ r∈cQ ops o,S.at r≠ .dead/\∀ x,(S.at r).refs x=true->x∈cQ ops o:=λh=>by refine⟨.inr h,λr hr=>?_⟩;obtain⟨a,ha⟩:=h r hr;rw[ha];exact⟨λe=>(by cases e),λx hx=>by simp[AV.refs] at hx⟩
 unfold Dc at hg;simp only[ai] at hg;have fp:=hg.2;split at fp
 ·rename_i f as ts kU;simp only[ai,aJ] at fp;refine key λr hr=>?_;unfold cQ at hr;rw[kU] at hr;obtain⟨x,hx,hr⟩:=eD.1 hr;exact zq (fp.2 x hx) r hr
 ·rename_i as ts kU;simp only[aJ] at fp;refine key λr hr=>?_;unfold cQ at hr;rw[kU] at hr;obtain⟨x,hx,hr⟩:=eD.1 hr;exact zq (fp x hx) r hr
 ·rename_i T n ps kU;simp only[aJ] at fp;refine key λr hr=>?_;unfold cQ at hr;rw[kU] at hr;obtain⟨x,hx,hr⟩:=eD.1 hr;exact zq (fp x hx) r hr
 ·rename_i T x kU;split at fp;case h_4=>cases fp
  case h_2=>
   rename_i t y hb hx
   have hl:cQ ops o=[x]:=by unfold cQ;rw[kU];simp only[hb]
   refine key λr hr=>?_
   rw[hl] at hr
   simp only[bj] at hr
   subst hr
   exact⟨_,hx⟩
  case h_3=>
   rename_i t T1 tg me y hb hx
   have hl:cQ ops o=[x]:=by unfold cQ;rw[kU];simp only[hb]
   refine key λr hr=>?_
   rw[hl] at hr
   simp only[bj] at hr
   subst hr
   exact⟨_,hx⟩
  rename_i s t s' p hb hx;simp only[ai] at fp;obtain⟨hs,hk⟩:=fp;have:=aw hs;subst this;have hl:cQ ops o=[x,s']:=by unfold cQ;rw[kU];simp only[hb]
  refine⟨.inl (by unfold Dd;rw[kU]),λr hr=>?_⟩;rw[hl] at hr ⊢;simp only[aS,List.not_mem_nil,or_false] at hr;rcases hr with rfl |rfl
  ·rw[hx];refine⟨λe=>(by cases e),λy hy=>?_⟩;simp only[AV.refs] at hy;have:=aw hy;simp[this]
  split at hk;case h_2=>cases hk
  rename_i b Zh;unfold St.ko at Zh;split at Zh
  ·rename_i a ex ha;rw[ha];exact⟨λe=>(by cases e),λy hy=>by simp[AV.refs] at hy⟩
  cases Zh
 ·rename_i T x lo hi kU;simp only[ai] at fp;have hl:cQ ops o=cF x++(sK lo++sK hi):=by unfold cQ;rw[kU]
  refine key λr hr=>?_;rw[hl] at hr;have apM:∀ {y:Option Operand},Zd S y=true->r∈sK y->∃ a,S.at r=.v a []:=λ{y} h hr=>by
   cases y with
   |none=>simp[sK] at hr
   |some y=>exact zq h r hr
  rcases a8.1 hr with hr |hr
  ·exact zq (akd fp.1) r hr
  rcases a8.1 hr with hr |hr
  ·exact apM fp.2.1 hr
  exact apM fp.2.2 hr
 ·rename_i T x ix kU;simp only[ai] at fp;have hl:cQ ops o=cF x++cF ix:=by unfold cQ;rw[kU]
  refine key λr hr=>?_;rw[hl] at hr;rcases a8.1 hr with hr |hr
  ·exact zq (akd fp.1) r hr
  exact zq fp.2 r hr
 cases fp
theorem Px {S S':St} {x:Operand} (h:x6 S x=true) (ha:Lw S S' (cF x)):x6 S' x=true:=by
 cases x with
 |tmp i=>simp only[x6,ha i (by simp[cF])] at h ⊢;exact h
 |const c=>rfl
 |func f=>exact h
 |global g=>exact h
theorem amt {S S':St} {x:Operand} (h:opK S x=true) (ha:Lw S S' (cF x)):opK S' x=true:=by
 cases x with
 |tmp i=>simp only[opK,ha i (by simp[cF])] at h ⊢;exact h
 |const c=>rfl
 |func f=>exact h
 |global g=>exact h
theorem ad1 {S S':St} {o:Oper} (hg:Dc O ops S o=true) (ha:Lw S S' (cQ ops o)) (hl:S'.length=S.length) (hd:∀ d,o.dst=some d->(S'.at d).UX=false):Dc O ops S' o=true:=by
 obtain⟨h1,d,h2,h3,h4⟩:=U7 hg;unfold Dc at hg ⊢;simp only[ai] at hg ⊢;refine⟨⟨hg.1.1,?_⟩,?_⟩
 ·rw[h2];simp only[hd d h2,bC,aA];rw[hl];exact tV h4
 have fp:=hg.2;split at fp
 ·rename_i f as ts kU;have hlk:cQ ops o=as.toList.flatMap cF:=by unfold cQ;rw[kU]
  rw[hlk] at ha;simp only[ai,aJ] at fp;simp only[ai,aJ];exact⟨fp.1,λx hx=>Px (fp.2 x hx) λr hr=>ha r (eD.2 ⟨x,hx,hr⟩)⟩
 ·rename_i as ts kU;have hlk:cQ ops o=as.toList.flatMap cF:=by unfold cQ;rw[kU]
  rw[hlk] at ha;simp only[aJ] at fp;simp only[aJ];exact λx hx=>Px (fp x hx) λr hr=>ha r (eD.2 ⟨x,hx,hr⟩)
 ·rename_i T n ps kU;have hlk:cQ ops o=ps.toList.flatMap λq=>cF q.2:=by unfold cQ;rw[kU]
  rw[hlk] at ha;simp only[aJ] at fp;simp only[aJ];exact λx hx=>Px (fp x hx) λr hr=>ha r (eD.2 ⟨x,hx,hr⟩)
 ·rename_i T x kU;split at fp;case h_4=>cases fp
  case h_2=>
   rename_i t y hb hx
   have hlk:cQ ops o=[x]:=by unfold cQ;rw[kU];simp only[hb]
   rw[hlk] at ha
   rw[hb,(ha x (by simp)).trans hx]
  case h_3=>
   rename_i t T1 tg me y hb hx
   have hlk:cQ ops o=[x]:=by unfold cQ;rw[kU];simp only[hb]
   rw[hlk] at ha
   have h2:S'.ko x [.deref]=S.ko x [.deref]:=by unfold St.ko;rw[ha x (by simp)]
   rw[hb,(ha x (by simp)).trans hx]
   simp only[h2]
   exact fp
  rename_i s t s' p hb hx;simp only[ai] at fp;obtain⟨hs,hk⟩:=fp;have:=aw hs;subst this;have hlk:cQ ops o=[x,s']:=by unfold cQ;rw[kU];simp only[hb]
  rw[hlk] at ha;have h1:S'.at x=.ad t s' p:=(ha x (by simp)).trans hx;have h2:S'.ko s' p=S.ko s' p:=(by unfold St.ko;rw[ha s' (by simp)]);rw[hb,h1];simp only[ai,h2];exact⟨bS _,hk⟩
 ·rename_i T x lo hi kU;simp only[ai] at fp;have hlk:cQ ops o=cF x++(sK lo++sK hi):=by unfold cQ;rw[kU]
  rw[hlk] at ha;simp only[ai];have apM:∀ {y:Option Operand},Zd S y=true->(∀ r∈sK y,r∈cF x++(sK lo++sK hi))->Zd S' y=true:=λ{y} h hs=>by
   cases y with
   |none=>rfl
   |some y=>exact Px h λr hr=>ha r (hs r hr)
  exact⟨amt fp.1 λr hr=>ha r (by simp[hr]),apM fp.2.1 λr hr=>by simp[hr],apM fp.2.2 λr hr=>by simp[hr]⟩
 ·rename_i T x ix kU;simp only[ai] at fp;have hlk:cQ ops o=cF x++cF ix:=by unfold cQ;rw[kU]
  rw[hlk] at ha;simp only[ai];exact⟨amt fp.1 λr hr=>ha r (by simp[hr]),Px fp.2 λr hr=>ha r (by simp[hr])⟩
 cases fp
theorem afo {S:St} {o:Oper} (hg:Dc O ops S o=true) {d:Nat} (hd:o.dst=some d) {E:Ob} (he:E.d=d/\KW E.v/\E.gV.Nodup/\(∀ r∈E.gV,r∈cQ ops o)/\(Dd o=true->E.gV=[])):E.In S:=by
 obtain⟨_,d',h2,h3,h4⟩:=U7 hg;rw[hd] at h2;injection h2 with h2;subst h2;obtain⟨e1,e2,e3,e4,e5⟩:=he;have hv:∀ r∈E.gV,∃ a,S.at r=.v a []:=λr hr=>by
  rcases(XQ hg).1 with hc |hv
  ·rw[e5 hc] at hr;cases hr
  exact hv r (e4 r hr)
 refine⟨e3,hv,by rw[e1];exact h3,by rw[e1];exact h4,e2,λhk=>?_⟩;obtain⟨a,ha⟩:=hv _ hk;rw[e1] at ha;rw[ha] at h3;cases h3
theorem aoh {a:AV} {x:Nat} (h:a.refs x=true):a.UX=false:=by cases a<;>first |rfl |(simp[AV.refs] at h)
theorem auH {E:Ob} {S:St} (h:E.In S) {i:Nat} (hi:i≠E.d) (hv:(S.at i).UX=false):((E.app S).at i).UX=false:=by
 rw[Ob.Pu h,ar hi];split
 ·rfl
 cases E.gV.any (S.at i).refs with
 |true=>rfl
 |false=>exact hv
theorem apN {E:Ob} {S:St} (h:E.In S) {i:Nat} (hi:i≠E.d) (hk:i∉E.gV) (hv:((E.app S).at i).UX=false):(S.at i).UX=false:=by
 rw[Ob.Pu h,ar hi,ar hk] at hv;cases ha:E.gV.any (S.at i).refs with
 |true=>obtain⟨x,_,hx⟩:=dk.1 ha;exact aoh hx
 |false=>rw[ha] at hv;exact hv
theorem aAz {E:Ob} {S:St} (h:E.In S) {i:Nat} (hi:i≠E.d) (hv:(E.app S).at i≠ .dead):S.at i=(E.app S).at i:=by
 rw[Ob.Pu h,ar hi] at hv ⊢;split at hv
 ·exact absurd rfl hv
 rename_i hk;rw[ar hk];cases ha:E.gV.any (S.at i).refs with
 |true=>rw[ha] at hv;exact absurd rfl hv
 |false=>rfl
theorem aAA {E:Ob} {S:St} (h:E.In S) {i:Nat} (hi:i≠E.d) (hk:i∉E.gV) (hr:∀ x,(S.at i).refs x=true->x∉E.gV):(E.app S).at i=S.at i:=by rw[Ob.Pu h,ar hi,ar hk];have:E.gV.any (S.at i).refs=false:=cV.2 λx hx UY=>hr x UY hx;rw[this];rfl
theorem apO (hO:Lt O) {i j:Nat} {oi oj:Oper} (hi:ops[i]?=some oi) (hj:ops[j]?=some oj) (hd:adU ops oi oj=true) {r:List Nat} {S:St} {K:St->aa} {ret:iI} (e:JO h O ops (i::j::r) S K=some ret):JO h O ops (j::i::r) S K=some ret:=by
 simp only[JO,hi,hj] at e ⊢;cases gi:Dc O ops S oi with
 |false=>rw[gi] at e;cases e
 |true=>rw[gi] at e;simp only[ab] at e;obtain⟨_,di,hdi,hvi,_⟩:=U7 gi;obtain⟨oE,E1,E2⟩:=ams (h:=h) hO hi gi hdi;rw[E2 S (λ_ _=>rfl)] at e;cases oE with
 |none=>cases e
 |some E=>simp only[aI] at e;have EI:=afo gi hdi (E1 E rfl);obtain⟨Ed,Er,En,Ek,Ec⟩:=E1 E rfl;cases gj:Dc O ops (E.app S) oj with
 |false=>rw[gj] at e;cases e
 |true=>rw[gj] at e;simp only[ab] at e;obtain⟨_,dj,hdj,hvj,_⟩:=U7 gj;obtain⟨oF,F1,F2⟩:=ams (h:=h) hO hj gj hdj;rw[F2 _ (λ_ _=>rfl)] at e;cases oF with
 |none=>cases e
 |some F=>
 simp only[aI] at e;have FI1:=afo gj hdj (F1 F rfl);obtain⟨Fd,Fr,Fn,Fk,Fc⟩:=F1 F rfl;unfold adU at hd;rw[hdi,hdj] at hd;simp only[ai,bV,bd] at hd;obtain⟨⟨⟨d1,d2⟩,d3⟩,d4⟩:=hd;have d1:di≠dj:=λe=>by subst e;rw[bS] at d1;cases d1
 have d2:di∉cQ ops oj:=λhm=>by have:=cV.1 d2 di hm;rw[bS] at this;exact this rfl
 have d3:dj∉cQ ops oi:=λhm=>by have:=cV.1 d3 dj hm;rw[bS] at this;exact this rfl
 have d5:∀ r∈cQ ops oi,r∉F.gV:=λr hr hk=>by
  rcases d4 with d4 |d4
  ·rw[Fc d4.2] at hk;cases hk
  have h1:=cV.1 d4 r hr;have h2:(cQ ops oj).any (Nat.beq r)=true:=dk.2 ⟨r,Fk r hk,bS r⟩;exact h1 h2
 have ag1:Lw (E.app S) S (cQ ops oj):=λr hr=>by exact aAz EI (λe=>d2 (by rw[←Ed,←e];exact hr)) ((XQ gj).2 r hr).1
 have aC8:dj∉E.gV:=λhk=>d3 (Ek dj hk);have gj0:Dc O ops S oj=true:=ad1 gj ag1 (Ob.afm E S).symm (λd hd=>by
  rw[hdj] at hd
  injection hd with hd
  subst hd
  exact apN EI (λe=>d1 (by rw[←Ed,←e])) aC8 hvj)
 have FI:=afo gj0 hdj (F1 F rfl);have ag2:Lw S (F.app S) (cQ ops oi):=λr hr=>by exact aAA FI (λe=>d3 (by rw[←Fd,←e];exact hr)) (d5 r hr) λx hx=>d5 x (((XQ gi).2 r hr).2 x hx)
 have gi1:Dc O ops (F.app S) oi=true:=ad1 gi ag2 (Ob.afm F S) (λd hd=>by
  rw[hdi] at hd
  injection hd with hd
  subst hd
  exact auH FI (λe=>d1 (by rw[←Fd,←e])) hvi)
 have EI1:=afo gi1 hdi (E1 E rfl);rw[gj0];simp only[ab];rw[F2 S ag1];simp only[aI];rw[gi1];simp only[ab];rw[E2 _ ag2];simp only[aI];rw[Ob.comm EI FI (by rw[Ed,Fd];exact d1) (λhk=>by rw[Ed] at hk;exact d2 (Fk _ hk)) (λhk=>by rw[Fd] at hk;exact d3 (Ek _ hk)) EI1 FI1];exact e
theorem ad2 (hO:Lt O) {j:Nat} {oj:Oper} (hj:ops[j]?=some oj):∀ (p r:List Nat) {S:St} {K:St->aa} {ret:iI},(∀ x∈p,∃ ox,ops[x]?=some ox/\adU ops ox oj=true)->JO h O ops (p++j::r) S K=some ret->JO h O ops (j::(p++r)) S K=some ret
 |[],r,S,K,ret,_,e=>e
 |x::p,r,S,K,ret,hp,e=>by
  obtain⟨ox,hox,hdx⟩:=hp x (by simp);refine apO hO hox hj hdx ?_;simp only[bD] at e;unfold JO at e ⊢;rw[hox] at e ⊢;simp only at e ⊢;cases gx:Dc O ops S ox with
  |false=>rw[gx] at e;cases e
  |true=>
  rw[gx] at e;simp only[ab] at e ⊢;obtain⟨o,ho⟩:=zp (h:=h) (ops:=ops) hO x (λo' ho'=>by
   rw[hox] at ho'
   injection ho' with ho'
   subst ho'
   unfold Dc at gx
   simp only[ai] at gx
   have g2:=gx.2
   split at g2<;>first |(rename_i fp;rw[fp];rfl) |cases g2) S
  rw[ho] at e ⊢;cases o with
  |none=>cases e
  |some S1=>simp only[aI] at e ⊢;exact ad2 hO hj p r (λy hy=>hp y (by simp[hy])) e
end Go.Pv
namespace Go.Pv
open List Int IntKind
variable {h:Hint} {O:va} {Θ:kR} {ops:Array Oper} {ret:iI}
theorem aaT {a:AV} {s:Nat}:a.refs s=true↔s∈slotsOf a:=by
 cases a with
 |al t s' p=>simp only[AV.refs,slotsOf,bj,pX];exact eq_comm
 |ad t s' p=>simp only[AV.refs,slotsOf,bj,pX];exact eq_comm
 |cut t s' p lo hi=>simp only[AV.refs,slotsOf,bj,pX];exact eq_comm
 |EL f kn=>
  simp only[AV.refs,slotsOf,dk,List.mem_filterMap];constructor
  ·rintro⟨c,hc,h⟩;refine⟨c,hc,?_⟩;cases c with
   |kv b=>cases h
   |pl t s' p=>simp at h;simp[h]
  rintro⟨c,hc,h⟩;refine⟨c,hc,?_⟩;cases c with
  |kv b=>cases h
  |pl t s' p=>simp at h;simp[h]
 |_=>simp[AV.refs,slotsOf]
def cC (Δ:Nat->Bool) (S:St):Prop:=∀ i s,(S.at i).refs s=true->Δ i=Δ s
theorem No {Δ:Nat->Bool}:∀ {S:St} {k:Nat},vF Δ S k=true↔∀ i s,(S.at i).refs s=true->Δ (k+i)=Δ s
 |[],k=>by simp[vF,St.at,AV.refs]
 |a::r,k=>by
  simp only[vF,ai,aJ,bP];constructor
  ·rintro⟨h1,h2⟩ i s hs;cases i with
   |zero=>exact h1 s (aaT.1 (by simpa[St.at] using hs))
   |succ i=>have:=(No.1 h2) i s (by simpa[St.at] using hs);rw[←this];congr 1;omega
  intro hh;refine⟨λs hs=>by simpa using hh 0 s (by simpa[St.at] using aaT.2 hs),No.2 λi s hs=>?_⟩;have:=hh (i+1) s (by simpa[St.at] using hs);rw[←this];congr 1;omega
theorem Aa {Δ:Nat->Bool} {S:St}:vF Δ S 0=true↔cC Δ S:=by rw[No];simp only[aW,cC]
def mix (Δ:Nat->Bool) (A B:St):St:=(List.range A.length).map λi=>bif Δ i then A.at i else B.at i
theorem Od {S:St} {i:Nat} (h:S.length<=i):S.at i=.dead:=by unfold St.at;rw[aG,cv h];rfl
theorem qU (Δ:Nat->Bool) (A B:St):(mix Δ A B).length=A.length:=by simp[mix]
theorem xP {Δ:Nat->Bool} {A B:St} (hl:B.length=A.length) (i:Nat):(mix Δ A B).at i=bif Δ i then A.at i else B.at i:=by
 by_cases hi:i<A.length
 ·unfold mix;conv=>lhs;unfold St.at
  rw[aG,bO,List.getElem?_range hi];rfl
 rw[Od (by rw[qU];omega),Od (S:=A) (by omega),Od (S:=B) (by omega)];cases Δ i<;>rfl
theorem D3 {Δ:Nat->Bool} {A B:St} (hl:B.length=A.length) {i:Nat} (hi:Δ i=true):(mix Δ A B).at i=A.at i:=by rw[xP hl,hi];rfl
theorem aaU (Δ:Nat->Bool) (S:St):mix Δ S S=S:=F8 (qU _ _ _) λi=>by rw[xP rfl];cases Δ i<;>rfl
theorem afp {Δ:Nat->Bool} {A B:St} (hl:B.length=A.length):mix (λi=>!Δ i) B A=mix Δ A B:=F8 (by rw[qU,qU,hl]) λi=>by rw[xP hl,xP hl.symm];cases Δ i<;>rfl
theorem cC.not {Δ:Nat->Bool} {S:St} (h:cC Δ S):cC (λi=>!Δ i) S:=λi s hs=>by simp only[h i s hs]
section
variable {Δ:Nat->Bool} {A B:St}
theorem XR (hB:cC Δ B) {i d:Nat} (hi:Δ i=false) (hd:Δ d=true):(B.at i).refs d=false:=by
 cases hr:(B.at i).refs d with
 |false=>rfl
 |true=>have:=hB i d hr;rw[hi,hd] at this;cases this
theorem QY (hl:B.length=A.length) (hB:cC Δ B) {d:Nat} (hd:Δ d=true) (a:AV):(mix Δ A B).put (some d) a=mix Δ (A.put (some d) a) B:=by
 refine F8 (by rw[eC,qU,qU,eC]) λi=>?_;rw[xP (by rw[eC,hl]),nm,nm,qU,xP hl,D3 hl hd];cases hi:Δ i with
 |true=>rfl
 |false=>have hid: ¬(i=d/\d<A.length):=λe=>(by rw[e.1,hd] at hi;cases hi);rw[ar hid];simp only[ae];rw[XR hB hi hd];rfl
theorem U8 (hl:B.length=A.length) {d:Nat} (hd:Δ d=true) (a:AV):(mix Δ A B).set d a=mix Δ (A.set d a) B:=by
 refine F8 (by rw[bF,qU,qU,bF]) λi=>?_;rw[xP (by rw[bF,hl]),kT,kT,qU,xP hl];cases hi:Δ i with
 |true=>rfl
 |false=>have hid: ¬(i=d/\d<A.length):=λe=>(by rw[e.1,hd] at hi;cases hi);rw[ar hid];rfl
theorem ake {a:AV} {d:Nat} (h:a.refs d=false):a.qq d=false:=by
 cases a with
 |al t s p=>simp only[AV.refs] at h;simp only[AV.qq,h];rfl
 |ad t s p=>simp only[AV.refs] at h;simp only[AV.qq,h];rfl
 |cut t s p lo hi=>simpa only[AV.refs,AV.qq] using h
 |EL f kn=>
  simp only[AV.refs,AV.qq,cV] at h ⊢;intro c hc;have:=h c hc;cases c with
  |kv b=>simp
  |pl t s p=>cases p<;>simp_all
 |_=>rfl
theorem Tu (hl:B.length=A.length) (hB:cC Δ B) {d:Nat} (hd:Δ d=true):(mix Δ A B).weaken d=mix Δ (A.weaken d) B:=by
 refine F8 (by simp[St.weaken,qU]) λi=>?_;rw[xP (by simp[St.weaken,hl]),z',z',xP hl];cases hi:Δ i with
 |true=>rfl
 |false=>simp only[ae];rw[ake (XR hB hi hd)];rfl
theorem XS (S:St) (d:Nat) (p:Path) (i:Nat):(S.cover d p).at i=match S.at i with
 | .ad t s q=>bif Nat.beq s d&&under p q then .dead else .ad t s q
 |a=>a:=aaQ S _ rfl i
theorem ad3 (hl:B.length=A.length) (hB:cC Δ B) {d:Nat} (hd:Δ d=true) (p:Path):(mix Δ A B).cover d p=mix Δ (A.cover d p) B:=by
 refine F8 (by simp[St.cover,qU]) λi=>?_;rw[xP (by simp[St.cover,hl]),XS,XS,xP hl];cases hi:Δ i with
 |true=>rfl
 |false=>
 simp only[ae];have:=XR hB hi hd;cases hb:B.at i with
 |ad t s q=>rw[hb] at this;simp only[AV.refs] at this;simp only[this];rfl
 |_=>rfl
theorem U9 {c:Bool} {a:AV} {s:Nat} (h:(bif c then AV.dead else a).refs s=true):a.refs s=true:=by
 cases c with
 |true=>simp[AV.refs] at h
 |false=>exact h
theorem D4 (hA:cC Δ A) {d:Nat} (hd:Δ d=true) {a:AV} (ha:∀ s,a.refs s=true->Δ s=true):cC Δ (A.put (some d) a):=λi s hs=>by
 rw[nm] at hs;split at hs
 ·rename_i hi;rw[hi.1,hd];exact(ha s (U9 hs)).symm
 exact hA i s (U9 hs)
theorem Ig (hA:cC Δ A) {d:Nat} (hd:Δ d=true) {a:AV} (ha:∀ s,a.refs s=true->Δ s=true):cC Δ (A.set d a):=λi s hs=>by
 rw[kT] at hs;split at hs
 ·rename_i hi;rw[hi.1,hd];exact(ha s hs).symm
 exact hA i s hs
theorem KX (hA:cC Δ A) (d:Nat):cC Δ (A.weaken d):=λi s hs=>by rw[z'] at hs;exact hA i s (U9 hs)
theorem U' (hA:cC Δ A) (d:Nat) (p:Path):cC Δ (A.cover d p):=λi s hs=>by
 rw[XS] at hs;refine hA i s ?_;cases hb:A.at i with
 |ad t s' q=>rw[hb] at hs;exact U9 hs
 |_=>rw[hb] at hs;exact hs
theorem A4 (hl:B.length=A.length) {x:Operand} (hx:H5 Δ x=true) (T:TypeId):(mix Δ A B).pJ Θ T x=A.pJ Θ T x:=by
 cases x with
 |tmp i=>simp only[St.pJ];rw[D3 hl hx]
 |_=>rfl
theorem wy (hA:cC Δ A) {x:Operand} (hx:H5 Δ x=true) {T:TypeId} {a:AV} (e:A.pJ Θ T x=some a):∀ s,a.refs s=true->Δ s=true:=λs hs=>by
 cases x with
 |tmp i=>simp only[St.pJ,ah] at e;subst e;rw[←hA i s hs];exact hx
 |const c=>
 simp only[St.pJ] at e;split at e
 ·injection e with e;subst e;simp[AV.refs] at hs
 cases e
 |func f=>simp only[St.pJ,ah] at e;subst e;simp[AV.refs] at hs
 |global g=>cases e
theorem H7 (hl:B.length=A.length) {s:Nat} (hs:Δ s=true) (p:Path):(mix Δ A B).place s p=A.place s p:=by unfold St.place;rw[D3 hl hs]
theorem D5 (hl:B.length=A.length) {s:Nat} (hs:Δ s=true) (p:Path):(mix Δ A B).ko s p=A.ko s p:=by unfold St.ko;rw[D3 hl hs]
theorem JP {t:Ty} {s:Nat} {p:Path}:(AV.al t s p).refs s=true:=by simp[AV.refs]
theorem auI {t:Ty} {s:Nat} {p:Path}:(AV.ad t s p).refs s=true:=by simp[AV.refs]
theorem ahg {t:Ty} {s:Nat} {p:Path} {lo hi:Nat}:(AV.cut t s p lo hi).refs s=true:=by simp[AV.refs]
theorem amu (hl:B.length=A.length) {a:AV} (ha:∀ s,a.refs s=true->Δ s=true):(mix Δ A B).QV a=A.QV a:=by
 cases a with
 |al t s p=>simp only[St.QV];exact H7 hl (ha s JP) p
 |cut t s p lo hi=>simp only[St.QV];rw[H7 hl (ha s ahg) p]
 |v b ex=>cases ex<;>rfl
 |_=>rfl
theorem XT (hl:B.length=A.length) (hA:cC Δ A) {x:Operand} (hx:H5 Δ x=true) (T:TypeId):(mix Δ A B).rd Θ T x=A.rd Θ T x:=by
 unfold St.rd;rw[A4 hl hx];cases e:A.pJ Θ T x with
 |none=>rfl
 |some a=>exact amu hl (wy hA hx e)
theorem XU (hl:B.length=A.length) (hA:cC Δ A) {x:Operand} (hx:H5 Δ x=true):(mix Δ A B).GI Θ x=A.GI Θ x:=by unfold St.GI;rw[XT hl hA hx]
theorem ku {b:TV} {ex:List Path}:∀ s,(AV.v b ex).refs s=true->Δ s=true:=λs hs=>by simp[AV.refs] at hs
def Mx (Δ:Nat->Bool) (A B:St) {α:Type} (X Y:Option (α×St)):Prop:=Y=X.map (λq=>(q.1,mix Δ q.2 B))/\∀ q,X=some q->cC Δ q.2/\q.2.length=A.length
theorem bH {α:Type}:Mx Δ A B (α:=α) none none:=⟨rfl,λ_ h=>by cases h⟩
theorem vH {α:Type} {c:α} {A1 S1:St} (h:S1=mix Δ A1 B) (hc:cC Δ A1) (hl:A1.length=A.length):Mx Δ A B (some (c,A1)) (some (c,S1)):=⟨by rw[h];rfl,λq hq=>by injection hq with hq;subst hq;exact⟨hc,hl⟩⟩
theorem pg {α:Type} {c:α} {d:Nat} {a:AV} (hl:B.length=A.length) (hB:cC Δ B) {A1:St} (hA:cC Δ A1) (Va:A1.length=A.length) (hd:Δ d=true) (ha:∀ s,a.refs s=true->Δ s=true):
  Mx Δ A B (some (c,A1.put (some d) a)) (some (c,(mix Δ A1 B).put (some d) a)):=vH (QY (by rw[hl,Va]) hB hd a) (D4 hA hd ha) (by rw[eC,Va])
theorem ad4 (hl:B.length=A.length) (hA:cC Δ A) (hB:cC Δ B) {x:Operand} (hx:H5 Δ x=true) {a:AV} (ha:∀ s,a.refs s=true->Δ s=true):Mx Δ A B (A.pA x a) ((mix Δ A B).pA x a):=by
 have Oa:∀ s,AV.dead.refs s=true->Δ s=true:=λs hs=>by simp[AV.refs] at hs
 cases a with
 |v b ex=>
  simp only[St.pA];cases b.m.eY with
  |true=>exact vH rfl hA rfl
  |false=>
  simp only[ae];cases ex with
  |nil=>
   cases x with
   |tmp i=>exact pg hl hB hA rfl hx Oa
   |const c=>exact vH rfl hA rfl
   |func f=>exact vH rfl hA rfl
   |global g=>exact vH rfl hA rfl
  |cons _ _=>cases x<;>exact bH
 |al t s p=>
  have hs:=ha s JP;simp only[St.pA];rw[H7 hl hs];cases hp:A.place s p with
  |none=>exact bH
  |some b=>
  simp only;cases b.m.eY with
  |true=>exact vH rfl hA rfl
  |false=>
  simp only[ae];cases p with
  |nil=>exact pg hl hB hA rfl hs Oa
  |cons st pp=>
  rw[D3 hl hs];cases A.at s with
  |v r ex=>have h1:=U' (KX hA s) s (st::pp);have l1:B.length=(A.weaken s).length:=(by simp[St.weaken,hl]);have l2:B.length=((A.weaken s).cover s (st::pp)).length:=(by simp[St.weaken,St.cover,hl]);refine vH ?_ (Ig h1 hs ku) (by simp[St.weaken,St.cover]);rw[Tu hl hB hs,ad3 l1 hB hs,U8 l2 hs]
  |_=>exact bH
 |cut t s p lo hi=>
  have hs:=ha s ahg;cases p with
  |cons _ _=>exact bH
  |nil=>
  simp only[St.pA];rw[H7 hl hs];split
  ·cases Nat.beq lo 0 with
   |true=>exact pg hl hB hA rfl hs Oa
   |false=>exact bH
  exact bH
 |_=>exact bH
theorem Py (hl:B.length=A.length) (hA:cC Δ A) (hB:cC Δ B) {x:Operand} (hx:H5 Δ x=true) (T:TypeId):Mx Δ A B (A.take Θ T x) ((mix Δ A B).take Θ T x):=by
 unfold St.take;rw[A4 hl hx];cases e:A.pJ Θ T x with
 |none=>exact bH
 |some a=>exact ad4 hl hA hB hx (wy hA hx e)
theorem XV (hB:cC Δ B) {ps:List (Nat×Operand)} (hx:∀ q∈ps,H5 Δ q.2=true):∀ (r:List TypeId) (j:Nat) {A:St},B.length=A.length->cC Δ A->Mx Δ A B (A.parts Θ ps r j) ((mix Δ A B).parts Θ ps r j)
 |[],j,A,hl,hA=>vH rfl hA rfl
 |T::r,j,A,hl,hA=>by
  simp only[St.parts];cases hf:ps.find? (λq=>Nat.beq q.1 j) with
  |some q=>
   simp only;obtain⟨h1,h2⟩:=Py (Θ:=Θ) hl hA hB (hx q (List.mem_of_find?_eq_some hf)) T;rw[h1];cases ht:A.take Θ T q.2 with
   |none=>exact bH
   |some b=>
   obtain⟨b,A1⟩:=b;obtain⟨c1,c2⟩:=h2 _ ht;simp only[aP];obtain⟨k1,k2⟩:=XV hB hx r (j+1) (by rw[c2,hl]) c1;rw[k1];cases hp:St.parts Θ A1 ps r (j+1) with
   |none=>exact bH
   |some l=>obtain⟨d1,d2⟩:=k2 _ hp;exact vH rfl d1 (by rw[d2,c2])
  |none=>
  simp only;cases Pj Θ T with
  |none=>exact bH
  |some z=>
  simp only;obtain⟨k1,k2⟩:=XV hB hx r (j+1) hl hA;rw[k1];cases hp:St.parts Θ A ps r (j+1) with
  |none=>exact bH
  |some l=>obtain⟨d1,d2⟩:=k2 _ hp;exact vH rfl d1 d2
end
end Go.Pv
namespace Go.Pv
open List Int IntKind
variable {h:Hint} {O:va} {Θ:kR} {hn:Hn} {ops:Array Oper} {ret:iI} {Δ:Nat->Bool} {A B:St}
theorem aoi (S S':St) (x:Operand) (a:AV):S.copy x a=S'.copy x a:=by cases a<;>rfl
theorem aoj {x:Operand} (hx:H5 Δ x=true) {a a':AV} (ha:∀ s,a.refs s=true->Δ s=true) (e:A.copy x a=some a'):∀ s,a'.refs s=true->Δ s=true:=λs hs=>by
 cases a with
 |v b ex=>
  simp only[St.copy] at e;cases hk:b.m.eY with
  |true=>rw[hk] at e;simp only[ab,ah] at e;subst e;simp[AV.refs] at hs
  |false=>
  rw[hk] at e;simp only[ae] at e;cases x with
  |tmp i=>simp only[ah] at e;subst e;simp only[AV.refs,pX] at hs;subst hs;exact hx
  |_=>
  simp only at e;split at e
  ·injection e with e;subst e;simp[AV.refs] at hs
  cases e
 |QU l=>cases e
 |dead=>cases e
 |_=>simp only[St.copy,ah] at e;subst e;exact ha s hs
theorem afq (hl:B.length=A.length) {x:Operand} {a:AV} (ha:∀ s,a.refs s=true->Δ s=true):(mix Δ A B).Tj x a=A.Tj x a:=by
 cases a with
 |v b ex=>obtain⟨t,m,y⟩:=b;cases t<;>cases m<;>cases ex<;>rfl
 |al t s p=>
  cases t with
  |ptr t=>simp only[St.Tj];rw[D5 hl (ha s JP)]
  |_=>rfl
 |_=>rfl
theorem aaV {x:Operand} (hx:H5 Δ x=true) {a:AV} (ha:∀ s,a.refs s=true->Δ s=true) {t:Ty} {s:Nat} {p:Path} (e:A.Tj x a=some (.pl t s p)):Δ s=true:=by
 cases a with
 |v b ex=>
 obtain⟨t',m,y⟩:=b;simp only[St.Tj] at e;split at e
 ·rename_i heq;injection heq with h1 h2;split at e
  ·cases e
  ·injection e with e;injection e with _ e _;subst e;exact hx
  cases e
 ·split at e
  ·injection e with e;injection e with _ e _;subst e;exact hx
  cases e
 all_goals first |(rename_i heq;cases heq;done) |(cases e;done)
 |al t' s' p'=>
 simp only[St.Tj] at e;split at e
 ·rename_i heq;cases heq
 ·rename_i heq;cases heq
 ·rename_i heq;injection heq with h1 h2 h3;subst h2;split at e
  ·cases e
  ·injection e with e;injection e with _ e _;subst e;exact ha _ JP
  cases e
 ·rename_i heq;cases heq
 cases e
 |ad t' s' p'=>simp only[St.Tj,ah,Tgt.pl.injEq] at e;rw[←e.2.1];exact ha _ auI
 |_=>simp[St.Tj] at e
theorem akf (hl:B.length=A.length) {g:Tgt} (hg:∀ t s p,g=.pl t s p->Δ s=true):(mix Δ A B).loadAt g=A.loadAt g:=by
 cases g with
 |k a=>rfl
 |pl t s p=>simp only[St.loadAt];rw[D5 hl (hg t s p rfl),H7 hl (hg t s p rfl)]
theorem ahh {g:Tgt} (hg:∀ t s p,g=.pl t s p->Δ s=true) {a:AV} (e:A.loadAt g=some a):∀ s,a.refs s=true->Δ s=true:=λs hs=>by
 cases g with
 |k b=>simp only[St.loadAt,ah] at e;subst e;simp[AV.refs] at hs
 |pl t s' p=>
 simp only[St.loadAt] at e;split at e;case h_2=>cases e
 rename_i b hb;cases hk:b.m.eY with
 |true=>
 rw[hk] at e;simp only[ab] at e;split at e
 ·injection e with e;subst e;simp[AV.refs] at hs
 cases e
 |false=>rw[hk] at e;simp only[ae,ah] at e;subst e;simp only[AV.refs,pX] at hs;subst hs;exact hg _ _ _ rfl
section
variable (hl:B.length=A.length) (hA:cC Δ A) (hB:cC Δ B) {d:Nat} (hd:Δ d=true)
include hl hA hB hd
theorem aok (T:TypeId):Mx Δ A B (Nc Θ hn A (some d) T) (Nc Θ hn (mix Δ A B) (some d) T):=by
 unfold Nc;cases Pj Θ T with
 |none=>exact bH
 |some z=>
 simp only;cases Ti z.t (hn.find (some d) z.m) with
 |true=>exact pg hl hB hA rfl hd ku
 |false=>exact bH
theorem apP (T:TypeId) {x:Operand} (hx:H5 Δ x=true):Mx Δ A B (tQ Θ A (some d) T x) (tQ Θ (mix Δ A B) (some d) T x):=by
 unfold tQ;rw[A4 hl hx];cases e:A.pJ Θ 0 x with
 |none=>exact bH
 |some a=>
 simp only;have ha:=wy hA hx e;rw[afq hl ha];cases et:A.Tj x a with
 |none=>exact bH
 |some g=>
 simp only;have hg:∀ t s p,g=.pl t s p->Δ s=true:=λt s p eg=>by subst eg;exact aaV hx ha et
 rw[akf hl hg];cases el:A.loadAt g with
 |none=>exact bH
 |some r=>
 simp only;cases (ag' g.ty r&&Θ.is T g.ty) with
 |true=>exact pg hl hB hA rfl hd (ahh hg el)
 |false=>exact bH
theorem apQ (T:TypeId) {x:Operand} (hx:H5 Δ x=true):Mx Δ A B (Nb Θ A (some d) T x) (Nb Θ (mix Δ A B) (some d) T x):=by
 unfold Nb;rw[A4 hl hx,qU];have Oa:∀ s,AV.dead.refs s=true->Δ s=true:=λs hs=>by simp[AV.refs] at hs
 cases e:A.pJ Θ T x with
 |none=>exact bH
 |some a=>
 have ha:=wy hA hx e;cases a with
 |QU l=>
  cases x with
  |tmp i=>
   simp only;cases (Nat.beq d i|| !Nat.blt d A.length) with
   |true=>exact bH
   |false=>simp only[ae];have h1:(mix Δ A B).put (some i) .dead=mix Δ (A.put (some i) .dead) B:=QY hl hB hx .dead;rw[h1];exact pg hl hB (D4 hA hx Oa) (eC _ _ _) hd (λs hs=>by simp[AV.refs] at hs)
  |_=>exact bH
 |_=>
 simp only;rw[aoi (mix Δ A B) A];split
 ·rename_i a' hc;exact pg hl hB hA rfl hd (aoj hx ha hc)
 exact bH
theorem ahi {x:Operand} (hx:H5 Δ x=true) (j:Nat):Mx Δ A B (u7 A (some d) x j) (u7 (mix Δ A B) (some d) x j):=by
 unfold u7;cases x with
 |tmp i=>
  simp only;rw[D3 hl hx];split
  ·rename_i l hi;split
   ·rename_i a ha;cases a.m.eY with
    |true=>exact pg hl hB hA rfl hd ku
    |false=>
    simp only[ae];cases Nat.beq d i with
    |true=>exact bH
    |false=>simp only[ae];have h1:(mix Δ A B).set i (.QU (l.set j none))=mix Δ (A.set i (.QU (l.set j none))) B:=U8 hl hx _;rw[h1];exact pg hl hB (Ig hA hx (λs hs=>by simp[AV.refs] at hs)) (by simp) hd ku
   exact bH
  exact bH
 |_=>exact bH
theorem aaW (T:TypeId) (n:Nat) {ps:List (Nat×Operand)} (hx:∀ q∈ps,H5 Δ q.2=true):Mx Δ A B (fb Θ hn A (some d) T n ps) (fb Θ hn (mix Δ A B) (some d) T n ps):=by
 unfold fb;split
 ·cases (EM n ps&&Nat.ble n 1800) with
  |false=>exact bH
  |true=>
  simp only[ab];rename_i t e fs _;obtain⟨k1,k2⟩:=XV (Θ:=Θ) hB hx (List.replicate n e) 0 hl hA;rw[k1];cases hp:St.parts Θ A ps (List.replicate n e) 0 with
  |none=>exact bH
  |some q=>
  obtain⟨l,A1⟩:=q;obtain⟨c1,c2⟩:=k2 _ hp;simp only[aP];cases l with
  |nil=>exact pg hl hB c1 c2 hd ku
  |cons a l=>
  simp only;cases Pl t a.m (a::l) with
  |none=>exact bH
  |some xs=>exact pg hl hB c1 c2 hd ku
 exact bH
theorem akg {ts:List TypeId} {as:List Operand} (hx:∀ x∈as,H5 Δ x=true):Mx Δ A B (iH Θ A (some d) ts as) (iH Θ (mix Δ A B) (some d) ts as):=by
 unfold iH;split
 ·rename_i x y T T';obtain⟨k1,k2⟩:=Py (Θ:=Θ) hl hA hB (hx x (by simp)) T;rw[k1];cases ht:A.take Θ T x with
  |none=>exact bH
  |some q=>
  obtain⟨⟨t,m,xs⟩,A1⟩:=q;obtain⟨c1,c2⟩:=k2 _ ht;have Va:B.length=A1.length:=(by rw[c2,hl]);simp only[aP];cases t with
  |sl t=>
   cases m with
   |o e tag me=>
    cases hf:Θ.find T with
    |none=>exact bH
    |some i=>
    simp only;cases (decide (i.ty=.sl t)&&Nat.beq i.e e&&Θ.is T' (.sl t)) with
    |false=>exact bH
    |true=>
    simp only[ab];cases me.eY with
    |true=>
     simp only[ab];rw[XT Va c1 (hx y (by simp))];split
     ·rename_i t' m' ys _;cases m'.inn.eY with
      |false=>exact bH
      |true=>
      simp only[ab];split
      ·exact pg hl hB c1 c2 hd ku
      exact bH
     exact bH
    |false=>
    simp only[ae];obtain⟨j1,j2⟩:=Py (Θ:=Θ) Va c1 hB (hx y (by simp)) T';rw[j1];cases hy:A1.take Θ T' y with
    |none=>exact bH
    |some q=>
    obtain⟨⟨t',m',ys⟩,A2⟩:=q;obtain⟨d1,d2⟩:=j2 _ hy;simp only[aP];cases t' with
    |sl t'=>
    simp only;split
    ·split
     ·exact pg hl hB d1 (by rw[d2,c2]) hd ku
     exact bH
    exact bH
    |_=>exact bH
   |_=>exact bH
  |_=>exact bH
 exact bH
theorem ahj {ts:List TypeId} {as:List Operand} (hx:∀ x∈as,H5 Δ x=true):Mx Δ A B (u9 Θ A (some d) ts as) (u9 Θ (mix Δ A B) (some d) ts as):=by
 unfold u9;split
 ·rename_i x y T T';rw[A4 hl (hx x (by simp))];split
  ·rename_i t s st pp pL;have hs:=wy hA (hx x (by simp)) pL s JP;rw[D3 hl hs];split
   ·rename_i r ex nI;split
    ·rename_i t e tag me xs i _ _;cases (decide (i.ty=.sl t)&&Nat.beq i.e e&&Θ.is T' (.sl t)&&me.eY) with
     |false=>exact bH
     |true=>
     simp only[ab];have l1:B.length=(A.weaken s).length:=by simp[St.weaken,hl]
     have l2:B.length=((A.weaken s).cover s (st::pp)).length:=(by simp[St.weaken,St.cover,hl]);have l3:B.length=(((A.weaken s).cover s (st::pp)).set s (.v r (ex++[st::pp]))).length:=(by simp[St.weaken,St.cover,hl]);have e1:List.set (((mix Δ A B).weaken s).cover s (st::pp)) s (.v r (ex++[st::pp]))=mix Δ (((A.weaken s).cover s (st::pp)).set s (.v r (ex++[st::pp]))) B:=(by rw[Tu hl hB hs,ad3 l1 hB hs,U8 l2 hs]);have c1:cC Δ (((A.weaken s).cover s (st::pp)).set s (.v r (ex++[st::pp]))):=Ig (U' (KX hA s) s _) hs ku;rw[e1,XT l3 c1 (hx y (by simp))];split
     ·rename_i t' m' ys _;cases m'.inn.eY with
      |false=>exact bH
      |true=>
      simp only[ab];split
      ·exact pg hl hB c1 (by simp[St.weaken,St.cover]) hd ku
      exact bH
     exact bH
    exact bH
   exact bH
  exact bH
 exact bH
theorem auJ (op:BinOp) (T:TypeId) {x y:Operand} (hx:H5 Δ x=true) (hy:H5 Δ y=true):Mx Δ A B (aaD Θ A (some d) op T x y) (aaD Θ (mix Δ A B) (some d) op T x y):=by
 unfold aaD;rw[XT hl hA hx,XT hl hA hy];have fin:∀ a b:TV,Mx Δ A B (match xA op a b with
   |some (g,r)=>some (g,A.put (some d) (.v r []))
   |none=>none) (match xA op a b with
   |some (g,r)=>some (g,(mix Δ A B).put (some d) (.v r []))
   |none=>none):=λa b=>by
  cases xA op a b with
  |none=>exact bH
  |some q=>exact pg hl hB hA rfl hd ku
 cases A.rd Θ T x with
 |none=>exact bH
 |some a=>
 cases A.rd Θ T y with
 |none=>exact bH
 |some b=>
 simp only;split
 ·cases Θ.is T .bool with
  |true=>exact fin a b
  |false=>exact bH
 ·cases Θ.is T a.t with
  |true=>exact fin a b
  |false=>exact bH
 exact fin a b
theorem ads (T:TypeId) {x:Operand} (hx:H5 Δ x=true) (f:Nat):Mx Δ A B (wo Θ A (some d) T x f) (wo Θ (mix Δ A B) (some d) T x f):=by
 unfold wo;rw[A4 hl hx];cases e:A.pJ Θ 0 x with
 |none=>exact bH
 |some a=>
 have ha:=wy hA hx e;cases Θ.find T with
 |none=>exact bH
 |some i=>
 simp only;cases Nat.blt f i.fs.length with
 |false=>exact bH
 |true=>
 simp only[ab];rw[afq hl ha];cases et:A.Tj x a with
 |none=>exact bH
 |some g=>
 cases g with
 |k b=>
  obtain⟨t,m,y⟩:=b;simp only;cases decide (i.ty=t) with
  |false=>exact bH
  |true=>
  simp only[ab];split
  ·exact pg hl hB hA rfl hd ku
  exact bH
 |pl t s p=>
 have hs:=aaV hx ha et;simp only;cases decide (i.ty=t) with
 |false=>exact bH
 |true=>
 simp only[ab];rw[D5 hl hs];split
 ·exact pg hl hB hA rfl hd (λs' h'=>by simp only[AV.refs,pX] at h';rw[←h'];exact hs)
 exact bH
theorem adt (T:TypeId) {x ix:Operand} (hx:H5 Δ x=true) (hi:H5 Δ ix=true):Mx Δ A B (iG Θ A (some d) T x ix) (iG Θ (mix Δ A B) (some d) T x ix):=by
 unfold iG;rw[A4 hl hx,XU hl hA hi];have hr:∀ {t:Ty} {s:Nat} {p:Path},Δ s=true->∀ s',(AV.ad t s p).refs s'=true->Δ s'=true:=λhs s' h'=>by simp only[AV.refs,pX] at h';rw[←h'];exact hs
 split
 ·rename_i t m xs ex n pL _;cases Θ.is T (.sl t) with
  |false=>exact bH
  |true=>
  simp only[ab];split
  ·exact pg hl hB hA rfl hd ku
  ·rename_i j;rw[D5 hl hx];split
   ·exact pg hl hB hA rfl hd (hr hx)
   exact bH
  exact bH
 ·rename_i t s p n pL _;have hs:=wy hA hx pL s JP;cases Θ.is T (.sl t) with
  |false=>exact bH
  |true=>
  simp only[ab];rw[D5 hl hs,D5 hl hs];split
  ·exact pg hl hB hA rfl hd ku
  ·split
   ·exact pg hl hB hA rfl hd (hr hs)
   exact bH
  exact bH
 exact bH
theorem adu (T:TypeId) {l c:Operand} (hx:H5 Δ l=true) (hc:H5 Δ c=true):Mx Δ A B (wq Θ A (some d) T l c) (wq Θ (mix Δ A B) (some d) T l c):=by
 unfold wq;rw[XU hl hA hx,XU hl hA hc];split
 ·split
  ·split
   ·exact pg hl hB hA rfl hd ku
   exact bH
  exact bH
 exact bH
theorem ahk (T T':TypeId) {x:Operand} (hx:H5 Δ x=true):Mx Δ A B (xc Θ A (some d) T T' x) (xc Θ (mix Δ A B) (some d) T T' x):=by
 unfold xc;rw[XT hl hA hx];split
 ·exact pg hl hB hA rfl hd ku
 ·exact pg hl hB hA rfl hd ku
 exact bH
end
theorem aol (hl:B.length=A.length) (hA:cC Δ A) (hB:cC Δ B) (T:TypeId) {x y:Operand} (hx:H5 Δ x=true) (hy:H5 Δ y=true):Mx Δ A B (EN Θ A T x y) (EN Θ (mix Δ A B) T x y):=by
 unfold EN;rw[A4 hl hx];cases e:A.pJ Θ 0 x with
 |none=>exact bH
 |some a=>
 have ha:=wy hA hx e;simp only;rw[afq hl ha];cases et:A.Tj x a with
 |none=>exact bH
 |some g=>
 cases g with
 |k b=>exact bH
 |pl t s p=>
 have hs:=aaV hx ha et;simp only;obtain⟨k1,k2⟩:=Py (Θ:=Θ) hl hA hB hy T;rw[k1];cases ht:A.take Θ T y with
 |none=>exact bH
 |some q=>
 obtain⟨b,A1⟩:=q;obtain⟨c1,c2⟩:=k2 _ ht;have Va:B.length=A1.length:=by rw[c2,hl]
 simp only[aP];cases Θ.is T b.t with
 |false=>exact bH
 |true=>
 simp only[ab];rw[D3 Va hs];cases A1.at s with
 |v r ex=>
  simp only;cases wk b p r.t r.m r.x with
  |none=>exact bH
  |some mz=>
  simp only;cases ex.all (λh=>!under h p) with
  |false=>exact bH
  |true=>
  simp only[ab];have l2:B.length=(A1.weaken s).length:=by simp[St.weaken,Va]
  refine vH ?_ (Ig (KX c1 s) hs ku) (by simp[St.weaken,c2]);rw[Tu Va hB hs,U8 l2 hs]
 |_=>exact bH
theorem akh (hl:B.length=A.length) (hA:cC Δ A) (hB:cC Δ B) (T:TypeId) {y:Operand} (hy:H5 Δ y=true) {A1:St} (Va:A1.length=A.length) (hA1:cC Δ A1): Nd Θ (mix Δ A B) (mix Δ A1 B) T y=mix Δ (Nd Θ A A1 T y) B/\cC Δ (Nd Θ A A1 T y)/\(Nd Θ A A1 T y).length=A.length:=by
 unfold Nd;rw[A4 hl hy];split
 ·rename_i t s pL;have hs:=wy hA hy pL s JP;rw[D3 hl hs,D3 (by rw[hl,Va]) hs];split
  ·rename_i t m xs _ _;cases m.eY with
   |true=>exact⟨rfl,hA1,Va⟩
   |false=>exact⟨U8 (by rw[hl,Va]) hs _,Ig hA1 hs ku,by simp[Va]⟩
  exact⟨rfl,hA1,Va⟩
 exact⟨rfl,hA1,Va⟩
end Go.Pv
namespace Go.Pv
open List Int IntKind
variable {h:Hint} {O:va} {Θ:kR} {hn:Hn} {ops:Array Oper} {ret:iI} {Δ:Nat->Bool} {A B:St}
theorem XW (hB:cC Δ B):∀ (xs:List Operand) (Ts:List TypeId) (ps:List Pass) {A:St},B.length=A.length->cC Δ A->(∀ x∈xs,H5 Δ x=true)->Mx Δ A B (vE Θ A xs Ts ps) (vE Θ (mix Δ A B) xs Ts ps)
 |[],_,_,A,hl,hA,_=>by simp only[vE];exact vH rfl hA rfl
 |x::xs,[],_,A,hl,hA,_=>by simp only[vE];exact bH
 |x::xs,T::Ts,[],A,hl,hA,_=>by simp only[vE];exact bH
 |x::xs,T::Ts,p::ps,A,hl,hA,hx=>by
  simp only[vE];cases p with
  |val=>
   simp only;obtain⟨k1,k2⟩:=XW hB xs Ts ps hl hA (λy hy=>hx y (by simp[hy]));rw[k1];cases ht:vE Θ A xs Ts ps with
   |none=>exact bH
   |some q=>obtain⟨c1,c2⟩:=k2 _ ht;exact vH rfl c1 c2
  |take=>
   simp only;obtain⟨j1,j2⟩:=Py (Θ:=Θ) hl hA hB (hx x (by simp)) T;rw[j1];cases hk:A.take Θ T x with
   |none=>exact bH
   |some q=>
   obtain⟨a,A1⟩:=q;obtain⟨d1,d2⟩:=j2 _ hk;simp only[aP];obtain⟨k1,k2⟩:=XW hB xs Ts ps (by rw[d2,hl]) d1 (λy hy=>hx y (by simp[hy]));rw[k1];cases ht:vE Θ A1 xs Ts ps with
   |none=>exact bH
   |some q=>obtain⟨c1,c2⟩:=k2 _ ht;exact vH rfl c1 (by rw[c2,d2])
  |OU=>exact bH
theorem aaX (hl:B.length=A.length):∀ {kn:List Cap},(∀ c∈kn,∀ t s p,c=.pl t s p->Δ s=true)->Nk (mix Δ A B) kn=Nk A kn
 |[],_=>rfl
 |c::r,hc=>by
  simp only[Nk];rw[aaX hl (λc' h'=>hc c' (by simp[h']))];have:adS (mix Δ A B) c=adS A c:=by
   cases c with
   |pl t s p=>simp only[adS];rw[H7 hl (hc _ (by simp) t s p rfl)]
   |kv a=>rfl
  rw[this]
theorem XX (hl:B.length=A.length) (hA:cC Δ A):∀ (xs:List Operand) (Ts:List TypeId) (l:List (Option TV)),(∀ x∈xs,H5 Δ x=true)->reads Θ (mix Δ A B) xs Ts l=reads Θ A xs Ts l
 |[],_,_,_=>by simp[reads]
 |x::xs,[],_,_=>by simp[reads]
 |x::xs,T::Ts,[],_=>by simp[reads]
 |x::xs,T::Ts,p::ps,hx=>by
  simp only[reads];rw[XX hl hA xs Ts ps (λy hy=>hx y (by simp[hy])),A4 hl (hx x (by simp))];cases p with
  |some a=>rfl
  |none=>
  simp only;cases e:A.pJ Θ T x with
  |none=>rfl
  |some a=>
  have ha:=wy hA (hx x (by simp)) e;cases a with
  |EL f kn=>
  simp only;rw[aaX hl (λc hc t s p ec=>ha s (by
   simp only[AV.refs,dk]
   exact⟨c,hc,by rw[ec];simp⟩))]
  |_=>simp only;rw[amu hl ha]
theorem aom (hl:B.length=A.length) {x:Operand} (hx:H5 Δ x=true):Sx (mix Δ A B) x=Sx A x:=by
 cases x with
 |tmp i=>simp only[Sx];rw[D3 hl hx]
 |_=>rfl
theorem XY (hl:B.length=A.length):∀ (xs:List Operand) (l:List (Option TV)) (as:List Arg),(∀ x∈xs,H5 Δ x=true)->x5 (mix Δ A B) xs l as=x5 A xs l as
 |[],_,_,_=>rfl
 |x::xs,[],_,_=>rfl
 |x::xs,p::ps,[],_=>rfl
 |x::xs,p::ps,r::rs,hx=>by simp only[x5,XY hl xs ps rs (λy hy=>hx y (by simp[hy])),aom hl (hx x (by simp))]
def apR (Δ:Nat->Bool) (A B:St) (K K':St->aa):Prop:=∀ A1,cC Δ A1->A1.length=A.length->K' (mix Δ A1 B)=K A1
theorem Vb (l:List TV):∀ s,(adT l).refs s=true->Δ s=true:=λs hs=>by rw[aaR] at hs;cases hs
theorem apS (hl:B.length=A.length) (hA:cC Δ A) (hB:cC Δ B) {o:Oper} {d:Nat} (Fg:o.dst=some d) (hd:Δ d=true) {f:FuncId} {as:List Operand} {ts:List TypeId} (hx:∀ x∈as,H5 Δ x=true) {K K':St->aa} (hK:apR Δ A B K K'): xN h O o f none as ts (mix Δ A B) K'=xN h O o f none as ts A K:=by
 unfold xN;obtain⟨k1,k2⟩:=XW (Θ:=h.tab) hB as ts (O.sig f) hl hA hx;rw[k1];cases ht:vE h.tab A as ts (O.sig f) with
 |none=>rfl
 |some q=>
 obtain⟨l,A1⟩:=q;obtain⟨c1,c2⟩:=k2 _ ht;have Va:B.length=A1.length:=by rw[c2,hl]
 simp only[aP,Pp];rw[XX Va c1 as ts l hx];cases reads h.tab A1 as ts l with
 |none=>rfl
 |some args=>
 simp only;congr 1;funext rt;cases rt.refs with
 |cons _ _=>rfl
 |nil=>simp only;rw[XY Va as l args hx,Fg,QY Va hB hd];rw[hK _ (D4 c1 hd (Vb _)) (by rw[eC,c2])]
theorem aki (hl:B.length=A.length) (hA:cC Δ A) (hB:cC Δ B) {s:Nat} (hs:Δ s=true) (b:TV) (p:Path):(mix Δ A B).Nl s b p=(A.Nl s b p).map (λS=>mix Δ S B)/\∀ S,A.Nl s b p=some S->cC Δ S/\S.length=A.length:=by
 cases p with
 |nil=>simp only[St.Nl];refine⟨by rw[QY hl hB hs];rfl,λS e=>?_⟩;injection e with e;subst e;exact⟨D4 hA hs ku,eC _ _ _⟩
 |cons st pp=>
 simp only[St.Nl];rw[D3 hl hs];cases A.at s with
 |v r ex=>
  simp only;cases wk b (st::pp) r.t r.m r.x with
  |none=>exact⟨rfl,λ_ e=>by cases e⟩
  |some q=>simp only;refine⟨by rw[QY hl hB hs];rfl,λS e=>?_⟩;injection e with e;subst e;exact⟨D4 hA hs ku,eC _ _ _⟩
 |_=>exact⟨rfl,λ_ e=>by cases e⟩
theorem apT {S S2:St} (hl:S2.length=S.length) {f:AV->AV->AV} (hf:f .dead .dead=.dead) (i:Nat):St.at (List.zipWith f S S2) i=f (S.at i) (S2.at i):=by
 by_cases hi:i<S.length
 ·unfold St.at;rw[aG,aG,aG,List.getElem?_zipWith,aN hi,aN (by omega:i<S2.length)];rfl
 rw[Od (S:=S) (by omega),Od (S:=S2) (by omega),Od (by rw[iy];omega),hf]
theorem ad5 {S S2:St} {s:Nat} (hl:S2.length=S.length):(S.again S2 s).length=S.length:=by
 unfold St.again;split
 ·rw[iy];omega
 exact hl
theorem afr {S S2:St} {s:Nat} (hl:S2.length=S.length) (hS:cC Δ S) (h2:cC Δ S2):cC Δ (S.again S2 s):=λi k hk=>by
 rcases again_at (s:=s) hl i with hx |⟨t,r,ex,ha,_,_,_,hx⟩
 ·rw[hx] at hk;exact h2 i k hk
 rw[hx] at hk;exact hS i k (by rw[ha];exact hk)
theorem aon {A2:St} (hl:B.length=A.length) (hl2:A2.length=A.length) {s:Nat} (hs:Δ s=true):(mix Δ A B).again (mix Δ A2 B) s=mix Δ (A.again A2 s) B:=by
 unfold St.again;rw[D3 (by omega) hs];cases hA2:A2.at s with
 |v r ex=>
  simp only;refine F8 (by simp only[iy,qU]) λi=>?_;rw[apT (by rw[qU,qU,hl2]) rfl,xP hl,xP (A:=A2) (by omega),xP (A:=List.zipWith (XF s r.t) A A2) (by rw[iy];omega)];cases Δ i with
  |true=>simp only[ab];rw[apT hl2 rfl]
  |false=>simp only[ae];unfold XF;split<;>first |rfl |(rename_i h1 h2;rw[h1] at h2;cases h2)
 |_=>rfl
theorem apU (hl:B.length=A.length) (hA:cC Δ A) (hB:cC Δ B) {o:Oper} {d:Nat} (Fg:o.dst=some d) (hd:Δ d=true) {f:FuncId} {j:Nat} {as:List Operand} {ts:List TypeId} (hx:∀ x∈as,H5 Δ x=true) {K K':St->aa} (hK:apR Δ A B K K'): Pr h O o f j as ts (mix Δ A B) K'=Pr h O o f j as ts A K:=by
 unfold Pr;split;case h_2=>rfl
 rename_i x T hxj _;have hxx:=hx x (da hxj);rw[A4 hl hxx];cases e:A.pJ h.tab T x with
 |none=>rfl
 |some av=>
 simp only;have ha:=wy hA hxx e;obtain⟨k1,k2⟩:=ad4 hl hA hB hxx ha;rw[k1];cases hp:D1 x av with
 |none=>cases A.pA x av<;>rfl
 |some sp=>
 obtain⟨s,p⟩:=sp;have hs:Δ s=true:=by
  cases av with
  |v b ex=>
   cases x with
   |tmp i=>simp only[D1,ah,aF] at hp;rw[←hp.1];exact hxx
   |_=>simp[D1] at hp
  |al t s' p'=>simp only[D1,ah,aF] at hp;rw[←hp.1];exact ha _ JP
  |_=>simp[D1] at hp
 cases ht:A.pA x av with
 |none=>rfl
 |some q=>
 obtain⟨b,A1⟩:=q;obtain⟨c1,c2⟩:=k2 _ ht;have Va:B.length=A1.length:=by rw[c2,hl]
 simp only[aP];cases (!b.m.eY&&sJ b.t b.m) with
 |false=>rfl
 |true=>
 simp only[ab];rw[XX Va c1 as ts _ hx];cases reads h.tab A1 as ts ((List.replicate as.length none).set j (some ⟨b.t,xO b.t b.m 0,b.x⟩)) with
 |none=>rfl
 |some args=>
 simp only;rw[XY Va as _ args hx];cases (Pq b.t b.m||x5 A1 as ((List.replicate as.length none).set j (some ⟨b.t,xO b.t b.m 0,b.x⟩)) args) with
 |false=>rfl
 |true=>
 simp only[ab];congr 1;funext rt;split;case h_2=>rfl
 rename_i c _;cases (rt.res.all λd=>JM d.m&&(uI d.t d.m||x5 A1 as ((List.replicate as.length none).set j (some ⟨b.t,xO b.t b.m 0,b.x⟩)) args)) with
 |false=>rfl
 |true=>
 simp only[ab];split;case isFalse=>rfl
 split;case isFalse=>rfl
 obtain⟨r1,r2⟩:=aki Va c1 hB hs ⟨b.t,b.m,rD b.t b.m b.x (‹c.t=b.t›▸c.x)⟩ p;rw[r1];cases hr:A1.Nl s ⟨b.t,b.m,rD b.t b.m b.x (‹c.t=b.t›▸c.x)⟩ p with
 |none=>rfl
 |some A2=>obtain⟨d1,d2⟩:=r2 _ hr;simp only[aP];rw[aon hl (by rw[d2,c2]) hs,Fg,QY (by rw[ad5 (by rw[d2,c2]),hl]) hB hd];exact hK _ (D4 (afr (by rw[d2,c2]) hA d1) hd (Vb _)) (by rw[eC,ad5 (by rw[d2,c2])])
theorem Lx (hl:B.length=A.length) (hA:cC Δ A) (hB:cC Δ B) {i:Nat} {o:Oper} (ho:ops[i]?=some o) (ht:so Δ o=true) {K K':St->aa} (hK:apR Δ A B K K'): cP h O ops i (mix Δ A B) K'=cP h O ops i A K:=by
 unfold so at ht;simp only[ai] at ht;obtain⟨⟨hg,hd⟩,hx⟩:=ht;have hg:o.guard=none:=by
  cases hq:o.guard with
  |none=>rfl
  |some _=>rw[hq] at hg;cases hg
 by_cases fZ:∃ T x y,o.op=.store T x y
 ·obtain⟨T,x,y,fp⟩:=fZ;have hdn:o.dst=none:=by
   cases hq:o.dst with
   |none=>rfl
   |some d=>unfold auC at hd;rw[hq,fp] at hd;cases hd
  rw[fp] at hx;simp only[ai] at hx;have e1:∀ S K,cP h O ops i S K=match EN h.tab S T x y with
    |some (g,S1)=>bif g then K (Nd h.tab S S1 T y) else none
    |none=>none:=λS K=>by
   unfold cP
   rw[ho]
   simp only[hg]
   unfold xe
   rw[fp]
   simp only[ev,fp,hdn]
   cases EN h.tab S T x y with
   |none=>rfl
   |some q=>rfl
  have hm:=aol (Θ:=h.tab) hl hA hB T hx.1 hx.2;rw[e1,e1,hm.1];cases he:EN h.tab A T x y with
  |none=>rfl
  |some q=>obtain⟨g,A1⟩:=q;obtain⟨c1,c2⟩:=hm.2 _ he;simp only[aP];obtain⟨s1,s2,s3⟩:=akh (Θ:=h.tab) (A1:=A1) hl hA hB T hx.2 c2 c1;rw[s1,hK _ s2 s3]
 obtain⟨d,Fg⟩:∃ d,o.dst=some d:=by
  cases hq:o.dst with
  |none=>
   exfalso;cases fp:o.op with
   |store T x y=>exact fZ ⟨T,x,y,fp⟩
   |_=>simp[auC,hq,fp] at hd
  |some d=>exact⟨d,rfl⟩
 have hd:Δ d=true:=by
  cases fp:o.op with
  |store T x y=>exact absurd ⟨T,x,y,fp⟩ fZ
  |_=>simpa[auC,Fg,fp] using hd
 have key:∀ {evf:St->Tk},Mx Δ A B (evf A) (evf (mix Δ A B))->(∀ S K,cP h O ops i S K=match evf S with
   |some (g,S1)=>bif g then K S1 else none
   |none=>none)->cP h O ops i (mix Δ A B) K'=cP h O ops i A K:=by
  intro evf hm hs
  rw[hs,hs,hm.1]
  cases he:evf A with
  |none=>rfl
  |some q=>
   obtain⟨g,A1⟩:=q
   obtain⟨c1,c2⟩:=hm.2 _ he
   simp only[aP]
   rw[hK A1 c1 c2]
 have stp:∀ S K,cP h O ops i S K=xe h O o S K:=λS K=>by unfold cP;rw[ho];simp only[hg]
 split at hx
 ·rename_i T x y fp;exact absurd ⟨T,x,y,fp⟩ fZ
 ·rename_i T l c fp;simp only[ai] at hx;refine key (evf:=λS=>wq h.tab S (some d) T l c) (adu hl hA hB hd T hx.1 hx.2) λS K=>?_;rw[stp];unfold xe;rw[fp];simp only[ev,fp,Fg];try rfl
 ·rename_i T fp;refine key (evf:=λS=>Nc h.tab h.hn S (some d) T) (aok hl hA hB hd T) λS K=>?_;rw[stp];unfold xe;rw[fp];simp only[ev,fp,Fg];try rfl
 ·rename_i T n ps fp;refine key (evf:=λS=>fb h.tab h.hn S (some d) T n ps.toList) (aaW hl hA hB hd T n (aJ.1 hx)) λS K=>?_;rw[stp];unfold xe;rw[fp];simp only[ev,fp,Fg];try rfl
 ·rename_i T x fp;refine key (evf:=λS=>tQ h.tab S (some d) T x) (apP hl hA hB hd T hx) λS K=>?_;rw[stp];unfold xe;rw[fp];simp only[ev,fp,Fg];try rfl
 ·rename_i x fp;refine key (evf:=λS=>Nb h.tab S (some d) o.type x) (apQ hl hA hB hd _ hx) λS K=>?_;rw[stp];unfold xe;rw[fp];simp only[ev,fp,Fg];try rfl
 ·rename_i x j fp;refine key (evf:=λS=>u7 S (some d) x j) (ahi hl hA hB hd hx j) λS K=>?_;rw[stp];unfold xe;rw[fp];simp only[ev,fp,Fg];try rfl
 ·rename_i op T x y T' fp;simp only[ai,bV] at hx;obtain⟨h1,h2,h3⟩:=hx;refine key (evf:=λS=>aaD h.tab S (some d) op T x y) (auJ hl hA hB hd op T h1 h2) λS K=>?_;rw[stp];unfold xe;split
  ·rename_i e;rw[fp] at e;cases e
  ·rename_i e;rw[fp] at e;cases e
  ·rename_i e;rw[fp] at e;rw[fp] at h3;injection e with e1 e2 e3 e4 e5;subst e4;simp[Nn] at h3
  ·rename_i e;rw[fp] at e;rw[fp] at h3;injection e with e1 e2 e3 e4 e5;subst e4;simp[Nn] at h3
  simp only[ev,fp,Fg];try rfl
 ·rename_i T x f fp;refine key (evf:=λS=>wo h.tab S (some d) T x f) (ads hl hA hB hd T hx f) λS K=>?_;rw[stp];unfold xe;rw[fp];simp only[ev,fp,Fg];try rfl
 ·rename_i T x ix fp;simp only[ai] at hx;refine key (evf:=λS=>iG h.tab S (some d) T x ix) (adt hl hA hB hd T hx.1 hx.2) λS K=>?_;rw[stp];unfold xe;rw[fp];simp only[ev,fp,Fg];try rfl
 ·rename_i T T' x fp;refine key (evf:=λS=>xc h.tab S (some d) T T' x) (ahk hl hA hB hd T T' hx) λS K=>?_;rw[stp];unfold xe;rw[fp];simp only[ev,fp,Fg];try rfl
 ·rename_i as ts fp;have Pf:=aJ.1 hx;refine key (evf:=λS=>match iH h.tab S (some d) ts.toList as.toList with
   |some r=>some r
   |none=>u9 h.tab S (some d) ts.toList as.toList) ?_ λS K=>?_
  ·have h1:=akg (Θ:=h.tab) (ts:=ts.toList) hl hA hB hd Pf;have h2:=ahj (Θ:=h.tab) (ts:=ts.toList) hl hA hB hd Pf;refine⟨?_,λq hq=>?_⟩
   ·show(match iH h.tab (mix Δ A B) (some d) ts.toList as.toList with
     |some r=>some r
     |none=>u9 h.tab (mix Δ A B) (some d) ts.toList as.toList)=_
    rw[h1.1];cases iH h.tab A (some d) ts.toList as.toList with
    |none=>exact h2.1
    |some r=>rfl
   split at hq
   ·rename_i r hr;injection hq with hq;subst hq;exact h1.2 _ hr
   exact h2.2 _ hq
  rw[stp];unfold xe;rw[fp];simp only[ev,fp,Fg];try rfl
 ·rename_i f as ts fp;have Pf:=aJ.1 hx;rw[stp,stp];unfold xe;rw[fp];simp only;cases To (O.sig f) 0 with
  |none=>exact apS hl hA hB Fg hd Pf hK
  |some j=>exact apU hl hA hB Fg hd Pf hK
 cases hx
end Go.Pv
namespace Go.Pv
open List Int IntKind
variable {h:Hint} {O:va} {Θ:kR} {ops:Array Oper} {ret:iI} {Δ:Nat->Bool} {A B S:St} {K:St->aa}
theorem ad6 {o:Oper} (ht:so Δ o=true):Nn o.op=false:=by unfold so at ht;simp only[ai] at ht;have hx:=ht.2;split at hx;all_goals first |(rename_i fp;rw[fp];rfl) |(simp only[ai,bV] at hx;exact hx.2.2) |cases hx
theorem akj (hl:B.length=A.length) (hA:cC Δ A) (hB:cC Δ B):cC Δ (mix Δ A B):=λi s hs=>by
 rw[xP hl] at hs;cases hi:Δ i with
 |true=>rw[hi] at hs;rw[←hi];exact hA i s hs
 |false=>rw[hi] at hs;rw[←hi];exact hB i s hs
theorem ahl (d:List Nat):(λi=>!aoa d i)=Tp d:=by funext i;simp[aoa]
theorem Tv {d:List Nat}:cC (aoa d) S↔cC (Tp d) S:=
 ⟨λh=>by have:=h.not;rwa [ahl] at this,λh=>h.not⟩
theorem aaY (hS:cC Δ S) {i:Nat} {o:Oper} (ho:ops[i]?=some o) (ht:so Δ o=true) (c:St->Bool) (hc:∀ X,cC Δ X->c X=true): cP h O ops i S K=cP h O ops i S (λX=>bif c X then K X else none):=by
 have h1:=Lx (h:=h) (O:=O) (A:=S) (B:=S) rfl hS hS ho ht (K:=λA1=>open Classical in if cC Δ A1 then K (mix Δ A1 S) else none) (K':=K) (λA1 hA hl=>(ay hA).symm);have h2:=Lx (h:=h) (O:=O) (A:=S) (B:=S) rfl hS hS ho ht (K:=λA1=>open Classical in if cC Δ A1 then K (mix Δ A1 S) else none) (K':=λX=>bif c X then K X else none) (λA1 hA hl=>by
  show(bif c (mix Δ A1 S) then K (mix Δ A1 S) else none)=open Classical in if cC Δ A1 then K (mix Δ A1 S) else none
  rw[ay hA,hc _ (akj (by rw[hl]) hA hS)];rfl)
 rw[aaU] at h1 h2;rw[h1,h2]
theorem ahm (hS:cC Δ S) {i:Nat} {o:Oper} (ho:ops[i]?=some o) (ht:so Δ o=true): cP h O ops i S K=cP h O ops i S (λX=>bif Nat.beq X.length S.length then K X else none):=by
 have h1:=Lx (h:=h) (O:=O) (A:=S) (B:=S) rfl hS hS ho ht (K:=λA1=>K (mix Δ A1 S)) (K':=K) (λA1 hA hl=>rfl);have h2:=Lx (h:=h) (O:=O) (A:=S) (B:=S) rfl hS hS ho ht (K:=λA1=>K (mix Δ A1 S)) (K':=λX=>bif Nat.beq X.length S.length then K X else none) (λA1 hA hl=>by
  show(bif Nat.beq (mix Δ A1 S).length S.length then K (mix Δ A1 S) else none)=K (mix Δ A1 S)
  rw[qU,hl,bS];rfl)
 rw[aaU] at h1 h2;rw[h1,h2]
theorem ad7 (hS:cC Δ S) {i j:Nat} {oi oj:Oper} (hi:ops[i]?=some oi) (hj:ops[j]?=some oj) (ti:so Δ oi=true) (tj:so (λi=>!Δ i) oj=true): cP h O ops i S (λS1=>cP h O ops j S1 K)=cP h O ops i S (λA1=>cP h O ops j S (λB1=>K (mix Δ A1 B1))):=by
 have h1:=Lx (h:=h) (O:=O) (A:=S) (B:=S) rfl hS hS hi ti (K':=λS1=>cP h O ops j S1 K) (K:=λA1=>cP h O ops j S (λB1=>K (mix Δ A1 B1))) (λA1 hA hl=>by
  have h2:=Lx (h:=h) (O:=O) (Δ:=λi=>!Δ i) (A:=S) (B:=A1) hl hS.not hA.not hj tj (K':=K) (K:=λB1=>K (mix Δ A1 B1)) (λB1 hB hlB=>by rw[afp (by rw[hl,hlB])])
  rw[afp (by rw[hl])] at h2
  exact h2)
 rw[aaU] at h1;exact h1
theorem aaZ (hO:Lt O) (hS:cC Δ S) {i j:Nat} {oi oj:Oper} (hi:ops[i]?=some oi) (hj:ops[j]?=some oj) (ti:so Δ oi=true) (tj:so (λi=>!Δ i) oj=true):
  cP h O ops i S (λS1=>cP h O ops j S1 K)=cP h O ops j S (λS1=>cP h O ops i S1 K):=by
 have tn:(λi=>!(!Δ i))=Δ:=by funext i;simp
 rw[ad7 hS hi hj ti tj,ad7 (Δ:=λi=>!Δ i) hS.not hj hi tj (by rw[tn];exact ti)]
 obtain⟨ri,h1⟩:=zp (h:=h) (O:=O) (ops:=ops) hO i (λo ho=>by rw[hi] at ho;injection ho with ho;subst ho;exact ad6 ti) S
 obtain⟨rj,h2⟩:=zp (h:=h) (O:=O) (ops:=ops) hO j (λo ho=>by rw[hj] at ho;injection ho with ho;subst ho;exact ad6 tj) S
 -- the lengths are the same
 have l1:=λK=>ahm (h:=h) (O:=O) (K:=K) hS hi ti
 have l2:=λK=>ahm (h:=h) (O:=O) (K:=K) hS.not hj tj
 cases ri with
 |none=>simp only[h1,h2,gd];cases rj<;>rfl
 |some A1=>
  cases rj with
  |none=>simp only[h1,h2,gd,aI]
  |some B1=>
   simp only[h1,h2,aI] at l1 l2 ⊢
   have hA:A1.length=S.length:=by
    have:=l1 (λ_=>some ⟨[],[]⟩)
    cases hq:Nat.beq A1.length S.length with
    |true=>exact aw hq
    |false=>rw[hq] at this;cases this
   have hB:B1.length=S.length:=by
    have:=l2 (λ_=>some ⟨[],[]⟩)
    cases hq:Nat.beq B1.length S.length with
    |true=>exact aw hq
    |false=>rw[hq] at this;cases this
   rw[afp (by rw[hA,hB])]
theorem aoo {S:St} {d:Nat} {a:AV} (h:S.at d=a) (hd:a≠ .dead):S.set d a=S:=by
 refine F8 (bF) λi=>?_;rw[kT];split
 ·rename_i hi;rw[hi.1,h]
 rfl
theorem put_comm {S:St} {a b:Nat} {u v:AV} (hab:a≠b) (hu:∀ d,u.refs d=false) (hv:∀ d,v.refs d=false):(S.put (some a) u).put (some b) v=(S.put (some b) v).put (some a) u:=by
 refine F8 (by simp only[eC]) λi=>?_;have hV:∀ (S:St) (a b:Nat) (u:AV),a≠b->((S.put (some a) u).at b).UX=(S.at b).UX:=λS a b u hab=>by
  rw[nm,ar (λe=>hab e.1.symm)];cases hr:(S.at b).refs a with
  |false=>rfl
  |true=>
  have:(S.at b).UX=false:=(by cases hx:S.at b<;>first |rfl |(rw[hx] at hr;simp[AV.refs] at hr));rw[this];cases (S.at a).UX with
  |true=>rfl
  |false=>exact this
 simp only[nm,eC,hu,hv,ae];have hVa:=hV S b a v (pd hab);have hVb:=hV S a b u hab;simp only[nm,hu,hv,ae] at hVa hVb;rw[hVa,hVb];by_cases h1:i=a
 ·subst h1;by_cases hl:i<S.length
  ·rw[ar (λe=>hab e.1),ay ⟨rfl,hl⟩,ay ⟨rfl,hl⟩,hu];rfl
  rw[ar (λe=>hab e.1),ar (λe=>hl e.2),ar (λe=>hl e.2),ar (λe=>hab e.1),Od (S:=S) (i:=i) (by omega)];simp[AV.refs]
 by_cases h2:i=b
 ·subst h2;by_cases hl:i<S.length
  ·rw[ay ⟨rfl,hl⟩,ar (λe=>h1 e.1),ay ⟨rfl,hl⟩,hv];rfl
  rw[ar (λe=>hl e.2),ar (λe=>h1 e.1),ar (λe=>h1 e.1),ar (λe=>hl e.2),Od (S:=S) (i:=i) (by omega)];simp[AV.refs]
 rw[ar (λe=>h2 e.1),ar (λe=>h1 e.1),ar (λe=>h1 e.1),ar (λe=>h2 e.1)];have dr:∀ d,AV.dead.refs d=false:=λ_=>rfl;cases hra:(S.at i).refs a<;>cases hrb:(S.at i).refs b<;>cases (S.at a).UX<;>cases (S.at b).UX<;>simp only[hra,hrb,dr,cM,dN,aA,fi,ab,ae]
theorem Vc {S:St} {a x:Nat} {u t:AV} (hax:a≠x) (ht:∀ d,t.refs d=false) (hx:∀ d,(S.at x).refs d=false):List.set (S.put (some a) u) x t=St.put (S.set x t) (some a) u:=by
 refine F8 (by simp only[eC,bF]) λi=>?_;have h1:(St.at (S.set x t) a).UX=(S.at a).UX:=by rw[kT,ar (λe=>hax e.1)]
 rw[kT,eC,nm,nm,bF,h1];by_cases hi:i=x/\x<S.length
 ·rw[ay hi,ar (λe=>hax (e.1.symm.trans hi.1)),kT,ay hi,ht];rfl
 rw[ar hi,kT,ar hi]
theorem amv {i:Nat} {o:Oper} {a x p:Nat} (ho:ops[i]?=some o) (hg:o.guard=none) (hd:o.dst=some a) (fp:o.op=.extract (.tmp x) p) (S:St) (K:St->aa):cP h O ops i S K=match u7 S (some a) (.tmp x) p with
  |some (g,S1)=>bif g then K S1 else none
  |none=>none:=by
 unfold cP
 rw[ho]
 simp only[hg]
 unfold xe
 rw[fp]
 simp only[ev,fp,hd]
 try rfl
theorem auK {i j:Nat} {oi oj:Oper} (hi:ops[i]?=some oi) (hj:ops[j]?=some oj) (hx:exB oi oj=true) (S:St) (K:St->aa):
  cP h O ops i S (λS1=>cP h O ops j S1 K)=cP h O ops j S (λS1=>cP h O ops i S1 K):=by
 unfold exB at hx
 split at hx
 case h_2=>cases hx
 rename_i a b x p y q g1 g2 d1 d2 o1 o2
 simp only[ai,bV] at hx
 obtain⟨e1,e2,e3,e4,e5⟩:=hx
 have e1:=aw e1
 subst e1
 have e2:p≠q:=λe=>by rw[e,bS] at e2;cases e2
 have e3:a≠b:=λe=>by rw[e,bS] at e3;cases e3
 have e4:a≠x:=λe=>by rw[e,bS] at e4;cases e4
 have e5:b≠x:=λe=>by rw[e,bS] at e5;cases e5
 have bf:∀ {a x:Nat},a≠x->Nat.beq a x=false:=λ{a x} wj=>by
  cases hq:Nat.beq a x with
  |false=>rfl
  |true=>exact absurd (aw hq) wj
 -- one extraction,on its own
 have one:∀ (S:St) (a p:Nat),a≠x->u7 S (some a) (.tmp x) p=match S.at x with
   | .QU l=>(match l.getD p none with
    |some u=>some (true,St.put (S.set x (.QU (bif u.m.eY then l else l.set p none))) (some a) (.v u []))
    |none=>none)
   |_=>none:=λS a p hax=>by
  unfold u7
  simp only
  cases nI:S.at x with
  |QU l=>
   simp only
   cases l.getD p none with
   |none=>rfl
   |some u=>
    simp only
    cases u.m.eY with
    |true=>simp only[ab];rw[aoo nI (λe=>by cases e)]
    |false=>simp only[ae,bf hax]
  |_=>rfl
 simp only[amv hi g1 d1 o1,amv hj g2 d2 o2,one _ _ _ e4,one _ _ _ e5]
 cases nI:S.at x with
 |QU l=>
  simp only
  have hxl:x<S.length:=by
   refine ca λhl=>?_
   rw[Od (S:=S) (i:=x) (Nat.le_of_not_lt hl)] at nI
   cases nI
  -- the tuple,behind the first
  have after:∀ (t:AV) (u:TV) (a:Nat),(∀ d,t.refs d=false)->a≠x->(St.put (S.set x t) (some a) (.v u [])).at x=t:=λt u a ht hax=>by
   rw[nm,ar (λe=>hax e.1.symm),kT,ay ⟨rfl,hxl⟩,ht];rfl
  have KY:∀ (l:List (Option TV)) (p q:Nat) (c:Bool),p≠q->(bif c then l else l.set p none).getD q none=l.getD q none:=λl p q c hpq=>by
   cases c with
   |true=>rfl
   |false=>simp only[ae,aG];rw[lP hpq]
  have ahn:∀ (l:List (Option TV)) (d:Nat),(AV.QU l).refs d=false:=λ_ _=>rfl
  have nv:∀ (b:TV) (d:Nat),(AV.v b []).refs d=false:=λ_ _=>rfl
  cases hp:l.getD p none with
  |none=>
   cases hq:l.getD q none with
   |none=>rfl
   |some w=>
    simp only[ab,after _ _ _ (ahn _) e5,KY _ _ _ _ (pd e2),hp]
  |some u=>
   cases hq:l.getD q none with
   |none=>simp only[ab,after _ _ _ (ahn _) e4,KY _ _ _ _ e2,hq]
   |some w=>
    simp only[ab,after _ _ _ (ahn _) e4,after _ _ _ (ahn _) e5,KY _ _ _ _ e2,KY _ _ _ _ (pd e2),hp,hq]
    congr 1
    rw[Vc e4 (ahn _) (by rw[kT,ay ⟨rfl,hxl⟩];exact ahn _),Vc e5 (ahn _) (by rw[kT,ay ⟨rfl,hxl⟩];exact ahn _),xf,xf,put_comm e3 (nv _) (nv _)]
    congr 3
    cases u.m.eY<;>cases w.m.eY<;>simp only[ab,ae]
    rw[List.set_comm _ _ e2]
 |_=>rfl
theorem Ih {ds:List (List Nat)}:Ib ds S=true↔∀ d∈ds,cC (Tp d) S:=by unfold Ib;rw[aJ];exact⟨λh d hd=>Aa.1 (h d hd),λh d hd=>Aa.2 (h d hd)⟩
end Go.Pv
namespace Go.Pv
open List Int IntKind
variable {h:Hint} {O:va} {Θ:kR} {ops:Array Oper} {ret:iI} {Δ:Nat->Bool} {A B S S':St} {K:St->aa}
def ldV (Θ:kR) (S:St) (T:TypeId) (x:Nat):Option AV:=match S.Tj (.tmp x) (S.at x) with
 |some g=>match S.loadAt g with
  |some r=>bif ag' g.ty r&&Θ.is T g.ty then some r else none
  |none=>none
 |none=>none
theorem aAB (S:St) (dst:Option Nat) (T:TypeId) (x:Nat):tQ Θ S dst T (.tmp x)=(ldV Θ S T x).map λr=>(true,S.put dst r):=by
 unfold tQ ldV;simp only[St.pJ];cases S.Tj (.tmp x) (S.at x) with
 |none=>rfl
 |some g=>
 simp only;cases S.loadAt g with
 |none=>rfl
 |some r=>simp only;cases (ag' g.ty r&&Θ.is T g.ty)<;>rfl
def rootOf (x:Nat):AV->Nat
 | .al _ s _=>s
 | .ad _ s _=>s
 |_=>x
theorem ad8 {s:Nat} (hs:S'.at s=S.at s) (p:Path):S'.ko s p=S.ko s p:=by unfold St.ko;rw[hs]
theorem apV {s:Nat} (hs:S'.at s=S.at s) (p:Path):S'.place s p=S.place s p:=by unfold St.place;rw[hs]
theorem aho {x:Nat} {a:AV} {g:Tgt} (e:S.Tj (.tmp x) a=some g):(∀ t s p,g=.pl t s p->s=rootOf x a):=by
 intro t s p hg;subst hg;unfold St.Tj at e;split at e
 ·split at e
  ·cases e<;>rfl
  ·rename_i h1;injection h1 with h1;injection e with e;injection e with _ e _;rw[←e,←h1];rfl
  cases e<;>rfl
 ·split at e
  ·rename_i h1;injection h1 with h1;injection e with e;injection e with _ e _;rw[←e,←h1];rfl
  cases e<;>rfl
 ·split at e
  ·cases e<;>rfl
  ·injection e with e;injection e with _ e _;rw[←e];rfl
  cases e<;>rfl
 ·injection e with e;injection e with _ e _;rw[←e];rfl
 cases e
theorem aop {x:Nat} {a:AV} (hs:S'.at (rootOf x a)=S.at (rootOf x a)):S'.Tj (.tmp x) a=S.Tj (.tmp x) a:=by unfold St.Tj;split<;>first |rfl |(rename_i t s p;rw[show S'.ko s p=S.ko s p from ad8 hs p])
theorem ad9 {T:TypeId} {x:Nat} (hx:S'.at x=S.at x) (hs:S'.at (rootOf x (S.at x))=S.at (rootOf x (S.at x))):ldV Θ S' T x=ldV Θ S T x:=by
 unfold ldV;rw[hx,aop hs];cases hg:S.Tj (.tmp x) (S.at x) with
 |none=>rfl
 |some g=>
 simp only;have:S'.loadAt g=S.loadAt g:=by
  unfold St.loadAt;cases g with
  |k a=>rfl
  |pl t s p=>have:=aho hg t s p rfl;subst this;simp only[ad8 hs,apV hs]
 rw[this]
theorem apW {T:TypeId} {x:Nat} {r:AV} (e:ldV Θ S T x=some r) (k:Nat) (hk:r.refs k=true):k=rootOf x (S.at x):=by
 unfold ldV at e;cases hg:S.Tj (.tmp x) (S.at x) with
 |none=>rw[hg] at e;cases e
 |some g=>
 rw[hg] at e;simp only at e;cases hl:S.loadAt g with
 |none=>rw[hl] at e;cases e
 |some r'=>
 rw[hl] at e;simp only at e;cases hT:(ag' g.ty r'&&Θ.is T g.ty) with
 |false=>rw[hT] at e;cases e
 |true=>
 rw[hT] at e;simp only[ab,ah] at e;subst e;unfold St.loadAt at hl;split at hl
 ·injection hl with hl;rw[←hl] at hk;cases hk
 rename_i t s p;have hr:=aho hg t s p rfl;split at hl;case h_2=>cases hl
 rename_i a _;cases ha:a.m.eY with
 |true=>
 rw[ha] at hl;simp only[ab] at hl;split at hl
 ·injection hl with hl;rw[←hl] at hk;cases hk
 cases hl
 |false=>rw[ha] at hl;simp only[ae,ah] at hl;rw[←hl] at hk;have:s=k:=aw hk;rw[←this];exact hr
theorem aoq {x:Nat} {a:AV}:rootOf x a=x∨a.refs (rootOf x a)=true:=by cases a<;>first |exact .inl rfl |exact .inr (bS _)
def Lone (a:Nat) (S:St):Prop:=∀ i,(S.at i).refs a=true->i=a
theorem amw {a:Nat} (h:cC (Tp [a]) S):Lone a S:=λi hi=>by
 have:=h i a hi;have ha:Tp [a] a=true:=by simp[Tp]
 rw[ha] at this;unfold Tp at this;simp only[vG,List.any_nil,AY] at this;exact aw this
theorem Np {c:Nat} {u:AV} (lc:Lone c S) {k:Nat} (hk:k≠c):(S.put (some c) u).at k=S.at k:=by
 rw[nm,ar (λe=>hk e.1)];cases hq:(S.at k).refs c with
 |false=>rfl
 |true=>exact absurd (lc k hq) hk
theorem Vd {c:Nat} {u:AV} (hu:u.refs c=false) (hc:c<S.length):(S.put (some c) u).at c=u:=by rw[nm,ay ⟨rfl,hc⟩,hu];rfl
theorem ahp {a b:Nat} {u:AV} (la:Lone a S) (lb:Lone b S) (hua:u.refs a=false) (hub:u.refs b=false):Lone b (S.put (some a) u):=λi hi=>by
 by_cases h1:i=a
 ·subst h1;by_cases hl:i<S.length
  ·rw[Vd hua hl,hub] at hi;cases hi
  rw[Od (by rw[eC];omega)] at hi;cases hi
 rw[Np la h1] at hi;exact lb i hi
theorem aor {S:St} {a b:Nat} {u v:AV} (hab:a≠b) (hua:u.refs a=false) (hub:u.refs b=false) (hva:v.refs a=false) (hvb:v.refs b=false) (la:Lone a S) (lb:Lone b S):(S.put (some a) u).put (some b) v=(S.put (some b) v).put (some a) u:=by
 have lb1:=ahp la lb hua hub
 have la1:=ahp lb la hvb hva
 refine F8 (by simp only[eC]) λi=>?_
 by_cases hl:i<S.length
 rotate_left
 ·rw[Od (by rw[eC,eC];omega),Od (by rw[eC,eC];omega)]
 by_cases h1:i=a
 ·subst h1
  rw[Np lb1 hab,Vd hua hl,Vd hua (by rw[eC];exact hl)]
 ·by_cases h2:i=b
  ·subst h2
   rw[Vd hvb (by rw[eC];exact hl),Np la1 h1,Vd hvb hl]
  ·rw[Np lb1 h2,Np la h1,Np la1 h1,Np lb h2]
theorem afs {i:Nat} {o:Oper} {T:TypeId} {a x:Nat} (ho:ops[i]?=some o) (hg:o.guard=none) (hd:o.dst=some a) (fp:o.op=.load T (.tmp x)) (S:St) (K:St->aa):cP h O ops i S K=(ldV h.tab S T x).bind λr=>K (S.put (some a) r):=by unfold cP;rw[ho];simp only[hg];unfold xe;rw[fp];simp only[ev,fp,hd,aAB];cases ldV h.tab S T x<;>rfl
theorem auL {i j:Nat} {oi oj:Oper} (hi:ops[i]?=some oi) (hj:ops[j]?=some oj) (hx:ldB oi oj=true) {S:St} (hSi:cC (Tp (apC oi)) S) (hSj:cC (Tp (apC oj)) S) (K:St->aa):
  cP h O ops i S (λS1=>cP h O ops j S1 K)=cP h O ops j S (λS1=>cP h O ops i S1 K):=by
 unfold ldB at hx
 split at hx
 case h_2=>cases hx
 rename_i a b T x T' y g1 g2 d1 d2 o1 o2
 simp only[ai,bV] at hx
 obtain⟨e1,e2,e3,e4,e5⟩:=hx
 have ne:∀ {p q:Nat},Nat.beq p q=false->p≠q:=λe h=>by rw[h,bS] at e;cases e
 have e1:=ne e1
 have e2:=ne e2
 have e3:=ne e3
 have e4:=ne e4
 have e5:=ne e5
 unfold apC at hSi hSj
 rw[d1] at hSi
 rw[d2] at hSj
 have la:=amw hSi
 have lb:=amw hSj
 simp only[afs hi g1 d1 o1,afs hj g2 d2 o2]
 -- what stands elsewhere stays
 have keep:∀ {c:Nat} {u:AV},Lone c S->∀ k,k≠c->(S.put (some c) u).at k=S.at k:=λ{c u} lc k hk=>by
  rw[nm,ar (λe=>hk e.1)]
  cases hq:(S.at k).refs c with
  |false=>rfl
  |true=>exact absurd (lc k hq) hk
 have root:∀ {c z:Nat},Lone c S->c≠z->rootOf z (S.at z)≠c:=λ{c z} lc hz e=>by
  rcases aoq (x:=z) (a:=S.at z) with h1 |h1
  ·exact hz (by rw[←e,h1])
  ·rw[e] at h1;exact hz (lc z h1).symm
 have ey:∀ u,ldV h.tab (S.put (some a) u) T' y=ldV h.tab S T' y:=λu=>ad9 (keep la y (pd e3)) (keep la _ (root la e3))
 have ex:∀ u,ldV h.tab (S.put (some b) u) T x=ldV h.tab S T x:=λu=>ad9 (keep lb x (pd e4)) (keep lb _ (root lb e4))
 simp only[ey,ex]
 cases hu:ldV h.tab S T x with
 |none=>cases ldV h.tab S T' y<;>rfl
 |some u=>
  cases hv:ldV h.tab S T' y with
  |none=>rfl
  |some v=>
   simp only[aI]
   have rf:∀ {c z:Nat} {T:TypeId} {r:AV},ldV h.tab S T z=some r->Lone c S->c≠z->r.refs c=false:=λ{c z T r} hr lc hz=>by
    cases hq:r.refs c with
    |false=>rfl
    |true=>exact absurd (apW hr c hq).symm (root lc hz)
   rw[aor e1 (rf hu la e2) (rf hu lb e4) (rf hv la e3) (rf hv lb e5) la lb]
theorem aa0:∀ (a b:List Nat),eqN a b=true->a=b
 |[],[],_=>rfl
 |x::r,y::s,h=>by simp only[eqN,ai] at h;rw[aw h.1,aa0 r s h.2]
theorem akk {T:TypeId} {x d:Nat} {r:AV} {i:TI} (hT:Θ.find T=some i) (hf:i.ty.flat=true) (e:ldV Θ S T x=some r) (hS:cC Δ S):cC Δ (S.put (some d) r):=by
 have hr:∀ s,r.refs s=false:=by
  unfold ldV at e;cases hg:S.Tj (.tmp x) (S.at x) with
  |none=>rw[hg] at e;cases e
  |some g=>
  rw[hg] at e;simp only at e;cases hl:S.loadAt g with
  |none=>rw[hl] at e;cases e
  |some r'=>
  rw[hl] at e;simp only at e;cases hq:(ag' g.ty r'&&Θ.is T g.ty) with
  |false=>rw[hq] at e;cases e
  |true=>
  rw[hq] at e;simp only[ab,ah] at e;subst e;simp only[ai] at hq;obtain⟨h1,h2⟩:=hq;have rH:i.ty=g.ty:=(by unfold kR.is at h2;rw[hT] at h2;simpa using h2);unfold St.loadAt at hl;split at hl
  ·injection hl with hl;rw[←hl];intro s;rfl
  split at hl;case h_2=>cases hl
  rename_i a _;cases ha:a.m.eY with
  |true=>
  rw[ha] at hl;simp only[ab] at hl;split at hl
  ·injection hl with hl;rw[←hl];intro s;rfl
  cases hl
  |false=>rw[ha] at hl;simp only[ae,ah] at hl;rw[←hl] at h1;unfold ag' at h1;rw[←rH,hf] at h1;cases h1
 intro k s hs;rw[nm] at hs;split at hs
 ·cases hq:r.refs d with
  |true=>rw[hr] at hq;cases hq
  |false=>rw[hq,ae,hr] at hs;cases hs
 revert hs;cases (S.at k).refs d&&(S.at d).UX with
 |true=>intro hs;cases hs
 |false=>intro hs;exact hS k s hs
theorem aa1 (hO:Lt O) {i:Nat} {o:Oper} (ho:ops[i]?=some o) (hn:Nn o.op=false) (e:cP h O ops i S K=some ret):∃ X,(∀ K,cP h O ops i S K=K X)/\K X=some ret/\∀ d,Ps h.tab d o=true->cC (Tp d) S->cC (Tp d) X:=by
 obtain⟨ro,h1⟩:=zp (h:=h) (O:=O) (ops:=ops) hO i (λo' ho'=>by rw[ho] at ho';injection ho' with ho';subst ho';exact hn) S;cases ro with
 |none=>rw[h1] at e;cases e
 |some X=>
 refine⟨X,λK=>h1 K,by rw[h1] at e;exact e,λd hk hS=>?_⟩;unfold Ps at hk;simp only[bd] at hk;rcases hk with ht |ht |ht
 ·have:=aaY (h:=h) (O:=O) (K:=λ_=>some ⟨[],[]⟩) hS ho ht (λX=>vF (Tp d) X 0) (λX hX=>Aa.2 hX);simp only[h1,aI] at this;cases hc:vF (Tp d) X 0 with
  |true=>exact Aa.1 hc
  |false=>rw[hc] at this;cases this
 ·have:=aaY (h:=h) (O:=O) (K:=λ_=>some ⟨[],[]⟩) (Tv.2 hS) ho ht (λX=>vF (Tp d) X 0) (λX hX=>Aa.2 (Tv.1 hX));simp only[h1,aI] at this;cases hc:vF (Tp d) X 0 with
  |true=>exact Aa.1 hc
  |false=>rw[hc] at this;cases this
 unfold apD at ht;split at ht;case h_2=>cases ht
 rename_i d' T x g1 g2 g3;split at ht;case h_2=>cases ht
 rename_i ti hti;have h2:=λK=>(afs (h:=h) (O:=O) ho g1 g2 g3 S K).symm.trans (h1 K);cases hv:ldV h.tab S T x with
 |none=>have:=h2 (λ_=>some ⟨[],[]⟩);rw[hv] at this;cases this
 |some r=>have hX:S.put (some d') r=X:=(by refine ca λwj=>?_;have:=h2 (λY=>open Classical in if Y=X then some ⟨[],[]⟩ else none);rw[hv] at this;simp only[aI,ar wj,dy] at this;cases this);rw[←hX];exact akk hti ht hv hS
theorem auM (hO:Lt O) {us:List (List Nat)} (hw:∀ d∈us,cC (Tp d) S) {i j:Nat} {oi oj:Oper} (hi:ops[i]?=some oi) (hj:ops[j]?=some oj) (hp:U4 us oi oj=true): cP h O ops i S (λS1=>cP h O ops j S1 K)=cP h O ops j S (λS1=>cP h O ops i S1 K):=by
 unfold U4 at hp;simp only[bd,ai] at hp;rcases hp with hp |⟨h1,h2,h3⟩ |hp
 ·exact auK hi hj hp S K
 ·have mem:∀ d,amp us d=true->d∈us:=λd hd=>(by unfold amp at hd;obtain⟨e,he,hq⟩:=dk.1 hd;rw[aa0 _ _ hq];exact he);exact auL hi hj h1 (hw _ (mem _ h2)) (hw _ (mem _ h3)) K
 unfold aAy at hp;obtain⟨d,hd,hp⟩:=dk.1 hp;simp only[bd,ai] at hp;rcases hp with⟨h1,h2⟩ |⟨h1,h2⟩
 ·exact aaZ hO (hw d hd) hi hj h1 h2
 exact aaZ hO (Tv.2 (hw d hd)) hi hj h1 (by rw[ahl];exact h2)
theorem aa2 (hO:Lt O) {U:Nat->List (List Nat)} {j:Nat} {oj:Oper} (hj:ops[j]?=some oj):∀ (p r:List Nat) {S:St} {K:St->aa} {ret:iI},(∀ x∈p,∃ ox,ops[x]?=some ox/\Nn ox.op=false/\U4 (U x) ox oj=true/\∀ d∈U x,cC (Tp d) S)-> p.Pairwise (λy x=>∀ d∈U x,∀ oy,ops[y]?=some oy->Ps h.tab d oy=true)-> JN h O ops (p++j::r) S K=some ret->cP h O ops j S (λS1=>JN h O ops (p++r) S1 K)=some ret
 |[],r,S,K,ret,hp,_,e=>e
 |x::p,r,S,K,ret,hp,hk,e=>by
  obtain⟨ox,hx,hn,hc,hw⟩:=hp x (by simp);simp only[bD,JN] at e ⊢;obtain⟨X,h1,h3,h2⟩:=aa1 hO hx hn e;rw[bZ] at hk;have h4:=aa2 hO hj p r (λy hy=>by
   obtain⟨oy,y1,y2,y3,y4⟩:=hp y (by simp[hy])
   exact⟨oy,y1,y2,y3,λd hd=>h2 d (hk.1 y hy d hd ox hx) (y4 d hd)⟩) hk.2 h3
  rw[←auM hO hw hx hj hc,h1];exact h4
def apX (Θ:kR) (ops:Array Oper) (as:List Nat) (ds:List (List Nat)) (l:List Nat) (i j:Nat):Prop:=∃ oi oj,ops[i]?=some oi/\ops[j]?=some oj/\i≠j/\Nat.testBit (dw j as 0 0) i=false/\(Nat.testBit (dw i as 0 0) j=true∨U4 (ds.filter (afi Θ ops as l i j)) oi oj=true)
theorem KZ {as:List Nat} {ds:List (List Nat)} {q:List Nat}:∀ {l:List Nat},Lr Θ ops as ds q l=true↔l.Pairwise (apX Θ ops as ds q)
 |[]=>by simp[Lr]
 |i::r=>by
  simp only[Lr,ai,aJ,bZ];rw[KZ];refine and_congr ?_ Iff.rfl;refine AZ λj=>?_;refine imp_congr Iff.rfl ?_;unfold apX;cases hi:ops[i]? with
  |none=>simp
  |some oi=>
  cases hj:ops[j]? with
  |none=>simp
  |some oj=>
  simp only[ai,bV,bd,ah];constructor
  ·rintro⟨h1,h2⟩;exact⟨oi,oj,rfl,rfl,(λe=>by rw[e,bS] at h1;cases h1),h2⟩
  rintro⟨_,_,rfl,rfl,h1,h2⟩;refine⟨?_,h2⟩;cases hq:Nat.beq i j with
  |false=>rfl
  |true=>exact absurd (aw hq) h1
theorem ad' {as l:List Nat} {i j z:Nat} {d:List Nat} (h:afi Θ ops as l i j d=true) (hz:z∈l) (h1:z≠i) (h2:z≠j) (h3:Nat.testBit (dw i as 0 0) z=false) (h4:Nat.testBit (dw j as 0 0) z=false) {oz:Oper} (ho:ops[z]?=some oz):Ps Θ d oz=true:=by
 unfold afi at h;have h5:=aJ.1 h z hz;rw[h3,h4,ho] at h5;simp only[bd,eK] at h5;rcases h5 with h5 |h5 |h5
 ·exact absurd (aw h5) h1
 ·exact absurd (aw h5) h2
 exact h5
theorem apY {as l l':List Nat} {i j:Nat} {d:List Nat} (hl:∀ z∈l',z∈l) (h:afi Θ ops as l i j d=true):afi Θ ops as l' i j d=true:=aJ.2 λz hz=>aJ.1 h z (hl z hz)
theorem akl {us us':List (List Nat)} (hu:∀ d∈us,d∈us') {oi oj:Oper} (h:U4 us oi oj=true):U4 us' oi oj=true:=by
 have any:∀ f:List Nat->Bool,us.any f=true->us'.any f=true:=λf hf=>by obtain⟨d,hd,hq⟩:=dk.1 hf;exact dk.2 ⟨d,hu d hd,hq⟩
 unfold U4 at h ⊢;simp only[bd,ai] at h ⊢;rcases h with h |⟨h1,h2,h3⟩ |h
 ·exact .inl h
 ·exact .inr (.inl ⟨h1,any _ h2,any _ h3⟩)
 exact .inr (.inr (any _ h))
end Go.Pv
namespace Go.Pv
open List Int IntKind
def zc:Ty->List Value
 | .int k=>[.int k 0] | .bool=>[.bool false] | .str=>[.string ByteArray.empty] | .sl _=>[.slice none 0 0] | .ptr _=>[.pointer none] | .mp=>[.map none]
 | .pair a b=>zc a++zc b | .unit=>[] | .arr n t=>(List.replicate n (zc t)).flatten
def wa:Path->Ty->Option Ty
 |[],t=>some t
 | .fst::p,.pair a _=>wa p a
 | .snd::p,.pair _ b=>wa p b
 |_,_=>none
def veq:Value->Value->Bool
 | .int k n,.int k' n'=>decide (k=k')&&decide (n=n')
 | .bool a,.bool b=>a==b
 | .string a,.string b=>a.data.toList==b.data.toList
 | .slice none a b,.slice none c d=>Nat.beq a c&&Nat.beq b d
 | .pointer none,.pointer none=>true
 | .map none,.map none=>true
 |_,_=>false
def akm:List Value->List Value->Bool
 |[],[]=>true
 |a::r,b::s=>veq a b&&akm r s
 |_,_=>false
theorem axV {a b:Value} (h:veq a b=true):a=b:=by
 unfold veq at h;split at h<;>simp at h
 ·obtain⟨rfl,rfl⟩:=h;rfl
 ·subst h;rfl
 ·rename_i a b;cases a;cases b;simp at h;rw[h]
 ·obtain⟨rfl,rfl⟩:=h;rfl
 ·rfl
 rfl
theorem aft:∀ {a b:List Value},akm a b=true->a=b
 |[],[],_=>rfl
 |a::r,b::s,h=>by simp only[akm,ai] at h;rw[axV h.1,aft h.2]
 |[],_::_,h=>by simp[akm] at h
 |_::_,[],h=>by simp[akm] at h
def zOK (t:Ty) (z:Value):Bool:=match isAgg t,z with
 |true,.agg cs=>akm cs.toList (zc t)
 |true,_=>false
 |false,z=>akm [z] (zc t)
theorem aos {t:Ty} {z:Value} (h:zOK t z=true):a6 t z (zc t):=by
 unfold zOK at h;unfold a6;split at h
 ·rename_i ha;rw[ay ha,←aft h]
 ·cases h
 rename_i ha;rw[ar (by simp[ha]),←aft h]
def Fh (Θ:kR) (ty:Ty) (n:Nat):List Field->Nat->Bool
 |[],_=>true
 |f::r,k=>(match wa (JI k n) ty with
  |some t=>Θ.is f.type t&&Nat.beq f.offset (cA (JI k n) ty)&&Nat.blt 0 t.size
  |none=>false)&&Fh Θ ty n r (k+1)
def aAC (P:Program) (k e:TypeId):Bool:=match P.underlying k,P.underlying e,P.info? e with
 |some (.array n t),some .bool,some inf=>Nat.beq n 2&&Nat.beq (P.cellsOf k) 2&&Nat.beq (P.cellsOf t) 1&& !P.types.isEmpty&&(match P.underlying t with
  |some (.int .i64)=>true
  |_=>false)&&(match inf.zero with
  |some (.bool false)=>true
  |_=>false)
 |_,_,_=>false
def A5 (P:Program) (Θ:kR) (i:TI):Bool:=match i.ty,P.underlying i.T with
 | .int k,some (.int k')=>decide (k=k')
 | .bool,some .bool=>true
 | .str,some .string=>true
 | .sl t,some (.slice e)=>Nat.beq e i.e&&Θ.is e t&&Nat.blt 0 t.size
 | .mp,some (.map k e)=>aAC P k e
 | .arr n t,some (.array m e)=>Nat.beq m n&&Nat.beq e i.e&&Θ.is e t&&Nat.blt 0 t.size
 | .pair _ _, some (.struct fs) => decide (fs.toList.map (·.type) = i.fs) && Fh Θ i.ty fs.size fs.toList 0 && !P.eqGuardType P.depth i.T && !P.stoodInHeld i.T && fs.toList.all (fun f => f.name != "_")
 |_,_=>false
def aw1 (i:TI) (inf:TypeInfo):Bool:=Nat.beq inf.size i.ty.size&&Nat.ble i.ty.size 9000&&Nat.ble inf.bytes (32*i.ty.size)&&Nat.ble inf.bytes 256&&Nat.blt 0 inf.bytes&&match inf.zero with
 |some z=>zOK i.ty z
 |none=>false
def Ty.ht:Ty->Nat
 | .pair a b=>max a.ht b.ht+1
 |_=>0
def uOK (i:TI):Bool:=Nat.ble i.ty.ht 9000&&match i.fs,i.ty with
 |[_],.pair _ .unit=>true
 |[_],_=>false
 |[],.pair _ _=>false
 |_,_=>true
def axW (P:Program) (Θ:kR) (i:TI):Bool:=((match P.info? i.T with
 |some inf=>aw1 i inf
 |none=>false)&&A5 P Θ i)&&uOK i
def kh (P:Program) (Θ:kR):Bool:=Θ.all (axW P Θ)
structure aAD (P:Program) (i:TI):Prop where
 small:i.ty.size<=9000
 out:∃ inf z,P.info? i.T=some inf/\inf.size=i.ty.size/\inf.bytes<=32*i.ty.size/\inf.bytes<=256/\0<inf.bytes/\inf.zero=some z/\a6 i.ty z (zc i.ty)
theorem Ly {Θ:kR} {T:TypeId} {i:TI} (h:Θ.find T=some i):i∈Θ/\i.T=T:=by
 induction Θ with
 |nil=>simp[kR.find] at h
 |cons j r ih=>
 simp only[kR.find] at h;cases hb:Nat.beq j.T T with
 |true=>rw[hb] at h;simp only[ab,ah] at h;subst h;exact⟨by simp,aw hb⟩
 |false=>rw[hb] at h;simp only[ae] at h;exact⟨er _ (ih h).1,(ih h).2⟩
theorem kV {P:Program} {Θ:kR} (hT:kh P Θ=true) {T:TypeId} {i:TI} (h:Θ.find T=some i):aAD P i/\A5 P Θ i=true/\i.T=T:=by
 have h1:=aJ.1 hT i (Ly h).1;simp only[axW,ai] at h1;refine⟨?_,h1.1.2,(Ly h).2⟩;have h2:=h1.1.1;split at h2
 ·rename_i inf hi;simp only[aw1,ai] at h2;obtain⟨⟨⟨⟨⟨a,sm⟩,b⟩,b'⟩,b''⟩,c⟩:=h2;split at c
  ·rename_i z hz;exact⟨bJ sm,⟨inf,z,hi,aw a,bJ b,bJ b',jC (bJ b''),hz,aos c⟩⟩
  cases c
 cases h2
theorem aw2 {P:Program} {Θ:kR} (hT:kh P Θ=true) {T:TypeId} {i:TI} (h:Θ.find T=some i):uOK i=true:=by have h1:=aJ.1 hT i (Ly h).1;simp only[axW,ai] at h1;exact h1.2
theorem ph {Θ:kR} {T:TypeId} {t:Ty} (h:Θ.is T t=true):∃ i,Θ.find T=some i/\i.ty=t:=by
 unfold kR.is at h;split at h
 ·rename_i i hi;exact⟨i,hi,by simpa using h⟩
 cases h
theorem F9 {P:Program} {Θ:kR} {i:TI} {t:Ty} (h:A5 P Θ i=true) (ht:i.ty=.sl t):P.underlying i.T=some (.slice i.e)/\Θ.is i.e t=true/\0<t.size:=by unfold A5 at h;rw[ht] at h;split at h<;>simp_all;obtain⟨⟨a,b⟩,c⟩:=h;rw[←a];exact b
theorem Ve {P:Program} {Θ:kR} {i:TI} {k:IntKind} (h:A5 P Θ i=true) (ht:i.ty=.int k):P.underlying i.T=some (.int k):=by unfold A5 at h;rw[ht] at h;split at h<;>simp_all
theorem Vf {P:Program} {Θ:kR} {i:TI} (h:A5 P Θ i=true) (ht:i.ty=.bool):P.underlying i.T=some .bool:=by unfold A5 at h;rw[ht] at h;split at h<;>simp_all
theorem Nq {P:Program} {Θ:kR} {i:TI} (h:A5 P Θ i=true) (ht:i.ty=.str):P.underlying i.T=some .string:=by unfold A5 at h;rw[ht] at h;split at h<;>simp_all
theorem Ii {P : Program} {Θ : kR} {i : TI} {a b : Ty} (h : A5 P Θ i = true) (ht : i.ty = .pair a b) : ∃ fs, P.underlying i.T = some (.struct fs) ∧ fs.toList.map (·.type) = i.fs ∧ Fh Θ i.ty fs.size fs.toList 0 = true ∧ P.eqGuardType P.depth i.T = false ∧ P.stoodInHeld i.T = false ∧ ∀ f ∈ fs, f.name ≠ "_" := by
 unfold A5 at h
 rw[ht] at h
 split at h<;>simp_all
 intro f hf
 obtain⟨k,hk,rfl⟩:=Array.mem_iff_getElem.1 hf
 exact h.2 k hk
theorem axX {P:Program} {Θ:kR} {i:TI} (h:A5 P Θ i=true) (ht:i.ty=.mp):∃ k e t,P.underlying i.T=some (.map k e)/\WideMaps.ArrKey P k t 2/\P.underlying t=some (.int .i64)/\(∃ m,P.types.size=m+1)/\∃ inf,P.info? e=some inf/\inf.zero=some (.bool false):=by
 unfold A5 at h;rw[ht] at h;split at h<;>simp_all;rename_i k e he;unfold aAC at h;split at h;case h_2=>cases h
 rename_i n t inf hk hb hi;simp only[ai] at h;obtain⟨⟨⟨⟨⟨h1,h2⟩,h3⟩,h4⟩,h5⟩,h6⟩:=h;have h1:=aw h1;subst h1;split at h5;case h_2=>cases h5
 rename_i hti;split at h6;case h_2=>cases h6
 rename_i hz;refine⟨k,e,⟨rfl,rfl⟩,t,⟨hk,by simp[Program.plainKey,hti],aw h3,aw h2⟩,hti,?_,inf,hi,hz⟩;have h4:0<P.types.size:=Array.size_pos_iff.2 (by simpa using h4);first |exact⟨P.types.size - 1,by omega⟩ |omega
theorem auN {P:Program} {Θ:kR} {i:TI} {n:Nat} {t:Ty} (h:A5 P Θ i=true) (ht:i.ty=.arr n t):∃ e,P.underlying i.T=some (.array n e)/\Θ.is e t=true/\0<t.size:=by unfold A5 at h;rw[ht] at h;split at h<;>simp_all;rw[←h.1.1.2];exact h.1.2
theorem Vg {P:Program} {Θ:kR} {i:TI} (h:A5 P Θ i=true):(∃ d,P.underlying i.T=some d)/\(∀ t,i.ty≠ .ptr t)/\i.ty≠ .unit:=by unfold A5 at h;split at h<;>simp_all
theorem Ab {Θ:kR} {ty:Ty} {n:Nat}:∀ {l:List Field} {k0:Nat},Fh Θ ty n l k0=true->∀ k f,l[k]?=some f->∃ t,wa (JI (k0+k) n) ty=some t/\Θ.is f.type t=true/\f.offset=cA (JI (k0+k) n) ty/\0<t.size
 |[],_,_,k,f,h=>by simp at h
 |g::r,k0,AQ,k,f,h=>by
  simp only[Fh,ai] at AQ;cases k with
  |zero=>
  simp only[aD,ah] at h;subst h;have:=AQ.1;split at this
  ·rename_i t ht;simp only[ai] at this;exact⟨t,ht,this.1.1,aw this.1.2,jC (bJ this.2)⟩
  cases this
  |succ k=>simp only[eO] at h;have:=Ab AQ.2 k f h;rw[show k0+1+k=k0+(k+1) from by omega] at this;exact this
theorem xg {P:Program} {Θ:kR} (hT:kh P Θ=true) {T:TypeId} {t:Ty} (h:Θ.is T t=true):∃ inf,P.info? T=some inf/\inf.size=t.size/\P.cellsOf T=t.size:=by obtain⟨i,hi,rfl⟩:=ph h;obtain⟨⟨_,inf,z,h1,h2,_⟩,_,rfl⟩:=kV hT hi;exact⟨inf,h1,h2,by simp[Program.cellsOf,h1,h2]⟩
theorem akn {P:Program} {Θ:kR} (hT:kh P Θ=true) {T:TypeId} {t:Ty} (h:Θ.is T t=true) (w:World):(Go.isAgg T).run P w=.ok (isAgg t) w:=by obtain⟨i,hi,rfl⟩:=ph h;obtain⟨_,hu,rfl⟩:=kV hT hi;have hn:=Vg hu;unfold A5 at hu;unfold Go.isAgg;split at hu<;>simp_all [underlying,program,isAgg,Sem.run]
end Go.Pv
namespace Go.Pv
open List Int IntKind
variable {w w':World} {A A':Nat->Prop} {H:Nat->Value} {tm N':Nat->Value} {S S':St} {σ:Nat->Option Nat} {w0:World} {W0 Z:Nat->Prop} {a:Act} {own:Nat->Prop} {v:Value} {Θ:kR}
theorem A6 (g off n:Nat):(⟨g,off,none⟩:Addr).add n=⟨g,off+n,none⟩:=by
 unfold Addr.add;split
 ·rename_i h;subst h;rfl
 rfl
theorem amx {t:Ty} {xs:List t.I} {X:Option Addr} {c lo hi:Nat} (h:K w A (.sl t) xs [.slice X xs.length c]) (h1:lo<=hi) (h2:hi<=xs.length):
  K w A (.sl t) ((xs.take hi).drop lo) [.slice (if c=lo then X else X.map (·.add (lo*t.size))) (hi - lo) (c - lo)]:=by
 simp only[K] at h ⊢
 obtain⟨X',c',e,hc,h⟩:=h
 simp only[dW,fc,iJ,cl] at e
 obtain⟨rfl,rfl⟩:=e
 have hl:((xs.take hi).drop lo).length=hi - lo:=by rw[aX,aH];omega
 refine⟨_,_,by rw[hl],by omega,λhp=>?_⟩
 rw[hl] at hp
 obtain⟨g,off,cur,T,fr,rfl,hg,hw,ho,hj⟩:=h (by omega)
 have e1:(lo+(hi - lo))*t.size<=xs.length*t.size:=aC _ (by omega)
 rw[bc] at e1
 refine⟨g,off+lo*t.size,cur,T,fr,?_,hg,hw,by rw[hl];omega,λj hj1=>?_⟩
 rotate_left
 ·have M8:j<hi - lo:=by rw[←hl];exact hj1
  have:=hj (lo+j) (by omega)
  rw[show((xs.take hi).drop lo)[j]=xs[lo+j]'(by omega) from by simp]
  rw[show off+lo*t.size+j*t.size=off+(lo+j)*t.size from by rw[bc];omega]
  exact this
 ·rw[ar (by omega)]
  simp only[aP,A6]
theorem vd (h:cY σ w0 W0 Z H S a w) {t:Ty} {s:Nat} {p:Path} {r:TV} {kI:List Value} (hr:Ref (gM a) S t s p r kI): ∃ ex b kS kH,S.at s=.v r ex/\open_ p ex/\dA p r.t r.m r.x=some b/\b.t=t/\M w (Av σ Z) H r.t r.m r.x kI (λg=>σ g=some s) ex/\ cz w p r.t kI=some kS/\(∀ g,kH g->σ g=some s)/\M w (Av σ Z) H b.t b.m b.x kS kH (U3 p ex):=by
 obtain⟨⟨ex,h1,h2⟩,h3,⟨b,h4,h5⟩,h6⟩:=hr;have hh:=h.holds s;rw[h1] at hh;obtain⟨cs,hm,hM⟩:=hh;obtain rfl:=oA h6 hm;obtain⟨kS,kH,k1,k2,k3⟩:=focus p hM h2 h3 h4
 exact⟨ex,b,kS,kH,h1,h2,h4,h5,hM,k1,k2,k3⟩
theorem np (h:cY σ w0 W0 Z H S a w) {t:Ty} {s:Nat} {p:Path} {r:TV} {kI cs:List Value} {b:TV} (hr:Ref (gM a) S t s p r kI) (hc:cz w p r.t kI=some cs) (hp:S.place s p=some b): b.t=t/\∃ kH,(∀ g,kH g->σ g=some s)/\M w (Av σ Z) H b.t b.m b.x cs kH []:=by
 obtain⟨ex,b',kS,kH,h1,h2,h3,h4,hM,k1,k2,k3⟩:=vd h hr;unfold St.place at hp;rw[h1] at hp;simp only at hp;cases tR:ex.all λq=>!wm q p with
 |false=>rw[tR] at hp;cases hp
 |true=>rw[tR] at hp;simp only[ab] at hp;rw[h3] at hp;injection hp with hp;subst hp;rw[k1] at hc;injection hc with hc;subst hc;rw[Sz (λq hq=>by simpa using aJ.1 tR q hq)] at k3;exact⟨h4,kH,k2,k3⟩
theorem Pz (h:cY σ w0 W0 Z H S a w) {av:AV} {b:TV} (hh:Holds w (Av σ Z) H (gM a) S own av v) (e:S.QV av=some b): ∃ cs,a6 b.t v cs/\K w (λ_=>False) b.t b.x cs/\(b.m.eY=true->K w (Av σ Z) b.t b.x cs):=by
 cases av with
 |v a ex=>
  cases ex with
  |cons _ _=>simp[St.QV] at e
  |nil=>simp only[St.QV,ah] at e;subst e;obtain⟨cs,h1,h2⟩:=hh;exact⟨cs,h1,aj8 h2,λhk=>tD _ hk h2⟩
 |al t s p=>simp only[St.QV] at e;obtain⟨r,kI,cs,hr,hc,hm⟩:=hh;obtain⟨rfl,kH,k2,k3⟩:=np h hr hc e;exact⟨cs,hm,aj8 k3,λhk=>tD _ hk k3⟩
 |cut t s p lo hi=>
  simp only[St.QV] at e;obtain⟨r,kI,t',X,n,c,hr,rfl,hc,hlo,hhi,rfl⟩:=hh;cases hp:S.place s p with
  |none=>rw[hp] at e;cases e
  |some b'=>obtain⟨ht,kH,k2,k3⟩:=np h hr hc hp;obtain⟨bt,bm,bx⟩:=b';simp only at ht;subst ht;rw[hp] at e;simp only[ah] at e;subst e;have hK:=aj8 k3;have hn:n=length bx:=(by simp only[K] at hK;obtain⟨_,_,e,_⟩:=hK;simp only[dW,fc,iJ] at e;exact e.2.1);subst hn;exact⟨_,by simp[a6,isAgg],amx hK hlo hhi,λhk=>amx (tD _ hk k3) hlo hhi⟩
 |_=>simp[St.QV] at e
theorem qi (h:cY σ w0 W0 Z H S a w) {T:TypeId} {x:Operand} {b:TV} (e:S.rd Θ T x=some b): ∃ cs,a6 b.t (a.eval x) cs/\K w (λ_=>False) b.t b.x cs/\(b.m.eY=true->K w (Av σ Z) b.t b.x cs):=by
 unfold St.rd at e;split at e
 ·rename_i av pL;exact Pz h (eH h pL) e
 cases e
theorem lg {k:IntKind} {v:Value} {cs:List Value} {x:Int} (h:a6 (.int k) v cs) (hk:K w A (.int k) x cs):v=.int k x:=by simp only[K] at hk;simp only[a6,isAgg] at h;subst hk;simpa using h.symm
theorem lQ {v:Value} {cs:List Value} {x:Bool} (h:a6 .bool v cs) (hk:K w A .bool x cs):v=.bool x:=by simp only[K] at hk;simp only[a6,isAgg] at h;subst hk;simpa using h.symm
theorem qD {v:Value} {cs:List Value} {x:ByteArray} (h:a6 .str v cs) (hk:K w A .str x cs):v=.string x:=by simp only[K] at hk;simp only[a6,isAgg] at h;subst hk;simpa using h.symm
theorem Ij {t:Ty} {v:Value} {cs:List Value} {x:List t.I} (h:a6 (.sl t) v cs) (hk:K w A (.sl t) x cs):∃ X c,v=.slice X x.length c/\cs=[.slice X x.length c]/\x.length<=c:=by have uH:=hk;simp only[K] at uH;obtain⟨X,c,rfl,hc,_⟩:=uH;simp only[a6,isAgg] at h;exact⟨X,c,by simpa using h.symm,rfl,hc⟩
theorem zr (h:cY σ w0 W0 Z H S a w) {x:Operand} {n:Int} (e:S.GI Θ x=some n):∃ k,a.eval x=.int k n:=by
 unfold St.GI at e;split at e
 ·rename_i k m n' hb;injection e with e;subst e;obtain⟨cs,h1,h2,_⟩:=qi h hb;exact⟨k,lg h1 h2⟩
 cases e
theorem Nr {t:Ty} {x:t.I} {v:Value} {cs:List Value} (h:a6 t v cs) (hk:K w A t x cs):Holds w A H tm S (λ_=>False) (.v ⟨t,.k,x⟩ []) v:=⟨cs,h,tS t hk⟩
theorem mF (k:IntKind) (n:Int):Holds w A H tm S (λ_=>False) (.v ⟨.int k,.k,n⟩ []) (.int k n):=Nr (cs:=[.int k n]) (by simp[a6,isAgg]) (by simp[K])
theorem kW (b:Bool):Holds w A H tm S (λ_=>False) (.v ⟨.bool,.k,b⟩ []) (.bool b):=Nr (cs:=[.bool b]) (by simp[a6,isAgg]) (by simp[K])
theorem aea (b:ByteArray):Holds w A H tm S (λ_=>False) (.v ⟨.str,.k,b⟩ []) (.string b):=Nr (cs:=[.string b]) (by simp[a6,isAgg]) (by simp[K])
end Go.Pv
