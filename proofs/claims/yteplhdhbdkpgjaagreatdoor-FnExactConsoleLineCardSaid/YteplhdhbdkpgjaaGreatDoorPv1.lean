/- A verified evaluator of the program's form over pure values, part 1: what it tells of a function holds. -/
import Derived.Test.YteplhdhbdkpgjaaGreatDoorPv0
import Derived.WideKeyPair
set_option linter.unusedSimpArgs false
set_option linter.unusedVariables false
set_option autoImplicit true
set_option relaxedAutoImplicit true
namespace Go.Pv
open List Int IntKind
abbrev eV:= @Bool.false_or
abbrev b8:= @Bool.not_eq_true'
abbrev bD:= @Bool.not_false
abbrev bo:= @Bool.or_eq_true
abbrev AO:= @Bool.or_false
abbrev aB:= @Bool.true_and
abbrev cd:= @Classical.byContradiction
abbrev lM:= @List.all_cons
abbrev vE:= @List.any_cons
abbrev dh:= @List.any_eq_false
abbrev eB:= @List.cons.injEq
abbrev wg:= @List.ext_getElem
abbrev eY:= @List.getElem?_cons_succ
abbrev aE:= @List.getElem?_cons_zero
abbrev lN:= @List.getElem?_set_ne
abbrev aV:= @List.mem_cons
abbrev er:= @List.mem_cons_of_mem
abbrev eP:= @List.mem_flatMap
abbrev bu:= @List.mem_singleton
abbrev fN:= @List.nodup_append
abbrev eJ:= @List.nodup_cons
abbrev gH:= @List.nodup_nil
abbrev bZ:= @List.pairwise_cons
abbrev wW:= @List.set_set
abbrev qf:= @Nat.beq_eq
abbrev bV:= @Nat.beq_refl
abbrev uc:= @Nat.ble_eq_true_of_le
abbrev bH:= @Nat.le_of_ble_eq_true
abbrev pn:= @Nat.lt_of_lt_of_le
abbrev jE:= @Nat.lt_of_succ_le
abbrev gP:= @Nat.lt_or_ge
abbrev sG:= @Nat.lt_succ_self
abbrev pz:= @Ne.symm
abbrev gz:= @Option.bind_none
abbrev aG:= @Prod.mk.injEq
abbrev fx:= @Go.Value.slice.injEq
abbrev iO:= @and_true
abbrev bY:= @beq_iff_eq
abbrev pA:= @dif_neg
abbrev jn:= @dif_pos
abbrev AP:= @forall_congr'
abbrev cp:= @true_and
abbrev aa:=Option jD
variable {h:Hint} {O:vi} {ops:Array Oper} {Θ:nh}
structure Nl where
 hZ:List Nat
 d:Nat
 v:AV
def fH:List Nat->St->St
 |[],S=>S
 |x::r,S=>fH r (S.put (some x) .dead)
def Nl.app (E:Nl) (S:St):St:=(fH E.hZ S).put (some E.d) E.v
def KQ (a:AV):Prop:=∀ d,a.refs d=false
theorem Ol (hx:xT S x=true) (T:TypeId):(∃ i a,x=.tmp i/\S.at i=.v a []/\S.pT Θ T x=some (.v a []))∨∃ c,x=.const c:=by
 cases x with
 |tmp i=>
 simp only[xT] at hx;split at hx
 ·rename_i a ha;exact .inl ⟨i,a,rfl,ha,by simp[St.pT,ha]⟩
 cases hx
 |const c=>exact .inr ⟨c,rfl⟩
 |func f=>simp[xT] at hx
 |global g=>simp[xT] at hx
def Lo (S S':St) (l:List Nat):Prop:=∀ r∈l,S'.at r=S.at r
theorem aaB (ha:Lo S S' (cJ x)) (T:TypeId):S'.pT Θ T x=S.pT Θ T x:=by
 cases x with
 |tmp i=>simp only[St.pT];rw[ha i (by simp[cJ])]
 |const c=>rfl
 |func f=>rfl
 |global g=>rfl
theorem afW (hx:xT S x=true) (ha:Lo S S' (cJ x)) (T:TypeId):S'.rd Θ T x=S.rd Θ T x:=by
 unfold St.rd;rw[aaB ha];rcases Ol (Θ:=Θ) hx T with⟨i,a,rfl,h1,h2⟩ |⟨c,rfl⟩
 ·rw[h2];rfl
 simp only[St.pT];cases JZ Θ T c<;>rfl
theorem Ik:∀ (xs:List Operand) (Ts:List TypeId) (l:List (Option TV)),(∀ x∈xs,xT S x=true)->Lo S S' (xs.flatMap cJ)->reads Θ S' xs Ts l=reads Θ S xs Ts l
 |[],_,_,_,_=>rfl
 |x::xs,[],l,_,_=>rfl
 |x::xs,T::Ts,[],_,_=>rfl
 |x::xs,T::Ts,p::ps,hx,ha=>by
  have ih:=Ik xs Ts ps (λy hy=>hx y (by simp[hy])) (λr hr=>ha r (by simp[hr]));have ho:=aaB (Θ:=Θ) (x:=x) (λr hr=>ha r (by simp[hr])) T;simp only[reads,ih,ho];cases p with
  |some a=>rfl
  |none=>
  simp only;rcases Ol (Θ:=Θ) (hx x (by simp)) T with⟨i,a,rfl,h1,h2⟩ |⟨c,rfl⟩
  ·rw[h2];rfl
  simp only[St.pT];cases JZ Θ T c<;>rfl
theorem Xl:∀ (xs:List Operand) (l:List (Option TV)) (as:List Arg),Lo S S' (xs.flatMap cJ)->xS S' xs l as=xS S xs l as
 |[],_,_,_=>rfl
 |x::xs,[],_,_=>rfl
 |x::xs,p::ps,[],_=>rfl
 |x::xs,p::ps,r::rs,ha=>by
  have ih:=Xl xs ps rs (λr hr=>ha r (by simp[hr]));have hf:Rp S' x=Rp S x:=by
   cases x with
   |tmp i=>simp only[Rp];rw[ha i (by simp[cJ])]
   |const c=>rfl
   |func f=>rfl
   |global g=>rfl
  simp only[xS,ih,hf]
theorem aet:∀ (xs:List Operand) (Ts:List TypeId) (ps:List Pass),(ps.all λp=>match p with
   | .val=>true
   |_=>false)=true->(∀ S,vC Θ S xs Ts ps=none)∨∃ l,∀ S,vC Θ S xs Ts ps=some (l,S)
 |[],_,_,_=>.inr ⟨[],λS=>by simp[vC]⟩
 |x::xs,[],_,_=>.inl λS=>by simp[vC]
 |x::xs,T::Ts,[],_=>.inl λS=>by simp[vC]
 |x::xs,T::Ts,p::ps,h=>by
  simp only[lM,ai] at h
  cases p with
  |take=>cases h.1
  |Gq=>cases h.1
  |val=>
   rcases aet xs Ts ps h.2 with h1 |⟨l,h1⟩
   ·exact .inl λS=>by simp only[vC,h1]
   ·exact .inr ⟨none::l,λS=>by simp only[vC,h1]⟩
theorem Y2:∀ (l:List Pass) (n:Nat),(l.all λp=>match p with
   | .val=>true
   |_=>false)=true->R5 l n=none
 |[],_,_=>rfl
 | .val::r,n,h=>by simp only[R5];exact Y2 r (n+1) (by simpa using h)
 | .take::r,n,h=>by simp at h
 | .Gq::r,n,h=>by simp at h
theorem aa6 (l:List TV):KQ (aeo l):=by intro d;unfold aeo;split<;>rfl
theorem aqc (hO:Ll O) {i:Nat} {o:Oper} (ho:ops[i]?=some o) (hg:o.guard=none) {d:Nat} (hd:o.dst=some d) {f:FuncId} {as:Array Operand} {ts:Array TypeId} (fL:o.op=.call { callee:=.value (.func f),args:=as,argTypes:=ts }) (hv:ap4 O f=true) {S:St} (hx:∀ x∈as.toList,xT S x=true): ∃ oE:Option Nl,(∀ E,oE=some E->E.d=d/\E.hZ=[]/\KQ E.v)/\∀ S',Lo S S' (as.toList.flatMap cJ)->∀ K,cV h O ops i S' K=oE.bind λE=>K (E.app S'):=by
 have C7:∀ S' K,cV h O ops i S' K=xC h O o f none as.toList ts.toList S' K:=by intro S' K;unfold cV;rw[ho];simp only[hg];unfold wV;rw[fL];simp only[Y2 _ 0 hv]
 rcases aet (Θ:=h.tab) as.toList ts.toList (O.sig f) hv with ht |⟨l,ht⟩
 ·exact⟨none,λE hE=>(by cases hE),λS' _ K=>by rw[C7];unfold xC;simp only[ht];rfl⟩
 cases hr:reads h.tab S as.toList ts.toList l with
 |none=>exact⟨none,λE hE=>(by cases hE),λS' ha K=>by rw[C7];unfold xC;simp only[ht,Ik _ _ _ hx ha,hr];rfl⟩
 |some args=>
 obtain⟨oR,hR⟩:=hO f (args++([]:List TV).map .tv);cases oR with
 |none=>refine⟨none,λE hE=>(by cases hE),λS' ha K=>?_⟩;rw[C7];unfold xC;simp only[ht,Ik _ _ _ hx ha,hr,Og,hR];rfl
 |some ret=>
 cases hrefs:ret.refs with
 |nil=>
  cases hc:(ret.res.all (λd=>uK d.t d.m)||(([]:List TV).isEmpty&&xS S as.toList l args)) with
  |false=>refine⟨none,λE hE=>(by cases hE),λS' ha K=>?_⟩;rw[C7];unfold xC;simp only[ht,Ik _ _ _ hx ha,Xl _ _ _ ha,hr,Og,hR,aL,hrefs,hc];rfl
  |true=>
  refine⟨some ⟨[],d,aeo ret.res⟩,λE hE=>?_,λS' ha K=>?_⟩
  ·injection hE with hE;subst hE;exact⟨rfl,rfl,aa6 _⟩
  rw[C7];unfold xC;simp only[ht,Ik _ _ _ hx ha,Xl _ _ _ ha,hr,Og,hR,aL,hrefs,hd,hc];rfl
 |cons _ _=>refine⟨none,λE hE=>(by cases hE),λS' ha K=>?_⟩;rw[C7];unfold xC;simp only[ht,Ik _ _ _ hx ha,hr,Og,hR,aL,hrefs];rfl
def VD (a:AV):Prop:=(∃ b,a=.v b [])∨a=.dead
def aoK (S:St):Operand->Prop
 | .tmp i=>VD (S.at i)
 | .const _=>True
 |_=>False
theorem ana (h:xT S x=true):aoK S x:=by
 cases x with
 |tmp i=>
 simp only[xT] at h;split at h
 ·rename_i a ha;exact .inl ⟨a,ha⟩
 cases h
 |const c=>trivial
 |func f=>simp[xT] at h
 |global g=>simp[xT] at h
theorem aeu (hx:aoK S x) (T:TypeId):∃ oB:Option (TV×List Nat),(∀ b ks,oB=some (b,ks)->ks.Nodup/\∀ r∈ks,r∈cJ x/\∃ a,S.at r=.v a [])/\∀ S',Lo S S' (cJ x)->S'.take Θ T x=oB.map λq=>(q.1,fH q.2 S'):=by
 cases x with
 |tmp i=>
  rcases hx with⟨a,ha⟩ |ha
  ·cases hk:a.m.fu with
   |true=>
   refine⟨some (a,[]),λb ks e=>?_,λS' hs=>?_⟩
   ·injection e with e;injection e with _ e;subst e;exact⟨gH,λr hr=>by cases hr⟩
   have h2:=(hs i (by simp[cJ])).trans ha;unfold St.take;simp[St.pT,h2,St.pL,hk,fH]
   |false=>
   refine⟨some (a,[i]),λb ks e=>?_,λS' hs=>?_⟩
   ·injection e with e;injection e with _ e;subst e;refine⟨by simp,λr hr=>?_⟩;simp only[bu] at hr;subst hr;exact⟨by simp[cJ],a,ha⟩
   have h2:=(hs i (by simp[cJ])).trans ha;unfold St.take;simp[St.pT,h2,St.pL,hk,fH]
  refine⟨none,λb ks e=>(by cases e),λS' hs=>?_⟩;have h2:=(hs i (by simp[cJ])).trans ha;unfold St.take;simp[St.pT,h2,St.pL]
 |const c=>
  cases hc:JZ Θ T c with
  |none=>exact⟨none,λb ks e=>(by cases e),λS' ha=>(by unfold St.take;simp[St.pT,hc])⟩
  |some a=>
  refine⟨some (a,[]),λb ks e=>?_,λS' ha=>?_⟩
  ·injection e with e;injection e with _ e;subst e;exact⟨gH,λr hr=>by cases hr⟩
  unfold St.take;simp only[St.pT,hc,St.pL];cases a.m.fu<;>simp[fH]
 |func f=>exact hx.elim
 |global g=>exact hx.elim
theorem ahS (hx:xT S x=true) (T:TypeId):∃ oB:Option (TV×List Nat),(∀ b ks,oB=some (b,ks)->ks.Nodup/\∀ r∈ks,r∈cJ x)/\∀ S',Lo S S' (cJ x)->S'.take Θ T x=oB.map λq=>(q.1,fH q.2 S'):=by obtain⟨oB,h1,h2⟩:=aeu (Θ:=Θ) (ana hx) T;exact⟨oB,λb ks e=>⟨(h1 b ks e).1,λr hr=>((h1 b ks e).2 r hr).1⟩,h2⟩
theorem Xm {S:St} {i j:Nat} {a:TV} (h:S.at j=.v a []) (PM:j≠i):(S.put (some i) .dead).at j=.v a []:=by rw[nj,aq (λe=>PM e.1),h];simp[AV.refs]
theorem aev {S:St} {i:Nat} {a:TV} (h:S.at i=.v a []):(S.put (some i) .dead).at i=.dead:=by
 have hl:i<S.length:=by
  rcases gP i S.length with hl |hl
  ·exact hl
  unfold St.at at h;rw[aF,cA hl] at h;cases h
 rw[nj,aA ⟨rfl,hl⟩];simp[AV.refs]
theorem akN (h:S.at j=.v a []) (hj:j∉ks):(fH ks S).at j=.v a []:=by
 induction ks generalizing S with
 |nil=>exact h
 |cons x r ih=>exact ih (Xm h (λe=>hj (by simp[e]))) (λe=>hj (by simp[e]))
theorem aoL (hy:xT S y=true) (ha:Lo S S' (cJ y)) (hn:∀ r∈cJ y,r∉ks):Lo S (fH ks S') (cJ y):=by
 intro r hr;cases y with
 |tmp j=>
 simp only[cJ,bu] at hr;subst hr;rcases Ol (Θ:=[]) hy 0 with⟨i,a,e,h1,_⟩ |⟨c,e⟩
 ·injection e with e;subst e;rw[h1];exact akN ((ha r (by simp[cJ])).trans h1) (hn r (by simp[cJ]))
 cases e
 |const c=>simp[cJ] at hr
 |func f=>simp[cJ] at hr
 |global g=>simp[cJ] at hr
theorem akO (h:S.at j=.v a []) (hj:j∈ks):(fH ks S).at j=.dead:=by
 have dead:∀ (ks:List Nat) (S:St),S.at j=.dead->(fH ks S).at j=.dead:=by
  intro ks;induction ks with
  |nil=>intro S h;exact h
  |cons x r ih=>
  intro S h;refine ih _ ?_;rw[nj];split
  ·simp[AV.refs]
  rw[h];simp[AV.refs]
 induction ks generalizing S with
 |nil=>cases hj
 |cons x r ih=>
 by_cases hx:j=x
 ·subst hx;exact dead r _ (aev h)
 exact ih (Xm h hx) (by rcases aV.1 hj with e |e;exact absurd e hx;exact e)
theorem Y3 (a b:List Nat) (S:St):fH (a++b) S=fH b (fH a S):=by
 induction a generalizing S with
 |nil=>rfl
 |cons x r ih=>exact ih _
theorem akP (hx:xT S x=true) (hy:xT S y=true): ∃ oG:Option (Bool×Nl),(∀ g E,oG=some (g,E)->E.d=d/\KQ E.v/\E.hZ.Nodup/\∀ r∈E.hZ,r∈cJ x++cJ y)/\∀ S',Lo S S' (cJ x++cJ y)->iN Θ S' (some d) [T,T'] [x,y]=oG.map λq=>(q.1,q.2.app S'):=by
 obtain⟨oB,hB1,hB2⟩:=ahS (Θ:=Θ) hx T;have hax:∀ {S':St},Lo S S' (cJ x++cJ y)->Lo S S' (cJ x):=λha r hr=>ha r (by simp[hr]);have hay:∀ {S':St},Lo S S' (cJ x++cJ y)->Lo S S' (cJ y):=λha r hr=>ha r (by simp[hr]);cases oB with
 |none=>exact⟨none,λg E e=>(by cases e),λS' ha=>by unfold iN;simp only[hB2 S' (hax ha)];rfl⟩
 |some q=>
  obtain⟨b,ks⟩:=q
  obtain⟨hnd,Xd⟩:=hB1 b ks rfl
  -- is the second gone?
  by_cases axt:∃ r∈cJ y,r∈ks
  ·obtain⟨r,hr,hrk⟩:=axt
   cases y with
   |const c=>simp[cJ] at hr
   |func f=>simp[cJ] at hr
   |global g=>simp[cJ] at hr
   |tmp j=>
    simp only[cJ,bu] at hr
    subst hr
    refine⟨none,λg E e=>(by cases e),λS' ha=>?_⟩
    rcases Ol (Θ:=Θ) hy 0 with⟨i,a,e,h1,_⟩ |⟨c,e⟩
    ·injection e with e
     subst e
     have Nk:=akO (ks:=ks) ((ha r (by simp[cJ])).trans h1) hrk
     unfold iN
     simp only[hB2 S' (hax ha),aS]
     have hrd:(fH ks S').rd Θ T' (.tmp r)=none:=by unfold St.rd;simp only[St.pT,Nk,St.PK]
     have htk:(fH ks S').take Θ T' (.tmp r)=none:=by unfold St.take;simp only[St.pT,Nk,St.pL]
     split
     ·rename_i t e1 tg me xs S1 i heq hf
      simp only[ah,aG] at heq
      obtain⟨rfl,rfl⟩:=heq
      simp only[hrd,htk,ae]
      cases me.fu<;>cases (decide (i.ty=t.sl)&&Nat.beq i.e e1&&Θ.is T' t.sl)<;>rfl
     ·rfl
    ·cases e
  ·have hn:∀ r∈cJ y,r∉ks:=λr hr hk=>axt ⟨r,hr,hk⟩
   obtain⟨oC,hC1,hC2⟩:=ahS (Θ:=Θ) hy T'
   cases hf:Θ.find T with
   |none=>exact⟨none,λg E e=>(by cases e),λS' ha=>by unfold iN;simp only[hB2 S' (hax ha),hf];split<;>simp_all⟩
   |some ti=>
   by_cases Nn:∃ (t:Ty) (e1:TypeId) (tg:Option Nat) (me:Md) (xs:List t.I),b=⟨.sl t,.o e1 tg me,xs⟩
   rotate_left
   ·refine⟨none,λg E e=>(by cases e),λS' ha=>?_⟩
    unfold iN
    simp only[hB2 S' (hax ha),hf,aS]
    split
    ·rename_i t e1 tg me xs S1 i heq aEJ
     simp only[ah,aG] at heq
     exact absurd ⟨t,e1,tg,me,xs,heq.1⟩ Nn
    ·rfl
   obtain⟨t,e1,tg,me,xs,rfl⟩:=Nn
   have hS:∀ S',Lo S S' (cJ x++cJ y)->Lo S (fH ks S') (cJ y):=λS' ha=>aoL hy (hay ha) hn
   cases hc:(decide (ti.ty=.sl t)&&Nat.beq ti.e e1&&Θ.is T' (.sl t)) with
   |false=>exact⟨none,λg E e=>(by cases e),λS' ha=>by unfold iN;simp only[hB2 S' (hax ha),hf,aS,hc,ae];rfl⟩
   |true=>
   cases hk:me.fu with
   |true=>
    have hev:∀ S',Lo S S' (cJ x++cJ y)->iN Θ S' (some d) [T,T'] [x,y]=(match S.rd Θ T' y with
     |some ⟨.sl t',m',ys⟩=>bif m'.inn.fu then(if h:t'=t then
       some (decide ((xs.length+ys.length)*t.size<=4398046511104),(fH ks S').put (some d) (.v ⟨.sl t,.o e1 none me,xs++(h▸ys)⟩ [])) else none) else none
     |_=>none):=λS' ha=>by
     unfold iN
     simp only[hB2 S' (hax ha),hf,aS,hc,ab,hk,afW hy (hS S' ha)]
     rfl
    cases hr:S.rd Θ T' y with
    |none=>exact⟨none,λg E e=>(by cases e),λS' ha=>by rw[hev S' ha,hr];rfl⟩
    |some c=>
     by_cases hf2:∃ (m':Md) (ys:List t.I),c=⟨.sl t,m',ys⟩/\m'.inn.fu=true
     ·obtain⟨m',ys,rfl,hm⟩:=hf2
      refine⟨some (decide ((length xs+length ys)*t.size<=4398046511104),⟨ks,d,.v ⟨.sl t,.o e1 none me,xs++ys⟩ []⟩),λg E e=>?_,λS' ha=>?_⟩
      rotate_left
      ·rw[hev S' ha,hr]
       simp only[hm,ab,dite_true,aS,Nl.app]
      ·injection e with e
       injection e with _ e
       subst e
       exact⟨rfl,λ_=>rfl,hnd,λr hr=>by simp[Xd r hr]⟩
     ·refine⟨none,λg E e=>(by cases e),λS' ha=>?_⟩
      rw[hev S' ha,hr]
      split
      ·rename_i t' m' ys heq
       injection heq with heq
       subst heq
       cases hm:m'.inn.fu with
       |false=>rfl
       |true=>
        simp only[ab]
        by_cases ht:t'=t
        ·subst ht
         exact absurd ⟨m',ys,rfl,hm⟩ hf2
        ·rw[pA ht];rfl
      ·rfl
   |false=>
    have hev:∀ S',Lo S S' (cJ x++cJ y)->iN Θ S' (some d) [T,T'] [x,y]=(match oC.map (λq=>(q.1,fH q.2 (fH ks S'))) with
     |some (⟨.sl t',m',ys⟩,S2)=>if h:t'=t then
       (if m'.inn=me then some (decide ((xs.length+ys.length)*t.size<=4398046511104),S2.put (some d) (.v ⟨.sl t,.o e1 none me,xs++(h▸ys)⟩ [])) else none) else none
     |_=>none):=λS' ha=>by
     unfold iN
     simp only[hB2 S' (hax ha),hf,aS,hc,ab,ae,hk,hC2 _ (hS S' ha)]
     rfl
    cases oC with
    |none=>exact⟨none,λg E e=>(by cases e),λS' ha=>by rw[hev S' ha];rfl⟩
    |some c=>
     obtain⟨c,ks2⟩:=c
     obtain⟨aqd,aqe⟩:=hC1 c ks2 rfl
     by_cases hf2:∃ (m':Md) (ys:List t.I),c=⟨.sl t,m',ys⟩/\m'.inn=me
     ·obtain⟨m',ys,rfl,hm⟩:=hf2
      refine⟨some (decide ((length xs+length ys)*t.size<=4398046511104),⟨ks++ks2,d,.v ⟨.sl t,.o e1 none me,xs++ys⟩ []⟩),λg E e=>?_,λS' ha=>?_⟩
      rotate_left
      ·rw[hev S' ha]
       simp only[aS,dite_true,hm,dF,Nl.app,Y3]
      ·injection e with e
       injection e with _ e
       subst e
       refine⟨rfl,λ_=>rfl,fN.2 ⟨hnd,aqd,λa ha b hb e=>by subst e;exact hn a (aqe a hb) ha⟩,λr hr=>?_⟩
       rcases bd.1 hr with hr |hr
       ·simp[Xd r hr]
       ·simp[aqe r hr]
     ·refine⟨none,λg E e=>(by cases e),λS' ha=>?_⟩
      rw[hev S' ha]
      simp only[aS]
      split
      ·rename_i t' m' ys S2 heq
       injection heq with heq
       injection heq with heq _
       by_cases ht:t'=t
       ·subst ht
        by_cases hm:m'.inn=me
        ·exact absurd ⟨m',ys,heq,hm⟩ hf2
        ·rw[jn rfl,aq hm];rfl
       ·rw[pA ht];rfl
      ·rfl
theorem Y4 (ks:List Nat) (S:St):(fH ks S).length=S.length:=by
 induction ks generalizing S with
 |nil=>rfl
 |cons x r ih=>simp only[fH,ih,eO]
theorem R9:∀ (ks:List Nat) (S:St),ks.Nodup->(∀ x∈ks,∃ a,S.at x=.v a [])->∀ i,(fH ks S).at i=if i∈ks then .dead else bif ks.any (S.at i).refs then .dead else S.at i
 |[],S,_,_,i=>by simp[fH]
 |x::r,S,hn,hv,i=>by
  obtain⟨a,ha⟩:=hv x (by simp);simp only[eJ] at hn;have hv':∀ y∈r,∃ b,(S.put (some x) .dead).at y=.v b []:=λy hy=>(by obtain⟨b,hb⟩:=hv y (by simp[hy]);exact⟨b,Xm hb (λe=>hn.1 (by rw[←e];exact hy))⟩);simp only[fH];rw[R9 r _ hn.2 hv' i];by_cases hir:i∈r
  ·simp[hir]
  by_cases hix:i=x
  ·subst hix;simp only[hir,c9,aev ha,aV,true_or,dF];simp[AV.refs]
  simp only[hir,c9,aV,hix,or_self];rw[nj,aq (λe=>hix e.1),ha];simp only[AV.TK,dd,vE];cases hr:(S.at i).refs x<;>simp[AV.refs]
structure Nl.In (E:Nl) (S:St):Prop where
 nd:E.hZ.Nodup
 fC:∀ x∈E.hZ,∃ a,S.at x=.v a []
 slot:(S.at E.d).TK=false
 lt:E.d<S.length
 refs:KQ E.v
 out:E.d∉E.hZ
theorem Nl.afX (E:Nl) (S:St):(E.app S).length=S.length:=by unfold Nl.app;rw[eO,Y4]
theorem Nl.Om {E:Nl} {S:St} (h:E.In S) (i:Nat):(E.app S).at i=if i=E.d then E.v else if i∈E.hZ then .dead else bif E.hZ.any (S.at i).refs then .dead else S.at i:=by
 unfold Nl.app;have hd:((fH E.hZ S).at E.d).TK=false:=by
  rw[R9 _ _ h.nd h.fC];split
  ·rfl
  cases E.hZ.any (S.at E.d).refs with
  |true=>rfl
  |false=>exact h.slot
 rw[nj,Y4,hd];by_cases hi:i=E.d
 ·rw[aA ⟨hi,h.lt⟩,aA hi,h.refs];rfl
 rw[aq (λe=>hi e.1),aq hi];simp only[ee,ae];exact R9 _ _ h.nd h.fC i
theorem Gr {S S':St} (hl:S.length=S'.length) (h:∀ i,S.at i=S'.at i):S=S':=by apply wg hl;intro i h1 h2;have:=h i;unfold St.at at this;rw[aF,aF,aU h1,aU h2] at this;exact this
theorem Nl.comm {E F:Nl} {S:St} (hE:E.In S) (hF:F.In S) (hd:E.d≠F.d) (h1:E.d∉F.hZ) (h2:F.d∉E.hZ) (hEF:E.In (F.app S)) (hFE:F.In (E.app S)):E.app (F.app S)=F.app (E.app S):=by
 refine Gr (by simp[Nl.afX]) λi=>?_;rw[Nl.Om hEF,Nl.Om hFE,Nl.Om hF,Nl.Om hE];by_cases hiE:i=E.d
 ·subst hiE;have hv:F.hZ.any E.v.refs=false:=dh.2 λx _=>by rw[hE.refs];simp
  simp[hd,h1,hv]
 by_cases hiF:i=F.d
 ·subst hiF;have hv:E.hZ.any F.v.refs=false:=dh.2 λx _=>by rw[hF.refs];simp
  simp[hiE,h2,hv]
 simp only[hiE,hiF,c9];by_cases hkE:i∈E.hZ
 ·by_cases hkF:i∈F.hZ
  ·simp[hkE,hkF]
  have hv:F.hZ.any AV.dead.refs=false:=dh.2 λx _=>(by simp[AV.refs]);simp[hkE,hkF,hv]
 by_cases hkF:i∈F.hZ
 ·have hv:E.hZ.any AV.dead.refs=false:=dh.2 λx _=>(by simp[AV.refs]);simp[hkE,hkF,hv]
 have hvE:E.hZ.any AV.dead.refs=false:=dh.2 λx _=>by simp[AV.refs]
 have hvF:F.hZ.any AV.dead.refs=false:=dh.2 λx _=>by simp[AV.refs]
 simp only[hkE,hkF,c9];cases hE':E.hZ.any (S.at i).refs<;>cases hF':F.hZ.any (S.at i).refs<;>simp[hE',hF',hvE,hvF]
theorem ahT {S:St} {r x:Nat} (h:VD (S.at r)):(S.put (some x) .dead).at r=if r=x then .dead else S.at r:=by
 have hr:(S.at r).refs x=false:=by rcases h with⟨a,h⟩ |h<;>rw[h]<;>rfl
 rw[nj,hr];by_cases hx:r=x
 ·subst hx;by_cases hl:r<S.length
  ·simp[hl,AV.refs]
  have:S.at r=.dead:=(by unfold St.at;rw[aF,cA (by omega)];rfl);simp[hl,this]
 simp[hx]
theorem On:∀ (ks:List Nat) {S:St} {r:Nat},VD (S.at r)->(fH ks S).at r=if r∈ks then .dead else S.at r
 |[],S,r,h=>by simp[fH]
 |x::l,S,r,h=>by have h1:=ahT (x:=x) h;have hv:VD ((S.put (some x) .dead).at r):=(by rw[h1];split;exact .inr rfl;exact h);simp only[fH];rw[On l hv,h1];by_cases hx:r=x<;>by_cases hl:r∈l<;>simp[hx,hl]
theorem akQ (h:aoK S x):aoK (fH ks S) x:=by
 cases x with
 |tmp i=>
 simp only[aoK] at h ⊢;rw[On ks h];split
 ·exact .inr rfl
 exact h
 |const c=>trivial
 |func f=>exact h
 |global g=>exact h
theorem Xn:∀ (r:List TypeId) (j:Nat) {S:St},(∀ q∈ps,aoK S q.2)->∃ oL:Option (List TV×List Nat),(∀ l ks,oL=some (l,ks)->ks.Nodup/\∀ x∈ks,x∈ps.flatMap (λq=>cJ q.2)/\∃ a,S.at x=.v a [])/\ ∀ S',Lo S S' (ps.flatMap λq=>cJ q.2)->S'.parts Θ ps r j=oL.map λq=>(q.1,fH q.2 S')
 |[],j,S,hx=>⟨some ([],[]),λl ks e=>by
  injection e with e
  injection e with _ e
  subst e
  exact⟨gH,λx hx=>by cases hx⟩,λS' ha=>rfl⟩
 |T::r,j,S,hx=>by
  cases hf:ps.find? (λq=>Nat.beq q.1 j) with
  |none=>
   cases hz:Ob Θ T with
   |none=>exact⟨none,λl ks e=>(by cases e),λS' ha=>by simp only[St.parts,hf,hz];rfl⟩
   |some a=>
   obtain⟨oL,h1,h2⟩:=Xn r (j+1) hx;cases oL with
   |none=>exact⟨none,λl ks e=>(by cases e),λS' ha=>by simp only[St.parts,hf,hz,h2 S' ha];rfl⟩
   |some q=>refine⟨some (a::q.1,q.2),λl ks e=>?_,λS' ha=>by simp only[St.parts,hf,hz,h2 S' ha];rfl⟩;injection e with e;injection e with _ e;subst e;exact h1 q.1 q.2 rfl
  |some q=>
  have hq:q∈ps:=List.mem_of_find?_eq_some hf;have adY:∀ r∈cJ q.2,r∈ps.flatMap λq=>cJ q.2:=λr hr=>eP.2 ⟨q,hq,hr⟩;obtain⟨oB,b1,b2⟩:=aeu (Θ:=Θ) (hx q hq) T;cases oB with
  |none=>exact⟨none,λl ks e=>(by cases e),λS' ha=>by simp only[St.parts,hf,b2 S' λr hr=>ha r (adY r hr)];rfl⟩
  |some bk=>
  obtain⟨b,ks⟩:=bk;obtain⟨hnd,Xd⟩:=b1 b ks rfl;obtain⟨oL,h1,h2⟩:=Xn r (j+1) (S:=fH ks S) (λq hq=>akQ (hx q hq));have hag:∀ S',Lo S S' (ps.flatMap λq=>cJ q.2)->Lo (fH ks S) (fH ks S') (ps.flatMap λq=>cJ q.2):=λS' ha r hr=>by
   obtain⟨q',NQ,Xo⟩:=eP.1 hr;have hv:VD (S.at r):=by
    have:=hx q' NQ;cases hq2:q'.2 with
    |tmp i=>rw[hq2] at this Xo;simp only[cJ,bu] at Xo;subst Xo;exact this
    |const c=>rw[hq2] at Xo;simp[cJ] at Xo
    |func f=>rw[hq2] at Xo;simp[cJ] at Xo
    |global g=>rw[hq2] at Xo;simp[cJ] at Xo
   rw[On ks hv,On ks (by rw[ha r hr];exact hv),ha r hr]
  cases oL with
  |none=>exact⟨none,λl ks e=>(by cases e),λS' ha=>by simp only[St.parts,hf,b2 S' λr hr=>ha r (adY r hr),aS,h2 _ (hag S' ha)];rfl⟩
  |some lk=>
  obtain⟨l,ks2⟩:=lk;obtain⟨aqd,aqe⟩:=h1 l ks2 rfl;refine⟨some (b::l,ks++ks2),λl' ks' e=>?_,λS' ha=>by simp only[St.parts,hf,b2 S' λr hr=>ha r (adY r hr),aS,h2 _ (hag S' ha),Y3]⟩;injection e with e;injection e with _ e;subst e;have hv2:∀ x∈ks2,x∉ks/\∃ a,S.at x=.v a []:=λx TL=>by
   obtain⟨m1,a,m2⟩:=aqe x TL;have hv:VD (S.at x):=by
    obtain⟨q',NQ,Xo⟩:=eP.1 m1;have:=hx q' NQ;cases hq2:q'.2 with
    |tmp i=>rw[hq2] at this Xo;simp only[cJ,bu] at Xo;subst Xo;exact this
    |const c=>rw[hq2] at Xo;simp[cJ] at Xo
    |func f=>rw[hq2] at Xo;simp[cJ] at Xo
    |global g=>rw[hq2] at Xo;simp[cJ] at Xo
   rw[On ks hv] at m2;by_cases hk:x∈ks
   ·rw[aA hk] at m2;cases m2
   rw[aq hk] at m2;exact⟨hk,a,m2⟩
  refine⟨fN.2 ⟨hnd,aqd,λa ha b hb e=>by subst e;exact(hv2 a hb).1 ha⟩,λx TL=>?_⟩;rcases bd.1 TL with TL |TL
  ·exact⟨adY x (Xd x TL).1,(Xd x TL).2⟩
  exact⟨(aqe x TL).1,(hv2 x TL).2⟩
theorem aoM (hx:∀ q∈ps,xT S q.2=true): ∃ oG:Option (Bool×Nl),(∀ g E,oG=some (g,E)->E.d=d/\KQ E.v/\E.hZ.Nodup/\∀ r∈E.hZ,r∈ps.flatMap λq=>cJ q.2)/\∀ S',Lo S S' (ps.flatMap λq=>cJ q.2)->fw Θ hn S' (some d) T n ps=oG.map λq=>(q.1,q.2.app S'):=by
 cases hf:Θ.find T with
 |none=>exact⟨none,λg E e=>(by cases e),λS' ha=>by unfold fw;simp only[hf];rfl⟩
 |some i=>
  by_cases Nn:∃ t,i.ty=.sl t
  rotate_left
  ·refine⟨none,λg E e=>(by cases e),λS' ha=>?_⟩
   unfold fw
   simp only[hf]
   split
   ·rename_i heq
    injection heq with heq
    subst heq
    exact absurd ⟨_,rfl⟩ Nn
   ·rfl
  obtain⟨t,ht⟩:=Nn
  obtain⟨q1,ty,e,q4⟩:=i
  simp only at ht
  subst ht
  obtain⟨oL,l1,l2⟩:=Xn (Θ:=Θ) (List.replicate n e) 0 (λq hq=>ana (hx q hq))
  cases hc:(EZ n ps&&Nat.ble n 1800) with
  |false=>exact⟨none,λg E e=>(by cases e),λS' ha=>by unfold fw;simp only[hf,hc,ae];rfl⟩
  |true=>
   cases oL with
   |none=>exact⟨none,λg E e=>(by cases e),λS' ha=>by unfold fw;simp only[hf,hc,ab,l2 S' ha];rfl⟩
   |some q=>
    obtain⟨l,ks⟩:=q
    obtain⟨hnd,Xd⟩:=l1 l ks rfl
    cases l with
    |nil=>
     refine⟨some (true,⟨ks,d,.v ⟨.sl t,bif hn.aoF (some d) then .k else .o e none (hn.find (some d) .k),[]⟩ []⟩),λg E e=>?_,λS' ha=>by unfold fw;simp only[hf,hc,ab,l2 S' ha];rfl⟩
     injection e with e
     injection e with _ e
     subst e
     exact⟨rfl,λ_=>rfl,hnd,λr hr=>(Xd r hr).1⟩
    |cons a l=>
     cases hl:Oc t a.m (a::l) with
     |none=>exact⟨none,λg E e=>(by cases e),λS' ha=>by unfold fw;simp only[hf,hc,ab,l2 S' ha,aS,hl];rfl⟩
     |some xs=>
      refine⟨some (true,⟨ks,d,.v ⟨.sl t,bif hn.aoF (some d)&&a.m.fu then .k else .o e none a.m,xs⟩ []⟩),λg E e=>?_,λS' ha=>by unfold fw;simp only[hf,hc,ab,l2 S' ha,aS,hl];rfl⟩
      injection e with e
      injection e with _ e
      subst e
      exact⟨rfl,λ_=>rfl,hnd,λr hr=>(Xd r hr).1⟩
theorem akR (h:opK S x=true):xT S x=true:=by
 cases x with
 |tmp i=>
 simp only[opK] at h;simp only[xT];split at h
 ·rename_i ha;rw[ha]
 cases h
 |const c=>rfl
 |func f=>exact h
 |global g=>exact h
theorem aa7 (h:Y1 S x=true) (ha:Lo S S' (sY x)):xz Θ S' d x=xz Θ S d x:=by
 cases x with
 |none=>rfl
 |some x=>simp only[xz,St.G1,afW h ha]
theorem au3 (hx:opK S x=true) (hlo:Y1 S lo=true) (hhi:Y1 S hi=true):
  ∃ o:Option (Bool×TV),∀ S',Lo S S' (cJ x++(sY lo++sY hi))->qZ Θ S' (some d) T x lo hi none=o.map λq=>(q.1,S'.put (some d) (.v q.2 [])):=by
 have ag:∀ {S':St},Lo S S' (cJ x++(sY lo++sY hi))->S'.pT Θ 0 x=S.pT Θ 0 x/\S'.rd Θ 0 x=S.rd Θ 0 x/\xz Θ S' 0 lo=xz Θ S 0 lo/\∀ n,xz Θ S' n hi=xz Θ S n hi:=λha=>
  ⟨aaB (λr hr=>ha r (by simp[hr])) 0,afW (akR hx) (λr hr=>ha r (by simp[hr])) 0,aa7 hlo λr hr=>ha r (by simp[hr]),λn=>aa7 hhi λr hr=>ha r (by simp[hr])⟩
 have pU:(∃ t y,S.pT Θ 0 x=some (.v ⟨t,.k,y⟩ [])/\S.rd Θ 0 x=some ⟨t,.k,y⟩)∨∃ c,x=.const c:=by
  cases x with
  |tmp i=>
   simp only[opK] at hx
   split at hx
   ·rename_i t y ha
    exact .inl ⟨t,y,by simp[St.pT,ha],by simp[St.rd,St.pT,ha,St.PK]⟩
   ·cases hx
  |const c=>exact .inr ⟨c,rfl⟩
  |func f=>simp[opK] at hx
  |global g=>simp[opK] at hx
 have AQ:(∃ a,S.pT Θ 0 x=some (.v a [])/\S.rd Θ 0 x=some a/\(a.m=.k∨∃ c,x=.const c))∨S.pT Θ 0 x=none:=by
  rcases pU with⟨t,y,h1,h2⟩ |⟨c,rfl⟩
  ·exact .inl ⟨_,h1,h2,.inl rfl⟩
  ·simp only[St.rd,St.pT]
   cases JZ Θ 0 c with
   |none=>exact .inr rfl
   |some a=>exact .inl ⟨a,rfl,rfl,.inr ⟨c,rfl⟩⟩
 rcases AQ with⟨a,h1,h2,hm⟩ |h1
 rotate_left
 ·exact⟨none,λS' ha=>by unfold qZ;rw[(ag ha).1,h1];rfl⟩
 cases hl:xz Θ S 0 lo with
 |none=>
  refine⟨none,λS' ha=>?_⟩
  obtain⟨e1,e2,e3,e4⟩:=ag ha
  unfold qZ
  rw[e1,e2,e3,h1,h2,hl]
  obtain⟨t,m,y⟩:=a
  cases t<;>rfl
 |some l=>
  obtain⟨t,m,y⟩:=a
  have aED:(∀ S',qZ Θ S' (some d) T x lo hi none=none)->∃ o:Option (Bool×TV),∀ S',Lo S S' (cJ x++(sY lo++sY hi))->qZ Θ S' (some d) T x lo hi none=o.map λq=>(q.1,S'.put (some d) (.v q.2 [])):=λh=>⟨none,λS' _=>h S'⟩
  cases t with
  |str=>
   cases hh:xz Θ S (ByteArray.size y:Int) hi with
   |none=>
    refine⟨none,λS' ha=>?_⟩
    obtain⟨e1,e2,e3,e4⟩:=ag ha
    unfold qZ
    rw[e1,e2,e3,h1,h2,hl]
    simp only[e4,hh]
    rfl
   |some h'=>
    cases hT:Θ.is T .str with
    |false=>
     refine⟨none,λS' ha=>?_⟩
     obtain⟨e1,e2,e3,e4⟩:=ag ha
     unfold qZ
     rw[e1,e2,e3,h1,h2,hl]
     simp only[e4,hh,hT]
     rfl
    |true=>
     refine⟨some (decide (0<=l)&&decide (l<=h')&&decide (h'<=(ByteArray.size y:Int)),⟨.str,.k,ByteArray.extract y l.toNat h'.toNat⟩),λS' ha=>?_⟩
     obtain⟨e1,e2,e3,e4⟩:=ag ha
     unfold qZ
     rw[e1,e2,e3,h1,h2,hl]
     simp only[e4,hh,hT]
     rfl
  |sl t=>
   cases hT:Θ.is T (.sl t) with
   |false=>
    refine⟨none,λS' ha=>?_⟩
    obtain⟨e1,e2,e3,e4⟩:=ag ha
    unfold qZ
    rw[e1,e2,e3,h1,h2,hl]
    simp only[hT]
    rfl
   |true=>
    cases hh:xz Θ S (length y:Int) hi with
    |none=>
     refine⟨none,λS' ha=>?_⟩
     obtain⟨e1,e2,e3,e4⟩:=ag ha
     unfold qZ
     rw[e1,e2,e3,h1,h2,hl]
     simp only[hT,e4,hh]
     rfl
    |some h'=>
     by_cases hk:m=.k
     ·subst hk
      refine⟨some (decide (0<=l)&&decide (l<=h')&&decide (h'<=(length y:Int)),⟨.sl t,.k,(List.take h'.toNat y).drop l.toNat⟩),λS' ha=>?_⟩
      obtain⟨e1,e2,e3,e4⟩:=ag ha
      unfold qZ
      rw[e1,e2,e3,h1,h2,hl]
      simp only[hT,e4,hh]
      rfl
     ·obtain⟨c,rfl⟩:=hm.resolve_left hk
      refine⟨none,λS' ha=>?_⟩
      obtain⟨e1,e2,e3,e4⟩:=ag ha
      unfold qZ
      rw[e1,e2,e3,h1,h2,hl]
      simp only[hT,e4,hh,ab]
      cases m<;>first |exact absurd rfl hk |rfl
  |_=>
   refine⟨none,λS' ha=>?_⟩
   obtain⟨e1,e2,e3,e4⟩:=ag ha
   unfold qZ
   rw[e1,e2,e3,h1,h2,hl]
   rfl
theorem aoN (hx:opK S x=true) (hix:xT S ix=true):
  ∃ o:Option (Bool×TV),∀ S',Lo S S' (cJ x++cJ ix)->iM Θ S' (some d) T x ix=o.map λq=>(q.1,S'.put (some d) (.v q.2 [])):=by
 have ag:∀ {S':St},Lo S S' (cJ x++cJ ix)->S'.pT Θ 0 x=S.pT Θ 0 x/\S'.G1 Θ ix=S.G1 Θ ix:=λha=>
  ⟨aaB (λr hr=>ha r (by simp[hr])) 0,by unfold St.G1;rw[afW hix (λr hr=>ha r (by simp[hr])) 0]⟩
 have AQ:(∃ a,S.pT Θ 0 x=some (.v a [])/\(a.m=.k∨∃ c,x=.const c))∨S.pT Θ 0 x=none:=by
  cases x with
  |tmp i=>
   simp only[opK] at hx
   split at hx
   ·rename_i t y ha
    exact .inl ⟨⟨t,.k,y⟩,by simp[St.pT,ha],.inl rfl⟩
   ·cases hx
  |const c=>
   simp only[St.pT]
   cases JZ Θ 0 c with
   |none=>exact .inr rfl
   |some a=>exact .inl ⟨a,rfl,.inr ⟨c,rfl⟩⟩
  |func f=>simp[opK] at hx
  |global g=>simp[opK] at hx
 rcases AQ with⟨a,h1,hm⟩ |h1
 rotate_left
 ·exact⟨none,λS' ha=>by unfold iM;rw[(ag ha).1,h1];rfl⟩
 cases hn:S.G1 Θ ix with
 |none=>
  refine⟨none,λS' ha=>?_⟩
  obtain⟨e1,e2⟩:=ag ha
  unfold iM
  rw[e1,e2,h1,hn]
  obtain⟨t,m,y⟩:=a
  cases t<;>rfl
 |some n=>
  obtain⟨t,m,y⟩:=a
  cases t with
  |sl t=>
   cases hT:Θ.is T (.sl t) with
   |false=>
    refine⟨none,λS' ha=>?_⟩
    obtain⟨e1,e2⟩:=ag ha
    unfold iM
    rw[e1,e2,h1,hn]
    simp only[hT]
    rfl
   |true=>
    by_cases hk:m=.k
    ·subst hk
     refine⟨some (bj n (length y),⟨.ptr t,.k,getD y n.toNat t.z⟩),λS' ha=>?_⟩
     obtain⟨e1,e2⟩:=ag ha
     unfold iM
     rw[e1,e2,h1,hn]
     simp only[hT]
     rfl
    ·obtain⟨c,rfl⟩:=hm.resolve_left hk
     refine⟨none,λS' ha=>?_⟩
     obtain⟨e1,e2⟩:=ag ha
     unfold iM
     rw[e1,e2,h1,hn]
     simp only[hT,ab]
     cases m<;>first |exact absurd rfl hk |rfl
  |_=>
   refine⟨none,λS' ha=>?_⟩
   obtain⟨e1,e2⟩:=ag ha
   unfold iM
   rw[e1,e2,h1,hn]
   rfl
theorem TU (hg:C5 O ops S o=true):o.guard=none/\∃ d,o.dst=some d/\(S.at d).TK=false/\d<S.length:=by
 unfold C5 at hg;simp only[ai] at hg;obtain⟨⟨h1,h2⟩,_⟩:=hg;refine⟨?_,?_⟩
 ·split at h1
  ·assumption
  cases h1
 split at h2
 ·rename_i d hd;simp only[ai,b8] at h2;exact⟨d,hd,h2.1,pn (sG _) (bH h2.2)⟩
 cases h2
theorem y9 (h:xT S x=true):∀ r∈cJ x,∃ a,S.at r=.v a []:=by
 intro r hr;rcases Ol (Θ:=[]) h 0 with⟨i,a,rfl,h1,_⟩ |⟨c,rfl⟩
 ·simp only[cJ,bu] at hr;subst hr;exact⟨a,h1⟩
 simp[cJ] at hr
theorem afY :∀ {as:List Operand} {ts:List TypeId},(∀ x∈as,xT S x=true)->Lo S S' (as.flatMap cJ)->u5 Θ S' dst ts as=none:=by
 intro as ts fL ha;unfold u5;split
 ·rename_i x y T T';split
  ·rename_i tt s st pp pU;exfalso;have h1:=fL x (by simp);cases x with
   |tmp i=>have h2:=ha i (by simp[cJ]);simp only[St.pT,ah] at pU;rw[h2] at pU;simp only[xT,pU] at h1;cases h1
   |const c=>simp only[St.pT] at pU;split at pU<;>cases pU
   |func f=>simp[xT] at h1
   |global g=>simp[xT] at h1
  rfl
 rfl
theorem anb (hO:Ll O) {i:Nat} {o:Oper} (ho:ops[i]?=some o) {S:St} (hg:C5 O ops S o=true) {d:Nat} (hd:o.dst=some d): ∃ oE:Option Nl,(∀ E,oE=some E->E.d=d/\KQ E.v/\E.hZ.Nodup/\(∀ r∈E.hZ,r∈cW ops o)/\(C6 o=true->E.hZ=[]))/\∀ S',Lo S S' (cW ops o)->∀ K,cV h O ops i S' K=oE.bind λE=>K (E.app S'):=by
 have hgd:=(TU hg).1;have val:∀ {o':Option (Bool×TV)} {evf:St->R0},C6 o=true->(∀ S' K,cV h O ops i S' K=match evf S' with
    |some (g,S1)=>bif g then K S1 else none
    |none=>none)->(∀ S',Lo S S' (cW ops o)->evf S'=o'.map λq=>(q.1,S'.put (some d) (.v q.2 [])))->
   ∃ oE:Option Nl,(∀ E,oE=some E->E.d=d/\KQ E.v/\E.hZ.Nodup/\(∀ r∈E.hZ,r∈cW ops o)/\(C6 o=true->E.hZ=[]))/\∀ S',Lo S S' (cW ops o)->∀ K,cV h O ops i S' K=oE.bind λE=>K (E.app S'):=by
  intro o' evf hc gy hev
  cases o' with
  |none=>exact⟨none,λE e=>(by cases e),λS' ha K=>by rw[gy,hev S' ha];rfl⟩
  |some q=>
   obtain⟨g,r⟩:=q
   cases g with
   |false=>exact⟨none,λE e=>(by cases e),λS' ha K=>by rw[gy,hev S' ha];rfl⟩
   |true=>
    refine⟨some ⟨[],d,.v r []⟩,λE e=>?_,λS' ha K=>by rw[gy,hev S' ha];rfl⟩
    injection e with e
    subst e
    exact⟨rfl,λ_=>rfl,gH,λr hr=>(by cases hr),λ_=>rfl⟩
 unfold C5 at hg;simp only[ai] at hg;have fL:=hg.2;split at fL
 ·rename_i f as ts kO;simp only[ai,aO] at fL;obtain⟨oE,h1,h2⟩:=aqc (h:=h) hO ho hgd hd kO fL.1 fL.2;have hl:cW ops o=as.toList.flatMap cJ:=by unfold cW;rw[kO]
  refine⟨oE,λE hE=>?_,λS' ha=>h2 S' (by rw[hl] at ha;exact ha)⟩;obtain⟨e1,e2,e3⟩:=h1 E hE;exact⟨e1,e3,by rw[e2];exact gH,λr hr=>by rw[e2] at hr;(cases hr),λ_=>e2⟩
 ·rename_i as ts kO;simp only[aO] at fL;have hl:cW ops o=as.toList.flatMap cJ:=by unfold cW;rw[kO]
  have hcb:C6 o=false:=(by unfold C6;rw[kO]);have C7:∀ S' K,Lo S S' (as.toList.flatMap cJ)->cV h O ops i S' K=match iN h.tab S' (some d) ts.toList as.toList with
    |some (g,S1)=>bif g then K S1 else none
    |none=>none:=by
   intro S' K ha
   unfold cV
   rw[ho]
   simp only[hgd]
   unfold wV
   rw[kO]
   simp only[ev,kO,hd]
   rcases iN h.tab S' (some d) ts.toList as.toList with _ |⟨g,S1⟩
   ·simp only[afY fL ha]
   ·rfl
  have fin:∀ oG:Option (Bool×Nl),(∀ g E,oG=some (g,E)->E.d=d/\KQ E.v/\E.hZ.Nodup/\∀ r∈E.hZ,r∈as.toList.flatMap cJ)->(∀ S',Lo S S' (as.toList.flatMap cJ)->iN h.tab S' (some d) ts.toList as.toList=oG.map λq=>(q.1,q.2.app S'))->
    ∃ oE:Option Nl,(∀ E,oE=some E->E.d=d/\KQ E.v/\E.hZ.Nodup/\(∀ r∈E.hZ,r∈cW ops o)/\(C6 o=true->E.hZ=[]))/\∀ S',Lo S S' (cW ops o)->∀ K,cV h O ops i S' K=oE.bind λE=>K (E.app S'):=by
   intro oG h1 h2
   cases oG with
   |none=>exact⟨none,λE e=>(by cases e),λS' ha K=>by rw[C7 S' K (by rw[hl] at ha;exact ha),h2 S' (by rw[hl] at ha;exact ha)];rfl⟩
   |some q=>
    obtain⟨g,E⟩:=q
    cases g with
    |false=>exact⟨none,λE e=>(by cases e),λS' ha K=>by rw[C7 S' K (by rw[hl] at ha;exact ha),h2 S' (by rw[hl] at ha;exact ha)];rfl⟩
    |true=>
     refine⟨some E,λE' e=>?_,λS' ha K=>by rw[C7 S' K (by rw[hl] at ha;exact ha),h2 S' (by rw[hl] at ha;exact ha)];rfl⟩
     injection e with e
     subst e
     obtain⟨e1,e2,e3,e4⟩:=h1 true E rfl
     exact⟨e1,e2,e3,by rw[hl];exact e4,λhc=>by rw[hcb] at hc;cases hc⟩
  by_cases Nn:∃ x y T T',as.toList=[x,y]/\ts.toList=[T,T']
  ·obtain⟨x,y,T,T',ha,ht⟩:=Nn;rw[ha] at fL;obtain⟨oG,h1,h2⟩:=akP (Θ:=h.tab) (d:=d) (T:=T) (T':=T') (fL x (by simp)) (fL y (by simp));refine fin oG ?_ ?_
   ·intro g E e;obtain⟨e1,e2,e3,e4⟩:=h1 g E e;exact⟨e1,e2,e3,λr hr=>by rw[ha];simpa using e4 r hr⟩
   intro S' hs;rw[ha,ht];exact h2 S' (by rw[ha] at hs;simpa using hs)
  refine fin none (λg E e=>(by cases e)) λS' hs=>?_;unfold iN;split
  ·rename_i x y T T' ha ht;exact absurd ⟨x,y,T,T',ha,ht⟩ Nn
  rfl
 ·rename_i T n ps kO;simp only[aO] at fL;have hl:cW ops o=ps.toList.flatMap λq=>cJ q.2:=by unfold cW;rw[kO]
  have hcb:C6 o=false:=(by unfold C6;rw[kO]);have C7:∀ S' K,cV h O ops i S' K=match fw h.tab h.hn S' (some d) T n ps.toList with
    |some (g,S1)=>bif g then K S1 else none
    |none=>none:=by
   intro S' K
   unfold cV
   rw[ho]
   simp only[hgd]
   unfold wV
   rw[kO]
   simp only[ev,kO,hd]
   rcases fw h.tab h.hn S' (some d) T n ps.toList with _ |⟨g,S1⟩<;>rfl
  obtain⟨oG,h1,h2⟩:=aoM (Θ:=h.tab) (d:=d) (T:=T) (n:=n) (hn:=h.hn) fL;cases oG with
  |none=>exact⟨none,λE e=>(by cases e),λS' ha K=>by rw[C7,h2 S' (by rw[hl] at ha;exact ha)];rfl⟩
  |some q=>
  obtain⟨g,E⟩:=q;cases g with
  |false=>exact⟨none,λE e=>(by cases e),λS' ha K=>by rw[C7,h2 S' (by rw[hl] at ha;exact ha)];rfl⟩
  |true=>refine⟨some E,λE' e=>?_,λS' ha K=>by rw[C7,h2 S' (by rw[hl] at ha;exact ha)];rfl⟩;injection e with e;subst e;obtain⟨e1,e2,e3,e4⟩:=h1 true E rfl;exact⟨e1,e2,e3,by rw[hl];exact e4,λhc=>by rw[hcb] at hc;cases hc⟩
 ·rename_i T x kO;split at fL;case h_4=>cases fL
  case h_2=>
   rename_i t y hb hx
   have hl:cW ops o=[x]:=by unfold cW;rw[kO];simp only[hb]
   refine val (evf:=λS'=>tY h.tab S' (some d) T (.tmp x)) (o':=(bif h.tab.is T t then some (true,⟨t,.k,y⟩) else none)) (by unfold C6;rw[kO]) (λS' K=>by unfold cV;rw[ho];simp only[hgd];unfold wV;rw[kO];simp only[ev,kO,hd];rcases tY h.tab S' (some d) T (.tmp x) with _ |⟨g,S1⟩<;>rfl) λS' ha=>?_
   rw[hl] at ha
   have h1:S'.at x=.v ⟨.ptr t,.k,y⟩ []:=(ha x (by simp)).trans hx
   unfold tY
   simp only[St.pT,h1,St.RZ,St.loadAt,Tgt.ty,kTV]
   cases h.tab.is T t<;>rfl
  case h_3=>
   rename_i t T1 tg me y hb hx
   have hl:cW ops o=[x]:=by unfold cW;rw[kO];simp only[hb]
   split at fL
   case h_2=>cases fL
   rename_i b Y5
   refine val (evf:=λS'=>tY h.tab S' (some d) T (.tmp x)) (o':=match S.place x [.deref] with
    |some c=>bif h.tab.is T t then some (true,kTV c) else none
    |none=>none) (by unfold C6;rw[kO]) (λS' K=>by unfold cV;rw[ho];simp only[hgd];unfold wV;rw[kO];simp only[ev,kO,hd];rcases tY h.tab S' (some d) T (.tmp x) with _ |⟨g,S1⟩<;>rfl) λS' ha=>?_
   rw[hl] at ha
   have h1:S'.at x=.v ⟨.ptr t,.o T1 tg me,y⟩ []:=(ha x (by simp)).trans hx
   have h2:S'.ki x [.deref]=some b:=by rw[←Y5];unfold St.ki;rw[ha x (by simp)]
   have h3:S'.place x [.deref]=S.place x [.deref]:=by unfold St.place;rw[ha x (by simp)]
   unfold tY
   simp only[St.pT,h1,St.RZ,St.loadAt,h2,fL,ab,h3,Tgt.ty]
   cases S.place x [.deref] with
   |none=>rfl
   |some c=>simp only;cases h.tab.is T t<;>rfl
  rename_i s t s' p hb hx;simp only[ai] at fL;obtain⟨hs,hk⟩:=fL;have:=aw hs;subst this;have hl:cW ops o=[x,s']:=by unfold cW;rw[kO];simp only[hb]
  have C7:∀ S' K,cV h O ops i S' K=match tY h.tab S' (some d) T (.tmp x) with
    |some (g,S1)=>bif g then K S1 else none
    |none=>none:=by
   intro S' K
   unfold cV
   rw[ho]
   simp only[hgd]
   unfold wV
   rw[kO]
   simp only[ev,kO,hd]
   rcases tY h.tab S' (some d) T (.tmp x) with _ |⟨g,S1⟩<;>rfl
  split at hk;case h_2=>cases hk
  rename_i b Y5;have hev:∀ S',Lo S S' [x,s']->tY h.tab S' (some d) T (.tmp x)=match S.place s' p with
    |some c=>bif h.tab.is T t then some (true,S'.put (some d) (.v (kTV c) [])) else none
    |none=>none:=by
   intro S' ha
   have h1:S'.at x=.ad t s' p:=(ha x (by simp)).trans hx
   have h2:S'.ki s' p=some b:=by rw[←Y5];unfold St.ki;rw[ha s' (by simp)]
   have h3:S'.place s' p=S.place s' p:=by unfold St.place;rw[ha s' (by simp)]
   unfold tY
   simp only[St.pT,h1,St.RZ,St.loadAt,h2,hk,ab,h3]
   cases S.place s' p<;>rfl
  cases hp:S.place s' p with
  |none=>exact⟨none,λE e=>(by cases e),λS' ha K=>by rw[C7,hev S' (by rw[hl] at ha;exact ha),hp];rfl⟩
  |some c=>
  cases hT:h.tab.is T t with
  |false=>exact⟨none,λE e=>(by cases e),λS' ha K=>by rw[C7,hev S' (by rw[hl] at ha;exact ha),hp];simp only[hT];rfl⟩
  |true=>refine⟨some ⟨[],d,.v (kTV c) []⟩,λE e=>?_,λS' ha K=>by rw[C7,hev S' (by rw[hl] at ha;exact ha),hp];simp only[hT];rfl⟩;injection e with e;subst e;exact⟨rfl,λ_=>rfl,gH,λr hr=>(by cases hr),λ_=>rfl⟩
 ·rename_i T x lo hi kO;simp only[ai] at fL;obtain⟨o',h1⟩:=au3 (Θ:=h.tab) (d:=d) (T:=T) fL.1 fL.2.1 fL.2.2;have hl:cW ops o=cJ x++(sY lo++sY hi):=by unfold cW;rw[kO]
  exact val (o':=o') (by unfold C6;rw[kO]) (λS' K=>by unfold cV;rw[ho];simp only[hgd];unfold wV;rw[kO];simp only[ev,kO,hd];rcases qZ h.tab S' (some d) T x lo hi none with _ |⟨g,S1⟩<;>rfl) λS' ha=>h1 S' (by rw[hl] at ha;exact ha)
 ·rename_i T x ix kO;simp only[ai] at fL;obtain⟨o',h1⟩:=aoN (Θ:=h.tab) (d:=d) (T:=T) fL.1 fL.2;have hl:cW ops o=cJ x++cJ ix:=by unfold cW;rw[kO]
  exact val (o':=o') (by unfold C6;rw[kO]) (λS' K=>by unfold cV;rw[ho];simp only[hgd];unfold wV;rw[kO];simp only[ev,kO,hd];rcases iM h.tab S' (some d) T x ix with _ |⟨g,S1⟩<;>rfl) λS' ha=>h1 S' (by rw[hl] at ha;exact ha)
 cases fL
theorem Xp (hg:C5 O ops S o=true):(C6 o=true∨∀ r∈cW ops o,∃ a,S.at r=.v a [])/\∀ r∈cW ops o,S.at r≠ .dead/\∀ x,(S.at r).refs x=true->x∈cW ops o:=by
 have key:(∀ r∈cW ops o,∃ a,S.at r=.v a [])->(C6 o=true∨∀ r∈cW ops o,∃ a,S.at r=.v a [])/\∀ r∈cW ops o,S.at r≠ .dead/\∀ x,(S.at r).refs x=true->x∈cW ops o:=λh=>by refine⟨.inr h,λr hr=>?_⟩;obtain⟨a,ha⟩:=h r hr;rw[ha];exact⟨λe=>(by cases e),λx hx=>by simp[AV.refs] at hx⟩
 unfold C5 at hg;simp only[ai] at hg;have fL:=hg.2;split at fL
 ·rename_i f as ts kO;simp only[ai,aO] at fL;refine key λr hr=>?_;unfold cW at hr;rw[kO] at hr;obtain⟨x,hx,hr⟩:=eP.1 hr;exact y9 (fL.2 x hx) r hr
 ·rename_i as ts kO;simp only[aO] at fL;refine key λr hr=>?_;unfold cW at hr;rw[kO] at hr;obtain⟨x,hx,hr⟩:=eP.1 hr;exact y9 (fL x hx) r hr
 ·rename_i T n ps kO;simp only[aO] at fL;refine key λr hr=>?_;unfold cW at hr;rw[kO] at hr;obtain⟨x,hx,hr⟩:=eP.1 hr;exact y9 (fL x hx) r hr
 ·rename_i T x kO;split at fL;case h_4=>cases fL
  case h_2=>
   rename_i t y hb hx
   have hl:cW ops o=[x]:=by unfold cW;rw[kO];simp only[hb]
   refine key λr hr=>?_
   rw[hl] at hr
   simp only[bu] at hr
   subst hr
   exact⟨_,hx⟩
  case h_3=>
   rename_i t T1 tg me y hb hx
   have hl:cW ops o=[x]:=by unfold cW;rw[kO];simp only[hb]
   refine key λr hr=>?_
   rw[hl] at hr
   simp only[bu] at hr
   subst hr
   exact⟨_,hx⟩
  rename_i s t s' p hb hx;simp only[ai] at fL;obtain⟨hs,hk⟩:=fL;have:=aw hs;subst this;have hl:cW ops o=[x,s']:=by unfold cW;rw[kO];simp only[hb]
  refine⟨.inl (by unfold C6;rw[kO]),λr hr=>?_⟩;rw[hl] at hr ⊢;simp only[aV,List.not_mem_nil,or_false] at hr;rcases hr with rfl |rfl
  ·rw[hx];refine⟨λe=>(by cases e),λy hy=>?_⟩;simp only[AV.refs] at hy;have:=aw hy;simp[this]
  split at hk;case h_2=>cases hk
  rename_i b Y5;unfold St.ki at Y5;split at Y5
  ·rename_i a ex ha;rw[ha];exact⟨λe=>(by cases e),λy hy=>by simp[AV.refs] at hy⟩
  cases Y5
 ·rename_i T x lo hi kO;simp only[ai] at fL;have hl:cW ops o=cJ x++(sY lo++sY hi):=by unfold cW;rw[kO]
  refine key λr hr=>?_;rw[hl] at hr;have aqf:∀ {y:Option Operand},Y1 S y=true->r∈sY y->∃ a,S.at r=.v a []:=λ{y} h hr=>by
   cases y with
   |none=>simp[sY] at hr
   |some y=>exact y9 h r hr
  rcases bd.1 hr with hr |hr
  ·exact y9 (akR fL.1) r hr
  rcases bd.1 hr with hr |hr
  ·exact aqf fL.2.1 hr
  exact aqf fL.2.2 hr
 ·rename_i T x ix kO;simp only[ai] at fL;have hl:cW ops o=cJ x++cJ ix:=by unfold cW;rw[kO]
  refine key λr hr=>?_;rw[hl] at hr;rcases bd.1 hr with hr |hr
  ·exact y9 (akR fL.1) r hr
  exact y9 fL.2 r hr
 cases fL
theorem Oo (h:xT S x=true) (ha:Lo S S' (cJ x)):xT S' x=true:=by
 cases x with
 |tmp i=>simp only[xT,ha i (by simp[cJ])] at h ⊢;exact h
 |const c=>rfl
 |func f=>exact h
 |global g=>exact h
theorem anc (h:opK S x=true) (ha:Lo S S' (cJ x)):opK S' x=true:=by
 cases x with
 |tmp i=>simp only[opK,ha i (by simp[cJ])] at h ⊢;exact h
 |const c=>rfl
 |func f=>exact h
 |global g=>exact h
theorem aew (hg:C5 O ops S o=true) (ha:Lo S S' (cW ops o)) (hl:S'.length=S.length) (hd:∀ d,o.dst=some d->(S'.at d).TK=false):C5 O ops S' o=true:=by
 obtain⟨h1,d,h2,h3,h4⟩:=TU hg;unfold C5 at hg ⊢;simp only[ai] at hg ⊢;refine⟨⟨hg.1.1,?_⟩,?_⟩
 ·rw[h2];simp only[hd d h2,bD,aB];rw[hl];exact uc h4
 have fL:=hg.2;split at fL
 ·rename_i f as ts kO;have hlk:cW ops o=as.toList.flatMap cJ:=by unfold cW;rw[kO]
  rw[hlk] at ha;simp only[ai,aO] at fL;simp only[ai,aO];exact⟨fL.1,λx hx=>Oo (fL.2 x hx) λr hr=>ha r (eP.2 ⟨x,hx,hr⟩)⟩
 ·rename_i as ts kO;have hlk:cW ops o=as.toList.flatMap cJ:=by unfold cW;rw[kO]
  rw[hlk] at ha;simp only[aO] at fL;simp only[aO];exact λx hx=>Oo (fL x hx) λr hr=>ha r (eP.2 ⟨x,hx,hr⟩)
 ·rename_i T n ps kO;have hlk:cW ops o=ps.toList.flatMap λq=>cJ q.2:=by unfold cW;rw[kO]
  rw[hlk] at ha;simp only[aO] at fL;simp only[aO];exact λx hx=>Oo (fL x hx) λr hr=>ha r (eP.2 ⟨x,hx,hr⟩)
 ·rename_i T x kO;split at fL;case h_4=>cases fL
  case h_2=>
   rename_i t y hb hx
   have hlk:cW ops o=[x]:=by unfold cW;rw[kO];simp only[hb]
   rw[hlk] at ha
   rw[hb,(ha x (by simp)).trans hx]
  case h_3=>
   rename_i t T1 tg me y hb hx
   have hlk:cW ops o=[x]:=by unfold cW;rw[kO];simp only[hb]
   rw[hlk] at ha
   have h2:S'.ki x [.deref]=S.ki x [.deref]:=by unfold St.ki;rw[ha x (by simp)]
   rw[hb,(ha x (by simp)).trans hx]
   simp only[h2]
   exact fL
  rename_i s t s' p hb hx;simp only[ai] at fL;obtain⟨hs,hk⟩:=fL;have:=aw hs;subst this;have hlk:cW ops o=[x,s']:=by unfold cW;rw[kO];simp only[hb]
  rw[hlk] at ha;have h1:S'.at x=.ad t s' p:=(ha x (by simp)).trans hx;have h2:S'.ki s' p=S.ki s' p:=(by unfold St.ki;rw[ha s' (by simp)]);rw[hb,h1];simp only[ai,h2];exact⟨bV _,hk⟩
 ·rename_i T x lo hi kO;simp only[ai] at fL;have hlk:cW ops o=cJ x++(sY lo++sY hi):=by unfold cW;rw[kO]
  rw[hlk] at ha;simp only[ai];have aqf:∀ {y:Option Operand},Y1 S y=true->(∀ r∈sY y,r∈cJ x++(sY lo++sY hi))->Y1 S' y=true:=λ{y} h hs=>by
   cases y with
   |none=>rfl
   |some y=>exact Oo h λr hr=>ha r (hs r hr)
  exact⟨anc fL.1 λr hr=>ha r (by simp[hr]),aqf fL.2.1 λr hr=>by simp[hr],aqf fL.2.2 λr hr=>by simp[hr]⟩
 ·rename_i T x ix kO;simp only[ai] at fL;have hlk:cW ops o=cJ x++cJ ix:=by unfold cW;rw[kO]
  rw[hlk] at ha;simp only[ai];exact⟨anc fL.1 λr hr=>ha r (by simp[hr]),Oo fL.2 λr hr=>ha r (by simp[hr])⟩
 cases fL
theorem afZ {S:St} {o:Oper} (hg:C5 O ops S o=true) {d:Nat} (hd:o.dst=some d) {E:Nl} (he:E.d=d/\KQ E.v/\E.hZ.Nodup/\(∀ r∈E.hZ,r∈cW ops o)/\(C6 o=true->E.hZ=[])):E.In S:=by
 obtain⟨_,d',h2,h3,h4⟩:=TU hg;rw[hd] at h2;injection h2 with h2;subst h2;obtain⟨e1,e2,e3,e4,e5⟩:=he;have hv:∀ r∈E.hZ,∃ a,S.at r=.v a []:=λr hr=>by
  rcases(Xp hg).1 with hc |hv
  ·rw[e5 hc] at hr;cases hr
  exact hv r (e4 r hr)
 refine⟨e3,hv,by rw[e1];exact h3,by rw[e1];exact h4,e2,λhk=>?_⟩;obtain⟨a,ha⟩:=hv _ hk;rw[e1] at ha;rw[ha] at h3;cases h3
theorem aoO {a:AV} {x:Nat} (h:a.refs x=true):a.TK=false:=by cases a<;>first |rfl |(simp[AV.refs] at h)
theorem au4 {E:Nl} {S:St} (h:E.In S) {i:Nat} (hi:i≠E.d) (hv:(S.at i).TK=false):((E.app S).at i).TK=false:=by
 rw[Nl.Om h,aq hi];split
 ·rfl
 cases E.hZ.any (S.at i).refs with
 |true=>rfl
 |false=>exact hv
theorem aqg {E:Nl} {S:St} (h:E.In S) {i:Nat} (hi:i≠E.d) (hk:i∉E.hZ) (hv:((E.app S).at i).TK=false):(S.at i).TK=false:=by
 rw[Nl.Om h,aq hi,aq hk] at hv;cases ha:E.hZ.any (S.at i).refs with
 |true=>obtain⟨x,_,hx⟩:=dB.1 ha;exact aoO hx
 |false=>rw[ha] at hv;exact hv
theorem aA2 {E:Nl} {S:St} (h:E.In S) {i:Nat} (hi:i≠E.d) (hv:(E.app S).at i≠ .dead):S.at i=(E.app S).at i:=by
 rw[Nl.Om h,aq hi] at hv ⊢;split at hv
 ·exact absurd rfl hv
 rename_i hk;rw[aq hk];cases ha:E.hZ.any (S.at i).refs with
 |true=>rw[ha] at hv;exact absurd rfl hv
 |false=>rfl
theorem aA3 {E:Nl} {S:St} (h:E.In S) {i:Nat} (hi:i≠E.d) (hk:i∉E.hZ) (hr:∀ x,(S.at i).refs x=true->x∉E.hZ):(E.app S).at i=S.at i:=by rw[Nl.Om h,aq hi,aq hk];have:E.hZ.any (S.at i).refs=false:=dh.2 λx hx TL=>hr x TL hx;rw[this];rfl
theorem aqh (hO:Ll O) (hi:ops[i]?=some oi) (hj:ops[j]?=some oj) (hd:aep ops oi oj=true) {K:St->aa} (e:J7 h O ops (i::j::r) S K=some ret):J7 h O ops (j::i::r) S K=some ret:=by
 simp only[J7,hi,hj] at e ⊢;cases gi:C5 O ops S oi with
 |false=>rw[gi] at e;cases e
 |true=>rw[gi] at e;simp only[ab] at e;obtain⟨_,di,hdi,hvi,_⟩:=TU gi;obtain⟨oE,E1,E2⟩:=anb (h:=h) hO hi gi hdi;rw[E2 S (λ_ _=>rfl)] at e;cases oE with
 |none=>cases e
 |some E=>simp only[aL] at e;have EI:=afZ gi hdi (E1 E rfl);obtain⟨Ed,Er,En,Ek,Ec⟩:=E1 E rfl;cases gj:C5 O ops (E.app S) oj with
 |false=>rw[gj] at e;cases e
 |true=>rw[gj] at e;simp only[ab] at e;obtain⟨_,dj,hdj,hvj,_⟩:=TU gj;obtain⟨oF,F1,F2⟩:=anb (h:=h) hO hj gj hdj;rw[F2 _ (λ_ _=>rfl)] at e;cases oF with
 |none=>cases e
 |some F=>
 simp only[aL] at e;have FI1:=afZ gj hdj (F1 F rfl);obtain⟨Fd,Fr,Fn,Fk,Fc⟩:=F1 F rfl;unfold aep at hd;rw[hdi,hdj] at hd;simp only[ai,b8,bo] at hd;obtain⟨⟨⟨d1,d2⟩,d3⟩,d4⟩:=hd;have d1:di≠dj:=λe=>by subst e;rw[bV] at d1;cases d1
 have d2:di∉cW ops oj:=λhm=>by have:=dh.1 d2 di hm;rw[bV] at this;exact this rfl
 have d3:dj∉cW ops oi:=λhm=>by have:=dh.1 d3 dj hm;rw[bV] at this;exact this rfl
 have d5:∀ r∈cW ops oi,r∉F.hZ:=λr hr hk=>by
  rcases d4 with d4 |d4
  ·rw[Fc d4.2] at hk;cases hk
  have h1:=dh.1 d4 r hr;have h2:(cW ops oj).any (Nat.beq r)=true:=dB.2 ⟨r,Fk r hk,bV r⟩;exact h1 h2
 have ag1:Lo (E.app S) S (cW ops oj):=λr hr=>by exact aA2 EI (λe=>d2 (by rw[←Ed,←e];exact hr)) ((Xp gj).2 r hr).1
 have aDD:dj∉E.hZ:=λhk=>d3 (Ek dj hk);have gj0:C5 O ops S oj=true:=aew gj ag1 (Nl.afX E S).symm (λd hd=>by
  rw[hdj] at hd
  injection hd with hd
  subst hd
  exact aqg EI (λe=>d1 (by rw[←Ed,←e])) aDD hvj)
 have FI:=afZ gj0 hdj (F1 F rfl);have ag2:Lo S (F.app S) (cW ops oi):=λr hr=>by exact aA3 FI (λe=>d3 (by rw[←Fd,←e];exact hr)) (d5 r hr) λx hx=>d5 x (((Xp gi).2 r hr).2 x hx)
 have gi1:C5 O ops (F.app S) oi=true:=aew gi ag2 (Nl.afX F S) (λd hd=>by
  rw[hdi] at hd
  injection hd with hd
  subst hd
  exact au4 FI (λe=>d1 (by rw[←Fd,←e])) hvi)
 have EI1:=afZ gi1 hdi (E1 E rfl);rw[gj0];simp only[ab];rw[F2 S ag1];simp only[aL];rw[gi1];simp only[ab];rw[E2 _ ag2];simp only[aL];rw[Nl.comm EI FI (by rw[Ed,Fd];exact d1) (λhk=>by rw[Ed] at hk;exact d2 (Fk _ hk)) (λhk=>by rw[Fd] at hk;exact d3 (Ek _ hk)) EI1 FI1];exact e
theorem aex (hO:Ll O) {j:Nat} {oj:Oper} (hj:ops[j]?=some oj):∀ (p r:List Nat) {S:St} {K:St->aa} {ret:jD},(∀ x∈p,∃ ox,ops[x]?=some ox/\aep ops ox oj=true)->J7 h O ops (p++j::r) S K=some ret->J7 h O ops (j::(p++r)) S K=some ret
 |[],r,S,K,ret,_,e=>e
 |x::p,r,S,K,ret,hp,e=>by
  obtain⟨ox,hox,hdx⟩:=hp x (by simp);refine aqh hO hox hj hdx ?_;simp only[bF] at e;unfold J7 at e ⊢;rw[hox] at e ⊢;simp only at e ⊢;cases gx:C5 O ops S ox with
  |false=>rw[gx] at e;cases e
  |true=>
  rw[gx] at e;simp only[ab] at e ⊢;obtain⟨o,ho⟩:=y8 (h:=h) (ops:=ops) hO x (λo' ho'=>by
   rw[hox] at ho'
   injection ho' with ho'
   subst ho'
   unfold C5 at gx
   simp only[ai] at gx
   have g2:=gx.2
   split at g2<;>first |(rename_i fL;rw[fL];rfl) |cases g2) S
  rw[ho] at e ⊢;cases o with
  |none=>cases e
  |some S1=>simp only[aL] at e ⊢;exact aex hO hj p r (λy hy=>hp y (by simp[hy])) e
end Go.Pv
namespace Go.Pv
open List Int IntKind
variable {h:Hint} {O:vi} {Θ:nh} {ops:Array Oper} {ret:jD}
theorem aa8 :a.refs s=true↔s∈slotsOf a:=by
 cases a with
 |al t s' p=>simp only[AV.refs,slotsOf,bu,qf];exact eq_comm
 |ad t s' p=>simp only[AV.refs,slotsOf,bu,qf];exact eq_comm
 |cut t s' p lo hi=>simp only[AV.refs,slotsOf,bu,qf];exact eq_comm
 |EY f kE=>
  simp only[AV.refs,slotsOf,dB,List.mem_filterMap];constructor
  ·rintro⟨c,hc,h⟩;refine⟨c,hc,?_⟩;cases c with
   |kv b=>cases h
   |pl t s' p=>simp at h;simp[h]
  rintro⟨c,hc,h⟩;refine⟨c,hc,?_⟩;cases c with
  |kv b=>cases h
  |pl t s' p=>simp at h;simp[h]
 |_=>simp[AV.refs,slotsOf]
def cH (Δ:Nat->Bool) (S:St):Prop:=∀ i s,(S.at i).refs s=true->Δ i=Δ s
theorem MI:∀ {S:St} {k:Nat},vD Δ S k=true↔∀ i s,(S.at i).refs s=true->Δ (k+i)=Δ s
 |[],k=>by simp[vD,St.at,AV.refs]
 |a::r,k=>by
  simp only[vD,ai,aO,bY];constructor
  ·rintro⟨h1,h2⟩ i s hs;cases i with
   |zero=>exact h1 s (aa8.1 (by simpa[St.at] using hs))
   |succ i=>have:=(MI.1 h2) i s (by simpa[St.at] using hs);rw[←this];congr 1;omega
  intro hh;refine⟨λs hs=>by simpa using hh 0 s (by simpa[St.at] using aa8.2 hs),MI.2 λi s hs=>?_⟩;have:=hh (i+1) s (by simpa[St.at] using hs);rw[←this];congr 1;omega
theorem zP :vD Δ S 0=true↔cH Δ S:=by rw[MI];simp only[aW,cH]
def mix (Δ:Nat->Bool) (A B:St):St:=(List.range A.length).map λi=>bif Δ i then A.at i else B.at i
theorem No {S:St} {i:Nat} (h:S.length<=i):S.at i=.dead:=by unfold St.at;rw[aF,cA h];rfl
theorem rh (Δ:Nat->Bool) (A B:St):(mix Δ A B).length=A.length:=by simp[mix]
theorem xE (hl:B.length=A.length) (i:Nat):(mix Δ A B).at i=bif Δ i then A.at i else B.at i:=by
 by_cases hi:i<A.length
 ·unfold mix;conv=>lhs;unfold St.at
  rw[aF,bR,List.getElem?_range hi];rfl
 rw[No (by rw[rh];omega),No (S:=A) (by omega),No (S:=B) (by omega)];cases Δ i<;>rfl
theorem D4 (hl:B.length=A.length) (hi:Δ i=true):(mix Δ A B).at i=A.at i:=by rw[xE hl,hi];rfl
theorem aa9 (Δ:Nat->Bool) (S:St):mix Δ S S=S:=Gr (rh _ _ _) λi=>by rw[xE rfl];cases Δ i<;>rfl
theorem af0 (hl:B.length=A.length):mix (λi=>!Δ i) B A=mix Δ A B:=Gr (by rw[rh,rh,hl]) λi=>by rw[xE hl,xE hl.symm];cases Δ i<;>rfl
theorem cH.not (h:cH Δ S):cH (λi=>!Δ i) S:=λi s hs=>by simp only[h i s hs]
section
variable {Δ:Nat->Bool} {A B:St}
theorem Xq (hB:cH Δ B) (hi:Δ i=false) (hd:Δ d=true):(B.at i).refs d=false:=by
 cases hr:(B.at i).refs d with
 |false=>rfl
 |true=>have:=hB i d hr;rw[hi,hd] at this;cases this
theorem PN (hl:B.length=A.length) (hB:cH Δ B) {d:Nat} (hd:Δ d=true) (a:AV):(mix Δ A B).put (some d) a=mix Δ (A.put (some d) a) B:=by
 refine Gr (by rw[eO,rh,rh,eO]) λi=>?_;rw[xE (by rw[eO,hl]),nj,nj,rh,xE hl,D4 hl hd];cases hi:Δ i with
 |true=>rfl
 |false=>have hid: ¬(i=d/\d<A.length):=λe=>(by rw[e.1,hd] at hi;cases hi);rw[aq hid];simp only[ae];rw[Xq hB hi hd];rfl
theorem TW (hl:B.length=A.length) (hd:Δ d=true) (a:AV):(mix Δ A B).set d a=mix Δ (A.set d a) B:=by
 refine Gr (by rw[br,rh,rh,br]) λi=>?_;rw[xE (by rw[br,hl]),kN,kN,rh,xE hl];cases hi:Δ i with
 |true=>rfl
 |false=>have hid: ¬(i=d/\d<A.length):=λe=>(by rw[e.1,hd] at hi;cases hi);rw[aq hid];rfl
theorem akS {a:AV} {d:Nat} (h:a.refs d=false):a.qE d=false:=by
 cases a with
 |al t s p=>simp only[AV.refs] at h;simp only[AV.qE,h];rfl
 |ad t s p=>simp only[AV.refs] at h;simp only[AV.qE,h];rfl
 |cut t s p lo hi=>simpa only[AV.refs,AV.qE] using h
 |EY f kE=>
  simp only[AV.refs,AV.qE,dh] at h ⊢;intro c hc;have:=h c hc;cases c with
  |kv b=>simp
  |pl t s p=>cases p<;>simp_all
 |_=>rfl
theorem Sa (hl:B.length=A.length) (hB:cH Δ B) (hd:Δ d=true):(mix Δ A B).weaken d=mix Δ (A.weaken d) B:=by
 refine Gr (by simp[St.weaken,rh]) λi=>?_;rw[xE (by simp[St.weaken,hl]),zO,zO,xE hl];cases hi:Δ i with
 |true=>rfl
 |false=>simp only[ae];rw[akS (Xq hB hi hd)];rfl
theorem Xr (S:St) (d:Nat) (p:Path) (i:Nat):(S.cover d p).at i=match S.at i with
 | .ad t s q=>bif Nat.beq s d&&under p q then .dead else .ad t s q
 |a=>a:=aa5 S _ rfl i
theorem aey (hl:B.length=A.length) (hB:cH Δ B) (hd:Δ d=true) (p:Path):(mix Δ A B).cover d p=mix Δ (A.cover d p) B:=by
 refine Gr (by simp[St.cover,rh]) λi=>?_;rw[xE (by simp[St.cover,hl]),Xr,Xr,xE hl];cases hi:Δ i with
 |true=>rfl
 |false=>
 simp only[ae];have:=Xq hB hi hd;cases hb:B.at i with
 |ad t s q=>rw[hb] at this;simp only[AV.refs] at this;simp only[this];rfl
 |_=>rfl
theorem TX (h:(bif c then AV.dead else a).refs s=true):a.refs s=true:=by
 cases c with
 |true=>simp[AV.refs] at h
 |false=>exact h
theorem D5 (hA:cH Δ A) {d:Nat} (hd:Δ d=true) {a:AV} (ha:∀ s,a.refs s=true->Δ s=true):cH Δ (A.put (some d) a):=λi s hs=>by
 rw[nj] at hs;split at hs
 ·rename_i hi;rw[hi.1,hd];exact(ha s (TX hs)).symm
 exact hA i s (TX hs)
theorem Iu (hA:cH Δ A) (hd:Δ d=true) (ha:∀ s,a.refs s=true->Δ s=true):cH Δ (A.set d a):=λi s hs=>by
 rw[kN] at hs;split at hs
 ·rename_i hi;rw[hi.1,hd];exact(ha s hs).symm
 exact hA i s hs
theorem KR (hA:cH Δ A) (d:Nat):cH Δ (A.weaken d):=λi s hs=>by rw[zO] at hs;exact hA i s (TX hs)
theorem TY (hA:cH Δ A) (d:Nat) (p:Path):cH Δ (A.cover d p):=λi s hs=>by
 rw[Xr] at hs;refine hA i s ?_;cases hb:A.at i with
 |ad t s' q=>rw[hb] at hs;exact TX hs
 |_=>rw[hb] at hs;exact hs
theorem AR (hl:B.length=A.length) (hx:Ij Δ x=true) (T:TypeId):(mix Δ A B).pT Θ T x=A.pT Θ T x:=by
 cases x with
 |tmp i=>simp only[St.pT];rw[D4 hl hx]
 |_=>rfl
theorem wh (hA:cH Δ A) (hx:Ij Δ x=true) (e:A.pT Θ T x=some a):∀ s,a.refs s=true->Δ s=true:=λs hs=>by
 cases x with
 |tmp i=>simp only[St.pT,ah] at e;subst e;rw[←hA i s hs];exact hx
 |const c=>
 simp only[St.pT] at e;split at e
 ·injection e with e;subst e;simp[AV.refs] at hs
 cases e
 |func f=>simp only[St.pT,ah] at e;subst e;simp[AV.refs] at hs
 |global g=>cases e
theorem Il (hl:B.length=A.length) (hs:Δ s=true) (p:Path):(mix Δ A B).place s p=A.place s p:=by unfold St.place;rw[D4 hl hs]
theorem D6 (hl:B.length=A.length) (hs:Δ s=true) (p:Path):(mix Δ A B).ki s p=A.ki s p:=by unfold St.ki;rw[D4 hl hs]
theorem J8 :(AV.al t s p).refs s=true:=by simp[AV.refs]
theorem au5 :(AV.ad t s p).refs s=true:=by simp[AV.refs]
theorem ahU :(AV.cut t s p lo hi).refs s=true:=by simp[AV.refs]
theorem ane (hl:B.length=A.length) (ha:∀ s,a.refs s=true->Δ s=true):(mix Δ A B).PK a=A.PK a:=by
 cases a with
 |al t s p=>simp only[St.PK];exact Il hl (ha s J8) p
 |cut t s p lo hi=>simp only[St.PK];rw[Il hl (ha s ahU) p]
 |v b ex=>cases ex<;>rfl
 |_=>rfl
theorem Xs (hl:B.length=A.length) (hA:cH Δ A) (hx:Ij Δ x=true) (T:TypeId):(mix Δ A B).rd Θ T x=A.rd Θ T x:=by
 unfold St.rd;rw[AR hl hx];cases e:A.pT Θ T x with
 |none=>rfl
 |some a=>exact ane hl (wh hA hx e)
theorem Xt (hl:B.length=A.length) (hA:cH Δ A) (hx:Ij Δ x=true):(mix Δ A B).G1 Θ x=A.G1 Θ x:=by unfold St.G1;rw[Xs hl hA hx]
theorem km :∀ s,(AV.v b ex).refs s=true->Δ s=true:=λs hs=>by simp[AV.refs] at hs
def Mx (Δ:Nat->Bool) (A B:St) {α:Type} (X Y:Option (α×St)):Prop:=Y=X.map (λq=>(q.1,mix Δ q.2 B))/\∀ q,X=some q->cH Δ q.2/\q.2.length=A.length
theorem bI {α:Type}:Mx Δ A B (α:=α) none none:=⟨rfl,λ_ h=>by cases h⟩
theorem vF {α:Type} {c:α} {A1 S1:St} (h:S1=mix Δ A1 B) (hc:cH Δ A1) (hl:A1.length=A.length):Mx Δ A B (some (c,A1)) (some (c,S1)):=⟨by rw[h];rfl,λq hq=>by injection hq with hq;subst hq;exact⟨hc,hl⟩⟩
theorem pB {α:Type} {c:α} {d:Nat} {a:AV} (hl:B.length=A.length) (hB:cH Δ B) {A1:St} (hA:cH Δ A1) (TZ:A1.length=A.length) (hd:Δ d=true) (ha:∀ s,a.refs s=true->Δ s=true):
  Mx Δ A B (some (c,A1.put (some d) a)) (some (c,(mix Δ A1 B).put (some d) a)):=vF (PN (by rw[hl,TZ]) hB hd a) (D5 hA hd ha) (by rw[eO,TZ])
theorem aez (hl:B.length=A.length) (hA:cH Δ A) (hB:cH Δ B) {x:Operand} (hx:Ij Δ x=true) {a:AV} (ha:∀ s,a.refs s=true->Δ s=true):Mx Δ A B (A.pL x a) ((mix Δ A B).pL x a):=by
 have Nk:∀ s,AV.dead.refs s=true->Δ s=true:=λs hs=>by simp[AV.refs] at hs
 cases a with
 |v b ex=>
  simp only[St.pL];cases b.m.fu with
  |true=>exact vF rfl hA rfl
  |false=>
  simp only[ae];cases ex with
  |nil=>
   cases x with
   |tmp i=>exact pB hl hB hA rfl hx Nk
   |const c=>exact vF rfl hA rfl
   |func f=>exact vF rfl hA rfl
   |global g=>exact vF rfl hA rfl
  |cons _ _=>cases x<;>exact bI
 |al t s p=>
  have hs:=ha s J8;simp only[St.pL];rw[Il hl hs];cases hp:A.place s p with
  |none=>exact bI
  |some b=>
  simp only;cases b.m.fu with
  |true=>exact vF rfl hA rfl
  |false=>
  simp only[ae];cases p with
  |nil=>exact pB hl hB hA rfl hs Nk
  |cons st pp=>
  rw[D4 hl hs];cases A.at s with
  |v r ex=>have h1:=TY (KR hA s) s (st::pp);have l1:B.length=(A.weaken s).length:=(by simp[St.weaken,hl]);have l2:B.length=((A.weaken s).cover s (st::pp)).length:=(by simp[St.weaken,St.cover,hl]);refine vF ?_ (Iu h1 hs km) (by simp[St.weaken,St.cover]);rw[Sa hl hB hs,aey l1 hB hs,TW l2 hs]
  |_=>exact bI
 |cut t s p lo hi=>
  have hs:=ha s ahU;cases p with
  |cons _ _=>exact bI
  |nil=>
  simp only[St.pL];rw[Il hl hs];split
  ·cases Nat.beq lo 0 with
   |true=>exact pB hl hB hA rfl hs Nk
   |false=>exact bI
  exact bI
 |_=>exact bI
theorem Oq (hl:B.length=A.length) (hA:cH Δ A) (hB:cH Δ B) (hx:Ij Δ x=true) (T:TypeId):Mx Δ A B (A.take Θ T x) ((mix Δ A B).take Θ T x):=by
 unfold St.take;rw[AR hl hx];cases e:A.pT Θ T x with
 |none=>exact bI
 |some a=>exact aez hl hA hB hx (wh hA hx e)
theorem Xu (hB:cH Δ B) {ps:List (Nat×Operand)} (hx:∀ q∈ps,Ij Δ q.2=true):∀ (r:List TypeId) (j:Nat) {A:St},B.length=A.length->cH Δ A->Mx Δ A B (A.parts Θ ps r j) ((mix Δ A B).parts Θ ps r j)
 |[],j,A,hl,hA=>vF rfl hA rfl
 |T::r,j,A,hl,hA=>by
  simp only[St.parts];cases hf:ps.find? (λq=>Nat.beq q.1 j) with
  |some q=>
   simp only;obtain⟨h1,h2⟩:=Oq (Θ:=Θ) hl hA hB (hx q (List.mem_of_find?_eq_some hf)) T;rw[h1];cases ht:A.take Θ T q.2 with
   |none=>exact bI
   |some b=>
   obtain⟨b,A1⟩:=b;obtain⟨c1,c2⟩:=h2 _ ht;simp only[aS];obtain⟨k1,k2⟩:=Xu hB hx r (j+1) (by rw[c2,hl]) c1;rw[k1];cases hp:St.parts Θ A1 ps r (j+1) with
   |none=>exact bI
   |some l=>obtain⟨d1,d2⟩:=k2 _ hp;exact vF rfl d1 (by rw[d2,c2])
  |none=>
  simp only;cases Ob Θ T with
  |none=>exact bI
  |some z=>
  simp only;obtain⟨k1,k2⟩:=Xu hB hx r (j+1) hl hA;rw[k1];cases hp:St.parts Θ A ps r (j+1) with
  |none=>exact bI
  |some l=>obtain⟨d1,d2⟩:=k2 _ hp;exact vF rfl d1 d2
end
end Go.Pv
namespace Go.Pv
open List Int IntKind
variable {h:Hint} {O:vi} {Θ:nh} {hn:Hn} {ops:Array Oper} {ret:jD} {Δ:Nat->Bool} {A B:St}
theorem aoP (S S':St) (x:Operand) (a:AV):S.copy x a=S'.copy x a:=by cases a<;>rfl
theorem aoQ (hx:Ij Δ x=true) (ha:∀ s,a.refs s=true->Δ s=true) (e:A.copy x a=some a'):∀ s,a'.refs s=true->Δ s=true:=λs hs=>by
 cases a with
 |v b ex=>
  simp only[St.copy] at e;cases hk:b.m.fu with
  |true=>rw[hk] at e;simp only[ab,ah] at e;subst e;simp[AV.refs] at hs
  |false=>
  rw[hk] at e;simp only[ae] at e;cases x with
  |tmp i=>simp only[ah] at e;subst e;simp only[AV.refs,qf] at hs;subst hs;exact hx
  |_=>
  simp only at e;split at e
  ·injection e with e;subst e;simp[AV.refs] at hs
  cases e
 |PJ l=>cases e
 |dead=>cases e
 |_=>simp only[St.copy,ah] at e;subst e;exact ha s hs
theorem af1 (hl:B.length=A.length) (ha:∀ s,a.refs s=true->Δ s=true):(mix Δ A B).RZ x a=A.RZ x a:=by
 cases a with
 |v b ex=>obtain⟨t,m,y⟩:=b;cases t<;>cases m<;>cases ex<;>rfl
 |al t s p=>
  cases t with
  |ptr t=>simp only[St.RZ];rw[D6 hl (ha s J8)]
  |_=>rfl
 |_=>rfl
theorem aa' (hx:Ij Δ x=true) (ha:∀ s,a.refs s=true->Δ s=true) (e:A.RZ x a=some (.pl t s p)):Δ s=true:=by
 cases a with
 |v b ex=>
 obtain⟨t',m,y⟩:=b;simp only[St.RZ] at e;split at e
 ·rename_i heq;injection heq with h1 h2;split at e
  ·cases e
  ·injection e with e;injection e with _ e _;subst e;exact hx
  cases e
 ·split at e
  ·injection e with e;injection e with _ e _;subst e;exact hx
  cases e
 all_goals first |(rename_i heq;cases heq;done) |(cases e;done)
 |al t' s' p'=>
 simp only[St.RZ] at e;split at e
 ·rename_i heq;cases heq
 ·rename_i heq;cases heq
 ·rename_i heq;injection heq with h1 h2 h3;subst h2;split at e
  ·cases e
  ·injection e with e;injection e with _ e _;subst e;exact ha _ J8
  cases e
 ·rename_i heq;cases heq
 cases e
 |ad t' s' p'=>simp only[St.RZ,ah,Tgt.pl.injEq] at e;rw[←e.2.1];exact ha _ au5
 |_=>simp[St.RZ] at e
theorem akT (hl:B.length=A.length) (hg:∀ t s p,g=.pl t s p->Δ s=true):(mix Δ A B).loadAt g=A.loadAt g:=by
 cases g with
 |k a=>rfl
 |pl t s p=>simp only[St.loadAt];rw[D6 hl (hg t s p rfl),Il hl (hg t s p rfl)]
theorem ahV (hg:∀ t s p,g=.pl t s p->Δ s=true) (e:A.loadAt g=some a):∀ s,a.refs s=true->Δ s=true:=λs hs=>by
 cases g with
 |k b=>simp only[St.loadAt,ah] at e;subst e;simp[AV.refs] at hs
 |pl t s' p=>
 simp only[St.loadAt] at e;split at e;case h_2=>cases e
 rename_i b hb;cases hk:b.m.fu with
 |true=>
 rw[hk] at e;simp only[ab] at e;split at e
 ·injection e with e;subst e;simp[AV.refs] at hs
 cases e
 |false=>rw[hk] at e;simp only[ae,ah] at e;subst e;simp only[AV.refs,qf] at hs;subst hs;exact hg _ _ _ rfl
section
variable (hl:B.length=A.length) (hA:cH Δ A) (hB:cH Δ B) {d:Nat} (hd:Δ d=true)
include hl hA hB hd
theorem aoR (T:TypeId):Mx Δ A B (My Θ hn A (some d) T) (My Θ hn (mix Δ A B) (some d) T):=by
 unfold My;cases Ob Θ T with
 |none=>exact bI
 |some z=>
 simp only;cases RY z.t (hn.find (some d) z.m) with
 |true=>exact pB hl hB hA rfl hd km
 |false=>exact bI
theorem aqi (T:TypeId) (hx:Ij Δ x=true):Mx Δ A B (tY Θ A (some d) T x) (tY Θ (mix Δ A B) (some d) T x):=by
 unfold tY;rw[AR hl hx];cases e:A.pT Θ 0 x with
 |none=>exact bI
 |some a=>
 simp only;have ha:=wh hA hx e;rw[af1 hl ha];cases et:A.RZ x a with
 |none=>exact bI
 |some g=>
 simp only;have hg:∀ t s p,g=.pl t s p->Δ s=true:=λt s p eg=>by subst eg;exact aa' hx ha et
 rw[akT hl hg];cases el:A.loadAt g with
 |none=>exact bI
 |some r=>
 simp only;cases (ahN g.ty r&&Θ.is T g.ty) with
 |true=>exact pB hl hB hA rfl hd (ahV hg el)
 |false=>exact bI
theorem aqj (T:TypeId) (hx:Ij Δ x=true):Mx Δ A B (Mw Θ A (some d) T x) (Mw Θ (mix Δ A B) (some d) T x):=by
 unfold Mw;rw[AR hl hx,rh];have Nk:∀ s,AV.dead.refs s=true->Δ s=true:=λs hs=>by simp[AV.refs] at hs
 cases e:A.pT Θ T x with
 |none=>exact bI
 |some a=>
 have ha:=wh hA hx e;cases a with
 |PJ l=>
  cases x with
  |tmp i=>
   simp only;cases (Nat.beq d i|| !Nat.blt d A.length) with
   |true=>exact bI
   |false=>simp only[ae];have h1:(mix Δ A B).put (some i) .dead=mix Δ (A.put (some i) .dead) B:=PN hl hB hx .dead;rw[h1];exact pB hl hB (D5 hA hx Nk) (eO _ _ _) hd (λs hs=>by simp[AV.refs] at hs)
  |_=>exact bI
 |_=>
 simp only;rw[aoP (mix Δ A B) A];split
 ·rename_i a' hc;exact pB hl hB hA rfl hd (aoQ hx ha hc)
 exact bI
theorem ahW (hx:Ij Δ x=true) (j:Nat):Mx Δ A B (uZ A (some d) x j) (uZ (mix Δ A B) (some d) x j):=by
 unfold uZ;cases x with
 |tmp i=>
  simp only;rw[D4 hl hx];split
  ·rename_i l hi;split
   ·rename_i a ha;cases a.m.fu with
    |true=>exact pB hl hB hA rfl hd km
    |false=>
    simp only[ae];cases Nat.beq d i with
    |true=>exact bI
    |false=>simp only[ae];have h1:(mix Δ A B).set i (.PJ (l.set j none))=mix Δ (A.set i (.PJ (l.set j none))) B:=TW hl hx _;rw[h1];exact pB hl hB (Iu hA hx (λs hs=>by simp[AV.refs] at hs)) (by simp) hd km
   exact bI
  exact bI
 |_=>exact bI
theorem aba (T:TypeId) (n:Nat) (hx:∀ q∈ps,Ij Δ q.2=true):Mx Δ A B (fw Θ hn A (some d) T n ps) (fw Θ hn (mix Δ A B) (some d) T n ps):=by
 unfold fw;split
 ·cases (EZ n ps&&Nat.ble n 1800) with
  |false=>exact bI
  |true=>
  simp only[ab];rename_i t e fs _;obtain⟨k1,k2⟩:=Xu (Θ:=Θ) hB hx (List.replicate n e) 0 hl hA;rw[k1];cases hp:St.parts Θ A ps (List.replicate n e) 0 with
  |none=>exact bI
  |some q=>
  obtain⟨l,A1⟩:=q;obtain⟨c1,c2⟩:=k2 _ hp;simp only[aS];cases l with
  |nil=>exact pB hl hB c1 c2 hd km
  |cons a l=>
  simp only;cases Oc t a.m (a::l) with
  |none=>exact bI
  |some xs=>exact pB hl hB c1 c2 hd km
 exact bI
theorem akU (hx:∀ x∈as,Ij Δ x=true):Mx Δ A B (iN Θ A (some d) ts as) (iN Θ (mix Δ A B) (some d) ts as):=by
 unfold iN;split
 ·rename_i x y T T';obtain⟨k1,k2⟩:=Oq (Θ:=Θ) hl hA hB (hx x (by simp)) T;rw[k1];cases ht:A.take Θ T x with
  |none=>exact bI
  |some q=>
  obtain⟨⟨t,m,xs⟩,A1⟩:=q;obtain⟨c1,c2⟩:=k2 _ ht;have TZ:B.length=A1.length:=(by rw[c2,hl]);simp only[aS];cases t with
  |sl t=>
   cases m with
   |o e tag me=>
    cases hf:Θ.find T with
    |none=>exact bI
    |some i=>
    simp only;cases (decide (i.ty=.sl t)&&Nat.beq i.e e&&Θ.is T' (.sl t)) with
    |false=>exact bI
    |true=>
    simp only[ab];cases me.fu with
    |true=>
     simp only[ab];rw[Xs TZ c1 (hx y (by simp))];split
     ·rename_i t' m' ys _;cases m'.inn.fu with
      |false=>exact bI
      |true=>
      simp only[ab];split
      ·exact pB hl hB c1 c2 hd km
      exact bI
     exact bI
    |false=>
    simp only[ae];obtain⟨j1,j2⟩:=Oq (Θ:=Θ) TZ c1 hB (hx y (by simp)) T';rw[j1];cases hy:A1.take Θ T' y with
    |none=>exact bI
    |some q=>
    obtain⟨⟨t',m',ys⟩,A2⟩:=q;obtain⟨d1,d2⟩:=j2 _ hy;simp only[aS];cases t' with
    |sl t'=>
    simp only;split
    ·split
     ·exact pB hl hB d1 (by rw[d2,c2]) hd km
     exact bI
    exact bI
    |_=>exact bI
   |_=>exact bI
  |_=>exact bI
 exact bI
theorem ahX (hx:∀ x∈as,Ij Δ x=true):Mx Δ A B (u5 Θ A (some d) ts as) (u5 Θ (mix Δ A B) (some d) ts as):=by
 unfold u5;split
 ·rename_i x y T T';rw[AR hl (hx x (by simp))];split
  ·rename_i t s st pp pU;have hs:=wh hA (hx x (by simp)) pU s J8;rw[D4 hl hs];split
   ·rename_i r ex nM;split
    ·rename_i t e tag me xs i _ _;cases (decide (i.ty=.sl t)&&Nat.beq i.e e&&Θ.is T' (.sl t)&&me.fu) with
     |false=>exact bI
     |true=>
     simp only[ab];have l1:B.length=(A.weaken s).length:=by simp[St.weaken,hl]
     have l2:B.length=((A.weaken s).cover s (st::pp)).length:=(by simp[St.weaken,St.cover,hl]);have l3:B.length=(((A.weaken s).cover s (st::pp)).set s (.v r (ex++[st::pp]))).length:=(by simp[St.weaken,St.cover,hl]);have e1:List.set (((mix Δ A B).weaken s).cover s (st::pp)) s (.v r (ex++[st::pp]))=mix Δ (((A.weaken s).cover s (st::pp)).set s (.v r (ex++[st::pp]))) B:=(by rw[Sa hl hB hs,aey l1 hB hs,TW l2 hs]);have c1:cH Δ (((A.weaken s).cover s (st::pp)).set s (.v r (ex++[st::pp]))):=Iu (TY (KR hA s) s _) hs km;rw[e1,Xs l3 c1 (hx y (by simp))];split
     ·rename_i t' m' ys _;cases m'.inn.fu with
      |false=>exact bI
      |true=>
      simp only[ab];split
      ·exact pB hl hB c1 (by simp[St.weaken,St.cover]) hd km
      exact bI
     exact bI
    exact bI
   exact bI
  exact bI
 exact bI
theorem au6 (op:BinOp) (T:TypeId) (hx:Ij Δ x=true) (hy:Ij Δ y=true):Mx Δ A B (aaS Θ A (some d) op T x y) (aaS Θ (mix Δ A B) (some d) op T x y):=by
 unfold aaS;rw[Xs hl hA hx,Xs hl hA hy];have fin:∀ a b:TV,Mx Δ A B (match xl op a b with
   |some (g,r)=>some (g,A.put (some d) (.v r []))
   |none=>none) (match xl op a b with
   |some (g,r)=>some (g,(mix Δ A B).put (some d) (.v r []))
   |none=>none):=λa b=>by
  cases xl op a b with
  |none=>exact bI
  |some q=>exact pB hl hB hA rfl hd km
 cases A.rd Θ T x with
 |none=>exact bI
 |some a=>
 cases A.rd Θ T y with
 |none=>exact bI
 |some b=>
 simp only;split
 ·cases Θ.is T .bool with
  |true=>exact fin a b
  |false=>exact bI
 ·cases Θ.is T a.t with
  |true=>exact fin a b
  |false=>exact bI
 exact fin a b
theorem adZ (T:TypeId) (hx:Ij Δ x=true) (f:Nat):Mx Δ A B (wa Θ A (some d) T x f) (wa Θ (mix Δ A B) (some d) T x f):=by
 unfold wa;rw[AR hl hx];cases e:A.pT Θ 0 x with
 |none=>exact bI
 |some a=>
 have ha:=wh hA hx e;cases Θ.find T with
 |none=>exact bI
 |some i=>
 simp only;cases Nat.blt f i.fs.length with
 |false=>exact bI
 |true=>
 simp only[ab];rw[af1 hl ha];cases et:A.RZ x a with
 |none=>exact bI
 |some g=>
 cases g with
 |k b=>
  obtain⟨t,m,y⟩:=b;simp only;cases decide (i.ty=t) with
  |false=>exact bI
  |true=>
  simp only[ab];split
  ·exact pB hl hB hA rfl hd km
  exact bI
 |pl t s p=>
 have hs:=aa' hx ha et;simp only;cases decide (i.ty=t) with
 |false=>exact bI
 |true=>
 simp only[ab];rw[D6 hl hs];split
 ·exact pB hl hB hA rfl hd (λs' h'=>by simp only[AV.refs,qf] at h';rw[←h'];exact hs)
 exact bI
theorem ad0 (T:TypeId) (hx:Ij Δ x=true) (hi:Ij Δ ix=true):Mx Δ A B (iM Θ A (some d) T x ix) (iM Θ (mix Δ A B) (some d) T x ix):=by
 unfold iM;rw[AR hl hx,Xt hl hA hi];have hr:∀ {t:Ty} {s:Nat} {p:Path},Δ s=true->∀ s',(AV.ad t s p).refs s'=true->Δ s'=true:=λhs s' h'=>by simp only[AV.refs,qf] at h';rw[←h'];exact hs
 split
 ·rename_i t m xs ex n pU _;cases Θ.is T (.sl t) with
  |false=>exact bI
  |true=>
  simp only[ab];split
  ·exact pB hl hB hA rfl hd km
  ·rename_i j;rw[D6 hl hx];split
   ·exact pB hl hB hA rfl hd (hr hx)
   exact bI
  exact bI
 ·rename_i t s p n pU _;have hs:=wh hA hx pU s J8;cases Θ.is T (.sl t) with
  |false=>exact bI
  |true=>
  simp only[ab];rw[D6 hl hs,D6 hl hs];split
  ·exact pB hl hB hA rfl hd km
  ·split
   ·exact pB hl hB hA rfl hd (hr hs)
   exact bI
  exact bI
 exact bI
theorem ad1 (T:TypeId) (hx:Ij Δ l=true) (hc:Ij Δ c=true):Mx Δ A B (wb Θ A (some d) T l c) (wb Θ (mix Δ A B) (some d) T l c):=by
 unfold wb;rw[Xt hl hA hx,Xt hl hA hc];split
 ·split
  ·split
   ·exact pB hl hB hA rfl hd km
   exact bI
  exact bI
 exact bI
theorem ahY (T T':TypeId) (hx:Ij Δ x=true):Mx Δ A B (wT Θ A (some d) T T' x) (wT Θ (mix Δ A B) (some d) T T' x):=by
 unfold wT;rw[Xs hl hA hx];split
 ·exact pB hl hB hA rfl hd km
 ·exact pB hl hB hA rfl hd km
 exact bI
end
theorem aoS (hl:B.length=A.length) (hA:cH Δ A) (hB:cH Δ B) (T:TypeId) (hx:Ij Δ x=true) (hy:Ij Δ y=true):Mx Δ A B (E0 Θ A T x y) (E0 Θ (mix Δ A B) T x y):=by
 unfold E0;rw[AR hl hx];cases e:A.pT Θ 0 x with
 |none=>exact bI
 |some a=>
 have ha:=wh hA hx e;simp only;rw[af1 hl ha];cases et:A.RZ x a with
 |none=>exact bI
 |some g=>
 cases g with
 |k b=>exact bI
 |pl t s p=>
 have hs:=aa' hx ha et;simp only;obtain⟨k1,k2⟩:=Oq (Θ:=Θ) hl hA hB hy T;rw[k1];cases ht:A.take Θ T y with
 |none=>exact bI
 |some q=>
 obtain⟨b,A1⟩:=q;obtain⟨c1,c2⟩:=k2 _ ht;have TZ:B.length=A1.length:=by rw[c2,hl]
 simp only[aS];cases Θ.is T b.t with
 |false=>exact bI
 |true=>
 simp only[ab];rw[D4 TZ hs];cases A1.at s with
 |v r ex=>
  simp only;cases v7 b p r.t r.m r.x with
  |none=>exact bI
  |some mz=>
  simp only;cases ex.all (λh=>!under h p) with
  |false=>exact bI
  |true=>
  simp only[ab];have l2:B.length=(A1.weaken s).length:=by simp[St.weaken,TZ]
  refine vF ?_ (Iu (KR c1 s) hs km) (by simp[St.weaken,c2]);rw[Sa TZ hB hs,TW l2 hs]
 |_=>exact bI
theorem akV (hl:B.length=A.length) (hA:cH Δ A) (hB:cH Δ B) (T:TypeId) (hy:Ij Δ y=true) (TZ:A1.length=A.length) (hA1:cH Δ A1): Mz Θ (mix Δ A B) (mix Δ A1 B) T y=mix Δ (Mz Θ A A1 T y) B/\cH Δ (Mz Θ A A1 T y)/\(Mz Θ A A1 T y).length=A.length:=by
 unfold Mz;rw[AR hl hy];split
 ·rename_i t s pU;have hs:=wh hA hy pU s J8;rw[D4 hl hs,D4 (by rw[hl,TZ]) hs];split
  ·rename_i t m xs _ _;cases m.fu with
   |true=>exact⟨rfl,hA1,TZ⟩
   |false=>exact⟨TW (by rw[hl,TZ]) hs _,Iu hA1 hs km,by simp[TZ]⟩
  exact⟨rfl,hA1,TZ⟩
 exact⟨rfl,hA1,TZ⟩
end Go.Pv
namespace Go.Pv
open List Int IntKind
variable {h:Hint} {O:vi} {Θ:nh} {hn:Hn} {ops:Array Oper} {ret:jD} {Δ:Nat->Bool} {A B:St}
theorem Xv (hB:cH Δ B):∀ (xs:List Operand) (Ts:List TypeId) (ps:List Pass) {A:St},B.length=A.length->cH Δ A->(∀ x∈xs,Ij Δ x=true)->Mx Δ A B (vC Θ A xs Ts ps) (vC Θ (mix Δ A B) xs Ts ps)
 |[],_,_,A,hl,hA,_=>by simp only[vC];exact vF rfl hA rfl
 |x::xs,[],_,A,hl,hA,_=>by simp only[vC];exact bI
 |x::xs,T::Ts,[],A,hl,hA,_=>by simp only[vC];exact bI
 |x::xs,T::Ts,p::ps,A,hl,hA,hx=>by
  simp only[vC];cases p with
  |val=>
   simp only;obtain⟨k1,k2⟩:=Xv hB xs Ts ps hl hA (λy hy=>hx y (by simp[hy]));rw[k1];cases ht:vC Θ A xs Ts ps with
   |none=>exact bI
   |some q=>obtain⟨c1,c2⟩:=k2 _ ht;exact vF rfl c1 c2
  |take=>
   simp only;obtain⟨j1,j2⟩:=Oq (Θ:=Θ) hl hA hB (hx x (by simp)) T;rw[j1];cases hk:A.take Θ T x with
   |none=>exact bI
   |some q=>
   obtain⟨a,A1⟩:=q;obtain⟨d1,d2⟩:=j2 _ hk;simp only[aS];obtain⟨k1,k2⟩:=Xv hB xs Ts ps (by rw[d2,hl]) d1 (λy hy=>hx y (by simp[hy]));rw[k1];cases ht:vC Θ A1 xs Ts ps with
   |none=>exact bI
   |some q=>obtain⟨c1,c2⟩:=k2 _ ht;exact vF rfl c1 (by rw[c2,d2])
  |Gq=>exact bI
theorem abb (hl:B.length=A.length):∀ {kE:List Cap},(∀ c∈kE,∀ t s p,c=.pl t s p->Δ s=true)->MF (mix Δ A B) kE=MF A kE
 |[],_=>rfl
 |c::r,hc=>by
  simp only[MF];rw[abb hl (λc' h'=>hc c' (by simp[h']))];have:aen (mix Δ A B) c=aen A c:=by
   cases c with
   |pl t s p=>simp only[aen];rw[Il hl (hc _ (by simp) t s p rfl)]
   |kv a=>rfl
  rw[this]
theorem Xw (hl:B.length=A.length) (hA:cH Δ A):∀ (xs:List Operand) (Ts:List TypeId) (l:List (Option TV)),(∀ x∈xs,Ij Δ x=true)->reads Θ (mix Δ A B) xs Ts l=reads Θ A xs Ts l
 |[],_,_,_=>by simp[reads]
 |x::xs,[],_,_=>by simp[reads]
 |x::xs,T::Ts,[],_=>by simp[reads]
 |x::xs,T::Ts,p::ps,hx=>by
  simp only[reads];rw[Xw hl hA xs Ts ps (λy hy=>hx y (by simp[hy])),AR hl (hx x (by simp))];cases p with
  |some a=>rfl
  |none=>
  simp only;cases e:A.pT Θ T x with
  |none=>rfl
  |some a=>
  have ha:=wh hA (hx x (by simp)) e;cases a with
  |EY f kE=>
  simp only;rw[abb hl (λc hc t s p ec=>ha s (by
   simp only[AV.refs,dB]
   exact⟨c,hc,by rw[ec];simp⟩))]
  |_=>simp only;rw[ane hl ha]
theorem aoT (hl:B.length=A.length) (hx:Ij Δ x=true):Rp (mix Δ A B) x=Rp A x:=by
 cases x with
 |tmp i=>simp only[Rp];rw[D4 hl hx]
 |_=>rfl
theorem Xx (hl:B.length=A.length):∀ (xs:List Operand) (l:List (Option TV)) (as:List Arg),(∀ x∈xs,Ij Δ x=true)->xS (mix Δ A B) xs l as=xS A xs l as
 |[],_,_,_=>rfl
 |x::xs,[],_,_=>rfl
 |x::xs,p::ps,[],_=>rfl
 |x::xs,p::ps,r::rs,hx=>by simp only[xS,Xx hl xs ps rs (λy hy=>hx y (by simp[hy])),aoT hl (hx x (by simp))]
def aqk (Δ:Nat->Bool) (A B:St) (K K':St->aa):Prop:=∀ A1,cH Δ A1->A1.length=A.length->K' (mix Δ A1 B)=K A1
theorem T4 (l:List TV):∀ s,(aeo l).refs s=true->Δ s=true:=λs hs=>by rw[aa6] at hs;cases hs
theorem aql (hl:B.length=A.length) (hA:cH Δ A) (hB:cH Δ B) {o:Oper} {d:Nat} (Fv:o.dst=some d) (hd:Δ d=true) {f:FuncId} {as:List Operand} {ts:List TypeId} (hx:∀ x∈as,Ij Δ x=true) {K K':St->aa} (hK:aqk Δ A B K K'): xC h O o f none as ts (mix Δ A B) K'=xC h O o f none as ts A K:=by
 unfold xC;obtain⟨k1,k2⟩:=Xv (Θ:=h.tab) hB as ts (O.sig f) hl hA hx;rw[k1];cases ht:vC h.tab A as ts (O.sig f) with
 |none=>rfl
 |some q=>
 obtain⟨l,A1⟩:=q;obtain⟨c1,c2⟩:=k2 _ ht;have TZ:B.length=A1.length:=by rw[c2,hl]
 simp only[aS,Og];rw[Xw TZ c1 as ts l hx];cases reads h.tab A1 as ts l with
 |none=>rfl
 |some args=>
 simp only;congr 1;funext rt;cases rt.refs with
 |cons _ _=>rfl
 |nil=>simp only;rw[Xx TZ as l args hx,Fv,PN TZ hB hd];rw[hK _ (D5 c1 hd (T4 _)) (by rw[eO,c2])]
theorem akW (hl:B.length=A.length) (hA:cH Δ A) (hB:cH Δ B) (hs:Δ s=true) (b:TV) (p:Path):(mix Δ A B).MG s b p=(A.MG s b p).map (λS=>mix Δ S B)/\∀ S,A.MG s b p=some S->cH Δ S/\S.length=A.length:=by
 cases p with
 |nil=>simp only[St.MG];refine⟨by rw[PN hl hB hs];rfl,λS e=>?_⟩;injection e with e;subst e;exact⟨D5 hA hs km,eO _ _ _⟩
 |cons st pp=>
 simp only[St.MG];rw[D4 hl hs];cases A.at s with
 |v r ex=>
  simp only;cases v7 b (st::pp) r.t r.m r.x with
  |none=>exact⟨rfl,λ_ e=>by cases e⟩
  |some q=>simp only;refine⟨by rw[PN hl hB hs];rfl,λS e=>?_⟩;injection e with e;subst e;exact⟨D5 hA hs km,eO _ _ _⟩
 |_=>exact⟨rfl,λ_ e=>by cases e⟩
theorem aqm {S S2:St} (hl:S2.length=S.length) {f:AV->AV->AV} (hf:f .dead .dead=.dead) (i:Nat):St.at (List.zipWith f S S2) i=f (S.at i) (S2.at i):=by
 by_cases hi:i<S.length
 ·unfold St.at;rw[aF,aF,aF,List.getElem?_zipWith,aU hi,aU (by omega:i<S2.length)];rfl
 rw[No (S:=S) (by omega),No (S:=S2) (by omega),No (by rw[iG];omega),hf]
theorem aeA {S S2:St} {s:Nat} (hl:S2.length=S.length):(S.again S2 s).length=S.length:=by
 unfold St.again;split
 ·rw[iG];omega
 exact hl
theorem af2 (hl:S2.length=S.length) (hS:cH Δ S) (h2:cH Δ S2):cH Δ (S.again S2 s):=λi k hk=>by
 rcases again_at (s:=s) hl i with hx |⟨t,r,ex,ha,_,_,_,hx⟩
 ·rw[hx] at hk;exact h2 i k hk
 rw[hx] at hk;exact hS i k (by rw[ha];exact hk)
theorem aoU (hl:B.length=A.length) (hl2:A2.length=A.length) (hs:Δ s=true):(mix Δ A B).again (mix Δ A2 B) s=mix Δ (A.again A2 s) B:=by
 unfold St.again;rw[D4 (by omega) hs];cases hA2:A2.at s with
 |v r ex=>
  simp only;refine Gr (by simp only[iG,rh]) λi=>?_;rw[aqm (by rw[rh,rh,hl2]) rfl,xE hl,xE (A:=A2) (by omega),xE (A:=List.zipWith (Xe s r.t) A A2) (by rw[iG];omega)];cases Δ i with
  |true=>simp only[ab];rw[aqm hl2 rfl]
  |false=>simp only[ae];unfold Xe;split<;>first |rfl |(rename_i h1 h2;rw[h1] at h2;cases h2)
 |_=>rfl
theorem aqn (hl:B.length=A.length) (hA:cH Δ A) (hB:cH Δ B) {o:Oper} {d:Nat} (Fv:o.dst=some d) (hd:Δ d=true) {f:FuncId} {j:Nat} {as:List Operand} {ts:List TypeId} (hx:∀ x∈as,Ij Δ x=true) {K K':St->aa} (hK:aqk Δ A B K K'): Oi h O o f j as ts (mix Δ A B) K'=Oi h O o f j as ts A K:=by
 unfold Oi;split;case h_2=>rfl
 rename_i x T hxj _;have hxx:=hx x (dv hxj);rw[AR hl hxx];cases e:A.pT h.tab T x with
 |none=>rfl
 |some av=>
 simp only;have ha:=wh hA hxx e;obtain⟨k1,k2⟩:=aez hl hA hB hxx ha;rw[k1];cases hp:D2 x av with
 |none=>cases A.pL x av<;>rfl
 |some sp=>
 obtain⟨s,p⟩:=sp;have hs:Δ s=true:=by
  cases av with
  |v b ex=>
   cases x with
   |tmp i=>simp only[D2,ah,aG] at hp;rw[←hp.1];exact hxx
   |_=>simp[D2] at hp
  |al t s' p'=>simp only[D2,ah,aG] at hp;rw[←hp.1];exact ha _ J8
  |_=>simp[D2] at hp
 cases ht:A.pL x av with
 |none=>rfl
 |some q=>
 obtain⟨b,A1⟩:=q;obtain⟨c1,c2⟩:=k2 _ ht;have TZ:B.length=A1.length:=by rw[c2,hl]
 simp only[aS];cases (!b.m.fu&&sX b.t b.m) with
 |false=>rfl
 |true=>
 simp only[ab];rw[Xw TZ c1 as ts _ hx];cases reads h.tab A1 as ts ((List.replicate as.length none).set j (some ⟨b.t,xD b.t b.m 0,b.x⟩)) with
 |none=>rfl
 |some args=>
 simp only;rw[Xx TZ as _ args hx];cases (Oh b.t b.m||xS A1 as ((List.replicate as.length none).set j (some ⟨b.t,xD b.t b.m 0,b.x⟩)) args) with
 |false=>rfl
 |true=>
 simp only[ab];congr 1;funext rt;split;case h_2=>rfl
 rename_i c _;cases (rt.res.all λd=>J5 d.m&&(uK d.t d.m||xS A1 as ((List.replicate as.length none).set j (some ⟨b.t,xD b.t b.m 0,b.x⟩)) args)) with
 |false=>rfl
 |true=>
 simp only[ab];split;case isFalse=>rfl
 split;case isFalse=>rfl
 obtain⟨r1,r2⟩:=akW TZ c1 hB hs ⟨b.t,b.m,rM b.t b.m b.x (‹c.t=b.t›▸c.x)⟩ p;rw[r1];cases hr:A1.MG s ⟨b.t,b.m,rM b.t b.m b.x (‹c.t=b.t›▸c.x)⟩ p with
 |none=>rfl
 |some A2=>obtain⟨d1,d2⟩:=r2 _ hr;simp only[aS];rw[aoU hl (by rw[d2,c2]) hs,Fv,PN (by rw[aeA (by rw[d2,c2]),hl]) hB hd];exact hK _ (D5 (af2 (by rw[d2,c2]) hA d1) hd (T4 _)) (by rw[eO,aeA (by rw[d2,c2])])
theorem Lp (hl:B.length=A.length) (hA:cH Δ A) (hB:cH Δ B) (ho:ops[i]?=some o) (ht:sE Δ o=true) {K K':St->aa} (hK:aqk Δ A B K K'): cV h O ops i (mix Δ A B) K'=cV h O ops i A K:=by
 unfold sE at ht;simp only[ai] at ht;obtain⟨⟨hg,hd⟩,hx⟩:=ht;have hg:o.guard=none:=by
  cases hq:o.guard with
  |none=>rfl
  |some _=>rw[hq] at hg;cases hg
 by_cases gy:∃ T x y,o.op=.store T x y
 ·obtain⟨T,x,y,fL⟩:=gy;have hdn:o.dst=none:=by
   cases hq:o.dst with
   |none=>rfl
   |some d=>unfold auZ at hd;rw[hq,fL] at hd;cases hd
  rw[fL] at hx;simp only[ai] at hx;have e1:∀ S K,cV h O ops i S K=match E0 h.tab S T x y with
    |some (g,S1)=>bif g then K (Mz h.tab S S1 T y) else none
    |none=>none:=λS K=>by
   unfold cV
   rw[ho]
   simp only[hg]
   unfold wV
   rw[fL]
   simp only[ev,fL,hdn]
   cases E0 h.tab S T x y with
   |none=>rfl
   |some q=>rfl
  have hm:=aoS (Θ:=h.tab) hl hA hB T hx.1 hx.2;rw[e1,e1,hm.1];cases he:E0 h.tab A T x y with
  |none=>rfl
  |some q=>obtain⟨g,A1⟩:=q;obtain⟨c1,c2⟩:=hm.2 _ he;simp only[aS];obtain⟨s1,s2,s3⟩:=akV (Θ:=h.tab) (A1:=A1) hl hA hB T hx.2 c2 c1;rw[s1,hK _ s2 s3]
 obtain⟨d,Fv⟩:∃ d,o.dst=some d:=by
  cases hq:o.dst with
  |none=>
   exfalso;cases fL:o.op with
   |store T x y=>exact gy ⟨T,x,y,fL⟩
   |_=>simp[auZ,hq,fL] at hd
  |some d=>exact⟨d,rfl⟩
 have hd:Δ d=true:=by
  cases fL:o.op with
  |store T x y=>exact absurd ⟨T,x,y,fL⟩ gy
  |_=>simpa[auZ,Fv,fL] using hd
 have key:∀ {evf:St->R0},Mx Δ A B (evf A) (evf (mix Δ A B))->(∀ S K,cV h O ops i S K=match evf S with
   |some (g,S1)=>bif g then K S1 else none
   |none=>none)->cV h O ops i (mix Δ A B) K'=cV h O ops i A K:=by
  intro evf hm hs
  rw[hs,hs,hm.1]
  cases he:evf A with
  |none=>rfl
  |some q=>
   obtain⟨g,A1⟩:=q
   obtain⟨c1,c2⟩:=hm.2 _ he
   simp only[aS]
   rw[hK A1 c1 c2]
 have stp:∀ S K,cV h O ops i S K=wV h O o S K:=λS K=>by unfold cV;rw[ho];simp only[hg]
 split at hx
 ·rename_i T x y fL;exact absurd ⟨T,x,y,fL⟩ gy
 ·rename_i T l c fL;simp only[ai] at hx;refine key (evf:=λS=>wb h.tab S (some d) T l c) (ad1 hl hA hB hd T hx.1 hx.2) λS K=>?_;rw[stp];unfold wV;rw[fL];simp only[ev,fL,Fv];try rfl
 ·rename_i T fL;refine key (evf:=λS=>My h.tab h.hn S (some d) T) (aoR hl hA hB hd T) λS K=>?_;rw[stp];unfold wV;rw[fL];simp only[ev,fL,Fv];try rfl
 ·rename_i T n ps fL;refine key (evf:=λS=>fw h.tab h.hn S (some d) T n ps.toList) (aba hl hA hB hd T n (aO.1 hx)) λS K=>?_;rw[stp];unfold wV;rw[fL];simp only[ev,fL,Fv];try rfl
 ·rename_i T x fL;refine key (evf:=λS=>tY h.tab S (some d) T x) (aqi hl hA hB hd T hx) λS K=>?_;rw[stp];unfold wV;rw[fL];simp only[ev,fL,Fv];try rfl
 ·rename_i x fL;refine key (evf:=λS=>Mw h.tab S (some d) o.type x) (aqj hl hA hB hd _ hx) λS K=>?_;rw[stp];unfold wV;rw[fL];simp only[ev,fL,Fv];try rfl
 ·rename_i x j fL;refine key (evf:=λS=>uZ S (some d) x j) (ahW hl hA hB hd hx j) λS K=>?_;rw[stp];unfold wV;rw[fL];simp only[ev,fL,Fv];try rfl
 ·rename_i op T x y T' fL;simp only[ai,b8] at hx;obtain⟨h1,h2,h3⟩:=hx;refine key (evf:=λS=>aaS h.tab S (some d) op T x y) (au6 hl hA hB hd op T h1 h2) λS K=>?_;rw[stp];unfold wV;split
  ·rename_i e;rw[fL] at e;cases e
  ·rename_i e;rw[fL] at e;cases e
  ·rename_i e;rw[fL] at e;rw[fL] at h3;injection e with e1 e2 e3 e4 e5;subst e4;simp[MH] at h3
  ·rename_i e;rw[fL] at e;rw[fL] at h3;injection e with e1 e2 e3 e4 e5;subst e4;simp[MH] at h3
  simp only[ev,fL,Fv];try rfl
 ·rename_i T x f fL;refine key (evf:=λS=>wa h.tab S (some d) T x f) (adZ hl hA hB hd T hx f) λS K=>?_;rw[stp];unfold wV;rw[fL];simp only[ev,fL,Fv];try rfl
 ·rename_i T x ix fL;simp only[ai] at hx;refine key (evf:=λS=>iM h.tab S (some d) T x ix) (ad0 hl hA hB hd T hx.1 hx.2) λS K=>?_;rw[stp];unfold wV;rw[fL];simp only[ev,fL,Fv];try rfl
 ·rename_i T T' x fL;refine key (evf:=λS=>wT h.tab S (some d) T T' x) (ahY hl hA hB hd T T' hx) λS K=>?_;rw[stp];unfold wV;rw[fL];simp only[ev,fL,Fv];try rfl
 ·rename_i as ts fL;have N9:=aO.1 hx;refine key (evf:=λS=>match iN h.tab S (some d) ts.toList as.toList with
   |some r=>some r
   |none=>u5 h.tab S (some d) ts.toList as.toList) ?_ λS K=>?_
  ·have h1:=akU (Θ:=h.tab) (ts:=ts.toList) hl hA hB hd N9;have h2:=ahX (Θ:=h.tab) (ts:=ts.toList) hl hA hB hd N9;refine⟨?_,λq hq=>?_⟩
   ·show(match iN h.tab (mix Δ A B) (some d) ts.toList as.toList with
     |some r=>some r
     |none=>u5 h.tab (mix Δ A B) (some d) ts.toList as.toList)=_
    rw[h1.1];cases iN h.tab A (some d) ts.toList as.toList with
    |none=>exact h2.1
    |some r=>rfl
   split at hq
   ·rename_i r hr;injection hq with hq;subst hq;exact h1.2 _ hr
   exact h2.2 _ hq
  rw[stp];unfold wV;rw[fL];simp only[ev,fL,Fv];try rfl
 ·rename_i f as ts fL;have N9:=aO.1 hx;rw[stp,stp];unfold wV;rw[fL];simp only;cases R5 (O.sig f) 0 with
  |none=>exact aql hl hA hB Fv hd N9 hK
  |some j=>exact aqn hl hA hB Fv hd N9 hK
 cases hx
end Go.Pv
namespace Go.Pv
open List Int IntKind
variable {h:Hint} {O:vi} {Θ:nh} {ops:Array Oper} {ret:jD} {Δ:Nat->Bool} {A B S:St} {K:St->aa}
theorem aeB (ht:sE Δ o=true):MH o.op=false:=by unfold sE at ht;simp only[ai] at ht;have hx:=ht.2;split at hx;all_goals first |(rename_i fL;rw[fL];rfl) |(simp only[ai,b8] at hx;exact hx.2.2) |cases hx
theorem akX (hl:B.length=A.length) (hA:cH Δ A) (hB:cH Δ B):cH Δ (mix Δ A B):=λi s hs=>by
 rw[xE hl] at hs;cases hi:Δ i with
 |true=>rw[hi] at hs;rw[←hi];exact hA i s hs
 |false=>rw[hi] at hs;rw[←hi];exact hB i s hs
theorem ahZ (d:List Nat):(λi=>!aoH d i)=R6 d:=by funext i;simp[aoH]
theorem Sb:cH (aoH d) S↔cH (R6 d) S:=
 ⟨λh=>by have:=h.not;rwa [ahZ] at this,λh=>h.not⟩
theorem abc (hS:cH Δ S) (ho:ops[i]?=some o) (ht:sE Δ o=true) (c:St->Bool) (hc:∀ X,cH Δ X->c X=true): cV h O ops i S K=cV h O ops i S (λX=>bif c X then K X else none):=by
 have h1:=Lp (h:=h) (O:=O) (A:=S) (B:=S) rfl hS hS ho ht (K:=λA1=>open Classical in if cH Δ A1 then K (mix Δ A1 S) else none) (K':=K) (λA1 hA hl=>(aA hA).symm);have h2:=Lp (h:=h) (O:=O) (A:=S) (B:=S) rfl hS hS ho ht (K:=λA1=>open Classical in if cH Δ A1 then K (mix Δ A1 S) else none) (K':=λX=>bif c X then K X else none) (λA1 hA hl=>by
  show(bif c (mix Δ A1 S) then K (mix Δ A1 S) else none)=open Classical in if cH Δ A1 then K (mix Δ A1 S) else none
  rw[aA hA,hc _ (akX (by rw[hl]) hA hS)];rfl)
 rw[aa9] at h1 h2;rw[h1,h2]
theorem ah0 (hS:cH Δ S) (ho:ops[i]?=some o) (ht:sE Δ o=true): cV h O ops i S K=cV h O ops i S (λX=>bif Nat.beq X.length S.length then K X else none):=by
 have h1:=Lp (h:=h) (O:=O) (A:=S) (B:=S) rfl hS hS ho ht (K:=λA1=>K (mix Δ A1 S)) (K':=K) (λA1 hA hl=>rfl);have h2:=Lp (h:=h) (O:=O) (A:=S) (B:=S) rfl hS hS ho ht (K:=λA1=>K (mix Δ A1 S)) (K':=λX=>bif Nat.beq X.length S.length then K X else none) (λA1 hA hl=>by
  show(bif Nat.beq (mix Δ A1 S).length S.length then K (mix Δ A1 S) else none)=K (mix Δ A1 S)
  rw[rh,hl,bV];rfl)
 rw[aa9] at h1 h2;rw[h1,h2]
theorem aeC (hS:cH Δ S) (hi:ops[i]?=some oi) (hj:ops[j]?=some oj) (ti:sE Δ oi=true) (tj:sE (λi=>!Δ i) oj=true): cV h O ops i S (λS1=>cV h O ops j S1 K)=cV h O ops i S (λA1=>cV h O ops j S (λB1=>K (mix Δ A1 B1))):=by
 have h1:=Lp (h:=h) (O:=O) (A:=S) (B:=S) rfl hS hS hi ti (K':=λS1=>cV h O ops j S1 K) (K:=λA1=>cV h O ops j S (λB1=>K (mix Δ A1 B1))) (λA1 hA hl=>by
  have h2:=Lp (h:=h) (O:=O) (Δ:=λi=>!Δ i) (A:=S) (B:=A1) hl hS.not hA.not hj tj (K':=K) (K:=λB1=>K (mix Δ A1 B1)) (λB1 hB hlB=>by rw[af0 (by rw[hl,hlB])])
  rw[af0 (by rw[hl])] at h2
  exact h2)
 rw[aa9] at h1;exact h1
theorem abd (hO:Ll O) (hS:cH Δ S) (hi:ops[i]?=some oi) (hj:ops[j]?=some oj) (ti:sE Δ oi=true) (tj:sE (λi=>!Δ i) oj=true):
  cV h O ops i S (λS1=>cV h O ops j S1 K)=cV h O ops j S (λS1=>cV h O ops i S1 K):=by
 have tn:(λi=>!(!Δ i))=Δ:=by funext i;simp
 rw[aeC hS hi hj ti tj,aeC (Δ:=λi=>!Δ i) hS.not hj hi tj (by rw[tn];exact ti)]
 obtain⟨ri,h1⟩:=y8 (h:=h) (O:=O) (ops:=ops) hO i (λo ho=>by rw[hi] at ho;injection ho with ho;subst ho;exact aeB ti) S
 obtain⟨rj,h2⟩:=y8 (h:=h) (O:=O) (ops:=ops) hO j (λo ho=>by rw[hj] at ho;injection ho with ho;subst ho;exact aeB tj) S
 -- the lengths are the same
 have l1:=λK=>ah0 (h:=h) (O:=O) (K:=K) hS hi ti
 have l2:=λK=>ah0 (h:=h) (O:=O) (K:=K) hS.not hj tj
 cases ri with
 |none=>simp only[h1,h2,gz];cases rj<;>rfl
 |some A1=>
  cases rj with
  |none=>simp only[h1,h2,gz,aL]
  |some B1=>
   simp only[h1,h2,aL] at l1 l2 ⊢
   have hA:A1.length=S.length:=by
    have:=l1 (λ_=>some ⟨[],[]⟩)
    cases hq:Nat.beq A1.length S.length with
    |true=>exact aw hq
    |false=>rw[hq] at this;cases this
   have hB:B1.length=S.length:=by
    have:=l2 (λ_=>some ⟨[],[]⟩)
    cases hq:Nat.beq B1.length S.length with
    |true=>exact aw hq
    |false=>rw[hq] at this;cases this
   rw[af0 (by rw[hA,hB])]
theorem aoV (h:S.at d=a) (hd:a≠ .dead):S.set d a=S:=by
 refine Gr (br) λi=>?_;rw[kN];split
 ·rename_i hi;rw[hi.1,h]
 rfl
theorem put_comm (hab:a≠b) (hu:∀ d,u.refs d=false) (hv:∀ d,v.refs d=false):(S.put (some a) u).put (some b) v=(S.put (some b) v).put (some a) u:=by
 refine Gr (by simp only[eO]) λi=>?_;have hV:∀ (S:St) (a b:Nat) (u:AV),a≠b->((S.put (some a) u).at b).TK=(S.at b).TK:=λS a b u hab=>by
  rw[nj,aq (λe=>hab e.1.symm)];cases hr:(S.at b).refs a with
  |false=>rfl
  |true=>
  have:(S.at b).TK=false:=(by cases hx:S.at b<;>first |rfl |(rw[hx] at hr;simp[AV.refs] at hr));rw[this];cases (S.at a).TK with
  |true=>rfl
  |false=>exact this
 simp only[nj,eO,hu,hv,ae];have hVa:=hV S b a v (pz hab);have hVb:=hV S a b u hab;simp only[nj,hu,hv,ae] at hVa hVb;rw[hVa,hVb];by_cases h1:i=a
 ·subst h1;by_cases hl:i<S.length
  ·rw[aq (λe=>hab e.1),aA ⟨rfl,hl⟩,aA ⟨rfl,hl⟩,hu];rfl
  rw[aq (λe=>hab e.1),aq (λe=>hl e.2),aq (λe=>hl e.2),aq (λe=>hab e.1),No (S:=S) (i:=i) (by omega)];simp[AV.refs]
 by_cases h2:i=b
 ·subst h2;by_cases hl:i<S.length
  ·rw[aA ⟨rfl,hl⟩,aq (λe=>h1 e.1),aA ⟨rfl,hl⟩,hv];rfl
  rw[aq (λe=>hl e.2),aq (λe=>h1 e.1),aq (λe=>h1 e.1),aq (λe=>hl e.2),No (S:=S) (i:=i) (by omega)];simp[AV.refs]
 rw[aq (λe=>h2 e.1),aq (λe=>h1 e.1),aq (λe=>h1 e.1),aq (λe=>h2 e.1)];have dr:∀ d,AV.dead.refs d=false:=λ_=>rfl;cases hra:(S.at i).refs a<;>cases hrb:(S.at i).refs b<;>cases (S.at a).TK<;>cases (S.at b).TK<;>simp only[hra,hrb,dr,dd,ee,aB,fE,ab,ae]
theorem T5 (hax:a≠x) (ht:∀ d,t.refs d=false) (hx:∀ d,(S.at x).refs d=false):List.set (S.put (some a) u) x t=St.put (S.set x t) (some a) u:=by
 refine Gr (by simp only[eO,br]) λi=>?_;have h1:(St.at (S.set x t) a).TK=(S.at a).TK:=by rw[kN,aq (λe=>hax e.1)]
 rw[kN,eO,nj,nj,br,h1];by_cases hi:i=x/\x<S.length
 ·rw[aA hi,aq (λe=>hax (e.1.symm.trans hi.1)),kN,aA hi,ht];rfl
 rw[aq hi,kN,aq hi]
theorem anf {i:Nat} {o:Oper} {a x p:Nat} (ho:ops[i]?=some o) (hg:o.guard=none) (hd:o.dst=some a) (fL:o.op=.extract (.tmp x) p) (S:St) (K:St->aa):cV h O ops i S K=match uZ S (some a) (.tmp x) p with
  |some (g,S1)=>bif g then K S1 else none
  |none=>none:=by
 unfold cV
 rw[ho]
 simp only[hg]
 unfold wV
 rw[fL]
 simp only[ev,fL,hd]
 try rfl
theorem au7 (hi:ops[i]?=some oi) (hj:ops[j]?=some oj) (hx:exB oi oj=true) (S:St) (K:St->aa):
  cV h O ops i S (λS1=>cV h O ops j S1 K)=cV h O ops j S (λS1=>cV h O ops i S1 K):=by
 unfold exB at hx
 split at hx
 case h_2=>cases hx
 rename_i a b x p y q g1 g2 d1 d2 o1 o2
 simp only[ai,b8] at hx
 obtain⟨e1,e2,e3,e4,e5⟩:=hx
 have e1:=aw e1
 subst e1
 have e2:p≠q:=λe=>by rw[e,bV] at e2;cases e2
 have e3:a≠b:=λe=>by rw[e,bV] at e3;cases e3
 have e4:a≠x:=λe=>by rw[e,bV] at e4;cases e4
 have e5:b≠x:=λe=>by rw[e,bV] at e5;cases e5
 have bf:∀ {a x:Nat},a≠x->Nat.beq a x=false:=λ{a x} xB=>by
  cases hq:Nat.beq a x with
  |false=>rfl
  |true=>exact absurd (aw hq) xB
 -- one extraction,on its own
 have one:∀ (S:St) (a p:Nat),a≠x->uZ S (some a) (.tmp x) p=match S.at x with
   | .PJ l=>(match l.getD p none with
    |some u=>some (true,St.put (S.set x (.PJ (bif u.m.fu then l else l.set p none))) (some a) (.v u []))
    |none=>none)
   |_=>none:=λS a p hax=>by
  unfold uZ
  simp only
  cases nM:S.at x with
  |PJ l=>
   simp only
   cases l.getD p none with
   |none=>rfl
   |some u=>
    simp only
    cases u.m.fu with
    |true=>simp only[ab];rw[aoV nM (λe=>by cases e)]
    |false=>simp only[ae,bf hax]
  |_=>rfl
 simp only[anf hi g1 d1 o1,anf hj g2 d2 o2,one _ _ _ e4,one _ _ _ e5]
 cases nM:S.at x with
 |PJ l=>
  simp only
  have hxl:x<S.length:=by
   refine cd λhl=>?_
   rw[No (S:=S) (i:=x) (Nat.le_of_not_lt hl)] at nM
   cases nM
  -- the tuple,behind the first
  have after:∀ (t:AV) (u:TV) (a:Nat),(∀ d,t.refs d=false)->a≠x->(St.put (S.set x t) (some a) (.v u [])).at x=t:=λt u a ht hax=>by
   rw[nj,aq (λe=>hax e.1.symm),kN,aA ⟨rfl,hxl⟩,ht];rfl
  have KT:∀ (l:List (Option TV)) (p q:Nat) (c:Bool),p≠q->(bif c then l else l.set p none).getD q none=l.getD q none:=λl p q c hpq=>by
   cases c with
   |true=>rfl
   |false=>simp only[ae,aF];rw[lN hpq]
  have ah1:∀ (l:List (Option TV)) (d:Nat),(AV.PJ l).refs d=false:=λ_ _=>rfl
  have nv:∀ (b:TV) (d:Nat),(AV.v b []).refs d=false:=λ_ _=>rfl
  cases hp:l.getD p none with
  |none=>
   cases hq:l.getD q none with
   |none=>rfl
   |some w=>
    simp only[ab,after _ _ _ (ah1 _) e5,KT _ _ _ _ (pz e2),hp]
  |some u=>
   cases hq:l.getD q none with
   |none=>simp only[ab,after _ _ _ (ah1 _) e4,KT _ _ _ _ e2,hq]
   |some w=>
    simp only[ab,after _ _ _ (ah1 _) e4,after _ _ _ (ah1 _) e5,KT _ _ _ _ e2,KT _ _ _ _ (pz e2),hp,hq]
    congr 1
    rw[T5 e4 (ah1 _) (by rw[kN,aA ⟨rfl,hxl⟩];exact ah1 _),T5 e5 (ah1 _) (by rw[kN,aA ⟨rfl,hxl⟩];exact ah1 _),wW,wW,put_comm e3 (nv _) (nv _)]
    congr 3
    cases u.m.fu<;>cases w.m.fu<;>simp only[ab,ae]
    rw[List.set_comm _ _ e2]
 |_=>rfl
theorem Iv:Ir ds S=true↔∀ d∈ds,cH (R6 d) S:=by unfold Ir;rw[aO];exact⟨λh d hd=>zP.1 (h d hd),λh d hd=>zP.2 (h d hd)⟩
end Go.Pv
namespace Go.Pv
open List Int IntKind
variable {h:Hint} {O:vi} {Θ:nh} {ops:Array Oper} {ret:jD} {Δ:Nat->Bool} {A B S S':St} {K:St->aa}
def ldV (Θ:nh) (S:St) (T:TypeId) (x:Nat):Option AV:=match S.RZ (.tmp x) (S.at x) with
 |some g=>match S.loadAt g with
  |some r=>bif ahN g.ty r&&Θ.is T g.ty then some r else none
  |none=>none
 |none=>none
theorem aA4 (S:St) (dst:Option Nat) (T:TypeId) (x:Nat):tY Θ S dst T (.tmp x)=(ldV Θ S T x).map λr=>(true,S.put dst r):=by
 unfold tY ldV;simp only[St.pT];cases S.RZ (.tmp x) (S.at x) with
 |none=>rfl
 |some g=>
 simp only;cases S.loadAt g with
 |none=>rfl
 |some r=>simp only;cases (ahN g.ty r&&Θ.is T g.ty)<;>rfl
def rootOf (x:Nat):AV->Nat
 | .al _ s _=>s
 | .ad _ s _=>s
 |_=>x
theorem aeD (hs:S'.at s=S.at s) (p:Path):S'.ki s p=S.ki s p:=by unfold St.ki;rw[hs]
theorem aqo (hs:S'.at s=S.at s) (p:Path):S'.place s p=S.place s p:=by unfold St.place;rw[hs]
theorem ah2 {x:Nat} {a:AV} {g:Tgt} (e:S.RZ (.tmp x) a=some g):(∀ t s p,g=.pl t s p->s=rootOf x a):=by
 intro t s p hg;subst hg;unfold St.RZ at e;split at e
 ·split at e
  ·cases e<;>rfl
  ·rename_i h1;injection h1 with h1;injection e with e;injection e with _ e _;rw[←e,←h1];rfl
  cases e<;>rfl
 ·split at e
  ·rename_i h1;injection h1 with h1;injection e with e;injection e with _ e _;rw[←e,←h1];rfl
  cases e<;>rfl
 ·split at e
  ·cases e<;>rfl
  ·injection e with e;injection e with _ e _;rw[←e];rfl
  cases e<;>rfl
 ·injection e with e;injection e with _ e _;rw[←e];rfl
 cases e
theorem aoW (hs:S'.at (rootOf x a)=S.at (rootOf x a)):S'.RZ (.tmp x) a=S.RZ (.tmp x) a:=by unfold St.RZ;split<;>first |rfl |(rename_i t s p;rw[show S'.ki s p=S.ki s p from aeD hs p])
theorem aeE (hx:S'.at x=S.at x) (hs:S'.at (rootOf x (S.at x))=S.at (rootOf x (S.at x))):ldV Θ S' T x=ldV Θ S T x:=by
 unfold ldV;rw[hx,aoW hs];cases hg:S.RZ (.tmp x) (S.at x) with
 |none=>rfl
 |some g=>
 simp only;have:S'.loadAt g=S.loadAt g:=by
  unfold St.loadAt;cases g with
  |k a=>rfl
  |pl t s p=>have:=ah2 hg t s p rfl;subst this;simp only[aeD hs,aqo hs]
 rw[this]
theorem aqp (e:ldV Θ S T x=some r) (k:Nat) (hk:r.refs k=true):k=rootOf x (S.at x):=by
 unfold ldV at e;cases hg:S.RZ (.tmp x) (S.at x) with
 |none=>rw[hg] at e;cases e
 |some g=>
 rw[hg] at e;simp only at e;cases hl:S.loadAt g with
 |none=>rw[hl] at e;cases e
 |some r'=>
 rw[hl] at e;simp only at e;cases hT:(ahN g.ty r'&&Θ.is T g.ty) with
 |false=>rw[hT] at e;cases e
 |true=>
 rw[hT] at e;simp only[ab,ah] at e;subst e;unfold St.loadAt at hl;split at hl
 ·injection hl with hl;rw[←hl] at hk;cases hk
 rename_i t s p;have hr:=ah2 hg t s p rfl;split at hl;case h_2=>cases hl
 rename_i a _;cases ha:a.m.fu with
 |true=>
 rw[ha] at hl;simp only[ab] at hl;split at hl
 ·injection hl with hl;rw[←hl] at hk;cases hk
 cases hl
 |false=>rw[ha] at hl;simp only[ae,ah] at hl;rw[←hl] at hk;have:s=k:=aw hk;rw[←this];exact hr
theorem aoX :rootOf x a=x∨a.refs (rootOf x a)=true:=by cases a<;>first |exact .inl rfl |exact .inr (bV _)
def Lone (a:Nat) (S:St):Prop:=∀ i,(S.at i).refs a=true->i=a
theorem ang (h:cH (R6 [a]) S):Lone a S:=λi hi=>by
 have:=h i a hi;have ha:R6 [a] a=true:=by simp[R6]
 rw[ha] at this;unfold R6 at this;simp only[vE,List.any_nil,AO] at this;exact aw this
theorem MJ (lc:Lone c S) (hk:k≠c):(S.put (some c) u).at k=S.at k:=by
 rw[nj,aq (λe=>hk e.1)];cases hq:(S.at k).refs c with
 |false=>rfl
 |true=>exact absurd (lc k hq) hk
theorem T6 (hu:u.refs c=false) (hc:c<S.length):(S.put (some c) u).at c=u:=by rw[nj,aA ⟨rfl,hc⟩,hu];rfl
theorem ah3 (la:Lone a S) (lb:Lone b S) (hua:u.refs a=false) (hub:u.refs b=false):Lone b (S.put (some a) u):=λi hi=>by
 by_cases h1:i=a
 ·subst h1;by_cases hl:i<S.length
  ·rw[T6 hua hl,hub] at hi;cases hi
  rw[No (by rw[eO];omega)] at hi;cases hi
 rw[MJ la h1] at hi;exact lb i hi
theorem aoY (hab:a≠b) (hua:u.refs a=false) (hub:u.refs b=false) (hva:v.refs a=false) (hvb:v.refs b=false) (la:Lone a S) (lb:Lone b S):(S.put (some a) u).put (some b) v=(S.put (some b) v).put (some a) u:=by
 have lb1:=ah3 la lb hua hub
 have la1:=ah3 lb la hvb hva
 refine Gr (by simp only[eO]) λi=>?_
 by_cases hl:i<S.length
 rotate_left
 ·rw[No (by rw[eO,eO];omega),No (by rw[eO,eO];omega)]
 by_cases h1:i=a
 ·subst h1
  rw[MJ lb1 hab,T6 hua hl,T6 hua (by rw[eO];exact hl)]
 ·by_cases h2:i=b
  ·subst h2
   rw[T6 hvb (by rw[eO];exact hl),MJ la1 h1,T6 hvb hl]
  ·rw[MJ lb1 h2,MJ la h1,MJ la1 h1,MJ lb h2]
theorem af3 {i:Nat} {o:Oper} {T:TypeId} {a x:Nat} (ho:ops[i]?=some o) (hg:o.guard=none) (hd:o.dst=some a) (fL:o.op=.load T (.tmp x)) (S:St) (K:St->aa):cV h O ops i S K=(ldV h.tab S T x).bind λr=>K (S.put (some a) r):=by unfold cV;rw[ho];simp only[hg];unfold wV;rw[fL];simp only[ev,fL,hd,aA4];cases ldV h.tab S T x<;>rfl
theorem au8 (hi:ops[i]?=some oi) (hj:ops[j]?=some oj) (hx:ldB oi oj=true) (hSi:cH (R6 (ap6 oi)) S) (hSj:cH (R6 (ap6 oj)) S) (K:St->aa):
  cV h O ops i S (λS1=>cV h O ops j S1 K)=cV h O ops j S (λS1=>cV h O ops i S1 K):=by
 unfold ldB at hx
 split at hx
 case h_2=>cases hx
 rename_i a b T x T' y g1 g2 d1 d2 o1 o2
 simp only[ai,b8] at hx
 obtain⟨e1,e2,e3,e4,e5⟩:=hx
 have ne:∀ {p q:Nat},Nat.beq p q=false->p≠q:=λe h=>by rw[h,bV] at e;cases e
 have e1:=ne e1
 have e2:=ne e2
 have e3:=ne e3
 have e4:=ne e4
 have e5:=ne e5
 unfold ap6 at hSi hSj
 rw[d1] at hSi
 rw[d2] at hSj
 have la:=ang hSi
 have lb:=ang hSj
 simp only[af3 hi g1 d1 o1,af3 hj g2 d2 o2]
 -- what stands elsewhere stays
 have keep:∀ {c:Nat} {u:AV},Lone c S->∀ k,k≠c->(S.put (some c) u).at k=S.at k:=λ{c u} lc k hk=>by
  rw[nj,aq (λe=>hk e.1)]
  cases hq:(S.at k).refs c with
  |false=>rfl
  |true=>exact absurd (lc k hq) hk
 have root:∀ {c z:Nat},Lone c S->c≠z->rootOf z (S.at z)≠c:=λ{c z} lc hz e=>by
  rcases aoX (x:=z) (a:=S.at z) with h1 |h1
  ·exact hz (by rw[←e,h1])
  ·rw[e] at h1;exact hz (lc z h1).symm
 have ey:∀ u,ldV h.tab (S.put (some a) u) T' y=ldV h.tab S T' y:=λu=>aeE (keep la y (pz e3)) (keep la _ (root la e3))
 have ex:∀ u,ldV h.tab (S.put (some b) u) T x=ldV h.tab S T x:=λu=>aeE (keep lb x (pz e4)) (keep lb _ (root lb e4))
 simp only[ey,ex]
 cases hu:ldV h.tab S T x with
 |none=>cases ldV h.tab S T' y<;>rfl
 |some u=>
  cases hv:ldV h.tab S T' y with
  |none=>rfl
  |some v=>
   simp only[aL]
   have rf:∀ {c z:Nat} {T:TypeId} {r:AV},ldV h.tab S T z=some r->Lone c S->c≠z->r.refs c=false:=λ{c z T r} hr lc hz=>by
    cases hq:r.refs c with
    |false=>rfl
    |true=>exact absurd (aqp hr c hq).symm (root lc hz)
   rw[aoY e1 (rf hu la e2) (rf hu lb e4) (rf hv la e3) (rf hv lb e5) la lb]
theorem abe:∀ (a b:List Nat),eqN a b=true->a=b
 |[],[],_=>rfl
 |x::r,y::s,h=>by simp only[eqN,ai] at h;rw[aw h.1,abe r s h.2]
theorem akY (hT:Θ.find T=some i) (hf:i.ty.flat=true) (e:ldV Θ S T x=some r) (hS:cH Δ S):cH Δ (S.put (some d) r):=by
 have hr:∀ s,r.refs s=false:=by
  unfold ldV at e;cases hg:S.RZ (.tmp x) (S.at x) with
  |none=>rw[hg] at e;cases e
  |some g=>
  rw[hg] at e;simp only at e;cases hl:S.loadAt g with
  |none=>rw[hl] at e;cases e
  |some r'=>
  rw[hl] at e;simp only at e;cases hq:(ahN g.ty r'&&Θ.is T g.ty) with
  |false=>rw[hq] at e;cases e
  |true=>
  rw[hq] at e;simp only[ab,ah] at e;subst e;simp only[ai] at hq;obtain⟨h1,h2⟩:=hq;have rS:i.ty=g.ty:=(by unfold nh.is at h2;rw[hT] at h2;simpa using h2);unfold St.loadAt at hl;split at hl
  ·injection hl with hl;rw[←hl];intro s;rfl
  split at hl;case h_2=>cases hl
  rename_i a _;cases ha:a.m.fu with
  |true=>
  rw[ha] at hl;simp only[ab] at hl;split at hl
  ·injection hl with hl;rw[←hl];intro s;rfl
  cases hl
  |false=>rw[ha] at hl;simp only[ae,ah] at hl;rw[←hl] at h1;unfold ahN at h1;rw[←rS,hf] at h1;cases h1
 intro k s hs;rw[nj] at hs;split at hs
 ·cases hq:r.refs d with
  |true=>rw[hr] at hq;cases hq
  |false=>rw[hq,ae,hr] at hs;cases hs
 revert hs;cases (S.at k).refs d&&(S.at d).TK with
 |true=>intro hs;cases hs
 |false=>intro hs;exact hS k s hs
theorem abf (hO:Ll O) (ho:ops[i]?=some o) (hn:MH o.op=false) (e:cV h O ops i S K=some ret):∃ X,(∀ K,cV h O ops i S K=K X)/\K X=some ret/\∀ d,Oj h.tab d o=true->cH (R6 d) S->cH (R6 d) X:=by
 obtain⟨ro,h1⟩:=y8 (h:=h) (O:=O) (ops:=ops) hO i (λo' ho'=>by rw[ho] at ho';injection ho' with ho';subst ho';exact hn) S;cases ro with
 |none=>rw[h1] at e;cases e
 |some X=>
 refine⟨X,λK=>h1 K,by rw[h1] at e;exact e,λd hk hS=>?_⟩;unfold Oj at hk;simp only[bo] at hk;rcases hk with ht |ht |ht
 ·have:=abc (h:=h) (O:=O) (K:=λ_=>some ⟨[],[]⟩) hS ho ht (λX=>vD (R6 d) X 0) (λX hX=>zP.2 hX);simp only[h1,aL] at this;cases hc:vD (R6 d) X 0 with
  |true=>exact zP.1 hc
  |false=>rw[hc] at this;cases this
 ·have:=abc (h:=h) (O:=O) (K:=λ_=>some ⟨[],[]⟩) (Sb.2 hS) ho ht (λX=>vD (R6 d) X 0) (λX hX=>zP.2 (Sb.1 hX));simp only[h1,aL] at this;cases hc:vD (R6 d) X 0 with
  |true=>exact zP.1 hc
  |false=>rw[hc] at this;cases this
 unfold ap7 at ht;split at ht;case h_2=>cases ht
 rename_i d' T x g1 g2 g3;split at ht;case h_2=>cases ht
 rename_i ti hti;have h2:=λK=>(af3 (h:=h) (O:=O) ho g1 g2 g3 S K).symm.trans (h1 K);cases hv:ldV h.tab S T x with
 |none=>have:=h2 (λ_=>some ⟨[],[]⟩);rw[hv] at this;cases this
 |some r=>have hX:S.put (some d') r=X:=(by refine cd λxB=>?_;have:=h2 (λY=>open Classical in if Y=X then some ⟨[],[]⟩ else none);rw[hv] at this;simp only[aL,aq xB,dF] at this;cases this);rw[←hX];exact akY hti ht hv hS
theorem au9 (hO:Ll O) (hw:∀ d∈us,cH (R6 d) S) (hi:ops[i]?=some oi) (hj:ops[j]?=some oj) (hp:TR us oi oj=true): cV h O ops i S (λS1=>cV h O ops j S1 K)=cV h O ops j S (λS1=>cV h O ops i S1 K):=by
 unfold TR at hp;simp only[bo,ai] at hp;rcases hp with hp |⟨h1,h2,h3⟩ |hp
 ·exact au7 hi hj hp S K
 ·have mem:∀ d,am9 us d=true->d∈us:=λd hd=>(by unfold am9 at hd;obtain⟨e,he,hq⟩:=dB.1 hd;rw[abe _ _ hq];exact he);exact au8 hi hj h1 (hw _ (mem _ h2)) (hw _ (mem _ h3)) K
 unfold aA1 at hp;obtain⟨d,hd,hp⟩:=dB.1 hp;simp only[bo,ai] at hp;rcases hp with⟨h1,h2⟩ |⟨h1,h2⟩
 ·exact abd hO (hw d hd) hi hj h1 h2
 exact abd hO (Sb.2 (hw d hd)) hi hj h1 (by rw[ahZ];exact h2)
theorem abg (hO:Ll O) {U:Nat->List (List Nat)} (hj:ops[j]?=some oj):∀ (p r:List Nat) {S:St} {K:St->aa} {ret:jD},(∀ x∈p,∃ ox,ops[x]?=some ox/\MH ox.op=false/\TR (U x) ox oj=true/\∀ d∈U x,cH (R6 d) S)-> p.Pairwise (λy x=>∀ d∈U x,∀ oy,ops[y]?=some oy->Oj h.tab d oy=true)-> J6 h O ops (p++j::r) S K=some ret->cV h O ops j S (λS1=>J6 h O ops (p++r) S1 K)=some ret
 |[],r,S,K,ret,hp,_,e=>e
 |x::p,r,S,K,ret,hp,hk,e=>by
  obtain⟨ox,hx,hn,hc,hw⟩:=hp x (by simp);simp only[bF,J6] at e ⊢;obtain⟨X,h1,h3,h2⟩:=abf hO hx hn e;rw[bZ] at hk;have h4:=abg hO hj p r (λy hy=>by
   obtain⟨oy,y1,y2,y3,y4⟩:=hp y (by simp[hy])
   exact⟨oy,y1,y2,y3,λd hd=>h2 d (hk.1 y hy d hd ox hx) (y4 d hd)⟩) hk.2 h3
  rw[←au9 hO hw hx hj hc,h1];exact h4
def aqq (Θ:nh) (ops:Array Oper) (as:List Nat) (ds:List (List Nat)) (l:List Nat) (i j:Nat):Prop:=∃ oi oj,ops[i]?=some oi/\ops[j]?=some oj/\i≠j/\Nat.testBit (dG j as 0 0) i=false/\(Nat.testBit (dG i as 0 0) j=true∨TR (ds.filter (afT Θ ops as l i j)) oi oj=true)
theorem KU :∀ {l:List Nat},Lj Θ ops as ds q l=true↔l.Pairwise (aqq Θ ops as ds q)
 |[]=>by simp[Lj]
 |i::r=>by
  simp only[Lj,ai,aO,bZ];rw[KU];refine and_congr ?_ Iff.rfl;refine AP λj=>?_;refine imp_congr Iff.rfl ?_;unfold aqq;cases hi:ops[i]? with
  |none=>simp
  |some oi=>
  cases hj:ops[j]? with
  |none=>simp
  |some oj=>
  simp only[ai,b8,bo,ah];constructor
  ·rintro⟨h1,h2⟩;exact⟨oi,oj,rfl,rfl,(λe=>by rw[e,bV] at h1;cases h1),h2⟩
  rintro⟨_,_,rfl,rfl,h1,h2⟩;refine⟨?_,h2⟩;cases hq:Nat.beq i j with
  |false=>rfl
  |true=>exact absurd (aw hq) h1
theorem aeF (h:afT Θ ops as l i j d=true) (hz:z∈l) (h1:z≠i) (h2:z≠j) (h3:Nat.testBit (dG i as 0 0) z=false) (h4:Nat.testBit (dG j as 0 0) z=false) (ho:ops[z]?=some oz):Oj Θ d oz=true:=by
 unfold afT at h;have h5:=aO.1 h z hz;rw[h3,h4,ho] at h5;simp only[bo,eV] at h5;rcases h5 with h5 |h5 |h5
 ·exact absurd (aw h5) h1
 ·exact absurd (aw h5) h2
 exact h5
theorem aqr (hl:∀ z∈l',z∈l) (h:afT Θ ops as l i j d=true):afT Θ ops as l' i j d=true:=aO.2 λz hz=>aO.1 h z (hl z hz)
theorem akZ (hu:∀ d∈us,d∈us') (h:TR us oi oj=true):TR us' oi oj=true:=by
 have any:∀ f:List Nat->Bool,us.any f=true->us'.any f=true:=λf hf=>by obtain⟨d,hd,hq⟩:=dB.1 hf;exact dB.2 ⟨d,hu d hd,hq⟩
 unfold TR at h ⊢;simp only[bo,ai] at h ⊢;rcases h with h |⟨h1,h2,h3⟩ |h
 ·exact .inl h
 ·exact .inr (.inl ⟨h1,any _ h2,any _ h3⟩)
 exact .inr (.inr (any _ h))
end Go.Pv
namespace Go.Pv
open List Int IntKind
def zc:Ty->List Value
 | .int k=>[.int k 0] | .bool=>[.bool false] | .str=>[.string ByteArray.empty] | .sl _=>[.slice none 0 0] | .ptr _=>[.pointer none] | .mp=>[.map none]
 | .pair a b=>zc a++zc b | .unit=>[] | .arr n t=>(List.replicate n (zc t)).flatten
def vX:Path->Ty->Option Ty
 |[],t=>some t
 | .fst::p,.pair a _=>vX p a
 | .snd::p,.pair _ b=>vX p b
 |_,_=>none
def veq:Value->Value->Bool
 | .int k n,.int k' n'=>decide (k=k')&&decide (n=n')
 | .bool a,.bool b=>a==b
 | .string a,.string b=>a.data.toList==b.data.toList
 | .slice none a b,.slice none c d=>Nat.beq a c&&Nat.beq b d
 | .pointer none,.pointer none=>true
 | .map none,.map none=>true
 |_,_=>false
def ak0:List Value->List Value->Bool
 |[],[]=>true
 |a::r,b::s=>veq a b&&ak0 r s
 |_,_=>false
theorem ayq (h:veq a b=true):a=b:=by
 unfold veq at h;split at h<;>simp at h
 ·obtain⟨rfl,rfl⟩:=h;rfl
 ·subst h;rfl
 ·rename_i a b;cases a;cases b;simp at h;rw[h]
 ·obtain⟨rfl,rfl⟩:=h;rfl
 ·rfl
 rfl
theorem af4:∀ {a b:List Value},ak0 a b=true->a=b
 |[],[],_=>rfl
 |a::r,b::s,h=>by simp only[ak0,ai] at h;rw[ayq h.1,af4 h.2]
 |[],_::_,h=>by simp[ak0] at h
 |_::_,[],h=>by simp[ak0] at h
def zOK (t:Ty) (z:Value):Bool:=match isAgg t,z with
 |true,.agg cs=>ak0 cs.toList (zc t)
 |true,_=>false
 |false,z=>ak0 [z] (zc t)
theorem aoZ (h:zOK t z=true):a7 t z (zc t):=by
 unfold zOK at h;unfold a7;split at h
 ·rename_i ha;rw[aA ha,←af4 h]
 ·cases h
 rename_i ha;rw[aq (by simp[ha]),←af4 h]
def Fw (Θ:nh) (ty:Ty) (n:Nat):List Field->Nat->Bool
 |[],_=>true
 |f::r,k=>(match vX (J0 k n) ty with
  |some t=>Θ.is f.type t&&Nat.beq f.offset (cE (J0 k n) ty)&&Nat.blt 0 t.size
  |none=>false)&&Fw Θ ty n r (k+1)
def aA5 (P:Program) (k e:TypeId):Bool:=match P.underlying k,P.underlying e,P.info? e with
 |some (.array n t),some .bool,some inf=>Nat.beq n 2&&Nat.beq (P.cellsOf k) 2&&Nat.beq (P.cellsOf t) 1&& !P.types.isEmpty&&(match P.underlying t with
  |some (.int .i64)=>true
  |_=>false)&&(match inf.zero with
  |some (.bool false)=>true
  |_=>false)
 |_,_,_=>false
def AS (P:Program) (Θ:nh) (i:TI):Bool:=match i.ty,P.underlying i.T with
 | .int k,some (.int k')=>decide (k=k')
 | .bool,some .bool=>true
 | .str,some .string=>true
 | .sl t,some (.slice e)=>Nat.beq e i.e&&Θ.is e t&&Nat.blt 0 t.size
 | .mp,some (.map k e)=>aA5 P k e
 | .arr n t,some (.array m e)=>Nat.beq m n&&Nat.beq e i.e&&Θ.is e t&&Nat.blt 0 t.size
 | .pair _ _, some (.struct fs) => decide (fs.toList.map (·.type) = i.fs) && Fw Θ i.ty fs.size fs.toList 0 && !P.eqGuardType P.depth i.T && !P.stoodInHeld i.T && fs.toList.all (fun f => f.name != "_")
 |_,_=>false
def axu (i:TI) (inf:TypeInfo):Bool:=Nat.beq inf.size i.ty.size&&Nat.ble i.ty.size 9000&&Nat.ble inf.bytes (32*i.ty.size)&&Nat.ble inf.bytes 256&&Nat.blt 0 inf.bytes&&match inf.zero with
 |some z=>zOK i.ty z
 |none=>false
def Ty.ht:Ty->Nat
 | .pair a b=>max a.ht b.ht+1
 |_=>0
def uOK (i:TI):Bool:=Nat.ble i.ty.ht 9000&&match i.fs,i.ty with
 |[_],.pair _ .unit=>true
 |[_],_=>false
 |[],.pair _ _=>false
 |_,_=>true
def ayr (P:Program) (Θ:nh) (i:TI):Bool:=((match P.info? i.T with
 |some inf=>axu i inf
 |none=>false)&&AS P Θ i)&&uOK i
def ke (P:Program) (Θ:nh):Bool:=Θ.all (ayr P Θ)
structure aA6 (P:Program) (i:TI):Prop where
 small:i.ty.size<=9000
 out:∃ inf z,P.info? i.T=some inf/\inf.size=i.ty.size/\inf.bytes<=32*i.ty.size/\inf.bytes<=256/\0<inf.bytes/\inf.zero=some z/\a7 i.ty z (zc i.ty)
theorem Lq {Θ:nh} {T:TypeId} {i:TI} (h:Θ.find T=some i):i∈Θ/\i.T=T:=by
 induction Θ with
 |nil=>simp[nh.find] at h
 |cons j r ih=>
 simp only[nh.find] at h;cases hb:Nat.beq j.T T with
 |true=>rw[hb] at h;simp only[ab,ah] at h;subst h;exact⟨by simp,aw hb⟩
 |false=>rw[hb] at h;simp only[ae] at h;exact⟨er _ (ih h).1,(ih h).2⟩
theorem kP (hT:ke P Θ=true) (h:Θ.find T=some i):aA6 P i/\AS P Θ i=true/\i.T=T:=by
 have h1:=aO.1 hT i (Lq h).1;simp only[ayr,ai] at h1;refine⟨?_,h1.1.2,(Lq h).2⟩;have h2:=h1.1.1;split at h2
 ·rename_i inf hi;simp only[axu,ai] at h2;obtain⟨⟨⟨⟨⟨a,sm⟩,b⟩,b'⟩,b''⟩,c⟩:=h2;split at c
  ·rename_i z hz;exact⟨bH sm,⟨inf,z,hi,aw a,bH b,bH b',jE (bH b''),hz,aoZ c⟩⟩
  cases c
 cases h2
theorem axv (hT:ke P Θ=true) (h:Θ.find T=some i):uOK i=true:=by have h1:=aO.1 hT i (Lq h).1;simp only[ayr,ai] at h1;exact h1.2
theorem pC {Θ:nh} {T:TypeId} {t:Ty} (h:Θ.is T t=true):∃ i,Θ.find T=some i/\i.ty=t:=by
 unfold nh.is at h;split at h
 ·rename_i i hi;exact⟨i,hi,by simpa using h⟩
 cases h
theorem Gs (h:AS P Θ i=true) (ht:i.ty=.sl t):P.underlying i.T=some (.slice i.e)/\Θ.is i.e t=true/\0<t.size:=by unfold AS at h;rw[ht] at h;split at h<;>simp_all;obtain⟨⟨a,b⟩,c⟩:=h;rw[←a];exact b
theorem T7 (h:AS P Θ i=true) (ht:i.ty=.int k):P.underlying i.T=some (.int k):=by unfold AS at h;rw[ht] at h;split at h<;>simp_all
theorem T8 (h:AS P Θ i=true) (ht:i.ty=.bool):P.underlying i.T=some .bool:=by unfold AS at h;rw[ht] at h;split at h<;>simp_all
theorem MK (h:AS P Θ i=true) (ht:i.ty=.str):P.underlying i.T=some .string:=by unfold AS at h;rw[ht] at h;split at h<;>simp_all
theorem Iw    (h : AS P Θ i = true) (ht : i.ty = .pair a b) : ∃ fs, P.underlying i.T = some (.struct fs) ∧ fs.toList.map (·.type) = i.fs ∧ Fw Θ i.ty fs.size fs.toList 0 = true ∧ P.eqGuardType P.depth i.T = false ∧ P.stoodInHeld i.T = false ∧ ∀ f ∈ fs, f.name ≠ "_" := by
 unfold AS at h
 rw[ht] at h
 split at h<;>simp_all
 intro f hf
 obtain⟨k,hk,rfl⟩:=Array.mem_iff_getElem.1 hf
 exact h.2 k hk
theorem ays (h:AS P Θ i=true) (ht:i.ty=.mp):∃ k e t,P.underlying i.T=some (.map k e)/\WideMaps.ArrKey P k t 2/\P.underlying t=some (.int .i64)/\(∃ m,P.types.size=m+1)/\∃ inf,P.info? e=some inf/\inf.zero=some (.bool false):=by
 unfold AS at h;rw[ht] at h;split at h<;>simp_all;rename_i k e he;unfold aA5 at h;split at h;case h_2=>cases h
 rename_i n t inf hk hb hi;simp only[ai] at h;obtain⟨⟨⟨⟨⟨h1,h2⟩,h3⟩,h4⟩,h5⟩,h6⟩:=h;have h1:=aw h1;subst h1;split at h5;case h_2=>cases h5
 rename_i hti;split at h6;case h_2=>cases h6
 rename_i hz;refine⟨k,e,⟨rfl,rfl⟩,t,⟨hk,by simp[Program.plainKey,hti],aw h3,aw h2⟩,hti,?_,inf,hi,hz⟩;have h4:0<P.types.size:=Array.size_pos_iff.2 (by simpa using h4);first |exact⟨P.types.size - 1,by omega⟩ |omega
theorem au' (h:AS P Θ i=true) (ht:i.ty=.arr n t):∃ e,P.underlying i.T=some (.array n e)/\Θ.is e t=true/\0<t.size:=by unfold AS at h;rw[ht] at h;split at h<;>simp_all;rw[←h.1.1.2];exact h.1.2
theorem T9 (h:AS P Θ i=true):(∃ d,P.underlying i.T=some d)/\(∀ t,i.ty≠ .ptr t)/\i.ty≠ .unit:=by unfold AS at h;split at h<;>simp_all
theorem zQ :∀ {l:List Field} {k0:Nat},Fw Θ ty n l k0=true->∀ k f,l[k]?=some f->∃ t,vX (J0 (k0+k) n) ty=some t/\Θ.is f.type t=true/\f.offset=cE (J0 (k0+k) n) ty/\0<t.size
 |[],_,_,k,f,h=>by simp at h
 |g::r,k0,AI,k,f,h=>by
  simp only[Fw,ai] at AI;cases k with
  |zero=>
  simp only[aE,ah] at h;subst h;have:=AI.1;split at this
  ·rename_i t ht;simp only[ai] at this;exact⟨t,ht,this.1.1,aw this.1.2,jE (bH this.2)⟩
  cases this
  |succ k=>simp only[eY] at h;have:=zQ AI.2 k f h;rw[show k0+1+k=k0+(k+1) from by omega] at this;exact this
theorem wX (hT:ke P Θ=true) (h:Θ.is T t=true):∃ inf,P.info? T=some inf/\inf.size=t.size/\P.cellsOf T=t.size:=by obtain⟨i,hi,rfl⟩:=pC h;obtain⟨⟨_,inf,z,h1,h2,_⟩,_,rfl⟩:=kP hT hi;exact⟨inf,h1,h2,by simp[Program.cellsOf,h1,h2]⟩
theorem ak1 (hT:ke P Θ=true) (h:Θ.is T t=true) (w:World):(Go.isAgg T).run P w=.ok (isAgg t) w:=by obtain⟨i,hi,rfl⟩:=pC h;obtain⟨_,hu,rfl⟩:=kP hT hi;have hn:=T9 hu;unfold AS at hu;unfold Go.isAgg;split at hu<;>simp_all [underlying,program,isAgg,Sem.run]
variable {w w':World} {A A':Nat->Prop} {H:Nat->Value} {tm Nj:Nat->Value} {S S':St} {σ:Nat->Option Nat} {w0:World} {W0 Z:Nat->Prop} {a:Act} {own:Nat->Prop} {v:Value} {Θ:nh}
theorem AT (g off n:Nat):(⟨g,off,none⟩:Addr).add n=⟨g,off+n,none⟩:=by
 unfold Addr.add;split
 ·rename_i h;subst h;rfl
 rfl
theorem anh {t:Ty} {xs:List t.I} {X:Option Addr} {c lo hi:Nat} (h:K w A (.sl t) xs [.slice X xs.length c]) (h1:lo<=hi) (h2:hi<=xs.length):
  K w A (.sl t) ((xs.take hi).drop lo) [.slice (if c=lo then X else X.map (·.add (lo*t.size))) (hi - lo) (c - lo)]:=by
 simp only[K] at h ⊢
 obtain⟨X',c',e,hc,h⟩:=h
 simp only[eB,fx,iO,cp] at e
 obtain⟨rfl,rfl⟩:=e
 have hl:((xs.take hi).drop lo).length=hi - lo:=by rw[a8,aH];omega
 refine⟨_,_,by rw[hl],by omega,λhp=>?_⟩
 rw[hl] at hp
 obtain⟨g,off,cur,T,fr,rfl,hg,hw,ho,hj⟩:=h (by omega)
 have e1:(lo+(hi - lo))*t.size<=xs.length*t.size:=aD _ (by omega)
 rw[bg] at e1
 refine⟨g,off+lo*t.size,cur,T,fr,?_,hg,hw,by rw[hl];omega,λj hj1=>?_⟩
 rotate_left
 ·have Mt:j<hi - lo:=by rw[←hl];exact hj1
  have:=hj (lo+j) (by omega)
  rw[show((xs.take hi).drop lo)[j]=xs[lo+j]'(by omega) from by simp]
  rw[show off+lo*t.size+j*t.size=off+(lo+j)*t.size from by rw[bg];omega]
  exact this
 ·rw[aq (by omega)]
  simp only[aS,AT]
theorem u6 (h:dp σ w0 W0 Z H S a w) (hr:Ref (gV a) S t s p r lB): ∃ ex b kY kF,S.at s=.v r ex/\open_ p ex/\dP p r.t r.m r.x=some b/\b.t=t/\M w (Av σ Z) H r.t r.m r.x lB (λg=>σ g=some s) ex/\ cD w p r.t lB=some kY/\(∀ g,kF g->σ g=some s)/\M w (Av σ Z) H b.t b.m b.x kY kF (TQ p ex):=by
 obtain⟨⟨ex,h1,h2⟩,h3,⟨b,h4,h5⟩,h6⟩:=hr;have hh:=h.holds s;rw[h1] at hh;obtain⟨cs,hm,hM⟩:=hh;obtain rfl:=oP h6 hm;obtain⟨kY,kF,k1,k2,k3⟩:=focus p hM h2 h3 h4
 exact⟨ex,b,kY,kF,h1,h2,h4,h5,hM,k1,k2,k3⟩
theorem nk (h:dp σ w0 W0 Z H S a w) (hr:Ref (gV a) S t s p r lB) (hc:cD w p r.t lB=some cs) (hp:S.place s p=some b): b.t=t/\∃ kF,(∀ g,kF g->σ g=some s)/\M w (Av σ Z) H b.t b.m b.x cs kF []:=by
 obtain⟨ex,b',kY,kF,h1,h2,h3,h4,hM,k1,k2,k3⟩:=u6 h hr;unfold St.place at hp;rw[h1] at hp;simp only at hp;cases tZ:ex.all λq=>!v8 q p with
 |false=>rw[tZ] at hp;cases hp
 |true=>rw[tZ] at hp;simp only[ab] at hp;rw[h3] at hp;injection hp with hp;subst hp;rw[k1] at hc;injection hc with hc;subst hc;rw[Rr (λq hq=>by simpa using aO.1 tZ q hq)] at k3;exact⟨h4,kF,k2,k3⟩
theorem Ot (h:dp σ w0 W0 Z H S a w) (hh:Holds w (Av σ Z) H (gV a) S own av v) (e:S.PK av=some b): ∃ cs,a7 b.t v cs/\K w (λ_=>False) b.t b.x cs/\(b.m.fu=true->K w (Av σ Z) b.t b.x cs):=by
 cases av with
 |v a ex=>
  cases ex with
  |cons _ _=>simp[St.PK] at e
  |nil=>simp only[St.PK,ah] at e;subst e;obtain⟨cs,h1,h2⟩:=hh;exact⟨cs,h1,akL h2,λhk=>tJ _ hk h2⟩
 |al t s p=>simp only[St.PK] at e;obtain⟨r,lB,cs,hr,hc,hm⟩:=hh;obtain⟨rfl,kF,k2,k3⟩:=nk h hr hc e;exact⟨cs,hm,akL k3,λhk=>tJ _ hk k3⟩
 |cut t s p lo hi=>
  simp only[St.PK] at e;obtain⟨r,lB,t',X,n,c,hr,rfl,hc,hlo,hhi,rfl⟩:=hh;cases hp:S.place s p with
  |none=>rw[hp] at e;cases e
  |some b'=>obtain⟨ht,kF,k2,k3⟩:=nk h hr hc hp;obtain⟨bt,bm,bx⟩:=b';simp only at ht;subst ht;rw[hp] at e;simp only[ah] at e;subst e;have hK:=akL k3;have hn:n=length bx:=(by simp only[K] at hK;obtain⟨_,_,e,_⟩:=hK;simp only[eB,fx,iO] at e;exact e.2.1);subst hn;exact⟨_,by simp[a7,isAgg],anh hK hlo hhi,λhk=>anh (tJ _ hk k3) hlo hhi⟩
 |_=>simp[St.PK] at e
theorem qw (h:dp σ w0 W0 Z H S a w) (e:S.rd Θ T x=some b): ∃ cs,a7 b.t (a.eval x) cs/\K w (λ_=>False) b.t b.x cs/\(b.m.fu=true->K w (Av σ Z) b.t b.x cs):=by
 unfold St.rd at e;split at e
 ·rename_i av pU;exact Ot h (eU h pU) e
 cases e
theorem kZ {k:IntKind} {v:Value} {cs:List Value} {x:Int} (h:a7 (.int k) v cs) (hk:K w A (.int k) x cs):v=.int k x:=by simp only[K] at hk;simp only[a7,isAgg] at h;subst hk;simpa using h.symm
theorem lO {v:Value} {cs:List Value} {x:Bool} (h:a7 .bool v cs) (hk:K w A .bool x cs):v=.bool x:=by simp only[K] at hk;simp only[a7,isAgg] at h;subst hk;simpa using h.symm
theorem qO {v:Value} {cs:List Value} {x:ByteArray} (h:a7 .str v cs) (hk:K w A .str x cs):v=.string x:=by simp only[K] at hk;simp only[a7,isAgg] at h;subst hk;simpa using h.symm
theorem Ix {t:Ty} {v:Value} {cs:List Value} {x:List t.I} (h:a7 (.sl t) v cs) (hk:K w A (.sl t) x cs):∃ X c,v=.slice X x.length c/\cs=[.slice X x.length c]/\x.length<=c:=by have uI:=hk;simp only[K] at uI;obtain⟨X,c,rfl,hc,_⟩:=uI;simp only[a7,isAgg] at h;exact⟨X,c,by simpa using h.symm,rfl,hc⟩
theorem za (h:dp σ w0 W0 Z H S a w) (e:S.G1 Θ x=some n):∃ k,a.eval x=.int k n:=by
 unfold St.G1 at e;split at e
 ·rename_i k m n' hb;injection e with e;subst e;obtain⟨cs,h1,h2,_⟩:=qw h hb;exact⟨k,kZ h1 h2⟩
 cases e
theorem ML (h:a7 t v cs) (hk:K w A t x cs):Holds w A H tm S (λ_=>False) (.v ⟨t,.k,x⟩ []) v:=⟨cs,h,ua t hk⟩
theorem mC (k:IntKind) (n:Int):Holds w A H tm S (λ_=>False) (.v ⟨.int k,.k,n⟩ []) (.int k n):=ML (cs:=[.int k n]) (by simp[a7,isAgg]) (by simp[K])
theorem kQ (b:Bool):Holds w A H tm S (λ_=>False) (.v ⟨.bool,.k,b⟩ []) (.bool b):=ML (cs:=[.bool b]) (by simp[a7,isAgg]) (by simp[K])
theorem aeG (b:ByteArray):Holds w A H tm S (λ_=>False) (.v ⟨.str,.k,b⟩ []) (.string b):=ML (cs:=[.string b]) (by simp[a7,isAgg]) (by simp[K])
end Go.Pv
