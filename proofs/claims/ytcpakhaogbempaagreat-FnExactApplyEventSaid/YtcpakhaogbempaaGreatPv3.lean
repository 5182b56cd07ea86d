/- A verified evaluator of the program's form over pure values, part 3: what it tells of a function holds. -/
import Derived.Test.YtcpakhaogbempaaGreatPv2
import Derived.OrdersHeld
namespace Go.Pv
set_option linter.unusedVariables false
set_option linter.unusedSimpArgs false
variable {P:Program} {w w':World} {A A' Wr:Nat→Prop} {H:Nat→Value} {tm qH:Nat→Value} {S S' S1:St} {σ bL dN:Nat→Option Nat} {w0:World} {W0 Z:Nat→Prop} {a:Act} {own:Nat→Prop} {v:Value} {Θ:db} {dst:Option Nat}
theorem a6.setAt (h:a6 σ w0 W0 Z H S a w) {i:Nat} {av:AV} (ur:∀ j,j≠i→(S.at j).refs i=false) (hv:Holds w (Av σ Z) H (bZ a) (S.set i av) (fun g=>σ g=some i) av (bZ a i)):
  a6 σ w0 W0 Z H (S.set i av) a w:=by
 refine⟨by rw[List.length_set];exact h.len,h.defers,h.fr,h.new,h.lt,h.old,fun j=>?_⟩
 rw[cQ]
 by_cases hj:j=i∧i<S.length
 ·rw[if_pos hj,hj.1]
  exact hv
 ·rw[if_neg hj]
  by_cases la:j=i
  ·have:S.at j=.dead:=Classical.byContradiction fun hx=>hj ⟨la,by rw[←la];exact dZ hx⟩
   rw[this]
   trivial
  ·refine(h.holds j).kept (aU.refl _ _) (fun g hg _=>⟨rfl,hg⟩) (fun s hs=>?_)
   have hsi:s≠i:=fun e=>by subst e;rw[ur j la] at hs;cases hs
   exact⟨fun r ex hr=>by rw[cQ,if_neg (fun e=>hsi e.1)];exact hr,rfl,_,h.holds s,fun _ _ _=>rfl⟩
theorem a6.part (h:a6 σ w0 W0 Z H S a w) {i:Nat} (hi:∀ r ex,S.at i≠ .v r ex) (hl:i<S.length) {Q:Nat→Prop} {av:AV} (hv:Holds w (Av σ Z) H (bZ a) (S.set i av) (fun g=>σ g=some i∧ ¬Q g) av (bZ a i)):
  ∃ bL,a6 bL w0 W0 Z H (S.set i av) a w∧fT σ bL S.length (fun g=>σ g=some i∧Q g):=by
 let bL:Nat→Option Nat:=fun g=>open Classical in if σ g=some i∧Q g then some S.length else σ g
 have hs:∀ g j,bL g=some j→∃ k,σ g=some k:=fun g j hg=>by
  simp only[bL] at hg
  split at hg
  ·rename_i hx;exact⟨i,hx.1⟩
  ·exact⟨j,hg⟩
 have nC:∀ g j,σ g=some j→¬(σ g=some i∧Q g)→bL g=some j:=fun g j hg hn=>by simp only[bL,if_neg hn,hg]
 have bU:aU w w (Av σ Z) (Av bL Z):=⟨fun _ _ _=>rfl,fun g _ hg=>by
  rcases hg with⟨j,hg⟩ |hg
  ·exact .inl (hs g j hg)
  ·exact .inr hg⟩
 refine⟨bL,⟨by rw[List.length_set];exact h.len,h.defers,h.fr,fun g j hg=>(hs g j hg).elim fun k hk=>h.new g k hk,fun g j hg=>(hs g j hg).elim fun k hk=>h.lt g k hk,fun g hg=>⟨?_,(h.old g hg).2⟩,fun j=>?_⟩,?_⟩
 ·simp only[bL]
  rw[if_neg (fun hx=>by rw[(h.old g hg).1] at hx;cases hx.1)]
  exact(h.old g hg).1
 ·rw[cQ]
  by_cases hj:j=i
  ·rw[if_pos ⟨hj,hl⟩,hj]
   exact hv.kept bU (fun g hg _=>⟨rfl,nC g i hg.1 (fun hx=>hg.2 hx.2)⟩) (fun s _=>⟨fun _ _ h=>h,rfl,by
    by_cases hsi:s=i
    ·subst hsi
     rw[cQ,if_pos ⟨rfl,hl⟩]
     exact⟨_,hv,fun _ _ _=>rfl⟩
    ·rw[cQ,if_neg (fun e=>hsi e.1)]
     refine⟨_,(h.holds s).kept (aU.refl _ _) (fun g hg _=>⟨rfl,hg⟩) (fun s1 hs1=>⟨fun r ex hr=>?_,rfl,_,h.holds s1,fun _ _ _=>rfl⟩),fun _ _ _=>rfl⟩
     by_cases axQ:s1=i
     ·subst axQ;exact absurd hr (hi r ex)
     ·rw[cQ,if_neg (fun e=>axQ e.1)];exact hr⟩)
  ·rw[if_neg (fun e=>hj e.1)]
   refine(h.holds j).kept bU (fun g hg _=>⟨rfl,nC g j hg (fun hx=>hj (by rw[hx.1] at hg;injection hg with hg;exact hg.symm))⟩) (fun s hs1=>⟨fun r ex hr=>?_,rfl,_,h.holds s,fun _ _ _=>rfl⟩)
   by_cases hsi:s=i
   ·subst hsi;exact absurd hr (hi r ex)
   ·rw[cQ,if_neg (fun e=>hsi e.1)];exact hr
 ·refine⟨fun g hg=>⟨i,hl,hg.1⟩,fun g hg=>⟨_,Nat.le_refl _,by simp only[bL,if_pos hg]⟩,fun g j hg hj=>?_,fun g=>⟨fun⟨j,hg⟩=>hs g j hg,fun⟨j,hg⟩=>?_⟩,fun g j hg hj=>nC g j hg (fun hx=>?_)⟩
  ·simp only[bL] at hg
   split at hg
   ·injection hg with hg;omega
   ·exact hg
  ·simp only[bL]
   split
   ·exact⟨_,rfl⟩
   ·exact⟨j,hg⟩
  ·rw[hx.1] at hg
   injection hg with hg
   omega
theorem gG.still {s:Sem Next} (hr:∀ w2,s.run P w2=.ok (.value v) w2) (h:gG P w0 W0 Z H S' a dst w s):lW P w0 W0 Z H S' a dst w s:=by
 obtain⟨v',h1,h2⟩:=h
 have:=(h1 w (Ext.refl w)).symm.trans (hr w)
 injection this with this
 injection this with this
 subst this
 exact⟨_,hr,h2⟩
theorem Es (h:a6 σ w0 W0 Z H S a w) {o:Oper} {x:Operand} {j:Nat} (ho:o.op=.extract x j) (e:fC S o.dst x j=some (true,S')):lW P w0 W0 Z H S' a o.dst w (execOp a.eval o):=by
 unfold fC at e
 split at e
 case h_2=>cases e
 rename_i i
 split at e
 case h_2=>cases e
 rename_i l hl
 split at e
 case h_2=>cases e
 rename_i b hb
 have hh:=h.holds i
 rw[hl] at hh
 obtain⟨vs,τ,hv,hlen,um⟩:=hh
 have hbj:l[j]?=some (some b):=by
  rw[List.getD_eq_getElem?_getD] at hb
  cases hq:l[j]? with
  |none=>rw[hq] at hb;cases hb
  |some q=>rw[hq] at hb;simp only[Option.getD_some] at hb;rw[hb]
 obtain⟨u,cs,hu,hm,hM⟩:=um j b hbj
 have cf:∀ w2,(execOp a.eval o).run P w2=.ok (.value u) w2:=fun w2=>by
  have:a.eval (.tmp i)=.tuple vs.toArray:=hv
  simp[execOp,ho,this,Instr.extract,hu]
 cases hk:b.m.bM with
 |true=>
  rw[hk] at e
  simp only[cond_true,Option.some.injEq,Prod.mk.injEq,true_and] at e
  subst e
  exact cd h cf ⟨cs,hm,nE hk (ft _ hk hM)⟩
 |false=>
  rw[hk] at e
  simp only[cond_false] at e
  split at e
  case h_2=>cases e
  rename_i d hd
  cases Ro:Nat.beq d i with
  |true=>rw[Ro] at e;cases e
  |false=>
  rw[Ro] at e
  simp only[cond_false,Option.some.injEq,Prod.mk.injEq,true_and] at e
  subst e
  rw[←hd]
  have GY:i<S.length:=dZ (by rw[hl];exact fun e=>by cases e)
  obtain⟨bL,h1,Q5⟩:=h.part (i:=i) (fun r ex=>by rw[hl];exact fun e=>by cases e) GY (Q:=fun g=>τ g=j) (av:=.th (l.set j none)) ⟨vs,τ,hv,by rw[List.length_set];exact hlen,fun k b' fV=>by
   rw[List.getElem?_set] at fV
   split at fV
   ·split at fV<;>cases fV
   ·rename_i RG
    obtain⟨u',cK,c1,c2,c3⟩:=um k b' fV
    exact⟨u',cK,c1,c2,aJ (aU.refl _ _) _ (fun _ _ _=>rfl) (fun g hg _=>⟨⟨hg.1,fun hx=>RG (by rw[←hx,hg.2])⟩,hg.2⟩) (fun _ h=>h) c3⟩⟩
  exact gG.still (v:=u) cf (nU (n:=S.length) h1 Q5 (List.length_set) (fun w2 _=>cf w2) hm (aJ (aU.refl _ _) _ (fun _ _ _=>rfl) (fun g hg _=>hg) (fun _ h=>h) hM))
theorem ac2 (S:St) (d:Nat) (b:TV) (ex:List Path) (i:Nat) (hi:∀ j,(S.at j).refs i=false) (j:Nat):((S.put (some d) (.v b ex)).at j).refs i=false:=by
 rw[dD]
 split
 ·simp[AV.refs]
 ·cases hr:(S.at j).refs d&&(S.at d).zQ with
  |true=>simp[AV.refs]
  |false=>exact hi j
theorem ZB (S:St) (i:Nat) (hv:(S.at i).zQ=true) (j:Nat):((S.put (some i) .dead).at j).refs i=false:=by
 rw[dD]
 split
 ·simp[AV.refs]
 ·rw[hv,Bool.and_true]
  cases hr:(S.at j).refs i with
  |true=>simp[AV.refs]
  |false=>exact hr
theorem ZC (h:a6 σ w0 W0 Z H S a w) {o:Oper} {x:Operand} (ho:o.op=.assign x) (e:DJ Θ S o.dst o.type x=some (true,S')):gG P w0 W0 Z H S' a o.dst w (execOp a.eval o):=by
 have cf:∀ w2,Ext w w2→(execOp a.eval o).run P w2=.ok (.value (a.eval x)) w2:=fun w2 _=>by simp only[execOp,ho];rfl
 unfold DJ at e
 split at e
 case h_2=>
  split at e
  ·injection e with e
   injection e with _ e
   subst e
   exact cv h cf trivial
  ·cases e
 rename_i av dz
 have hh:=bC h dz
 split at e
 ·-- a value of a temporary
  rename_i d i b ex hd
  cases hk:b.m.bM with
  |true=>
   rw[hk] at e
   simp only[cond_true,Option.some.injEq,Prod.mk.injEq,true_and] at e
   subst e
   obtain⟨cs,h1,h2⟩:=hh
   exact cv h cf ⟨cs,h1,nE hk (ft _ hk h2)⟩
  |false=>
   rw[hk] at e
   simp only[cond_false] at e
   split at e
   case h_2=>cases e
   cases Ro:(Nat.beq d i|| !Nat.blt d S.length) with
   |true=>rw[Ro] at e;cases e
   |false=>
   rw[Ro] at e
   simp only[cond_false,Option.some.injEq,Prod.mk.injEq,true_and] at e
   subst e
   simp only[Bool.or_eq_false_iff,Bool.not_eq_false'] at Ro
   have axR:d≠i:=fun e=>by rw[e,Nat.beq_refl] at Ro;cases Ro.1
   have GG:d<S.length:=Nat.lt_of_succ_le (Nat.le_of_ble_eq_true Ro.2)
   obtain⟨cs,h1,h2⟩:=hh
   simp only[St.dM,Option.some.injEq] at dz
   have GY:i<S.length:=dZ (by rw[dz];exact fun e=>by cases e)
   have hp:=h.jt i
   have hk:fT σ (jt σ S.length i) S.length (arG σ (.tmp i)):=fT.jt σ GY (fun g hg=>by obtain⟨j,hj,hg⟩:=hg;injection hj with hj;subst hj;exact hg)
   obtain⟨v2,hr2,dN,h3⟩:=nU (P:=P) (dst:=some d) (n:=S.length) hp hk (b5 _ _ _) cf h1 h2
   have Ml:=hr2 w (Ext.refl w)
   rw[cf w (Ext.refl w)] at Ml
   injection Ml with e1 e2
   injection e1 with e1
   subst e1
   refine⟨a.eval (.tmp i),cf,dN,?_⟩
   rw[hd]
   refine h3.setAt (fun j _=>ac2 _ d b [] i (ZB S i (by rw[dz];rfl)) j) ?_
   have htm:bZ (a.put (some d) (a.eval (.tmp i))) i=bZ a i:=by rw[zW,if_neg (fun e=>axR e.1.symm)]
   have htd:bZ (a.put (some d) (a.eval (.tmp i))) d=bZ a i:=by rw[zW,if_pos ⟨rfl,by rw[←h.len];exact GG⟩];rfl
   refine⟨b,cs,cs,⟨⟨[],?_,fun q hq=>by simp at hq⟩,trivial,⟨b,rfl,rfl⟩,by rw[htd];exact h1⟩,rfl,by rw[htm];exact h1⟩
   rw[cQ,if_neg (fun e=>axR e.1),dD,if_pos ⟨rfl,by rw[b5];exact GG⟩]
   rfl
 ·-- another value
  rename_i b ex nF
  cases hk:b.m.bM with
  |true=>
   rw[hk] at e
   simp only[cond_true,Option.some.injEq,Prod.mk.injEq,true_and] at e
   subst e
   obtain⟨cs,h1,h2⟩:=hh
   exact cv h cf ⟨cs,h1,nE hk (ft _ hk h2)⟩
  |false=>
   rw[hk] at e
   simp only[cond_false] at e
   split at e
   case h_2=>cases e
   simp only[Option.some.injEq,Prod.mk.injEq,true_and] at e
   subst e
   obtain⟨cs,h1,h2⟩:=hh
   exact cv h cf ⟨cs,h1,aJ (aU.refl _ _) _ (fun _ _ _=>rfl) (fun g hg _=>by obtain⟨i,hi,_⟩:=hg;cases hi) (fun _ h=>h) h2⟩
 ·rename_i d t s hd
  cases zX:Nat.beq s d with
  |true=>rw[zX] at e;cases e
  |false=>
   rw[zX] at e
   simp only[cond_false,Option.some.injEq,Prod.mk.injEq,true_and] at e
   subst e
   exact cv h cf hh
 ·rename_i d f c hd
  cases zX:AV.refs d (.k8 f c) with
  |true=>rw[zX] at e;cases e
  |false=>
   rw[zX] at e
   simp only[cond_false,Option.some.injEq,Prod.mk.injEq,true_and] at e
   subst e
   exact cv h cf hh
 ·simp only[Option.some.injEq,Prod.mk.injEq,true_and] at e
  subst e
  exact cv h cf hh
 ·split at e
  case h_2=>cases e
  rename_i b S1 hb
  simp only[Option.some.injEq,Prod.mk.injEq,true_and] at e
  subst e
  obtain⟨bL,cs,ow,h1,hm,hM,hk,hn⟩:=eB h dz hb
  exact nU h1 hk hn cf hm hM
end Go.Pv
namespace Go.Pv
set_option linter.unusedVariables false
set_option linter.unusedSimpArgs false
variable {P:Program} {w w':World} {A A' Wr:Nat→Prop} {H:Nat→Value} {tm qH:Nat→Value} {S S' S1:St} {σ bL dN:Nat→Option Nat} {w0:World} {W0 Z:Nat→Prop} {a:Act} {own:Nat→Prop} {v:Value} {Θ:db} {dst:Option Nat}
theorem ac3 {t:Ty} (h:isAgg t=false):t.size=1:=by cases t<;>simp[isAgg] at h<;>rfl
theorem ac4 (hT:cN P Θ=true) (h:a6 σ w0 W0 Z H S a w) {o:Oper} {T:TypeId} {x:Operand} {f:Nat} (ho:o.op=.field T x f) (e:H4 Θ S o.dst T x f=some (true,S')):gG P w0 W0 Z H S' a o.dst w (execOp a.eval o):=by
 unfold H4 at e
 split at e
 case h_2=>cases e
 rename_i b ex i dz hi
 cases hc:(Nat.blt f i.fs.length&&decide (i.ty=b.t)) with
 |false=>rw[hc] at e;cases e
 |true=>
 rw[hc] at e
 simp only[cond_true] at e
 simp only[Bool.and_eq_true,decide_eq_true_eq] at hc
 obtain⟨cP,fc⟩:=hc
 have cP:f<i.fs.length:=Nat.lt_of_succ_le (Nat.le_of_ble_eq_true cP)
 split at e
 case h_2=>cases e
 rename_i j
 split at e
 case h_2=>cases e
 rename_i c hg
 simp only[St.dM,Option.some.injEq] at dz
 have hh:=h.holds j
 rw[dz] at hh
 obtain⟨cs,hm,hM⟩:=hh
 obtain⟨_,hu,hT0⟩:=cR hT hi
 have hp:=iy f i.fs.length
 obtain⟨pa,pb,hpp⟩:=w7 (acJ cP) hp hg
 obtain⟨fs,f1,f2,f3,_⟩:=lV hu (fc.trans hpp)
 rw[hT0] at f1
 have Cb:fs.toList.length=i.fs.length:=by rw[←f2,List.length_map]
 have Zu:fs.size=i.fs.length:=by rw[←Cb,Array.length_toList]
 obtain⟨fd,hfd⟩:∃ fd,fs[f]?=some fd:=⟨_,Array.getElem?_eq_getElem (by omega)⟩
 obtain⟨t,t1,t2,t3,_⟩:=iv f3 f fd (by rw[Array.getElem?_toList];exact hfd)
 rw[Nat.zero_add,Zu,fc] at t1 t3
 have hct:c.t=t:=by
  have:=oX _ hp hg
  rw[t1] at this
  injection this with this
  exact this.symm
 subst hct
 obtain⟨hlen,ajn⟩:=eo _ hM
 have wM:=dX _ hp hg
 have Is:aS w (mI f i.fs.length) b.t cs=some ((cs.drop (aP (mI f i.fs.length) b.t)).take c.t.size):=ep _ hp hg hlen
 obtain⟨v,hv,cf⟩:∃ v,ax c.t v ((cs.drop (aP (mI f i.fs.length) b.t)).take c.t.size)∧∀ w2,Ext w w2→(execOp a.eval o).run P w2=.ok (.value v) w2:=by
  have iJ:a.eval (.tmp j)=.agg cs.toArray:=by
   unfold ax at hm
   rw[if_pos (by rw[hpp];rfl)] at hm
   exact hm
  have Rl:=Rw hT t2
  obtain⟨inf,s1,s2,_⟩:=gU hT t2
  have hso:∀ w2,(sizeOf fd.type).run P w2=.ok c.t.size w2:=fun w2=>by simp[sizeOf,typeInfo,s1,s2]
  cases hca:isAgg c.t with
  |true=>
   refine⟨.agg (cs.toArray.extract (aP (mI f i.fs.length) b.t) (aP (mI f i.fs.length) b.t+c.t.size)),?_,fun w2 _=>?_⟩
   ·unfold ax
    rw[if_pos hca]
    congr 1
    apply Array.toList_inj.1
    rw[Array.toList_extract,List.toList_toArray,List.toList_toArray,List.extract_eq_drop_take']
    rw[List.drop_take,Nat.add_sub_cancel_left]
   ·rw[hca] at Rl
    have ac5:(part fd.type cs.toArray fd.offset).run P w2=.ok (.agg (cs.toArray.extract (aP (mI f i.fs.length) b.t) (aP (mI f i.fs.length) b.t+c.t.size))) w2:=by
     unfold part
     simp only[Sem.run_bind,Rl,Result.andThen_ok,if_true,hso,t3]
     rfl
    simp only[execOp,ho,iJ,Instr.field,Sem.run_bind,run_underlying f1,Result.andThen_ok,hfd,asAgg,Sem.run_pure,ac5]
  |false=>
   have h1:=ac3 hca
   have Rx:aP (mI f i.fs.length) b.t<cs.length:=by omega
   refine⟨cs[aP (mI f i.fs.length) b.t],?_,fun w2 _=>?_⟩
   ·unfold ax
    rw[if_neg (by rw[hca];exact Bool.false_ne_true),h1,List.drop_eq_getElem_cons Rx,List.take_succ_cons,List.take_zero]
   ·rw[hca] at Rl
    have ac5:(part fd.type cs.toArray fd.offset).run P w2=.ok (cs[aP (mI f i.fs.length) b.t]) w2:=by
     unfold part
     simp only[Sem.run_bind,Rl,Result.andThen_ok,if_neg Bool.false_ne_true,t3]
     rw[List.getElem?_toArray,List.getElem?_eq_getElem Rx]
     rfl
    simp only[execOp,ho,iJ,Instr.field,Sem.run_bind,run_underlying f1,Result.andThen_ok,hfd,asAgg,Sem.run_pure,ac5]
 have hvalid:=gH _ hp hg
 cases hk:c.m.bM with
 |true=>
  rw[hk] at e
  simp only[cond_true] at e
  split at e
  case h_2=>cases e
  simp only[Option.some.injEq,Prod.mk.injEq,true_and] at e
  subst e
  obtain⟨cK,cC,k1,k2,k3⟩:=focus _ hM (fun q hq=>by simp at hq) hvalid hg
  rw[Is] at k1
  injection k1 with k1
  subst k1
  exact cv h cf ⟨_,hv,fI _ (ft _ hk k3)⟩
 |false=>
  rw[hk] at e
  simp only[cond_false] at e
  split at e
  case h_2=>cases e
  rename_i c' Ca
  simp only[Option.some.injEq,Prod.mk.injEq,true_and] at e
  subst e
  obtain⟨r,Dc,q1,q2,q3⟩:=dE Ca
  rw[dz] at q1
  injection q1 with q1 D'
  subst q1 D'
  exact cv h cf ⟨b,cs,_,⟨⟨ex,dz,eA q2⟩,hvalid,⟨c,hg,rfl⟩,hm⟩,Is,hv⟩
theorem Cg (h:a6 σ w0 W0 Z H S a w):∀ {xs:List Operand} {l:List H3},DL S xs=some l→xs.length=l.length∧∀ (j:Nat) (c:H3),l[j]?=some c→∃ u,(xs.map a.eval)[j]?=some u∧lS w (Av σ Z) (bZ a) S c u
 |[],l,e=>by
  simp only[DL,Option.some.injEq] at e
  subst e
  exact⟨rfl,fun j c hj=>by simp at hj⟩
 |x::xs,l,e=>by
  simp only[DL] at e
  split at e
  case h_2=>cases e
  rename_i c l2 hc hl
  simp only[Option.some.injEq] at e
  subst e
  obtain⟨h1,h2⟩:=Cg h hl
  refine⟨by simp[h1],fun j c' hj=>?_⟩
  cases j with
  |succ j=>simpa using h2 j c' (by simpa using hj)
  |zero=>
   simp only[List.getElem?_cons_zero,Option.some.injEq] at hj
   subst hj
   refine⟨a.eval x,rfl,?_⟩
   unfold arC at hc
   split at hc
   case h_2=>cases hc
   rename_i i
   have hh:=h.holds i
   split at hc
   ·rename_i t T tag me y ex dt
    injection hc with hc
    subst hc
    rw[dt] at hh
    obtain⟨cs,h1,h2⟩:=hh
    exact⟨_,cs,cs,⟨⟨ex,dt,fun q _ s r e=>by cases q<;>simp at e⟩,trivial,⟨_,rfl,rfl⟩,h1⟩,rfl,h1⟩
   ·rename_i t y ex dt
    injection hc with hc
    subst hc
    rw[dt] at hh
    obtain⟨cs,h1,h2⟩:=hh
    have h1':cs=[bZ a i]:=by simpa[ax,isAgg] using h1
    subst h1'
    simp only[M] at h2
    rcases h2 with⟨_,hx,_⟩ |⟨_,h2⟩ |⟨T,tag,me,g,cur,hx,_⟩
    ·simp[Md.bM] at hx
    ·exact h2
    ·cases hx
   ·rename_i t s p dt
    injection hc with hc
    subst hc
    rw[dt] at hh
    exact hh
   ·cases hc
theorem MP (h:a6 σ w0 W0 Z H S a w) {o:Oper} {f:FuncId} {first cw:Array Operand} (ho:o.op=.makeFunc (.func f) first cw) (e:ub S o.dst f first.toList cw.toList=some (true,S')):gG P w0 W0 Z H S' a o.dst w (execOp a.eval o):=by
 unfold ub at e
 split at e
 case h_2=>cases e
 rename_i l hf hl
 split at e
 case h_2=>cases e
 rename_i d hd
 cases hr:AV.refs d (.k8 f l) with
 |true=>rw[hr] at e;cases e
 |false=>
 rw[hr] at e
 simp only[cond_false,Option.some.injEq,Prod.mk.injEq,true_and] at e
 subst e
 obtain⟨h1,h2⟩:=Cg h hl
 have hfe:first=#[]:=by
  apply Array.toList_inj.1
  rw[hf]
 refine cv (v:=.func (.func f) #[] (cw.map a.eval)) h (fun w2 _=>by simp[execOp,ho,Instr.makeFunc,hfe]) ⟨cw.toList.map a.eval,?_,by rw[List.length_map,h1],h2⟩
 congr 1
 apply Array.toList_inj.1
 simp
theorem MQ (h:a6 σ w0 W0 Z H S a w) {o:Oper} {x:Operand} (ho:o.op=.move x) (e:oD Θ S o.dst o.type x=some (true,S')):lW P w0 W0 Z H S' a o.dst w (execOp a.eval o):=by
 by_cases hnt:∃ l,S.dM Θ o.type x=some (.th l)
 rotate_left
 ·exact aji h ho (fun l hl=>hnt ⟨l,hl⟩) e
 obtain⟨l,hl⟩:=hnt
 unfold oD at e
 rw[hl] at e
 simp only at e
 split at e
 case h_2=>cases e
 rename_i d i hd
 cases hc:(Nat.beq d i|| !Nat.blt d S.length) with
 |true=>rw[hc] at e;cases e
 |false=>
  rw[hc] at e
  simp only[cond_false,Option.some.injEq,Prod.mk.injEq,true_and] at e
  subst e
  have dt:S.at i=.th l:=by simpa[St.dM] using hl
  have hh:=h.holds i
  rw[dt] at hh
  obtain⟨vs,τ,h1,h2,h3⟩:=hh
  refine⟨bZ a i,fun w2=>by simp only[execOp,ho];rfl,?_⟩
  rw[hd]
  have hp:=h.jt i
  have hgo:=hp.V9 (dst:=some d) (v:=bZ a i) (av:=.th l) (ow:=fun g=>σ g=some i) (w':=w) (Nat.le_refl _) (fun _ _ _=>rfl) h.fr (fun g hg=>⟨h.lt g i hg,.inl ⟨S.length,by rw[b5];exact Nat.le_refl _,by unfold jt;rw[if_pos hg]⟩⟩) (fun d' V1 q1 q2=>?_)
  ·exact⟨_,hgo⟩
  ·refine⟨vs,τ,h1,h2,fun j b hb=>?_⟩
   obtain⟨u,cs,u1,u2,u3⟩:=h3 j b hb
   refine⟨u,cs,u1,u2,aJ ⟨fun _ _ _=>rfl,fun g hg hx=>?_⟩ _ (fun _ _ _=>rfl) (fun g hg _=>⟨q1 g hg.1,hg.2⟩) (fun _ h=>h) u3⟩
   rcases q2 g hx with q |q
   ·exact V7.1 q
   ·exact .inl ⟨i,q⟩
theorem ac6 (hT:cN P Θ=true) (h:a6 σ w0 W0 Z H S a w) {hn:Hn} {o:Oper} (hq:quiet o.op=true) (e:ev Θ hn S o=some (true,S')):gG P w0 W0 Z H S' a o.dst w (execOp a.eval o):=by
 unfold ev at e
 split at e
 case h_1 x ho=>exact(MQ h ho e).q
 case h_2 x ho=>exact ZC h ho e
 case h_3 c x y ho=>exact ajj h ho e
 case h_4 T ho=>rw[ho] at hq;cases hq
 case h_5 T x ho=>rw[ho] at hq;cases hq
 case h_6 T ps ho=>exact acU hT h ho e
 case h_7 T n ps ho=>rw[ho] at hq;cases hq
 case h_8 T x ho=>exact ajk hT h ho e
 case h_9 T x y ho=>rw[ho] at hq;cases hq
 case h_10 x ho=>exact MA h ho e
 case h_11 T x f ho=>exact(w8 hT h ho e).q
 case h_12 T x f ho=>exact ac4 hT h ho e
 case h_13 T x ix ho=>exact(w9 hT h ho e).q
 case h_14 T x ix ho=>exact acF hT h ho e
 case h_15 x j ho=>exact(Es h ho e).q
 case h_16 T x lo hi mx ho=>exact(MC hT h ho e).q
 case h_17 T T' x ho=>exact Mv hT h ho e
 case h_18 op T x y p ho=>exact(acE hT h ho e).q
 case h_19 op T x ho=>exact axE h ho e
 case h_20 T l c ho=>rw[ho] at hq;cases hq
 case h_21 f first cw ho=>exact MP h ho e
 case h_22 as ts ho=>exact(acG hT h ho e).q
 case h_23 as ts ho=>rw[ho] at hq;cases hq
 case h_24=>cases e
def RH:Op→Bool
 | .extract ..=>true | .indexAddr ..=>true | .binOp ..=>true | .slice ..=>true | .move _=>true | .convert ..=>true | .fieldAddr ..=>true | .call { callee:=.builtin .len,.. }=>true |_=>false
theorem atq (hT:cN P Θ=true) (h:a6 σ w0 W0 Z H S a w) {hn:Hn} {o:Oper} (hq:RH o.op=true) (G2:(match o.op with
 | .convert _ T' _=>(match Θ.find T' with
  |some i=>(match i.ty with
   | .int _=>true
   |_=>false)
  |none=>false)
 |_=>true)=true) (e:ev Θ hn S o=some (true,S')):lW P w0 W0 Z H S' a o.dst w (execOp a.eval o):=by
 unfold RH at hq
 split at hq
 ·rename_i x j ho
  unfold ev at e
  rw[ho] at e
  exact Es h ho e
 ·rename_i T x ix ho
  unfold ev at e
  rw[ho] at e
  exact w9 hT h ho e
 ·rename_i op T x y T' ho
  unfold ev at e
  rw[ho] at e
  exact acE hT h ho e
 ·rename_i T x lo hi mx ho
  unfold ev at e
  rw[ho] at e
  exact MC hT h ho e
 ·rename_i x ho
  unfold ev at e
  rw[ho] at e
  exact MQ h ho e
 ·rename_i T T' x ho
  unfold ev at e
  rw[ho] at e
  rw[ho] at G2
  exact D8 hT h ho G2 e
 ·rename_i T x f ho
  unfold ev at e
  rw[ho] at e
  exact w8 hT h ho e
 ·rename_i as ts ho
  unfold ev at e
  rw[ho] at e
  exact acG hT h ho e
 ·cases hq
def MR:Op→Bool
 | .alloc _=>true | .box ..=>true | .buildSlice ..=>true | .makeSlice ..=>true |o=>quiet o
theorem ac7 (hT:cN P Θ=true) (h:a6 σ w0 W0 Z H S a w) {hn:Hn} {o:Oper} (hq:MR o.op=true) (e:ev Θ hn S o=some (true,S')):Cd P w0 W0 Z H S' a o.dst w (execOp a.eval o):=by
 cases hqq:quiet o.op with
 |true=>exact(ac6 hT h hqq e).C6
 |false=>
 unfold ev at e
 split at e
 case h_4 T ho=>exact acO hT h ho e
 case h_5 T x ho=>exact ati hT h ho e
 case h_7 T n ps ho=>exact GF hT h ho e
 case h_20 T l c ho=>exact Io hT h ho e
 case h_24=>cases e
 case h_9 T x y ho=>rw[ho] at hq;cases hq
 case h_23 as ts ho=>rw[ho] at hq;cases hq
 all_goals (rename_i ho;rw[ho] at hqq;cases hqq)
theorem MS (h:a6 σ w0 W0 Z H S a w) {S1:St} {T:TypeId} {y:Operand} {s:Sem Next} {dst:Option Nat} (g:Ii P w0 W0 Z H S1 a dst w s) (hd:dst=none):Ii P w0 W0 Z H (oI Θ S S1 T y) a dst w s:=by
 subst hd
 unfold oI
 split
 case h_2=>exact g
 rename_i t0 s0 _
 split
 case h_2=>exact g
 rename_i t m xs hs hs1
 cases hk:m.bM with
 |true=>exact g
 |false=>
 simp only[cond_false]
 obtain⟨w',v,h1,dk,h2⟩:=g
 refine⟨w',v,h1,?_⟩
 have hh:=h.holds s0
 rw[hs] at hh
 obtain⟨cs,hm,hM⟩:=hh
 have gC:∃ A c,cs=[.slice A xs.length c]:=by
  simp only[M] at hM
  rcases hM with⟨hn,_⟩ |⟨fV,_⟩ |⟨T',tag,me,A,c,_,rfl,_⟩
  ·simp at hn
  ·rw[hk] at fV;cases fV
  ·exact⟨A,c,rfl⟩
 have ha:a.put none v=a:=rfl
 rw[ha] at h2 ⊢
 have h3:=h2.pure (dst:=some s0) (av:=.v ⟨.sl t,m,xs⟩ [[]]) (v:=bZ a s0) ⟨cs,hm,by
  simp only[M]
  exact .inl ⟨by simp,hk,gC⟩⟩
 rw[lX] at h3
 have he:S1.put (some s0) (.v ⟨.sl t,m,xs⟩ [[]])=S1.set s0 (.v ⟨.sl t,m,xs⟩ [[]]):=by
  simp only[St.put,hs1]
  rfl
 rw[he] at h3
 exact⟨_,h3⟩
theorem axS (hT:cN P Θ=true) (h:a6 σ w0 W0 Z H S a w) {hn:Hn} {o:Oper} (e:ev Θ hn S o=some (true,S')):Ii P w0 W0 Z H S' a o.dst w (execOp a.eval o):=by
 cases hq:MR o.op with
 |true=>exact(ac7 hT h hq e).axD
 |false=>
 unfold ev at e
 split at e
 case h_9 T x y ho=>
  split at e
  ·rename_i hd
   split at e
   ·rename_i g S1 he
    injection e with e
    injection e with e1 e2
    subst e1 e2
    exact MS h (acQ hT h ho hd he) hd
   ·cases e
  ·cases e
 case h_23 as ts ho=>
  split at e
  ·rename_i r hr
   injection e with e
   subst e
   exact ZA hT h ho hr
  ·exact RF hT h ho e
 case h_24=>cases e
 all_goals (rename_i ho;rw[ho] at hq;cases hq)
end Go.Pv
namespace Go.Pv
set_option linter.unusedVariables false
set_option linter.unusedSimpArgs false
variable {P:Program} {w w':World} {A A' Wr:Nat→Prop} {H:Nat→Value} {tm qH:Nat→Value} {S S' S1:St} {σ bL dN:Nat→Option Nat} {w0:World} {W0 Z:Nat→Prop} {a:Act} {own:Nat→Prop} {v:Value} {Θ:db} {dst:Option Nat}
def Own (σ:Nat→Option Nat) (g:Nat):Prop:=∃ i,σ g=some i
def Ch (w:World) (A:Nat→Prop) (H:Nat→Value):Arg→Value→(Nat→Prop)→Prop
 | .tv b,v,own=>∃ cs,ax b.t v cs∧M w A H b.t b.m b.x cs own []
 | .fn f cw,v,_=>∃ vs:List Value,v=.func (.func f) #[] vs.toArray∧vs.length=cw.length∧∀ (j:Nat) (c:TV),cw[j]?=some c→∃ u,vs[j]?=some u∧K w A c.t c.x [u]
abbrev Gl:=Nat→Option Obj
structure In (Γ:Gl) (B:Nat→Prop) (H:Nat→Value) (w:World) (σ:Nat→Option Nat) (args:List Arg) (cu:List Value):Prop where
 len:cu.length=args.length
 lt:∀ g i,σ g=some i→i<args.length∧g<w.heap.size
 old:∀ g,B g→σ g=none∧g<w.heap.size
 env:∀ g o,Γ g=some o→σ g=none∧w.heap[g]?=some o
 ok:∀ (j:Nat) (a:Arg),args[j]?=some a→∃ v,cu[j]?=some v∧Ch w (Av σ B) H a v (fun g=>σ g=some j)
def ac8:List Value→Value
 |[u]=>u
 |vs=>.tuple vs.toArray
structure Out (B:Nat→Prop) (H:Nat→Value) (w w':World) (σ:Nat→Option Nat) (rt:aa) (v:Value):Prop where
 fr:Fr w (Own σ) w'
 res:∃ (dk:Nat→Option Nat) (vs:List Value),v=ac8 vs∧vs.length=rt.res.length∧(∀ g i,dk g=some i→(w.heap.size≤g∨Own σ g)∧g<w'.heap.size)∧
  (∀ (i:Nat) (b:TV),rt.res[i]?=some b→∃ u cs,vs[i]?=some u∧ax b.t u cs∧M w' (Av dk B) H b.t b.m b.x cs (fun g=>dk g=some i) [])∧
  ∀ c,rt.refs=[c]→∃ cs,M w' (Av dk B) H c.t c.m c.x cs (fun g=>dk g=some rt.res.length) []
def RI (P:Program) (f:FuncId) (cu:List Value) (w:World) (R:Value→World→Prop):Prop:=
 ((callFunc f cu.toArray).run P w=.ok (.enter f cu.toArray) w∧Calls P f cu.toArray w fun
  | .returned v,w'=>R v w'
  |_,_=>False)∨∃ v w',(callFunc f cu.toArray).run P w=.ok (.value v) w'∧R v w'
theorem RI.mono {f:FuncId} {cu:List Value} {R R':Value→World→Prop} (h:RI P f cu w R) (hr:∀ v w',R v w'→R' v w'):RI P f cu w R':=by
 rcases h with⟨h1,h2⟩ |⟨v,w',h1,h2⟩
 ·refine .inl ⟨h1,h2.mono fun e w' he=>?_⟩
  cases e<;>first |exact hr _ _ he |exact he
 ·exact .inr ⟨v,w',h1,hr _ _ h2⟩
def We (Γ:Gl) (P:Program) (f:FuncId) (run:List Arg→(aa→Option aa)→Option aa):Prop:=
 ∀ (args:List Arg) (kf:aa→Option aa) (ret:aa) (w:World) (σ:Nat→Option Nat) (cu:List Value) (H:Nat→Value) (B:Nat→Prop),run args kf=some ret→In Γ B H w σ args cu→
  RI P f cu w fun v w'=>∃ rt,kf rt=some ret∧Out B H w w' σ rt v
def Sound (Γ:Gl) (P:Program) (f:FuncId) (run:List Arg→(aa→Option aa)→Option aa):Prop:=We Γ P f run∧∀ as,cL (run as)
def atr (Γ:Gl) (P:Program) (O:jr):Prop:=∀ f,Sound Γ P f (O.run f)
structure qs (Γ:Gl) (P:Program) (O:jr) (w0:World) (W0:Nat→Prop):Prop where
 sd:atr Γ P O
 env:∀ g o,Γ g=some o→¬W0 g∧w0.heap[g]?=some o
theorem qs.det {Γ:Gl} {P:Program} {O:jr} {w0:World} {W0:Nat→Prop} (h:qs Γ P O w0 W0):nK O:=fun f=>(h.sd f).2
variable {Γ:Gl}
theorem ac9 {l:List Entry} (h:∀ e∈l,Sound Γ P e.f e.run):atr Γ P (jr.of l):=by
 intro f
 have key:∀ (l:List Entry) (e:Entry),entry l f=some e→e∈l∧e.f=f:=by
  intro l
  induction l with
  |nil=>intro e h;cases h
  |cons e' r ih=>
   intro e h
   simp only[entry] at h
   cases hb:Nat.beq e'.f f with
   |true=>
    rw[hb] at h
    injection h with h
    subst h
    exact⟨by simp,Nat.eq_of_beq_eq_true hb⟩
   |false=>
    rw[hb] at h
    obtain⟨h1,h2⟩:=ih e h
    exact⟨by simp[h1],h2⟩
 simp only[jr.of]
 split
 ·rename_i e he
  obtain⟨h1,h2⟩:=key l e he
  rw[←h2]
  exact h e h1
 ·exact⟨fun args kf ret w σ cu H B hr=>(by cases hr),fun _=>cL.none⟩
theorem Et:∀ (t:Ty) {x:t.I} {cs:List Value},gT t=true→K w A t x cs→K w' A' t x cs
 | .int _,_,_,_,h=>h
 | .bool,_,_,_,h=>h
 | .str,_,_,_,h=>h
 | .unit,_,_,_,h=>h
 | .pair a b,x,cs,hf,h=>by
  simp only[gT,Bool.and_eq_true] at hf
  simp only[K] at h ⊢
  obtain⟨c0,c1,rfl,h0,h1⟩:=h
  exact⟨c0,c1,rfl,Et a hf.1 h0,Et b hf.2 h1⟩
 | .arr n t,x,cs,hf,h=>by
  simp only[gT] at hf
  simp only[K] at h ⊢
  obtain⟨eI,rfl,hl,hx,hj⟩:=h
  exact⟨eI,rfl,hl,hx,fun j h1 h2=>Et t hf (hj j h1 h2)⟩
theorem iQ:∀ (t:Ty) {m:Md} {x:t.I} {cs:List Value} {ow:Nat→Prop},fu t m=true→M w A H t m x cs ow []→M w A' H t m x cs ow []
 | .sl t,.o T tag me,xs,cs,ow,hs,h=>by
  simp only[fu] at hs
  simp only[M] at h ⊢
  rcases h with⟨hn,_⟩ |⟨hk,_⟩ |⟨T,tag,me,X,c,e1,e2,hc,ht,h⟩
  ·simp at hn
  ·simp[Md.bM] at hk
  ·injection e1 with e1 Ai o6
   subst e1 Ai o6
   refine .inr (.inr ⟨_,_,_,X,c,rfl,e2,hc,ht,?_⟩)
   rcases h with h |⟨g,cur,τ,h1,h2,h3,h4,h5,h6⟩
   ·exact .inl h
   ·exact .inr ⟨g,cur,τ,h1,h2,h3,h4,h5,fun j hj=>iQ t hs (h6 j hj)⟩
 | .ptr t,.o T tag me,x,cs,ow,hs,h=>by
  simp only[fu] at hs
  simp only[M] at h ⊢
  rcases h with⟨hn,_⟩ |⟨hk,_⟩ |⟨T,tag,me,g,cur,e1,e2,ht,hg,hw,h⟩
  ·simp at hn
  ·simp[Md.bM] at hk
  ·injection e1 with e1 Ai o6
   subst e1 Ai o6
   exact .inr (.inr ⟨_,_,_,g,cur,rfl,e2,ht,hg,hw,iQ t hs h⟩)
 | .pair a b,.p ma mb,x,cs,ow,hs,h=>by
  simp only[fu,Bool.and_eq_true] at hs
  simp only[M] at h ⊢
  rcases h with⟨hn,_⟩ |⟨hk,h⟩ |⟨ma,mb,c0,c1,s,e1,e2,h0,h1⟩
  ·simp at hn
  ·simp only[K] at h
   simp only[Md.bM,Bool.and_eq_true] at hk
   obtain⟨c0,c1,e2,h0,h1⟩:=h
   refine .inr (.inr ⟨ma,mb,c0,c1,fun _=>True,rfl,e2,iQ a hs.1 (nE hk.1 h0),iQ b hs.2 (nE hk.2 h1)⟩)
  ·injection e1 with e1 Ai
   subst e1 Ai
   exact .inr (.inr ⟨_,_,c0,c1,s,rfl,e2,iQ a hs.1 h0,iQ b hs.2 h1⟩)
 | .sl t,.k,xs,cs,ow,hs,h=>by simp[fu,gT] at hs
 | .sl t,.p _ _,xs,cs,ow,hs,h=>by simp[fu,gT] at hs
 | .ptr t,.k,xs,cs,ow,hs,h=>by simp[fu,gT] at hs
 | .ptr t,.p _ _,xs,cs,ow,hs,h=>by simp[fu,gT] at hs
 | .pair a b,.k,xs,cs,ow,hs,h=>by
  simp only[fu,Bool.and_eq_true] at hs
  exact nE hs.1 (Et _ hs.2 (ft _ hs.1 h))
 | .pair a b,.o ..,xs,cs,ow,hs,h=>by simp[fu,Md.bM] at hs
 | .int k,m,x,cs,ow,hs,h=>by simp only[M,K] at h ⊢;exact h
 | .bool,m,x,cs,ow,hs,h=>by simp only[M,K] at h ⊢;exact h
 | .str,m,x,cs,ow,hs,h=>by simp only[M,K] at h ⊢;exact h
 | .unit,m,x,cs,ow,hs,h=>by simp only[M,K] at h ⊢;exact h
 | .arr n t,m,x,cs,ow,hs,h=>by
  have hs:(m.bM&&gT (.arr n t))=true:=by cases m<;>exact hs
  simp only[Bool.and_eq_true] at hs
  exact nE hs.1 (Et _ hs.2 (ft _ hs.1 h))
def Pk (σ:Nat→Option Nat) (n:Nat) (g:Nat):Prop:=∃ i,n≤i∧σ g=some i
theorem ajs {t:Ty} {m:Md} {x:t.I} {cs:List Value} {s n:Nat} {ow:Nat→Prop} (hs:s<n) (ho:∀ g,ow g→σ g=some s) (h:M w (Av σ Z) H t m x cs ow []):K w (Pk σ n) t x cs:=
 M_K (fun g _ hg=>by obtain⟨i,_,hi⟩:=hg;exact .inl ⟨i,hi⟩) t rfl (fun g hg hx=>by
  obtain⟨i,hi,mF⟩:=hx
  rw[ho g hg] at mF
  injection mF with mF
  omega) h
theorem ac' (h:a6 σ w0 W0 Z H S a w) {T:TypeId} {x:Operand} {av:AV} {b:TV} (ho:S.dM Θ T x=some av) (e:S.so av=some b):
  ∃ cs,ax b.t (a.eval x) cs∧K w (Pk σ S.length) b.t b.x cs:=by
 have hh:=bC h ho
 cases av with
 |v a0 ex=>
  cases ex with
  |cons _ _=>simp[St.so] at e
  |nil=>
   simp only[St.so,Option.some.injEq] at e
   subst e
   obtain⟨cs,h1,h2⟩:=hh
   cases x with
   |tmp i=>
    simp only[St.dM,Option.some.injEq] at ho
    exact⟨cs,h1,ajs (s:=i) (dZ (by rw[ho];exact fun e=>by cases e)) (fun g hg=>by obtain⟨j,hj,hg⟩:=hg;injection hj with hj;subst hj;exact hg) h2⟩
   |const c=>exact⟨cs,h1,M_K (fun g _ hg=>by obtain⟨i,_,hi⟩:=hg;exact .inl ⟨i,hi⟩) _ rfl (fun g hg=>by obtain⟨j,hj,_⟩:=hg;cases hj) h2⟩
   |func f=>exact⟨cs,h1,M_K (fun g _ hg=>by obtain⟨i,_,hi⟩:=hg;exact .inl ⟨i,hi⟩) _ rfl (fun g hg=>by obtain⟨j,hj,_⟩:=hg;cases hj) h2⟩
   |global f=>exact⟨cs,h1,M_K (fun g _ hg=>by obtain⟨i,_,hi⟩:=hg;exact .inl ⟨i,hi⟩) _ rfl (fun g hg=>by obtain⟨j,hj,_⟩:=hg;cases hj) h2⟩
 |al t s p=>
  simp only[St.so] at e
  obtain⟨r,cM,cs,hr,hc,hm⟩:=hh
  obtain⟨rfl,cC,k2,k3⟩:=c8 h hr hc e
  obtain⟨ex0,V8,_⟩:=hr.at_
  exact⟨cs,hm,ajs (s:=s) (dZ (by rw[V8];exact fun e=>by cases e)) k2 k3⟩
 |cut t s p lo hi=>
  simp only[St.so] at e
  obtain⟨r,cM,t',X,n,c,hr,rfl,hc,Zi,DZ,hv⟩:=hh
  cases hp:S.place s p with
  |none=>rw[hp] at e;cases e
  |some b'=>
   obtain⟨ht,cC,k2,k3⟩:=c8 h hr hc hp
   obtain⟨bt,bm,bx⟩:=b'
   simp only at ht
   subst ht
   rw[hp] at e
   simp only[Option.some.injEq] at e
   subst e
   obtain⟨ex0,V8,_⟩:=hr.at_
   have hK:=ajs (s:=s) (n:=S.length) (dZ (by rw[V8];exact fun e=>by cases e)) k2 k3
   have hn:n=List.length bx:=by
    simp only[K] at hK
    obtain⟨_,_,e,_⟩:=hK
    simp only[List.cons.injEq,Value.slice.injEq,and_true] at e
    exact e.2.1
   subst hn
   rw[hv]
   exact⟨_,by simp[ax,isAgg],V0 hK Zi DZ⟩
 |_=>simp[St.so] at e
theorem ada {n:Nat}:aU w w (Av σ Z) (Pk σ n):=⟨fun _ _ _=>rfl,fun g _ hg=>by obtain⟨i,_,hi⟩:=hg;exact .inl ⟨i,hi⟩⟩
theorem q9 (h:a6 σ w0 W0 Z H S a w):∀ {cw:List H3} {l:List TV} {vs:List Value},oN S cw=some l→vs.length=cw.length→(∀ (j:Nat) (c:H3),cw[j]?=some c→∃ u,vs[j]?=some u∧lS w (Av σ Z) (bZ a) S c u)→
  l.length=cw.length∧∀ (j:Nat) (c:TV),l[j]?=some c→∃ u,vs[j]?=some u∧K w (Pk σ S.length) c.t c.x [u]
 |[],l,vs,e,_,_=>by
  simp only[oN,Option.some.injEq] at e
  subst e
  exact⟨rfl,fun j c hj=>by simp at hj⟩
 |c::cw,l,vs,e,hl,hv=>by
  simp only[oN] at e
  split at e
  case h_2=>cases e
  rename_i b l2 hb hl2
  simp only[Option.some.injEq] at e
  subst e
  match vs,hl with
  |u::vs,hl=>
   obtain⟨h1,h2⟩:=q9 h (vs:=vs) hl2 (by simpa using hl) (fun j c hj=>by simpa using hv (j+1) c (by simpa using hj))
   refine⟨by simp[h1],fun j c' hj=>?_⟩
   cases j with
   |succ j=>simpa using h2 j c' (by simpa using hj)
   |zero=>
    simp only[List.getElem?_cons_zero,Option.some.injEq] at hj
    subst hj
    obtain⟨u',hu,hc⟩:=hv 0 c rfl
    simp only[List.getElem?_cons_zero,Option.some.injEq] at hu
    subst hu
    refine⟨u,rfl,?_⟩
    cases c with
    |kv b'=>
     simp only[GS,Option.some.injEq] at hb
     subst hb
     exact bV ada _ hc
    |pl t s p=>
     simp only[GS] at hb
     split at hb
     case h_2=>cases hb
     rename_i b' hp
     simp only[Option.some.injEq] at hb
     subst hb
     obtain⟨r,cM,cs,hr,jq,hm⟩:=hc
     obtain⟨zT,cC,k2,k3⟩:=c8 h hr jq hp
     obtain⟨ex0,V8,_⟩:=hr.at_
     have hK:=ajs (s:=s) (n:=S.length) (dZ (by rw[V8];exact fun e=>by cases e)) k2 k3
     have:cs=[u]:=by simpa[ax,isAgg] using hm
     rw[this] at hK
     exact hK
theorem uu:∀ (xs:List Operand) (Ts:List TypeId) (ps:List Pass) (j:Nat) {S S1:St} {σ:Nat→Option Nat} {l:List (Option TV)},a6 σ w0 W0 Z H S a w→fL Θ S xs Ts ps=some (l,S1)→
  ∃ (bL:Nat→Option Nat) (ow:Nat→Prop) (τ:Nat→Nat),a6 bL w0 W0 Z H S1 a w∧S1.length=S.length∧fT σ bL S.length ow∧l.length=xs.length∧(∀ g,ow g→j≤τ g∧τ g<j+l.length)∧
   ((∀ p∈ps,p=.val)→∀ g,¬ow g)∧
   ∀ (k:Nat) (b:TV),l[k]?=some (some b)→∃ x cs,xs[k]?=some x∧ax b.t (a.eval x) cs∧M w (Av σ Z) H b.t b.m b.x cs (fun g=>ow g∧τ g=j+k) []
 |[],Ts,ps,j,S,S1,σ,l,h,e=>by
  simp only[fL,Option.some.injEq,Prod.mk.injEq] at e
  obtain⟨rfl,rfl⟩:=e
  exact⟨σ,fun _=>False,fun _=>j,h,rfl,fT.none _ _,rfl,fun _ h=>h.elim,fun _ _ h=>h,fun k b hk=>by simp at hk⟩
 |x::xs,[],ps,j,S,S1,σ,l,h,e=>by simp[fL] at e
 |x::xs,T::Ts,[],j,S,S1,σ,l,h,e=>by simp[fL] at e
 |x::xs,T::Ts,p::ps,j,S,S1,σ,l,h,e=>by
  simp only[fL] at e
  split at e
  ·split at e
   case h_2=>cases e
   rename_i r hr
   simp only[Option.some.injEq,Prod.mk.injEq] at e
   obtain⟨rfl,rfl⟩:=e
   obtain⟨bL,ow,τ,k1,k2,k3,k4,k5,k6,k7⟩:=uu xs Ts ps (j+1) h hr
   refine⟨bL,ow,τ,k1,k2,k3,by simp[k4],fun g hg=>by have:=k5 g hg;simp only[List.length_cons];omega,fun hp=>k6 (fun p hp'=>hp p (by simp[hp'])),fun k b hk=>?_⟩
   cases k with
   |zero=>simp at hk
   |succ k=>
    obtain⟨x',cs,q1,q2,q3⟩:=k7 k b (by simpa using hk)
    exact⟨x',cs,by simpa using q1,q2,by rw[show j+(k+1)=j+1+k from by omega];exact q3⟩
  rotate_left
  ·cases e
  ·unfold St.take at e
   split at e
   case h_2=>cases e
   rename_i b S2 hb
   split at hb
   case h_2=>cases hb
   rename_i av dz
   split at e
   case h_2=>cases e
   rename_i r hr
   simp only[Option.some.injEq,Prod.mk.injEq] at e
   obtain⟨rfl,rfl⟩:=e
   obtain⟨bL,cs,ow,h1,hm,hM,hk,hn⟩:=eB h dz hb
   obtain⟨dN,oW,τ,k1,k2,k3,k4,k5,k6,k7⟩:=uu xs Ts ps (j+1) h1 hr
   rw[hn] at k3
   have RA:∀ g,ow g→¬oW g:=fun g hg=>hk.apart k3 hg
   let Wa:Nat→Nat:=fun g=>open Classical in if ow g then j else τ g
   refine⟨dN,fun g=>ow g∨oW g,Wa,k1,by omega,hk.trans k3,by simp[k4],fun g hg=>?_,fun hp=>(fun hx:Pass.take=Pass.val=>nomatch hx) (hp .take (by simp)),fun k b' fV=>?_⟩
   ·simp only[Wa,List.length_cons]
    split
    ·omega
    ·rename_i hx
     have:=k5 g (hg.resolve_left hx)
     omega
   ·cases k with
    |zero=>
     simp only[List.getElem?_cons_zero,Option.some.injEq] at fV
     subst fV
     refine⟨x,cs,rfl,hm,aJ (aU.refl _ _) _ (fun _ _ _=>rfl) (fun g hg _=>⟨.inl hg,by simp only[Wa,if_pos hg,Nat.add_zero]⟩) (fun _ h=>h) hM⟩
    |succ k=>
     obtain⟨x',cK,q1,q2,q3⟩:=k7 k b' (by simpa using fV)
     refine⟨x',cK,by simpa using q1,q2,aJ ⟨fun _ _ _=>rfl,fun g _ hg=>hk.Av.2 hg⟩ _ (fun _ _ _=>rfl) (fun g hg _=>⟨.inr hg.1,?_⟩) (fun _ h=>h) q3⟩
     simp only[Wa]
     rw[if_neg (fun hx=>RA g hx hg.1),hg.2]
     omega
theorem jJ (h:a6 σ w0 W0 Z H S a w):∀ (xs:List Operand) (Ts:List TypeId) (l:List (Option TV)) {as:List Arg},l.length=xs.length→reads Θ S xs Ts l=some as→
  as.length=xs.length∧∀ (k:Nat) (r:Arg),as[k]?=some r→(∃ b,l[k]?=some (some b)∧r=.tv b)∨∃ x,xs[k]?=some x∧∀ H,Ch w (Pk σ S.length) H r (a.eval x) (fun _=>False)
 |[],Ts,l,as,_,e=>by
  simp only[reads,Option.some.injEq] at e
  subst e
  exact⟨rfl,fun k r hk=>by simp at hk⟩
 |x::xs,[],l,as,hl,e=>by simp[reads] at e
 |x::xs,T::Ts,[],as,hl,e=>by simp at hl
 |x::xs,T::Ts,p::ps,as,hl,e=>by
  have V6:ps.length=xs.length:=by simpa using hl
  simp only[reads] at e
  split at e
  ·rename_i b
   split at e
   case h_2=>cases e
   rename_i r hr
   simp only[Option.some.injEq] at e
   subst e
   obtain⟨h1,h2⟩:=jJ h xs Ts ps V6 hr
   refine⟨by simp[h1],fun k r' hk=>?_⟩
   cases k with
   |zero=>
    simp only[List.getElem?_cons_zero,Option.some.injEq] at hk
    exact .inl ⟨b,rfl,hk.symm⟩
   |succ k=>simpa using h2 k r' (by simpa using hk)
  ·split at e
   ·rename_i f cw dz
    split at e
    case h_2=>cases e
    rename_i cs r gC hr
    simp only[Option.some.injEq] at e
    subst e
    obtain⟨h1,h2⟩:=jJ h xs Ts ps V6 hr
    refine⟨by simp[h1],fun k r' hk=>?_⟩
    cases k with
    |zero=>
     simp only[List.getElem?_cons_zero,Option.some.injEq] at hk
     subst hk
     obtain⟨vs,v1,v2,v3⟩:=bC h dz
     obtain⟨c1,c2⟩:=q9 h gC v2 v3
     exact .inr ⟨x,rfl,fun _=>⟨vs,v1,by omega,c2⟩⟩
    |succ k=>simpa using h2 k r' (by simpa using hk)
   ·rename_i av _ dz
    split at e
    case h_2=>cases e
    rename_i b r hb hr
    simp only[Option.some.injEq] at e
    subst e
    obtain⟨h1,h2⟩:=jJ h xs Ts ps V6 hr
    refine⟨by simp[h1],fun k r' hk=>?_⟩
    cases k with
    |zero=>
     simp only[List.getElem?_cons_zero,Option.some.injEq] at hk
     subst hk
     obtain⟨cs,c1,c2⟩:=ac' h dz hb
     exact .inr ⟨x,rfl,fun _=>⟨cs,c1,fI _ c2⟩⟩
    |succ k=>simpa using h2 k r' (by simpa using hk)
   ·cases e
theorem lZ (h:a6 σ w0 W0 Z H S a w):∀ (xs:List Operand) (Ts:List TypeId) (l:List (Option TV)) {as:List Arg},l.length=xs.length→reads Θ S xs Ts l=some as→iH S xs l as=true→
  ∀ (k:Nat) (r:Arg),as[k]?=some r→(∃ b,l[k]?=some (some b)∧r=.tv b)∨∃ x,xs[k]?=some x∧∀ H,Ch w (Av σ Z) H r (a.eval x) (fun _=>False)
 |[],Ts,l,as,_,e,_=>by
  simp only[reads,Option.some.injEq] at e
  subst e
  exact fun k r hk=>by simp at hk
 |x::xs,[],l,as,hl,e,_=>by simp[reads] at e
 |x::xs,T::Ts,[],as,hl,e,_=>by simp at hl
 |x::xs,T::Ts,p::ps,as,hl,e,hf=>by
  have V6:ps.length=xs.length:=by simpa using hl
  have gh:=(jJ h (x::xs) (T::Ts) (p::ps) hl e).2
  simp only[reads] at e
  split at e
  ·rename_i b
   split at e
   case h_2=>cases e
   rename_i r hr
   simp only[Option.some.injEq] at e
   subst e
   simp only[iH,Bool.true_or,Bool.true_and] at hf
   have h2:=lZ h xs Ts ps V6 hr hf
   intro k r' hk
   cases k with
   |zero=>
    simp only[List.getElem?_cons_zero,Option.some.injEq] at hk
    exact .inl ⟨b,rfl,hk.symm⟩
   |succ k=>simpa using h2 k r' (by simpa using hk)
  ·split at e
   ·rename_i f cw dz
    split at e
    case h_2=>cases e
    rename_i cs r gC hr
    simp only[Option.some.injEq] at e
    subst e
    simp only[iH,Bool.false_or,Bool.and_eq_true,List.isEmpty_iff] at hf
    obtain⟨hf1,hf2⟩:=hf
    have h2:=lZ h xs Ts ps V6 hr hf2
    intro k r' hk
    cases k with
    |succ k=>simpa using h2 k r' (by simpa using hk)
    |zero=>
     simp only[List.getElem?_cons_zero,Option.some.injEq] at hk
     subst hk
     rcases gh 0 _ rfl with⟨b',It,_⟩ |⟨x',wV,iw⟩
     ·simp at It
     ·simp only[List.getElem?_cons_zero,Option.some.injEq] at wV
      subst wV
      refine .inr ⟨x,rfl,fun H'=>?_⟩
      obtain⟨vs,v1,v2,v3⟩:=iw H'
      exact⟨vs,v1,v2,fun j c hj=>by rw[hf1] at hj;simp at hj⟩
   ·rename_i av _ dz
    split at e
    case h_2=>cases e
    rename_i b r hb hr
    simp only[Option.some.injEq] at e
    subst e
    simp only[iH,Bool.false_or,Bool.and_eq_true,Bool.or_eq_true] at hf
    obtain⟨hf1,hf2⟩:=hf
    have h2:=lZ h xs Ts ps V6 hr hf2
    intro k r' hk
    cases k with
    |succ k=>simpa using h2 k r' (by simpa using hk)
    |zero=>
     simp only[List.getElem?_cons_zero,Option.some.injEq] at hk
     subst hk
     rcases hf1 with hs |hs
     ·rcases gh 0 _ rfl with⟨b',It,_⟩ |⟨x',wV,iw⟩
      ·simp at It
      ·simp only[List.getElem?_cons_zero,Option.some.injEq] at wV
       subst wV
       refine .inr ⟨x,rfl,fun H'=>?_⟩
       obtain⟨cs,c1,c2⟩:=iw H'
       exact⟨cs,c1,iQ _ hs c2⟩
     ·refine .inr ⟨x,rfl,fun H'=>?_⟩
      have hh:=bC h dz
      cases x with
      |func f=>simp[tz] at hs
      |global f=>simp[tz] at hs
      |tmp i=>
       simp only[St.dM,Option.some.injEq] at dz
       subst dz
       simp only[tz] at hs
       split at hs
       ·rename_i b0 hb0
        rw[hb0] at hh hb
        simp only[St.so,Option.some.injEq] at hb
        subst hb
        obtain⟨cs,c1,c2⟩:=hh
        exact⟨cs,c1,nE rfl (ft _ hs c2)⟩
       ·cases hs
      |const c=>
       have hk:∀ a0,av=.v a0 []→∀ H',Ch w (Av σ Z) H' (.tv (Q9 b)) (a.eval (.const c)) fun _=>False:=fun a0 e H'=>by
        subst e
        simp only[St.so,Option.some.injEq] at hb
        subst hb
        have hh:=bC h dz
        obtain⟨cs,c1,c2⟩:=hh
        exact⟨cs,c1,nE rfl (M_K (fun g _ hg=>hg) _ rfl (fun g hg=>by obtain⟨j,hj,_⟩:=hg;cases hj) c2)⟩
       simp only[St.dM] at dz
       cases hc:mH Θ T c with
       |none=>rw[hc] at dz;cases dz
       |some a0=>
        rw[hc] at dz
        simp only[Option.map_some,Option.some.injEq] at dz
        exact hk a0 dz.symm H'
   ·cases e
end Go.Pv
namespace Go.Pv
set_option linter.unusedVariables false
set_option linter.unusedSimpArgs false
variable {P:Program} {w w':World} {A A' B Wr:Nat→Prop} {H H':Nat→Value}
theorem l4:∀ (t:Ty) {m:Md} {x:t.I} {cs:List Value} {ow:Nat→Prop} {hs:List Path},qn m=true→M w A H t m x cs ow hs→M w A H' t m x cs ow hs
 | .int _,_,_,_,_,_,_,h=>by simp only[M] at h ⊢;exact h
 | .bool,_,_,_,_,_,_,h=>by simp only[M] at h ⊢;exact h
 | .str,_,_,_,_,_,_,h=>by simp only[M] at h ⊢;exact h
 | .unit,_,_,_,_,_,_,h=>by simp only[M] at h ⊢;exact h
 | .arr _ _,_,_,_,_,_,_,h=>by simp only[M] at h ⊢;exact h
 | .sl t,m,xs,cs,ow,hs,hb,h=>by
  simp only[M] at h ⊢
  rcases h with h |h |⟨T,tag,me,X,c,rfl,e2,hc,ht,h⟩
  ·exact .inl h
  ·exact .inr (.inl h)
  ·simp only[qn,Bool.and_eq_true] at hb
   obtain⟨hb1,hb2⟩:=hb
   cases tag with
   |some _=>cases hb1
   |none=>
    refine .inr (.inr ⟨T,none,me,X,c,rfl,e2,hc,fun h hh=>(by cases hh),?_⟩)
    rcases h with h |⟨g,cur,τ,h1,h2,h3,h4,h5,h6⟩
    ·exact .inl h
    ·exact .inr ⟨g,cur,τ,h1,h2,h3,h4,h5,fun j hj=>l4 t hb2 (h6 j hj)⟩
 | .ptr t,m,x,cs,ow,hs,hb,h=>by
  simp only[M] at h ⊢
  rcases h with h |h |⟨T,tag,me,g,cur,rfl,e2,ht,hg,hw,h⟩
  ·exact .inl h
  ·exact .inr (.inl h)
  ·simp only[qn,Bool.and_eq_true] at hb
   obtain⟨hb1,hb2⟩:=hb
   cases tag with
   |some _=>cases hb1
   |none=>exact .inr (.inr ⟨T,none,me,g,cur,rfl,e2,fun h hh=>(by cases hh),hg,hw,l4 t hb2 h⟩)
 | .pair a b,m,x,cs,ow,hs,hb,h=>by
  simp only[M] at h ⊢
  rcases h with h |h |⟨ma,mb,c0,c1,s,rfl,e2,h0,h1⟩
  ·exact .inl h
  ·exact .inr (.inl h)
  ·simp only[qn,Bool.and_eq_true] at hb
   exact .inr (.inr ⟨ma,mb,c0,c1,s,rfl,e2,l4 a hb.1 h0,l4 b hb.2 h1⟩)
theorem ra:∀ (t:Ty) {m:Md} {n:Nat},m.bM=true→(iI t m n).bM=true
 | .int _,m,n,h=>by simpa[iI] using h
 | .bool,m,n,h=>by simpa[iI] using h
 | .str,m,n,h=>by simpa[iI] using h
 | .unit,m,n,h=>by simpa[iI] using h
 | .arr _ _,m,n,h=>by simpa[iI] using h
 | .sl t,m,n,h=>by cases m<;>simp_all [iI,Md.bM]
 | .ptr t,m,n,h=>by cases m<;>simp_all [iI,Md.bM]
 | .pair a b,m,n,h=>by
  cases m with
  |k=>simp[iI,Md.bM]
  |o=>simp[Md.bM] at h
  |p ma mb=>
   simp only[Md.bM,Bool.and_eq_true] at h
   simp only[iI,Md.bM,Bool.and_eq_true]
   exact⟨ra a h.1,ra b h.2⟩
theorem l5:∀ (t:Ty) {m:Md} {x y:t.I},m.bM=true→e9 t m x y=x
 | .int _,m,x,y,h=>rfl
 | .bool,m,x,y,h=>rfl
 | .str,m,x,y,h=>rfl
 | .unit,m,x,y,h=>rfl
 | .arr _ _,m,x,y,h=>rfl
 | .sl t,m,x,y,h=>by cases m<;>simp_all [e9,Md.bM]
 | .ptr t,m,x,y,h=>by cases m<;>simp_all [e9,Md.bM]
 | .pair a b,m,x,y,h=>by
  cases m with
  |k=>simp[e9]
  |o=>simp[Md.bM] at h
  |p ma mb=>
   simp only[Md.bM,Bool.and_eq_true] at h
   simp only[e9]
   rw[l5 a h.1,l5 b h.2]
theorem adb:∀ (t:Ty) {m:Md} {x:t.I} {cs:List Value} {ow:Nat→Prop} {n:Nat},eK t m=true→M w A H t m x cs ow []→(∀ (j:Nat) (u:Value),cs[j]?=some u→H' (n+j)=u)→M w A H' t (iI t m n) x cs ow []
 | .int _,_,_,_,_,_,_,h,_=>by simp only[M,iI] at h ⊢;exact h
 | .bool,_,_,_,_,_,_,h,_=>by simp only[M,iI] at h ⊢;exact h
 | .str,_,_,_,_,_,_,h,_=>by simp only[M,iI] at h ⊢;exact h
 | .unit,_,_,_,_,_,_,h,_=>by simp only[M,iI] at h ⊢;exact h
 | .arr _ _,_,_,_,_,_,_,h,_=>by simp only[M,iI] at h ⊢;exact h
 | .sl t,m,xs,cs,ow,n,hl,h,hH=>by
  simp only[M] at h ⊢
  rcases h with⟨h,_⟩ |⟨hk,h⟩ |⟨T,tag,me,X,c,rfl,rfl,hc,ht,h⟩
  ·simp at h
  ·exact .inr (.inl ⟨ra (.sl t) hk,h⟩)
  ·simp only[eK,Bool.and_eq_true] at hl
   refine .inr (.inr ⟨T,some n,me,X,c,rfl,rfl,hc,fun h hh=>?_,?_⟩)
   ·injection hh with hh
    subst hh
    exact hH 0 _ rfl
   ·rcases h with h |⟨g,cur,τ,h1,h2,h3,h4,h5,h6⟩
    ·exact .inl h
    ·exact .inr ⟨g,cur,τ,h1,h2,h3,h4,h5,fun j hj=>l4 t hl (h6 j hj)⟩
 | .ptr t,m,x,cs,ow,n,hl,h,hH=>by
  simp only[M] at h ⊢
  rcases h with⟨h,_⟩ |⟨hk,h⟩ |⟨T,tag,me,g,cur,rfl,rfl,ht,hg,hw,h⟩
  ·simp at h
  ·exact .inr (.inl ⟨ra (.ptr t) hk,h⟩)
  ·simp only[eK,Bool.and_eq_true] at hl
   refine .inr (.inr ⟨T,some n,me,g,cur,rfl,rfl,fun h hh=>?_,hg,hw,l4 t hl h⟩)
   injection hh with hh
   subst hh
   exact hH 0 _ rfl
 | .pair a b,m,x,cs,ow,n,hl,h,hH=>by
  simp only[M] at h ⊢
  rcases h with⟨h,_⟩ |⟨hk,h⟩ |⟨ma,mb,c0,c1,s,rfl,rfl,h0,h1⟩
  ·simp at h
  ·exact .inr (.inl ⟨ra (.pair a b) hk,h⟩)
  ·simp only[eK,Bool.and_eq_true] at hl
   have hl0:=(eo a h0).1
   refine .inr (.inr ⟨_,_,c0,c1,s,rfl,rfl,adb a hl.1 h0 (fun j u hj=>hH j u ?_),adb b hl.2 h1 (fun j u hj=>?_)⟩)
   ·rw[List.getElem?_append_left (List.getElem?_eq_some_iff.1 hj).1];exact hj
   ·rw[Nat.add_assoc]
    refine hH (a.size+j) u ?_
    rw[List.getElem?_append_right (by omega),hl0,Nat.add_sub_cancel_left]
    exact hj
theorem xg (bU:aU w w' A A'):∀ (t:Ty) {m:Md} {x y:t.I} {cs cK:List Value} {ow cC:Nat→Prop} {n:Nat},eK t m=true→(qN t m=true∨aU w' w' B A')→M w A H t m x cs ow []→(∀ (j:Nat) (u:Value),cs[j]?=some u→H' (n+j)=u)→
  M w' B H' t (iI t m n) y cK cC []→M w' A' H t m (e9 t m x y) cs cC []
 | .int _,_,_,_,_,_,_,_,_,_,_,h,_,_=>by simp only[M,e9] at h ⊢;exact⟨h.1,bV bU _ h.2⟩
 | .bool,_,_,_,_,_,_,_,_,_,_,h,_,_=>by simp only[M,e9] at h ⊢;exact⟨h.1,bV bU _ h.2⟩
 | .str,_,_,_,_,_,_,_,_,_,_,h,_,_=>by simp only[M,e9] at h ⊢;exact⟨h.1,bV bU _ h.2⟩
 | .unit,_,_,_,_,_,_,_,_,_,_,h,_,_=>by simp only[M,e9] at h ⊢;exact⟨h.1,bV bU _ h.2⟩
 | .arr _ _,_,_,_,_,_,_,_,_,_,_,h,_,_=>by simp only[M,e9] at h ⊢;exact⟨h.1,bV bU _ h.2⟩
 | .sl t,m,xs,ys,cs,cK,ow,cC,n,hl,hB,h,hH,h'=>by
  simp only[M] at h
  rcases h with⟨h,_⟩ |⟨hk,h⟩ |⟨T,tag,me,X,c,rfl,rfl,hc,ht,h⟩
  ·simp at h
  ·rw[l5 _ hk]
   exact nE hk (bV bU _ h)
  ·simp only[eK,Bool.and_eq_true] at hl
   simp only[iI,M] at h'
   rcases h' with⟨h',_⟩ |⟨hk,_⟩ |⟨T2,Zw,me2,X2,c2,e1,e2,hc2,ht2,h'⟩
   ·simp at h'
   ·simp[Md.bM] at hk
   ·injection e1 with e1 Ai o6
    subst e1 Ai o6
    have q1:=ht2 n rfl
    rw[show H' n=.slice X xs.length c from hH 0 _ rfl] at q1
    injection q1 with q1 q2 q3
    subst q1 q3
    simp only[M,e9]
    refine .inr (.inr ⟨T,tag,me,X,c,rfl,by rw[q2],hc2,fun h hh=>by rw[ht h hh,q2],?_⟩)
    rcases h' with h' |⟨g,cur,τ,k1,k2,k3,k4,k5,k6⟩
    ·exact .inl h'
    ·exact .inr ⟨g,cur,τ,k1,k2,k3,k4,k5,fun j hj=>hB.elim (fun hs=>iQ t hs (l4 t hl (k6 j hj))) fun bU=>aJ bU t (fun _ _ _=>rfl) (fun _ h _=>h) (fun _ h=>h) (l4 t hl (k6 j hj))⟩
 | .ptr t,m,x,y,cs,cK,ow,cC,n,hl,hB,h,hH,h'=>by
  simp only[M] at h
  rcases h with⟨h,_⟩ |⟨hk,h⟩ |⟨T,tag,me,g,cur,rfl,rfl,ht,hg,hw,h⟩
  ·simp at h
  ·rw[l5 _ hk]
   exact nE hk (bV bU _ h)
  ·simp only[eK,Bool.and_eq_true] at hl
   simp only[iI,M] at h'
   rcases h' with⟨h',_⟩ |⟨hk,_⟩ |⟨T2,Zw,me2,g2,fR,e1,e2,ht2,qC,tk,h'⟩
   ·simp at h'
   ·simp[Md.bM] at hk
   ·injection e1 with e1 Ai o6
    subst e1 Ai o6
    have q1:=ht2 n rfl
    rw[show H' n=.pointer (some ⟨g,0,none⟩) from hH 0 _ rfl] at q1
    injection q1 with q1
    injection q1 with q1
    injection q1 with q1
    subst q1
    simp only[M,e9]
    exact .inr (.inr ⟨T,tag,me,g,fR,rfl,rfl,ht,qC,tk,hB.elim (fun hs=>iQ t hs (l4 t hl h')) fun bU=>aJ bU t (fun _ _ _=>rfl) (fun _ h _=>h) (fun _ h=>h) (l4 t hl h')⟩)
 | .pair a b,m,x,y,cs,cK,ow,cC,n,hl,hB,h,hH,h'=>by
  simp only[M] at h
  rcases h with⟨h,_⟩ |⟨hk,h⟩ |⟨ma,mb,c0,c1,s,rfl,rfl,h0,h1⟩
  ·simp at h
  ·rw[l5 _ hk]
   exact nE hk (bV bU _ h)
  ·simp only[eK,Bool.and_eq_true] at hl
   have hBa:qN a ma=true∨aU w' w' B A':=hB.imp (fun h=>by simp only[qN,Bool.and_eq_true] at h;exact h.1) id
   have hBb:qN b mb=true∨aU w' w' B A':=hB.imp (fun h=>by simp only[qN,Bool.and_eq_true] at h;exact h.2) id
   have hl0:=(eo a h0).1
   have hH0:∀ (j:Nat) (u:Value),c0[j]?=some u→H' (n+j)=u:=fun j u hj=>hH j u (by rw[List.getElem?_append_left (List.getElem?_eq_some_iff.1 hj).1];exact hj)
   have hH1:∀ (j:Nat) (u:Value),c1[j]?=some u→H' (n+a.size+j)=u:=fun j u hj=>by
    rw[Nat.add_assoc]
    refine hH (a.size+j) u ?_
    rw[List.getElem?_append_right (by omega),hl0,Nat.add_sub_cancel_left]
    exact hj
   simp only[iI,M] at h'
   simp only[M,e9]
   rcases h' with⟨h',_⟩ |⟨hk,h'⟩ |⟨ma2,mb2,d0,d1,s2,e1,e2,k0,k1⟩
   ·simp at h'
   ·simp only[Md.bM,Bool.and_eq_true] at hk
    simp only[K] at h'
    obtain⟨d0,d1,e2,k0,k1⟩:=h'
    exact .inr (.inr ⟨ma,mb,c0,c1,fun _=>True,rfl,rfl,xg bU a hl.1 hBa h0 hH0 (nE hk.1 k0),xg bU b hl.2 hBb h1 hH1 (nE hk.2 k1)⟩)
   ·injection e1 with e1 Ai
    subst e1 Ai
    exact .inr (.inr ⟨ma,mb,c0,c1,s2,rfl,rfl,xg bU a hl.1 hBa h0 hH0 k0,xg bU b hl.2 hBb h1 hH1 k1⟩)
end Go.Pv
namespace Go.Pv
set_option linter.unusedVariables false
set_option linter.unusedSimpArgs false
variable {P:Program} {w w':World} {A A' Wr:Nat→Prop} {H:Nat→Value} {tm qH:Nat→Value} {S S' S1:St} {σ bL dN:Nat→Option Nat} {w0:World} {W0 Z:Nat→Prop} {a:Act} {own:Nat→Prop} {v:Value} {Θ:db} {dst:Option Nat} {O:jr} {hh:Hint} {Γ:Gl}
theorem Fr.trans {W1:Nat→Prop} (h:Fr w0 W0 w) (h1:Fr w W1 w') (hw:∀ g,W1 g→g<w0.heap.size→W0 g):Fr w0 W0 w':=by
 refine⟨h1.os.trans h.os,h1.tape.trans h.tape,h1.output.trans h.output,Nat.le_trans h.size h1.size,fun g hg hn=>?_⟩
 rw[h1.block g (by have:=h.size;omega) (fun hx=>hn (hw g hx hg))]
 exact h.block g hg hn
theorem Wf (hT:cN P hh.tab=true) (hO:qs Γ P O w0 W0) (h:a6 σ w0 W0 Z H S a w) {o:Oper} {f:FuncId} {cal:Option Nat} {as:List Operand} {ts:List TypeId} {K:St→Option aa} {ret:aa} {xh:List Value}
  (azw:(cal=none∧xh=[])∨∃ i,cal=some i∧bZ a i=.func (.func f) #[] xh.toArray) (e:gA hh O o f cal as ts S K=some ret):
  RI P f (as.map a.eval++xh) w fun v w'=>∃ S',K S'=some ret∧Rel w0 W0 Z H S' (a.put o.dst v) w'∧((∀ p∈O.sig f,p=.val)→Ext w w'):=by
 unfold gA at e
 split at e
 case h_2=>cases e
 rename_i l S1 hl
 split at e
 case h_2=>cases e
 rename_i args cs Hj gC
 obtain⟨bL,ow,τ,t1,t2,t3,t4,t5,t6,t7⟩:=uu as ts (O.sig f) 0 h hl
 obtain⟨r1,r2⟩:=jJ t1 as ts l t4 Hj
 -- the captured values
 have ajt:cs.length=xh.length∧∀ (j:Nat) (c:TV),cs[j]?=some c→VQ c=true∧∃ u,xh[j]?=some u∧Go.Pv.K w (Pk bL S1.length) c.t c.x [u]:=by
  rcases azw with⟨rfl,rfl⟩ |⟨i,rfl,hv⟩
  ·simp only[qM,Option.some.injEq] at gC
   subst gC
   exact⟨rfl,fun j c hj=>by simp at hj⟩
  ·simp only[qM] at gC
   split at gC
   case h_2=>cases gC
   rename_i f' cw dt
   cases hb:Nat.beq f' f with
   |false=>rw[hb] at gC;cases gC
   |true=>
    rw[hb] at gC
    simp only[cond_true] at gC
    have hold:=t1.holds i
    rw[dt] at hold
    obtain⟨vs,v1,v2,v3⟩:=hold
    rw[hv] at v1
    injection v1 with _ _ v1
    have hvs:xh=vs:=by
     have:=congrArg Array.toList v1
     simpa using this
    subst hvs
    split at gC
    case h_2=>cases gC
    rename_i l' V6
    cases hp:l'.all VQ with
    |false=>rw[hp] at gC;cases gC
    |true=>
     rw[hp] at gC
     simp only[cond_true,Option.some.injEq] at gC
     subst gC
     obtain⟨c1,c2⟩:=q9 t1 V6 v2 v3
     exact⟨by omega,fun j c hj=>⟨List.all_eq_true.1 hp c (List.mem_of_getElem? hj),c2 j c hj⟩⟩
 -- the callee's arguments
 let uv:Nat→Option Nat:=fun g=>open Classical in if ow g then some (τ g) else none
 have uw:∀ g i,uv g=some i↔ow g∧τ g=i:=fun g i=>by
  simp only[uv]
  split
  ·rename_i hx;exact⟨fun hg=>⟨hx,by injection hg⟩,fun hg=>by rw[hg.2]⟩
  ·rename_i hx;exact⟨fun hg=>(by cases hg),fun hg=>absurd hg.1 hx⟩
 have tq:∀ g,Own uv g↔ow g:=fun g=>⟨fun⟨i,hi⟩=>((uw g i).1 hi).1,fun hg=>⟨τ g,(uw g _).2 ⟨hg,rfl⟩⟩⟩
 have Iu:∀ g,ow g→Pk bL S1.length g:=fun g hg=>by rw[t2];exact t3.now g hg
 obtain⟨tr,Ci⟩:∃ tr,tr=(cs.isEmpty&&iH S1 as l args):=⟨_,rfl⟩
 let B:Nat→Prop:=fun g=>tr=true∧Av σ Z g∧ ¬ow g
 have RJ:aU w w (Av σ Z) (Av uv B):=⟨fun _ _ _=>rfl,fun g _ hg=>by
  rcases hg with hg |hg
  ·obtain⟨i,_,hi⟩:=t3.MD g ((tq g).1 hg)
   exact .inl ⟨i,hi⟩
  ·exact hg.2.1⟩
 have att:aU w w (Av bL Z) (Av uv B):=⟨fun _ _ _=>rfl,fun g hl hg=>t3.Av.2 (RJ.wr g hl hg)⟩
 have aju:tr=false→aU w w (Pk bL S1.length) (Av uv B):=fun hn=>⟨fun _ _ _=>rfl,fun g _ hg=>by
  rcases hg with hg |hg
  ·exact Iu g ((tq g).1 hg)
  ·have h1:=hg.1;rw[hn] at h1;cases h1⟩
 have r3:=fun hf:tr=true=>lZ t1 as ts l t4 Hj (by rw[hf] at Ci;exact(Bool.and_eq_true _ _▸Ci.symm).2)
 have eX:In Γ B H w uv (args++cs.map .tv) (as.map a.eval++xh):=by
  refine⟨by simp[r1,ajt.1],fun g i hg=>?_,fun g hg=>⟨?_,?_⟩,fun g o hg=>⟨?_,?_⟩,fun j r hj=>?_⟩
  ·obtain⟨q1,q2⟩:=(uw g i).1 hg
   have:=(t5 g q1).2
   obtain⟨k,_,hk⟩:=t3.MD g q1
   exact⟨by simp only[List.length_append];omega,h.lt g k hk⟩
  ·cases hc:uv g with
   |none=>rfl
   |some i=>exact absurd ((uw g i).1 hc).1 hg.2.2
  ·rcases hg.2.1 with⟨i,hi⟩ |hz
   ·exact h.lt g i hi
   ·have:=(h.old g hz).2;have:=h.fr.size;omega
  ·cases hc:uv g with
   |none=>rfl
   |some i=>
    obtain⟨k,_,hk⟩:=t3.MD g ((uw g i).1 hc).1
    obtain⟨e1,e2⟩:=hO.env g o hg
    rcases h.new g k hk with hx |hx
    ·have:=bg e2;omega
    ·exact absurd hx e1
  ·obtain⟨e1,e2⟩:=hO.env g o hg
   rw[h.fr.block g (bg e2) e1,e2]
  ·rcases Nat.lt_or_ge j args.length with sv |sv
   ·rw[List.getElem?_append_left sv] at hj
    rw[List.getElem?_append_left (by simp only[List.length_map];omega),List.getElem?_map]
    rcases r2 j r hj with⟨b,hb,rfl⟩ |⟨x,hx,iw⟩
    ·obtain⟨x,c,q1,q2,q3⟩:=t7 j b hb
     rw[q1]
     exact⟨_,rfl,c,q2,aJ RJ _ (fun _ _ _=>rfl) (fun g hg _=>(uw g j).2 ⟨hg.1,by rw[hg.2];omega⟩) (fun _ h=>h) q3⟩
    ·have fin:∀ {A0:Nat→Prop},aU w w A0 (Av uv B)→Ch w A0 H r (a.eval x) (fun _=>False)→Ch w (Av uv B) H r (a.eval x) (fun g=>uv g=some j):=fun bU iw=>by
      cases r with
      |tv b=>
       obtain⟨c,c1,c2⟩:=iw
       exact⟨c,c1,aJ bU _ (fun _ _ _=>rfl) (fun _ hg _=>hg.elim) (fun _ h=>h) c2⟩
      |fn f' cw=>
       obtain⟨vs,c1,c2,c3⟩:=iw
       exact⟨vs,c1,c2,fun k c hk=>by obtain⟨u,u1,u2⟩:=c3 k c hk;exact⟨u,u1,bV bU _ u2⟩⟩
     cases MT:tr with
     |false=>
      rw[hx]
      exact⟨_,rfl,fin (aju MT) (iw H)⟩
     |true=>
      rcases r3 MT j r hj with⟨b,hb,rfl⟩ |⟨x',wV,atu⟩
      ·obtain⟨x,c,q1,q2,q3⟩:=t7 j b hb
       rw[q1]
       exact⟨_,rfl,c,q2,aJ RJ _ (fun _ _ _=>rfl) (fun g hg _=>(uw g j).2 ⟨hg.1,by rw[hg.2];omega⟩) (fun _ h=>h) q3⟩
      ·rw[hx] at wV
       injection wV with wV
       subst wV
       rw[hx]
       exact⟨_,rfl,fin att (atu H)⟩
   ·rw[List.getElem?_append_right sv,List.getElem?_map] at hj
    cases hc:cs[j - args.length]? with
    |none=>rw[hc] at hj;cases hj
    |some c=>
     rw[hc] at hj
     injection hj with hj
     subst hj
     obtain⟨u0,u,u1,u2⟩:=ajt.2 _ c hc
     refine⟨u,?_,?_⟩
     ·rw[List.getElem?_append_right (by simp only[List.length_map];omega)]
      simpa[r1] using u1
     ·have MT:tr=false:=by
       cases hf:tr with
       |false=>rfl
       |true=>
        rw[hf] at Ci
        cases cs with
        |nil=>simp at hc
        |cons _ _=>simp at Ci
      have hK:=bV (aju MT) _ u2
      obtain⟨ct,cm,cx⟩:=c
      unfold VQ at u0
      split at u0
      ·rename_i t ht
       simp only at ht u0 hK
       subst ht
       exact⟨[u],by simp[ax,isAgg],nE u0 hK⟩
      ·cases u0
 refine((hO.sd f).1 _ _ ret w uv _ H B e eX).mono fun v w' hv=>?_
 obtain⟨rt,Ce,GH⟩:=hv
 split at Ce
 case h_2=>cases Ce
 cases ade:(rt.res.all (fun d=>fu d.t d.m)||(cs.isEmpty&&iH S1 as l args)) with
 |false=>rw[ade] at Ce;cases Ce
 |true=>
 rw[ade] at Ce
 simp only[cond_true] at Ce
 rw[←Ci,Bool.or_eq_true] at ade
 refine⟨_,Ce,?_,fun gh g hg=>GH.fr.block g hg (fun hx=>t6 gh g ((tq g).1 hx))⟩
 -- behind the call
 obtain⟨dk,vs,q1,q2,q3,q4,_⟩:=GH.res
 let n:=S1.length
 let rb:Nat→Option Nat:=fun g=>match dk g with
  |some i=>some (S1.length+i)
  |none=>open Classical in if ow g then none else bL g
 have GI:∀ g i,rb g=some i→(∃ k,dk g=some k∧i=S1.length+k)∨(dk g=none∧ ¬ow g∧bL g=some i):=fun g i hg=>by
  simp only[rb] at hg
  split at hg
  ·rename_i k hk
   injection hg with hg
   exact .inl ⟨k,hk,hg.symm⟩
  ·rename_i hk
   split at hg
   ·cases hg
   ·exact .inr ⟨hk,by assumption,hg⟩
 have Hk:∀ g k,dk g=some k→rb g=some (S1.length+k):=fun g k hk=>by simp only[rb,hk]
 have Wg:∀ g i,dk g=none→¬ow g→bL g=some i→rb g=some i:=fun g i h1 h2 h3=>by simp only[rb,h1,if_neg h2,h3]
 have Cj:∀ g,g<w.heap.size→¬ow g→w'.heap[g]?=w.heap[g]?:=fun g hg hn=>GH.fr.block g hg (fun hx=>hn ((tq g).1 hx))
 have Eu:∀ g,g<w.heap.size→∀ k,dk g=some k→ow g:=fun g hg k hk=>by
  rcases(q3 g k hk).1 with hx |hx
  ·omega
  ·exact(tq g).1 hx
 have bU:aU w w' (Av bL Z) (Av rb Z):=⟨fun g hn hg=>Cj g hg (fun hx=>hn (by obtain⟨i,_,hi⟩:=Iu g hx;exact .inl ⟨i,hi⟩)),fun g hg hx=>by
  rcases hx with⟨i,hx⟩ |hx
  ·rcases GI g i hx with⟨k,hk,_⟩ |⟨_,_,hk⟩
   ·obtain⟨i,_,hi⟩:=Iu g (Eu g hg k hk)
    exact .inl ⟨i,hi⟩
   ·exact .inl ⟨i,hk⟩
  ·exact .inr hx⟩
 have Al:∀ g,ow g→∀ i,bL g=some i→S1.length≤i:=fun g hg i hi=>by
  obtain⟨j,hj,oz⟩:=Iu g hg
  rw[hi] at oz
  injection oz with oz
  omega
 have hR:a6 rb w0 W0 Z H S1 a w':=by
  refine⟨t1.len,t1.defers,t1.fr.trans GH.fr (fun g hg hl=>?_),fun g i hg=>?_,fun g i hg=>?_,fun g hg=>⟨?_,(t1.old g hg).2⟩,fun i=>?_⟩
  ·obtain⟨i,_,hi⟩:=Iu g ((tq g).1 hg)
   rcases t1.new g i hi with hx |hx
   ·omega
   ·exact hx
  ·rcases GI g i hg with⟨k,hk,_⟩ |⟨_,_,hk⟩
   ·rcases(q3 g k hk).1 with hx |hx
    ·have:=t1.fr.size;exact .inl (by omega)
    ·obtain⟨i,_,hi⟩:=Iu g ((tq g).1 hx)
     exact t1.new g i hi
   ·exact t1.new g i hk
  ·rcases GI g i hg with⟨k,hk,_⟩ |⟨_,_,hk⟩
   ·exact(q3 g k hk).2
   ·have:=t1.lt g i hk;have:=GH.fr.size;omega
  ·obtain⟨z1,z2⟩:=t1.old g hg
   have ur: ¬ow g:=fun hx=>by obtain⟨i,_,hi⟩:=Iu g hx;rw[z1] at hi;cases hi
   have:dk g=none:=by
    cases hk:dk g with
    |none=>rfl
    |some k=>exact absurd (Eu g (by have:=t1.fr.size;omega) k hk) ur
   simp only[rb,this,if_neg ur,z1]
  ·by_cases GY:i<S1.length
   ·refine(t1.holds i).kept bU (fun g hg hl=>?_) (fun s hs=>?_)
    ·have ur: ¬ow g:=fun hx=>by have:=Al g hx i hg;omega
     refine⟨Cj g hl ur,Wg g i ?_ ur hg⟩
     cases hk:dk g with
     |none=>rfl
     |some k=>exact absurd (Eu g hl k hk) ur
    ·by_cases Gv:s<S1.length
     ·exact⟨fun _ _ h=>h,rfl,_,t1.holds s,fun g hg hl=>Cj g hl (fun hx=>by have:=Al g hx s hg;omega)⟩
     ·have hd:S1.at s=.dead:=Classical.byContradiction fun hx=>Gv (dZ hx)
      exact⟨fun _ _ h=>h,rfl,fun _=>False,by rw[hd];trivial,fun _ h=>h.elim⟩
   ·have hd:S1.at i=.dead:=Classical.byContradiction fun hx=>GY (dZ hx)
    rw[hd]
    trivial
 refine⟨_,hR.V9 (ow:=fun g=>∃ k,dk g=some k) (Nat.le_refl _) (fun _ _ _=>rfl) hR.fr (fun g ⟨k,hk⟩=>⟨(q3 g k hk).2,.inl ⟨S1.length+k,by omega,Hk g k hk⟩⟩) fun d _ g1 g2=>?_⟩
 -- the results
 have atv:tr=true→aU w' w' (Av dk B) (Av (gf rb o.dst fun g=>∃ k,dk g=some k) Z):=fun MT=>⟨fun _ _ _=>rfl,fun g _ hg=>by
  rcases g2 g hg with (⟨i,hi⟩ |hz) |hx
  ·rcases GI g i hi with⟨k,hk,_⟩ |⟨_,ur,hk⟩
   ·exact .inl ⟨k,hk⟩
   ·exact .inr ⟨MT,t3.Av.1 (.inl ⟨i,hk⟩),ur⟩
  ·refine .inr ⟨MT,.inr hz,fun hx=>?_⟩
   obtain⟨i,_,hi⟩:=Iu g hx
   rw[(t1.old g hz).1] at hi
   cases hi
  ·exact .inl hx⟩
 have Ej:∀ (i:Nat) (b:TV),rt.res[i]?=some b→∃ u cs,vs[i]?=some u∧ax b.t u cs∧M w' (Av (gf rb o.dst fun g=>∃ k,dk g=some k) Z) H b.t b.m b.x cs (fun g=>dk g=some i) []:=fun i b hb=>by
  obtain⟨u,c,u1,u2,u3⟩:=q4 i b hb
  refine⟨u,c,u1,u2,?_⟩
  rcases ade with hs |MT
  ·exact iQ _ (List.all_eq_true.1 hs b (List.mem_of_getElem? hb)) u3
  ·exact aJ (atv MT) _ (fun _ _ _=>rfl) (fun _ h _=>h) (fun _ h=>h) u3
 have adf:∀ l:List TV,l=rt.res→Holds w' (Av (gf rb o.dst fun g=>∃ k,dk g=some k) Z) H (bZ (a.put o.dst v)) (S1.put o.dst (.th (l.map some))) (fun g=>gf rb o.dst (fun g=>∃ k,dk g=some k) g=some d) (.th (l.map some)) (.tuple vs.toArray):=fun l hl=>by
  subst hl
  refine⟨vs,fun g=>(dk g).getD 0,rfl,by simp[q2],fun j b hj=>?_⟩
  rw[List.getElem?_map] at hj
  cases hb:rt.res[j]? with
  |none=>rw[hb] at hj;cases hj
  |some b'=>
   rw[hb] at hj
   simp only[Option.map_some,Option.some.injEq] at hj
   subst hj
   obtain⟨u,c,u1,u2,u3⟩:=Ej j b' hb
   exact⟨u,c,u1,u2,aJ (aU.refl _ _) _ (fun _ _ _=>rfl) (fun g hg _=>⟨g1 g ⟨j,hg⟩,by show(dk g).getD 0=j;rw[hg];rfl⟩) (fun _ h=>h) u3⟩
 subst q1
 match Ev:rt.res,q2 with
 |[b],q2=>
  match vs,q2 with
  |[u],_=>
   obtain⟨u',c,u1,u2,u3⟩:=Ej 0 b (by rw[Ev];rfl)
   simp only[List.getElem?_cons_zero,Option.some.injEq] at u1
   subst u1
   exact⟨c,u2,aJ (aU.refl _ _) _ (fun _ _ _=>rfl) (fun g hg _=>g1 g ⟨0,hg⟩) (fun _ h=>h) u3⟩
 |[],q2=>
  match vs,q2 with
  |[],_=>exact adf [] Ev.symm
 |b::b'::r,q2=>
  match vs,q2 with
  |u::u'::vr,_=>exact adf (b::b'::r) Ev.symm
end Go.Pv
namespace Go.Pv
set_option linter.unusedVariables false
set_option linter.unusedSimpArgs false
variable {P:Program} {w w':World} {A A' Wr:Nat→Prop} {H H':Nat→Value} {tm qH:Nat→Value} {S S' S1:St} {σ bL dN:Nat→Option Nat} {w0:World} {W0 Z:Nat→Prop} {a:Act} {own:Nat→Prop} {v:Value} {Θ:db} {dst:Option Nat} {O:jr} {hh:Hint} {Γ:Gl}
theorem tH (cur:List Value) (off n:Nat) (h:off+n≤cur.length):putCells cur off ((cur.drop off).take n)=cur:=by
 have hl:((cur.drop off).take n).length=n:=by rw[List.length_take,List.length_drop];omega
 apply List.ext_getElem?
 intro k
 rw[gR _ _ _ _ (by omega),hl]
 by_cases h1:k<off
 ·rw[if_pos h1]
 ·rw[if_neg h1]
  by_cases h2:k<off+n
  ·rw[if_pos h2,List.getElem?_take,if_pos (by omega),List.getElem?_drop]
   congr 1;omega
  ·rw[if_neg h2]
theorem RK {ow:Nat→Prop} {uv dk:Nat→Option Nat} (t1:a6 bL w0 W0 Z H S1 a w) (Iu:∀ g,ow g→Pk bL S1.length g) (tq:∀ g,Own uv g↔ow g) (qo:Fr w (Own uv) w')
  (q3:∀ g i,dk g=some i→(w.heap.size≤g∨Own uv g)∧g<w'.heap.size):
  ∃ rb,a6 rb w0 W0 Z H S1 a w'∧(∀ g k,dk g=some k→rb g=some (S1.length+k))∧aU w w' (Av bL Z) (Av rb Z)∧
   (∀ g i,i<S1.length→rb g=some i→bL g=some i)∧(∀ g i,i<S1.length→bL g=some i→w'.heap[g]?=w.heap[g]?)∧(∀ g i,rb g=some i→(∃ k,dk g=some k)∨(¬ow g∧bL g=some i)):=by
 let rb:Nat→Option Nat:=fun g=>match dk g with
  |some i=>some (S1.length+i)
  |none=>open Classical in if ow g then none else bL g
 have GI:∀ g i,rb g=some i→(∃ k,dk g=some k∧i=S1.length+k)∨(dk g=none∧ ¬ow g∧bL g=some i):=fun g i hg=>by
  simp only[rb] at hg
  split at hg
  ·rename_i k hk
   injection hg with hg
   exact .inl ⟨k,hk,hg.symm⟩
  ·rename_i hk
   split at hg
   ·cases hg
   ·exact .inr ⟨hk,by assumption,hg⟩
 have Hk:∀ g k,dk g=some k→rb g=some (S1.length+k):=fun g k hk=>by simp only[rb,hk]
 have Wg:∀ g i,dk g=none→¬ow g→bL g=some i→rb g=some i:=fun g i h1 h2 h3=>by simp only[rb,h1,if_neg h2,h3]
 have Cj:∀ g,g<w.heap.size→¬ow g→w'.heap[g]?=w.heap[g]?:=fun g hg hn=>qo.block g hg (fun hx=>hn ((tq g).1 hx))
 have Eu:∀ g,g<w.heap.size→∀ k,dk g=some k→ow g:=fun g hg k hk=>by
  rcases(q3 g k hk).1 with hx |hx
  ·omega
  ·exact(tq g).1 hx
 have bU:aU w w' (Av bL Z) (Av rb Z):=⟨fun g hn hg=>Cj g hg (fun hx=>hn (by obtain⟨i,_,hi⟩:=Iu g hx;exact .inl ⟨i,hi⟩)),fun g hg hx=>by
  rcases hx with⟨i,hx⟩ |hx
  ·rcases GI g i hx with⟨k,hk,_⟩ |⟨_,_,hk⟩
   ·obtain⟨i,_,hi⟩:=Iu g (Eu g hg k hk)
    exact .inl ⟨i,hi⟩
   ·exact .inl ⟨i,hk⟩
  ·exact .inr hx⟩
 have Al:∀ g,ow g→∀ i,bL g=some i→S1.length≤i:=fun g hg i hi=>by
  obtain⟨j,hj,oz⟩:=Iu g hg
  rw[hi] at oz
  injection oz with oz
  omega
 refine⟨rb,?_,Hk,bU,fun g i hi hg=>?_,fun g i hi hg=>Cj g (t1.lt g i hg) (fun hx=>by have:=Al g hx i hg;omega),fun g i hg=>by
  rcases GI g i hg with⟨k,hk,_⟩ |⟨_,h1,h2⟩
  ·exact .inl ⟨k,hk⟩
  ·exact .inr ⟨h1,h2⟩⟩
 rotate_left
 ·rcases GI g i hg with⟨k,_,hk⟩ |⟨_,_,hk⟩
  ·omega
  ·exact hk
 refine⟨t1.len,t1.defers,t1.fr.trans qo (fun g hg hl=>?_),fun g i hg=>?_,fun g i hg=>?_,fun g hg=>⟨?_,(t1.old g hg).2⟩,fun i=>?_⟩
 ·obtain⟨i,_,hi⟩:=Iu g ((tq g).1 hg)
  rcases t1.new g i hi with hx |hx
  ·omega
  ·exact hx
 ·rcases GI g i hg with⟨k,hk,_⟩ |⟨_,_,hk⟩
  ·rcases(q3 g k hk).1 with hx |hx
   ·have:=t1.fr.size;exact .inl (by omega)
   ·obtain⟨i,_,hi⟩:=Iu g ((tq g).1 hx)
    exact t1.new g i hi
  ·exact t1.new g i hk
 ·rcases GI g i hg with⟨k,hk,_⟩ |⟨_,_,hk⟩
  ·exact(q3 g k hk).2
  ·have:=t1.lt g i hk;have:=qo.size;omega
 ·obtain⟨z1,z2⟩:=t1.old g hg
  have ur: ¬ow g:=fun hx=>by obtain⟨i,_,hi⟩:=Iu g hx;rw[z1] at hi;cases hi
  have:dk g=none:=by
   cases hk:dk g with
   |none=>rfl
   |some k=>exact absurd (Eu g (by have:=t1.fr.size;omega) k hk) ur
  simp only[rb,this,if_neg ur,z1]
 ·by_cases GY:i<S1.length
  ·refine(t1.holds i).kept bU (fun g hg hl=>?_) (fun s hs=>?_)
   ·have ur: ¬ow g:=fun hx=>by have:=Al g hx i hg;omega
    refine⟨Cj g hl ur,Wg g i ?_ ur hg⟩
    cases hk:dk g with
    |none=>rfl
    |some k=>exact absurd (Eu g hl k hk) ur
   ·by_cases Gv:s<S1.length
    ·exact⟨fun _ _ h=>h,rfl,_,t1.holds s,fun g hg hl=>Cj g hl (fun hx=>by have:=Al g hx s hg;omega)⟩
    ·have hd:S1.at s=.dead:=Classical.byContradiction fun hx=>Gv (dZ hx)
     exact⟨fun _ _ h=>h,rfl,fun _=>False,by rw[hd];trivial,fun _ h=>h.elim⟩
  ·have hd:S1.at i=.dead:=Classical.byContradiction fun hx=>GY (dZ hx)
   rw[hd]
   trivial
theorem RL (h:a6 σ w0 W0 Z H S a w) {T:TypeId} {x:Operand} {av:AV} {b:TV} {s:Nat} {p:Path} {cs:List Value} (ho:S.dM Θ T x=some av) (hl:jD x av=some (s,p)) (e:S.dB x av=some (b,S1)) (hk:b.m.bM=false) (hm:ax b.t (a.eval x) cs):
  (p=[]∧s<S.length∧ax b.t (bZ a s) cs)∨∃ r ex cM,p≠[]∧S1.at s=.v r (ex++[p])∧ax r.t (bZ a s) cM∧aS w p r.t cM=some cs∧valid p r.t r.x∧a8 p r.t r.m r.x=some b∧∀ q∈ex,fX q p=false:=by
 have hh:=bC h ho
 cases av with
 |v a0 ex=>
  cases x with
  |tmp i=>
   simp only[jD,Option.some.injEq,Prod.mk.injEq] at hl
   obtain⟨rfl,rfl⟩:=hl
   exact .inl ⟨rfl,dZ (by simp only[St.dM,Option.some.injEq] at ho;rw[ho];exact fun e=>by cases e),hm⟩
  |const c=>simp[jD] at hl
  |func f=>simp[jD] at hl
  |global g=>simp[jD] at hl
 |al t s' p'=>
  simp only[jD,Option.some.injEq,Prod.mk.injEq] at hl
  obtain⟨rfl,rfl⟩:=hl
  obtain⟨r,cM,cs1,hr,hc,hm1⟩:=hh
  simp only[St.dB] at e
  split at e
  case h_2=>cases e
  rename_i b' hb
  cases fV:b'.m.bM with
  |true=>
   rw[fV] at e
   simp only[cond_true,Option.some.injEq,Prod.mk.injEq] at e
   obtain⟨rfl,rfl⟩:=e
   rw[hk] at fV;cases fV
  |false=>
   rw[fV] at e
   simp only[cond_false] at e
   have ZD:=c8 h hr hc hb
   obtain⟨zT,_⟩:=ZD
   cases hp:p' with
   |nil=>
    subst hp
    simp only[Option.some.injEq,Prod.mk.injEq] at e
    obtain⟨rfl,rfl⟩:=e
    simp only[aS,Option.some.injEq] at hc
    subst hc
    obtain⟨b2,g1,g2⟩:=hr.get
    simp only[a8,Option.some.injEq] at g1
    subst g1
    have Ce:r.t=b'.t:=by rw[zT];exact g2
    refine .inl ⟨rfl,dZ (by obtain⟨ex0,V8,_⟩:=hr.at_;rw[V8];exact fun e=>by cases e),?_⟩
    rw[zT] at hm ⊢
    obtain rfl:=ez hm hm1
    have:=hr.mat
    rw[Ce,zT] at this
    exact this
   |cons Ig pp=>
    rw[hp] at e
    obtain⟨ex,b2,cK,ow0,j1,j2,j3,j4,hM,j5,j6,j7⟩:=fE h hr
    rw[j1] at e
    simp only[Option.some.injEq,Prod.mk.injEq] at e
    rw[←hp] at e
    obtain⟨rfl,rfl⟩:=e
    obtain⟨r3,ex3,q1,q2,q3⟩:=oV hb
    rw[j1] at q1
    injection q1 with q1 D'
    subst q1 D'
    rw[j3] at q3
    injection q3 with q3
    subst q3
    rw[zT] at hm
    obtain rfl:=ez hm hm1
    have hlen:((S.weaken s').cover s' p').length=S.length:=by simp[St.weaken,St.cover]
    have Gv:s'<S.length:=dZ (by rw[j1];exact fun e=>by cases e)
    have Aj:St.at (((S.weaken s').cover s' p').set s' (.v r (ex++[p']))) s'=.v r (ex++[p']):=by rw[cQ,if_pos ⟨rfl,by rw[hlen];exact Gv⟩]
    exact .inr ⟨r,ex,cM,by simp,by rw[←hp];exact Aj,hr.mat,by rw[←hp];exact hc,by rw[←hp];exact hr.val,by rw[←hp];exact j3,by rw[←hp];exact q2⟩
 |_=>simp[jD] at hl
theorem Ck {b:TV} {s:Nat} {p:Path} {r:TV} {ex:List Path} {cM cs:List Value} {oW:Nat→Prop} {b0:TV} {m:Md} {z:r.t.I} (h:a6 σ w0 W0 Z H S a w) (nT:∀ g,oW g→∃ i,S.length≤i∧σ g=some i)
  (dt:S.at s=.v r (ex++[p])) (RM:ax r.t (bZ a s) cM) (hc:aS w p r.t cM=some cs) (iJ:valid p r.t r.x) (eF:a8 p r.t r.m r.x=some b0) (jq:∀ q∈ex,fX q p=false)
  (nu:fW b p r.t r.m r.x=some (m,z)) (hM:M w (Av σ Z) H b.t b.m b.x cs oW []):∃ dN,a6 dN w0 W0 Z H (S.put (some s) (.v ⟨r.t,m,z⟩ ex)) a w∧∀ g i,S.length≤i→¬oW g→σ g=some i→dN g=some i:=by
 have hh:=h.holds s
 rw[dt] at hh
 obtain⟨axJ,Zz,Mf⟩:=hh
 obtain rfl:=ez RM Zz
 have xc:open_ p (ex++[p]):=by
  intro q hq s' r' e
  rcases List.mem_append.1 hq with hq |hq
  ·exact tC jq q hq s' r' e
  ·rw[List.mem_singleton.1 hq] at e
   have:=congrArg List.length e
   simp at this
 obtain⟨cK,cC,c1,c2,c3,kj⟩:=zS p Mf xc iJ eF
 rw[hc] at c1
 injection c1 with c1
 subst c1
 have fc:b.t=b0.t:=sy p nu eF
 obtain⟨oM,kj⟩:=kj b (m,z) fc nu
 have hlen:cs.length=b.t.size:=(eo _ hM).1
 let dN:Nat→Option Nat:=fun g'=>open Classical in if oW g' then some s else σ g'
 have MG:∀ g' i,dN g'=some i→(oW g'∧i=s)∨(¬oW g'∧σ g'=some i):=fun g' i bo=>by
  simp only[dN] at bo
  split at bo
  ·injection bo with bo;exact .inl ⟨by assumption,bo.symm⟩
  ·exact .inr ⟨by assumption,bo⟩
 have He:∀ g' i,¬oW g'→σ g'=some i→dN g'=some i:=fun g' i hn bo=>by simp only[dN,if_neg hn,bo]
 have Gv:s<S.length:=dZ (by rw[dt];exact fun e=>by cases e)
 have ajo:∀ g',Av dN Z g'→Av σ Z g':=fun g' bo=>by
  rcases bo with⟨i,bo⟩ |bo
  ·rcases MG g' i bo with⟨hx,_⟩ |⟨_,hx⟩
   ·obtain⟨j,_,hj⟩:=nT g' hx
    exact .inl ⟨j,hj⟩
   ·exact .inl ⟨i,hx⟩
  ·exact .inr bo
 have ur:∀ g i,i<S.length→σ g=some i→¬oW g:=fun g i hi hg hx=>by
  obtain⟨j,hj,oz⟩:=nT g hx
  rw[hg] at oz
  injection oz with oz
  omega
 have bU:aU w w (Av σ Z) (Av dN Z):=⟨fun _ _ _=>rfl,fun g _ hg=>ajo g hg⟩
 have hl0:cM.length=r.t.size:=(eo _ Mf).1
 have Ej:=kj w (Av dN Z) cs oW ex bU (by rw[hlen,fc]) (fun g ek qC _=>by
   unfold kH
   split
   ·rename_i q hq
    split
    ·rename_i hgq
     obtain⟨_,_,cur,T,hw,hb,gC⟩:=oM q.1 q.2 hq
     subst hgq
     refine⟨cur,T,hw,?_⟩
     rw[gC,tH _ _ _ (by simpa using hb)]
     simpa using hw
    ·rfl
   ·rfl) (aJ bU _ (fun _ _ _=>rfl) (fun g hg _=>hg) (fun _ hx=>by cases hx) hM) (fun g ek _ qC=>absurd ek (ur g s Gv qC)) (fun q hq1 G2=>by
   rcases List.mem_append.1 G2 with G2 |G2
   ·exact G2
   ·exact absurd (by rw[List.mem_singleton.1 G2];simp) (hq1 []))
 have azx:oK p r.t cM cs=cM:=by
  cases hp:aL p with
  |false=>exact jA p hp
  |true=>
   have h1:=ep (w:=w) p hp eF hl0
   rw[hc] at h1
   injection h1 with h1
   rw[ki p hp eF hl0 (by rw[hlen,fc]),h1]
   exact tH _ _ _ (by rw[hl0];exact dX p hp eF)
 rw[azx] at Ej
 refine⟨dN,?_,fun g i _ hn hg=>He g i hn hg⟩
 have:=h.put (dst:=some s) (av:=.v ⟨r.t,m,z⟩ ex) (v:=bZ a s) bU h.fr (fun g i hg=>?_) (fun g hg=>?_) (fun i g hi hd hg=>⟨rfl,He g i (ur g i hi hg) hg⟩) (fun d hd GG _=>?_)
 ·rw[lX] at this
  exact this
 ·rcases MG g i hg with⟨hx,_⟩ |⟨_,hx⟩
  ·obtain⟨j,_,hj⟩:=nT g hx
   exact⟨h.new g j hj,h.lt g j hj⟩
  ·exact⟨h.new g i hx,h.lt g i hx⟩
 ·have h0:=(h.old g hg).1
  simp only[dN]
  split
  ·rename_i hx
   obtain⟨j,_,hj⟩:=nT g hx
   rw[h0] at hj;cases hj
  ·exact h0
 ·injection hd with hd
  subst hd
  refine⟨cM,RM,aJ (aU.refl _ _) _ (fun _ _ _=>rfl) (fun g hg _=>?_) (fun _ h=>h) Ej⟩
  rcases hg with⟨k1,_⟩ |k1
  ·exact He g s (ur g s Gv k1) k1
  ·simp only[dN,if_pos k1]
theorem MU {b:TV} {s:Nat} {cs:List Value} {oW:Nat→Prop} (h:a6 σ w0 W0 Z H S a w) (nT:∀ g,oW g→∃ i,S.length≤i∧σ g=some i)
  (hs:s<S.length) (RM:ax b.t (bZ a s) cs) (hM:M w (Av σ Z) H b.t b.m b.x cs oW []):∃ dN,a6 dN w0 W0 Z H (S.put (some s) (.v b [])) a w∧∀ g i,S.length≤i→¬oW g→σ g=some i→dN g=some i:=by
 refine⟨gf σ (some s) oW,?_,fun g i hi hn hg=>by
  unfold gf
  rw[if_neg hn]
  exact ld (fun e=>by injection e with e;omega) hg⟩
 have:=h.ME (dst:=some s) (v:=bZ a s) (ow:=oW) (A':=Av σ Z) (fun _ _=>rfl) h.fr (fun g hg=>by
  obtain⟨i,hi,mF⟩:=nT g hg
  exact⟨h.lt g i mF,.inl ⟨i,hi,mF⟩⟩) (fun g _ hg=>by
  rcases hg with hg |hg
  ·exact hg
  ·obtain⟨i,hi,mF⟩:=nT g hg
   exact .inl ⟨i,mF⟩) RM hM
 rw[lX] at this
 exact this
theorem ajv (hT:cN P hh.tab=true) (hO:qs Γ P O w0 W0) (h:a6 σ w0 W0 Z H S a w) {o:Oper} {f:FuncId} {j:Nat} {as:List Operand} {ts:List TypeId} {K:St→Option aa} {ret:aa}
  (e:qO hh O o f j as ts S K=some ret):RI P f (as.map a.eval) w fun v w'=>∃ S',K S'=some ret∧Rel w0 W0 Z H S' (a.put o.dst v) w':=by
 unfold qO at e
 split at e
 case h_2=>cases e
 rename_i x T hx hT'
 split at e
 case h_2=>cases e
 rename_i av dz
 split at e
 case h_2=>cases e
 rename_i s p b S1 hlp htk
 cases Wh:(!b.m.bM&&eK b.t b.m) with
 |false=>rw[Wh] at e;cases e
 |true=>
 rw[Wh] at e
 simp only[cond_true] at e
 simp only[Bool.and_eq_true,Bool.not_eq_true'] at Wh
 obtain⟨hk,hlb⟩:=Wh
 split at e
 case h_2=>cases e
 rename_i args Hj
 obtain⟨tr,Ci⟩:∃ tr,tr=iH S1 as ((List.replicate as.length none).set j (some ⟨b.t,iI b.t b.m 0,b.x⟩)) args:=⟨_,rfl⟩
 cases hls:(qN b.t b.m||iH S1 as ((List.replicate as.length none).set j (some ⟨b.t,iI b.t b.m 0,b.x⟩)) args) with
 |false=>rw[hls] at e;cases e
 |true=>
 rw[hls] at e
 simp only[cond_true] at e
 rw[←Ci,Bool.or_eq_true] at hls
 obtain⟨bL,cs,ow,t1,hm,hM,t3,t2⟩:=eB h dz htk
 have atw:=RL h dz hlp htk hk hm
 have sv:j<as.length:=(List.getElem?_eq_some_iff.1 hx).1
 obtain⟨r1,r2⟩:=jJ t1 as ts _ (by simp) Hj
 let H':Nat→Value:=fun n=>cs.getD n undef
 have hH':∀ (j:Nat) (u:Value),cs[j]?=some u→H' (0+j)=u:=fun j u hj=>by
  simp only[H',Nat.zero_add,List.getD_eq_getElem?_getD,hj,Option.getD_some]
 have hMt:=adb (H':=H') (n:=0) b.t hlb hM hH'
 let uv:Nat→Option Nat:=fun g=>open Classical in if ow g then some j else none
 have uw:∀ g i,uv g=some i↔ow g∧j=i:=fun g i=>by
  simp only[uv]
  split
  ·rename_i hx;exact⟨fun hg=>⟨hx,by injection hg⟩,fun hg=>by rw[hg.2]⟩
  ·rename_i hx;exact⟨fun hg=>(by cases hg),fun hg=>absurd hg.1 hx⟩
 have tq:∀ g,Own uv g↔ow g:=fun g=>⟨fun⟨i,hi⟩=>((uw g i).1 hi).1,fun hg=>⟨j,(uw g _).2 ⟨hg,rfl⟩⟩⟩
 have Iu:∀ g,ow g→Pk bL S1.length g:=fun g hg=>by rw[t2];exact t3.now g hg
 let B:Nat→Prop:=fun g=>tr=true∧Av σ Z g∧ ¬ow g
 have RJ:aU w w (Av σ Z) (Av uv B):=⟨fun _ _ _=>rfl,fun g _ hg=>by
  rcases hg with hg |hg
  ·obtain⟨i,_,hi⟩:=t3.MD g ((tq g).1 hg)
   exact .inl ⟨i,hi⟩
  ·exact hg.2.1⟩
 have att:aU w w (Av bL Z) (Av uv B):=⟨fun _ _ _=>rfl,fun g hl hg=>t3.Av.2 (RJ.wr g hl hg)⟩
 have aju:tr=false→aU w w (Pk bL S1.length) (Av uv B):=fun hn=>⟨fun _ _ _=>rfl,fun g _ hg=>by
  rcases hg with hg |hg
  ·exact Iu g ((tq g).1 hg)
  ·have h1:=hg.1;rw[hn] at h1;cases h1⟩
 have r3:=fun hf:tr=true=>lZ t1 as ts _ (by simp) Hj (Ci.symm.trans hf)
 have eX:In Γ B H' w uv args (as.map a.eval):=by
  refine⟨by simp[r1],fun g i hg=>?_,fun g hg=>⟨?_,?_⟩,fun g o hg=>⟨?_,?_⟩,fun k r fV=>?_⟩
  ·obtain⟨q1,q2⟩:=(uw g i).1 hg
   obtain⟨k,_,hk⟩:=t3.MD g q1
   exact⟨by omega,h.lt g k hk⟩
  ·cases hc:uv g with
   |none=>rfl
   |some i=>exact absurd ((uw g i).1 hc).1 hg.2.2
  ·rcases hg.2.1 with⟨i,hi⟩ |hz
   ·exact h.lt g i hi
   ·have:=(h.old g hz).2;have:=h.fr.size;omega
  ·cases hc:uv g with
   |none=>rfl
   |some i=>
    obtain⟨k,_,hk⟩:=t3.MD g ((uw g i).1 hc).1
    obtain⟨e1,e2⟩:=hO.env g o hg
    rcases h.new g k hk with hx |hx
    ·have:=bg e2;omega
    ·exact absurd hx e1
  ·obtain⟨e1,e2⟩:=hO.env g o hg
   rw[h.fr.block g (bg e2) e1,e2]
  ·rw[List.getElem?_map]
   rcases r2 k r fV with⟨b',It,rfl⟩ |⟨x',wV,iw⟩
   ·rw[List.getElem?_set] at It
    split at It
    ·rename_i RG
     subst RG
     simp only[List.length_replicate,if_pos sv,Option.some.injEq] at It
     subst It
     rw[hx]
     exact⟨_,rfl,cs,hm,aJ RJ _ (fun _ _ _=>rfl) (fun g hg _=>(uw g j).2 ⟨hg,rfl⟩) (fun _ h=>h) hMt⟩
    ·rw[List.getElem?_replicate] at It
     split at It<;>simp at It
   ·have fin:∀ {A0:Nat→Prop},aU w w A0 (Av uv B)→Ch w A0 H' r (a.eval x') (fun _=>False)→Ch w (Av uv B) H' r (a.eval x') (fun g=>uv g=some k):=fun bU iw=>by
     cases r with
     |tv b=>
      obtain⟨c,c1,c2⟩:=iw
      exact⟨c,c1,aJ bU _ (fun _ _ _=>rfl) (fun _ hg _=>hg.elim) (fun _ h=>h) c2⟩
     |fn f' cw=>
      obtain⟨vs,c1,c2,c3⟩:=iw
      exact⟨vs,c1,c2,fun k c hk=>by obtain⟨u,u1,u2⟩:=c3 k c hk;exact⟨u,u1,bV bU _ u2⟩⟩
    cases MT:tr with
    |false=>
     rw[wV]
     exact⟨_,rfl,fin (aju MT) (iw H')⟩
    |true=>
     rcases r3 MT k r fV with⟨b',It,rfl⟩ |⟨x2,wJ,atu⟩
     ·rw[List.getElem?_set] at It
      split at It
      ·rename_i RG
       subst RG
       simp only[List.length_replicate,if_pos sv,Option.some.injEq] at It
       subst It
       rw[hx]
       exact⟨_,rfl,cs,hm,aJ RJ _ (fun _ _ _=>rfl) (fun g hg _=>(uw g j).2 ⟨hg,rfl⟩) (fun _ h=>h) hMt⟩
      ·rw[List.getElem?_replicate] at It
       split at It<;>simp at It
     ·rw[wV] at wJ
      injection wJ with wJ
      subst wJ
      rw[wV]
      exact⟨_,rfl,fin att (atu H')⟩
 refine((hO.sd f).1 _ _ ret w uv _ H' B e eX).mono fun v w' hv=>?_
 obtain⟨rt,Ce,GH⟩:=hv
 split at Ce
 case h_2=>cases Ce
 rename_i c hrefs
 cases gh:rt.res.all (fun d=>fu d.t d.m&&qn d.m) with
 |false=>rw[gh] at Ce;cases Ce
 |true=>
 rw[gh] at Ce
 simp only[cond_true] at Ce
 split at Ce
 case isFalse=>cases Ce
 rename_i hct
 split at Ce
 case isFalse=>cases Ce
 rename_i hcm
 split at Ce
 case h_2=>cases Ce
 rename_i S2 ZE
 obtain⟨dk,vs,q1,q2,q3,q4,q5⟩:=GH.res
 obtain⟨cK,hMc⟩:=q5 c hrefs
 obtain⟨rb,hR,Hk,bU,Wg,km,axT⟩:=RK t1 Iu tq GH.fr q3
 -- what comes back
 obtain⟨ct,cm,cx⟩:=c
 simp only at hct hcm hMc ZE
 subst hct
 subst hcm
 have atp:aU w w' (Av σ Z) (Av rb Z):=⟨fun g hn hl=>bU.same g (fun hx=>hn (t3.Av.1 hx)) hl,fun g hl hg=>t3.Av.1 (bU.wr g hl hg)⟩
 have atv:qN b.t b.m=true∨aU w' w' (Av dk B) (Av rb Z):=hls.imp id fun MT=>⟨fun _ _ _=>rfl,fun g _ hg=>by
  rcases hg with⟨i,hi⟩ |hz
  ·rcases axT g i hi with⟨k,hk⟩ |⟨ur,hk⟩
   ·exact .inl ⟨k,hk⟩
   ·exact .inr ⟨MT,t3.Av.1 (.inl ⟨i,hk⟩),ur⟩
  ·refine .inr ⟨MT,.inr hz,fun hx=>?_⟩
   obtain⟨i,_,hi⟩:=Iu g hx
   rw[(t1.old g hz).1] at hi
   cases hi⟩
 have hMb:=xg (B:=Av dk B) (A':=Av rb Z) atp b.t hlb atv hM hH' hMc
 have nT:∀ g,dk g=some rt.res.length→∃ i,S1.length≤i∧rb g=some i:=fun g hg=>⟨_,by omega,Hk g _ hg⟩
 have hR2:∃ dN,a6 dN w0 W0 Z H S2 a w'∧∀ g i,S1.length≤i→¬dk g=some rt.res.length→rb g=some i→dN g=some i:=by
  rcases atw with⟨rfl,acM,hmt⟩ |⟨r,ex,cM,hp,dt,hmt,jq,iJ,eF,adg⟩
  ·simp only[St.oO,Option.some.injEq] at ZE
   subst ZE
   exact MU (b:=⟨b.t,b.m,_⟩) hR nT (by rw[t2];exact acM) hmt hMb
  ·cases p with
   |nil=>exact absurd rfl hp
   |cons Ig pp=>
   simp only[St.oO,dt] at ZE
   split at ZE
   case h_2=>cases ZE
   rename_i m z nu
   simp only[Option.some.injEq,List.dropLast_concat] at ZE
   subst ZE
   have hh0:=t1.holds s
   rw[dt] at hh0
   obtain⟨axJ,Zz,Mf⟩:=hh0
   obtain rfl:=ez hmt Zz
   have xc:open_ (Ig::pp) (ex++[Ig::pp]):=by
    intro q hq s' r' e
    rcases List.mem_append.1 hq with hq |hq
    ·exact tC adg q hq s' r' e
    ·rw[List.mem_singleton.1 hq] at e
     have:=congrArg List.length e
     simp at this
   have Gv:s<S1.length:=dZ (by rw[dt];exact fun e=>by cases e)
   have ajr:=(ey bU (Ig::pp) none Mf (fun g hg _=>km g s Gv hg) xc iJ).1
   exact Ck (b:=⟨b.t,b.m,_⟩) hR nT dt hmt (ajr.trans jq) iJ eF adg nu hMb
 refine⟨_,Ce,?_⟩
 obtain⟨σ3,hR3,hR4⟩:=hR2
 have aAb:S2.length=S1.length:=by have:=hR3.len;have:=t1.len;omega
 obtain⟨n,hn⟩:∃ n,n=rt.res.length:=⟨_,rfl⟩
 have azy:∀ g k,k<n→dk g=some k→σ3 g=some (S1.length+k):=fun g k hk hg=>hR4 g _ (by omega) (fun e=>by rw[hg] at e;injection e with e;omega) (Hk g k hg)
 refine⟨_,hR3.V9 (ow:=fun g=>∃ k,k<n∧dk g=some k) (Nat.le_refl _) (fun _ _ _=>rfl) hR3.fr (fun g ⟨k,Q5,hk⟩=>⟨(q3 g k hk).2,.inl ⟨S1.length+k,by omega,azy g k Q5 hk⟩⟩) fun d _ g1 g2=>?_⟩
 have Ej:∀ (i:Nat) (b:TV),rt.res[i]?=some b→∃ u cs,vs[i]?=some u∧ax b.t u cs∧M w' (Av (gf σ3 o.dst fun g=>∃ k,k<n∧dk g=some k) Z) H b.t b.m b.x cs (fun g=>i<n∧dk g=some i) []:=fun i b hb=>by
  obtain⟨u,c,u1,u2,u3⟩:=q4 i b hb
  have GY:i<n:=by rw[hn];exact(List.getElem?_eq_some_iff.1 hb).1
  have hsb:=List.all_eq_true.1 gh b (List.mem_of_getElem? hb)
  simp only[Bool.and_eq_true] at hsb
  exact⟨u,c,u1,u2,aJ (aU.refl _ _) _ (fun _ _ _=>rfl) (fun g hg _=>⟨GY,hg⟩) (fun _ h=>h) (l4 _ hsb.2 (iQ _ hsb.1 u3))⟩
 have adf:∀ l:List TV,l=rt.res→Holds w' (Av (gf σ3 o.dst fun g=>∃ k,k<n∧dk g=some k) Z) H (bZ (a.put o.dst v)) (S2.put o.dst (.th (l.map some))) (fun g=>gf σ3 o.dst (fun g=>∃ k,k<n∧dk g=some k) g=some d) (.th (l.map some)) (.tuple vs.toArray):=fun l hl=>by
  subst hl
  refine⟨vs,fun g=>(dk g).getD 0,rfl,by simp[q2],fun j b hj=>?_⟩
  rw[List.getElem?_map] at hj
  cases hb:rt.res[j]? with
  |none=>rw[hb] at hj;cases hj
  |some b'=>
   rw[hb] at hj
   simp only[Option.map_some,Option.some.injEq] at hj
   subst hj
   obtain⟨u,c,u1,u2,u3⟩:=Ej j b' hb
   exact⟨u,c,u1,u2,aJ (aU.refl _ _) _ (fun _ _ _=>rfl) (fun g hg _=>⟨g1 g ⟨j,hg⟩,by show(dk g).getD 0=j;rw[hg.2];rfl⟩) (fun _ h=>h) u3⟩
 subst q1
 match Ev:rt.res,q2 with
 |[b],q2=>
  match vs,q2 with
  |[u],_=>
   obtain⟨u',c,u1,u2,u3⟩:=Ej 0 b (by rw[Ev];rfl)
   simp only[List.getElem?_cons_zero,Option.some.injEq] at u1
   subst u1
   exact⟨c,u2,aJ (aU.refl _ _) _ (fun _ _ _=>rfl) (fun g hg _=>g1 g ⟨0,hg⟩) (fun _ h=>h) u3⟩
 |[],q2=>
  match vs,q2 with
  |[],_=>exact adf [] Ev.symm
 |b::b'::r,q2=>
  match vs,q2 with
  |u::u'::vr,_=>exact adf (b::b'::r) Ev.symm
end Go.Pv
namespace Go.Pv
set_option linter.unusedVariables false
set_option linter.unusedSimpArgs false
variable {P:Program} {w w':World} {A A' Wr:Nat→Prop} {H:Nat→Value} {tm qH:Nat→Value} {S S' S1:St} {σ bL dN:Nat→Option Nat} {w0:World} {W0 Z:Nat→Prop} {a:Act} {own:Nat→Prop} {v:Value} {Θ:db} {dst:Option Nat}
theorem a6.drop (h:a6 σ w0 W0 Z H S a w) (ow:Nat→Prop) (qG:∀ g,ow g→∀ i,σ g=some i→S.length≤i):
  ∃ dN,a6 dN w0 W0 Z H S a w∧(∀ g,Av dN Z g→Av σ Z g∧ ¬ow g∨Z g):=by
 let dN:Nat→Option Nat:=fun g=>open Classical in if ow g then none else σ g
 have h2:∀ g i,dN g=some i→¬ow g∧σ g=some i:=fun g i hg=>by
  simp only[dN] at hg
  split at hg
  ·cases hg
  ·exact⟨by assumption,hg⟩
 have h3:∀ g i,¬ow g→σ g=some i→dN g=some i:=fun g i hn hg=>by simp only[dN,if_neg hn,hg]
 have bU:aU w w (Av σ Z) (Av dN Z):=⟨fun _ _ _=>rfl,fun g _ hg=>by
  rcases hg with⟨i,hi⟩ |hz
  ·exact .inl ⟨i,(h2 g i hi).2⟩
  ·exact .inr hz⟩
 refine⟨dN,⟨h.len,h.defers,h.fr,fun g i hg=>h.new g i (h2 g i hg).2,fun g i hg=>h.lt g i (h2 g i hg).2,fun g hg=>⟨?_,(h.old g hg).2⟩,fun i=>?_⟩,fun g hg=>?_⟩
 ·simp only[dN]
  split
  ·rfl
  ·exact(h.old g hg).1
 ·by_cases GY:i<S.length
  ·refine(h.holds i).kept bU (fun g hg _=>⟨rfl,h3 g i (fun hx=>?_) hg⟩) (fun s hs=>⟨fun _ _ h=>h,rfl,_,h.holds s,fun _ _ _=>rfl⟩)
   have:=qG g hx i hg
   omega
  ·have hd:S.at i=.dead:=Classical.byContradiction fun hx=>GY (dZ hx)
   rw[hd];trivial
 ·rcases hg with⟨i,hi⟩ |hz
  ·exact .inl ⟨.inl ⟨i,(h2 g i hi).2⟩,(h2 g i hi).1⟩
  ·exact .inr hz
theorem mP:∀ (p:Path) {t:Ty} {m:Md} {x:t.I} {b:TV},Mg p=true→a8 p t m x=some b→valid p t x
 |[],_,_,_,_,_,_=>trivial
 | .idx _::_,_,_,_,_,h,_=>by simp[Mg] at h
 | .deref::p,t,m,x,b,h,e=>by
  cases t<;>simp only[a8] at e<;>first |cases e |exact mP p h e
 | .fst::p,t,m,x,b,h,e=>by
  cases t<;>simp only[a8] at e<;>first |cases e |exact mP p h e
 | .snd::p,t,m,x,b,h,e=>by
  cases t<;>simp only[a8] at e<;>first |cases e |exact mP p h e
theorem a6.freeze (h:a6 σ w0 W0 Z H S a w) {d:Nat} {r:TV} (dt:S.at d=.v r []):Rel w0 W0 Z H (S.put (some d) (.v (Q9 r) [])) a w:=by
 have hh:=h.holds d
 rw[dt] at hh
 obtain⟨cs,hm,hM⟩:=hh
 have h0:∀ g,σ g=some d→¬Av (release σ (some d)) Z g:=fun g hg hx=>by
  rcases hx with⟨i,hi⟩ |hz
  ·obtain⟨h1,h2⟩:=fb hi
   rw[hg] at h1
   exact h2 h1
  ·rw[(h.old g hz).1] at hg;cases hg
 have bU:aU w w (Av σ Z) (Av (release σ (some d)) Z):=⟨fun _ _ _=>rfl,fun g _ hg=>ue hg⟩
 refine⟨release σ (some d),?_⟩
 have:=h.put (dst:=some d) (av:=.v (Q9 r) []) (v:=bZ a d) bU h.fr (fun g i hg=>⟨h.new g i (fb hg).1,h.lt g i (fb hg).1⟩) (fun g hg=>by
  unfold release
  split
  ·rfl
  ·exact(h.old g hg).1) (fun i g _ hd hg=>⟨rfl,ld hd hg⟩) (fun d' V1 _ _=>by
  injection V1 with V1
  subst V1
  refine⟨cs,hm,nE (t:=r.t) rfl (M_K (fun g _ hx=>ue hx) r.t rfl h0 hM)⟩)
 rw[lX] at this
 exact this
theorem ZF (h:Rel w0 W0 Z H S a w) {d:Nat} (e:VS S d=some (true,S')):Rel w0 W0 Z H S' a w:=by
 obtain⟨σ,h⟩:=h
 unfold VS at e
 split at e
 case h_2=>cases e
 rename_i t s st pp dt
 split at e
 case h_2=>cases e
 rename_i r ex hs
 split at e
 case h_2=>cases e
 rename_i b eF
 cases hk:b.m.bM with
 |true=>rw[hk] at e;cases e
 |false=>
 rw[hk] at e
 simp only[cond_false,Option.some.injEq,Prod.mk.injEq] at e
 obtain⟨jq,rfl⟩:=e
 have hal:=h.holds d
 rw[dt] at hal
 obtain⟨bL,cs2,ow,t1,hm,hM,Q5,hn⟩:=q8 (vv:=bZ a d) h (by simp) hal hs eF hk (fun q hq=>by simpa using List.all_eq_true.1 jq q hq)
 have:=t1.ME (dst:=some d) (v:=bZ a d) (ow:=ow) (A':=Av bL Z) (fun _ _=>rfl) t1.fr (fun g hg=>by
  obtain⟨i,hi,mF⟩:=Q5.now g hg
  exact⟨t1.lt g i mF,.inl ⟨i,by omega,mF⟩⟩) (fun g _ hg=>by
  rcases hg with hg |hg
  ·exact hg
  ·obtain⟨i,hi,mF⟩:=Q5.now g hg
   exact .inl ⟨i,mF⟩) hm hM
 rw[lX] at this
 exact⟨_,this⟩
theorem adh (h:Rel w0 W0 Z H S a w) (q:Nat×Path):Rel w0 W0 Z H (S.as7 q) a w:=by
 obtain⟨σ,h⟩:=h
 obtain⟨s,p⟩:=q
 unfold St.as7
 simp only
 split
 case h_2=>exact⟨σ,h⟩
 rename_i r dt
 split
 case h_2=>exact⟨σ,h⟩
 rename_i b eF
 cases hc:(b.m.bM|| !Mg p) with
 |true=>exact⟨σ,h⟩
 |false=>
 simp only[cond_false]
 simp only[Bool.or_eq_false_iff,Bool.not_eq_false'] at hc
 obtain⟨hk,hni⟩:=hc
 split
 ·exact h.freeze dt
 rename_i hp
 split
 case h_2=>exact⟨σ,h⟩
 rename_i m z nu
 have hh:=h.holds s
 rw[dt] at hh
 obtain⟨cM,RM,Mf⟩:=hh
 have iJ:=mP p hni eF
 have xc:open_ p []:=fun _ hq=>by cases hq
 obtain⟨cs,cC,k1,k2,k3⟩:=focus p Mf xc iJ eF
 have hal:∃ t vv,Holds w (Av σ Z) H (bZ a) S (fun _=>False) (.al t s p) vv∧t=b.t∧ax t vv cs:=by
  obtain⟨vv,hvv⟩:∃ vv,ax b.t vv cs:=by
   unfold ax
   cases hg:isAgg b.t with
   |true=>exact⟨_,by rw[if_pos rfl]⟩
   |false=>
    have hl:=(eo _ k3).1
    have h1:=Hb hg
    rw[h1] at hl
    obtain⟨u,rfl⟩:=List.length_eq_one_iff.1 hl
    exact⟨u,by simp⟩
  exact⟨b.t,vv,⟨r,cM,cs,⟨⟨[],dt,xc⟩,iJ,⟨b,eF,rfl⟩,RM⟩,k1,hvv⟩,rfl,hvv⟩
 obtain⟨t,vv,hal,rfl,hvv⟩:=hal
 obtain⟨bL,cs2,ow,t1,hm,hM,Q5,hn⟩:=q8 (vv:=vv) h hp hal dt eF hk (fun _ hq=>by cases hq)
 obtain rfl:=ez hvv hm
 obtain⟨dN,d1,d2⟩:=t1.drop ow (fun g hg i hi=>by
  obtain⟨j,hj,oz⟩:=Q5.now g hg
  rw[hi] at oz
  injection oz with oz
  omega)
 have hK:K w (Av dN Z) b.t b.x cs:=M_K (fun g _ hx=>by
  rcases d2 g hx with hx |hx
  ·exact hx.1
  ·exact .inr hx) b.t rfl (fun g hg hx=>by
  rcases d2 g hx with hx |hx
  ·exact hx.2 hg
  ·obtain⟨j,_,hj⟩:=Q5.now g hg
   rw[(t1.old g hx).1] at hj;cases hj) hM
 have azz:St.at (((S.weaken s).cover s p).set s (.v r [p])) s=.v r ([]++[p]):=by
  rw[cQ,if_pos ⟨rfl,by simp only[St.weaken,St.cover,List.length_map];exact dZ (by rw[dt];exact fun e=>by cases e)⟩]
  rfl
 obtain⟨σ3,h3,_⟩:=Ck (b:=Q9 b) (oW:=fun _=>False) (ex:=[]) d1 (fun _ h=>h.elim) azz RM k1 iJ eF (fun _ hq=>by cases hq) nu (nE (t:=b.t) rfl hK)
 exact⟨σ3,h3⟩
theorem MV:∀ (l:List (Nat×List (Nat×Path))) {id:Nat},Rel w0 W0 Z H S a w→Rel w0 W0 Z H (Y' l id S) a w
 |[],_,h=>h
 |q::r,id,h=>by
  unfold Y'
  cases Nat.beq q.1 id with
  |true=>
   simp only[cond_true]
   generalize q.2=l
   induction l generalizing S with
   |nil=>exact h
   |cons x l ih=>exact ih (adh h x)
  |false=>exact MV r h
end Go.Pv
namespace Go.Pv
set_option linter.unusedVariables false
set_option linter.unusedSimpArgs false
variable {Γ:Gl} {P:Program} {w w':World} {A A' Wr:Nat→Prop} {H:Nat→Value} {tm qH:Nat→Value} {S S' S1:St} {σ bL dN:Nat→Option Nat} {w0:World} {W0 Z:Nat→Prop} {a:Act} {own:Nat→Prop} {v:Value} {Θ:db} {dst:Option Nat} {O:jr} {hh:Hint} {Q:Exit→Act→World→Prop} {K:St→Option aa} {ret:aa}
def Iv (w0:World) (W0 Z:Nat→Prop) (H:Nat→Value) (K:St→Option aa) (ret:aa) (a:Act) (w:World):Prop:=∃ S,K S=some ret∧Rel w0 W0 Z H S a w
theorem Iw {o:Oper} {c:Call} {f:FuncId} {xh:List Value} (ho:o.op=.call c) (hc:∃ x,c.callee=.value x∧a.eval x=.func (.func f) #[] xh.toArray) {R:Value→World→Prop} (hd:RI P f (c.args.toList.map a.eval++xh) w R)
  {N:Act→World→Prop} (hN:∀ v w',R v w'→N (a.put o.dst v) w'):o.wp P a w N Q:=by
 obtain⟨x,hx,hv⟩:=hc
 have cf:(execOp a.eval o).run P w=(callFunc f (c.args.toList.map a.eval++xh).toArray).run P w:=by
  simp only[execOp,ho,resolve,hx,Deferred.ofValue,hv,Sem.run_bind,Sem.run_pure,Result.andThen_ok,invoke]
  congr 2
  apply Array.toList_inj.1
  simp
 unfold Oper.wp
 rw[cf]
 rcases hd with⟨h1,h2⟩ |⟨v,w',h1,h2⟩
 ·rw[h1,Oper.upon_enter]
  refine h2.mono fun e w' he=>?_
  cases e with
  |returned v=>exact hN _ _ he
  |panicked c=>exact he.elim
  |outgrown=>exact he.elim
 ·rw[h1,Oper.upon_value]
  exact hN _ _ h2
theorem Hl {f:FuncId} {c:Call} (hc:c.callee=.value (.func f)) (h:C6 O (.call c)=true):∀ p∈O.sig f,p=.val:=by
 obtain⟨callee,args,ats⟩:=c
 simp only at hc
 subst hc
 simp only[C6,List.all_eq_true] at h
 intro p hp
 have:=h p hp
 cases p<;>first |rfl |cases this
theorem RN {op:Op} (h:quiet op=true):MR op=true:=by
 unfold MR
 split<;>first |rfl |exact h
theorem Ew:∀ (l:List Pass) (n:Nat) {j:Nat},uc l n=some j→¬ ∀ p∈l,p=.val
 |[],n,j,h,_=>by cases h
 | .nH::r,n,j,h,hv=>by have:=hv .nH (by simp);cases this
 | .val::r,n,j,h,hv=>Ew r (n+1) (by simpa[uc] using h) (fun p hp=>hv p (by simp[hp]))
 | .take::r,n,j,h,hv=>by have:=hv .take (by simp);cases this
theorem adi (hT:cN P hh.tab=true) (h:a6 σ w0 W0 Z H S a w) {T:TypeId} {x:Operand} {eq:Bool} {dst:Option Nat} (e:VR hh dst T eq x S K=some ret):
  (∃ A n c,a.eval x=.slice A n c)∧∃ q,(binOp (bif eq then .eql else .neq) T (a.eval x) (.slice none 0 0)).run P w=.ok (.bool q) w∧∃ S',K S'=some ret∧Rel w0 W0 Z H S' (a.put dst (.bool q)) w:=by
 unfold VR at e
 split at e
 case h_2=>cases e
 rename_i t m xs hx
 cases zP:hh.tab.is T (.sl t) with
 |false=>rw[zP] at e;cases e
 |true=>
 rw[zP] at e
 simp only[cond_true] at e
 obtain⟨cs,h1,h2,_⟩:=gV h hx
 simp only[Go.Pv.K] at h2
 obtain⟨A,c,rfl,hc,C7⟩:=h2
 have hv:a.eval x=.slice A (List.length xs) c:=by simpa[ax,isAgg] using h1.symm
 obtain⟨i,hi,fc⟩:=dL zP
 obtain⟨_,hu,hTT⟩:=cR hT hi
 obtain⟨u1,_,_⟩:=kL hu fc
 rw[hTT] at u1
 have eX:∀ d,(Op.equalIn (d+1) T (.slice A (List.length xs) c) (.slice none 0 0)).run P w=.ok A.isNone w:=fun d=>by
  simp only[Op.equalIn,Sem.run_bind,run_underlying u1,Result.andThen_ok]
  cases A<;>simp
 have cf:(Op.equal T (a.eval x) (.slice none 0 0)).run P w=.ok A.isNone w:=by
  rw[hv]
  exact eX 9999
 have hq:(binOp (bif eq then .eql else .neq) T (a.eval x) (.slice none 0 0)).run P w=.ok (.bool (bif eq then A.isNone else !A.isNone)) w:=by
  cases eq<;>simp[binOp,cf]
 refine⟨⟨A,_,c,hv⟩,_,hq,?_⟩
 have put:∀ q:Bool,Rel w0 W0 Z H (S.put dst (.v ⟨.bool,.k,q⟩ [])) (a.put dst (.bool q)) w:=fun q=>⟨_,h.pure (cE q)⟩
 cases atx:List.isEmpty xs with
 |true=>
  rw[atx] at e
  simp only[cond_true] at e
  obtain⟨e1,e2⟩:=Za e
  cases hb:(bif eq then A.isNone else !A.isNone) with
  |true=>exact⟨_,e1,put true⟩
  |false=>exact⟨_,e2,put false⟩
 |false=>
  rw[atx] at e
  simp only[cond_false] at e
  have hp:0<List.length xs:=by
   cases xs with
   |nil=>simp at atx
   |cons _ _=>simp
  obtain⟨g,off,cur,T',fr,rfl,_⟩:=C7 hp
  cases eq with
  |true=>exact⟨_,e,put false⟩
  |false=>exact⟨_,e,put true⟩
theorem axU (hT:cN P hh.tab=true) (hO:qs Γ P O w0 W0) (h:a6 σ w0 W0 Z H S a w) {o:Oper} (e:gB hh O o S K=some ret):
  o.wp P a w (fun a' w'=>Iv w0 W0 Z H K ret a' w'∧(C6 O o.op=true→Ext w w')) Q:=by
 unfold gB at e
 split at e
 ·rename_i f as ts ho
  split at e
  ·rename_i j hj
   have hd:=ajv hT hO h e
   rw[←List.append_nil (as.toList.map a.eval)] at hd
   refine Iw ho (xh:=[]) ⟨_,rfl,by simp[Act.eval]⟩ hd ?_
   intro v w' ⟨S',h1,h2⟩
   exact⟨⟨S',h1,h2⟩,fun hx=>absurd (Hl rfl (by rw[ho] at hx;exact hx)) (Ew _ _ hj)⟩
  refine Iw ho (xh:=[]) ⟨_,rfl,by simp[Act.eval]⟩ (Wf hT hO h (.inl ⟨rfl,rfl⟩) e) ?_
  intro v w' ⟨S',h1,h2,h3⟩
  exact⟨⟨S',h1,h2⟩,fun hx=>h3 (Hl rfl (by rw[ho] at hx;exact hx))⟩
 ·rename_i i as ts ho
  split at e
  case h_2=>cases e
  rename_i f cw dt
  have hold:=h.holds i
  rw[dt] at hold
  obtain⟨vs,v1,v2,v3⟩:=hold
  refine Iw ho (xh:=vs) ⟨_,rfl,v1⟩ (Wf hT hO h (.inr ⟨i,rfl,v1⟩) e) ?_
  intro v w' ⟨S',h1,h2,h3⟩
  refine⟨⟨S',h1,h2⟩,fun hx=>?_⟩
  rw[ho] at hx
  cases hx
 ·rename_i T x T' ho
  obtain⟨⟨A,n,c,hv⟩,q,hq,S',hS,hR⟩:=adi hT h (eq:=true) e
  unfold Oper.wp
  have hr:(execOp a.eval o).run P w=.ok (.value (.bool q)) w:=by
   have qE:(binOp .eql T (a.eval x) (a.eval (.const (.slice none 0 0)))).run P w=.ok (.bool q) w:=hq
   have hg:(eqGuard .eql T x (.const (.slice none 0 0)) (a.eval x) (a.eval (.const (.slice none 0 0)))).run P w=.ok () w:=by
    rw[hv]
    simp[eqGuard,Act.eval]
   simp only[execOp,ho,Sem.run_bind]
   rw[hg]
   simp only[Result.andThen_ok]
   rw[qE]
   rfl
  rw[hr,Oper.upon_value]
  exact⟨⟨S',hS,hR⟩,fun _=>Ext.refl w⟩
 ·rename_i T x T' ho
  obtain⟨⟨A,n,c,hv⟩,q,hq,S',hS,hR⟩:=adi hT h (eq:=false) e
  unfold Oper.wp
  have hr:(execOp a.eval o).run P w=.ok (.value (.bool q)) w:=by
   have qE:(binOp .neq T (a.eval x) (a.eval (.const (.slice none 0 0)))).run P w=.ok (.bool q) w:=hq
   have hg:(eqGuard .neq T x (.const (.slice none 0 0)) (a.eval x) (a.eval (.const (.slice none 0 0)))).run P w=.ok () w:=by
    rw[hv]
    simp[eqGuard,Act.eval]
   simp only[execOp,ho,Sem.run_bind]
   rw[hg]
   simp only[Result.andThen_ok]
   rw[qE]
   rfl
  rw[hr,Oper.upon_value]
  exact⟨⟨S',hS,hR⟩,fun _=>Ext.refl w⟩
 ·rename_i n1 n2 n3 n4
  split at e
  case h_2=>cases e
  rename_i g S1 Gt
  cases g with
  |false=>cases e
  |true=>
  simp only[cond_true] at e
  by_cases axV:MR o.op=true
  ·obtain⟨w',v,r1,r2,r3⟩:=ac7 hT h axV Gt
   unfold Oper.wp
   rw[r1,Oper.upon_value]
   exact⟨⟨S1,e,r3⟩,fun _=>r2⟩
  ·obtain⟨w',v,r1,r3⟩:=axS hT h Gt
   have hna: ¬C6 O o.op=true:=fun hx=>by
    apply axV
    revert hx n1
    generalize o.op=op
    intro n1 hx
    unfold C6 at hx
    split at hx<;>first |rfl |(exact absurd rfl (n1 _ _ _)) |exact RN hx
   unfold Oper.wp
   rcases r1 with r1 |⟨rfl,r1⟩
   ·rw[r1,Oper.upon_value]
    exact⟨⟨S1,e,r3⟩,fun hx=>absurd hx hna⟩
   ·rw[r1,Oper.upon_skip]
    exact⟨⟨S1,e,r3⟩,fun hx=>absurd hx hna⟩
end Go.Pv
namespace Go.Pv
set_option linter.unusedVariables false
set_option linter.unusedSimpArgs false
variable {Γ:Gl} {P:Program} {w w':World} {A A' Wr:Nat→Prop} {H:Nat→Value} {tm qH:Nat→Value} {S S' S1:St} {σ bL dN:Nat→Option Nat} {w0:World} {W0 Z:Nat→Prop} {a:Act} {own:Nat→Prop} {v:Value} {Θ:db} {dst:Option Nat} {O:jr} {hh:Hint} {Q:Exit→Act→World→Prop} {K:St→Option aa} {ret:aa} {ops:Array Oper}
theorem adj {i:Nat} (h:a6 σ w0 W0 Z H S a w) (hi:i<S.length):a.tmps[i]?=some (bZ a i):=by
 have hl:i<a.tmps.size:=by rw[←h.len];exact hi
 unfold bZ
 rw[Array.getD_eq_getD_getElem?,Array.getElem?_eq_getElem hl]
 rfl
theorem RO (h:a6 σ w0 W0 Z H S a w) {j d:Nat} {m:Md} {q:Bool} {ex:List Path} (hd:(ops[j]?).bind (·.dst)=some d) (dt:S.at d=.v ⟨.bool,m,q⟩ ex):yielded ops a.tmps j=some q∧bZ a d=.bool q:=by
 have hl:=dZ (S:=S) (i:=d) (by rw[dt];exact fun e=>by cases e)
 have hh:=h.holds d
 rw[dt] at hh
 obtain⟨cs,h1,h2⟩:=hh
 simp only[M] at h2
 have hv:=da h1 h2.2
 refine⟨?_,hv⟩
 unfold yielded
 rw[hd,Option.bind_some,adj h hl,hv]
theorem MW (h:a6 σ w0 W0 Z H S a w) {j d:Nat} (hd:(ops[j]?).bind (·.dst)=some d) (dt:S.at d=.undef):yielded ops a.tmps j=none:=by
 have hl:=dZ (S:=S) (i:=d) (by rw[dt];exact fun e=>by cases e)
 have hh:=h.holds d
 rw[dt] at hh
 have hv:bZ a d=undef:=hh
 unfold yielded
 rw[hd,Option.bind_some,adj h hl,hv]
 rfl
theorem Rel.undef (h:a6 σ w0 W0 Z H S a w) (dst:Option Nat):Rel w0 W0 Z H (S.put dst .undef) (a.put dst Go.undef) w:=⟨_,h.pure (av:=.undef) (v:=Go.undef) rfl⟩
theorem adk {S:St} {d:Nat} {a:AV} (h:S.at d=a) (hd:a≠ .dead):S.set d a=S:=by
 unfold St.at at h
 rw[List.getD_eq_getElem?_getD] at h
 by_cases hl:d<S.length
 ·rw[List.getElem?_eq_getElem hl] at h
  simp only[Option.getD_some] at h
  subst h
  simp
 ·rw[List.getElem?_eq_none (by omega)] at h
  exact absurd h.symm hd
theorem ux (h:a6 σ w0 W0 Z H S a w) {i:Nat} {o:Oper} (ho:ops[i]?=some o) (e:aW hh O ops i S K=some ret):
  (Region.wanted o (yielded ops a.tmps)=true∧∃ dk S',a6 dk w0 W0 Z H S' a w∧gB hh O o S' K=some ret)∨
  (Region.wanted o (yielded ops a.tmps)=false∧Iv w0 W0 Z H K ret (a.put o.dst undef) w):=by
 unfold aW at e
 rw[ho] at e
 simp only at e
 split at e
 ·rename_i hg
  exact .inl ⟨by simp[Region.wanted,hg],σ,S,h,e⟩
 ·rename_i j want hg
  split at e
  case h_2=>cases e
  rename_i d hd
  split at e
  ·rename_i m q ex dt
   obtain⟨hy,hv⟩:=RO h hd dt
   have hw:Region.wanted o (yielded ops a.tmps)=(q==want):=by
    unfold Region.wanted
    rw[hg]
    simp only[hy]
    cases q<;>cases want<;>rfl
   have MX:=adk dt (fun e=>by cases e)
   cases q with
   |true=>
    simp only[cond_true,MX] at e
    cases want with
    |true=>exact .inl ⟨hw,σ,_,h,e⟩
    |false=>exact .inr ⟨hw,_,e,Rel.undef h o.dst⟩
   |false=>
    simp only[cond_false,MX] at e
    cases want with
    |true=>exact .inr ⟨hw,_,e,Rel.undef h o.dst⟩
    |false=>exact .inl ⟨hw,σ,_,h,e⟩
  ·rename_i dt
   have hy:=MW h hd dt
   refine .inr ⟨?_,_,e,Rel.undef h o.dst⟩
   unfold Region.wanted
   rw[hg]
   simp only[hy]
   rfl
  ·cases e
theorem Dd (hT:cN P hh.tab=true) (hO:qs Γ P O w0 W0) (h:a6 σ w0 W0 Z H S a w) {i:Nat} (e:aW hh O ops i S K=some ret):
  wpOp P ops Q i (fun a' w'=>Iv w0 W0 Z H K ret a' w'∧(∀ o,ops[i]?=some o→C6 O o.op=true→Ext w w')) a w:=by
 unfold wpOp
 cases ho:ops[i]? with
 |none=>unfold aW at e;rw[ho] at e;cases e
 |some o=>
  simp only
  rcases ux h ho e with⟨hw,dk,S',h',e'⟩ |⟨hw,MY⟩
  ·rw[if_pos hw]
   refine .inl (Oper.wp_mono (fun a' w' h=>⟨h.1,fun o' Gw=>?_⟩) (axU hT hO h' e'))
   injection Gw with Gw
   subst Gw
   exact h.2
  ·rw[if_neg (by rw[hw];exact Bool.false_ne_true)]
   exact⟨MY,fun _ _ _=>Ext.refl w⟩
theorem adl (hT:cN P hh.tab=true) (hO:qs Γ P O w0 W0) (hQ:∀ a w,Iv w0 W0 Z H K ret a w→Q .normal a w):∀ (l:List Nat) {S:St} {a:Act} {w:World},mK hh O ops l S K=some ret→Rel w0 W0 Z H S a w→wpOps P ops Q l a w
 |[],S,a,w,e,h=>hQ a w ⟨S,e,h⟩
 |i::l,S,a,w,e,⟨σ,h⟩=>by
  rw[wpOps_cons]
  simp only[mK] at e
  refine wpOp_mono (fun a' w' h'=>?_) (Dd hT hO h e)
  obtain⟨⟨S',h1,h2⟩,_⟩:=h'
  exact adl hT hO hQ l h1 h2
theorem Ext.trans {w1 w2 w3:World} (h:Ext w1 w2) (h':Ext w2 w3):Ext w1 w3:=fun g hg=>by
 have h1:=h g hg
 have:g<w2.heap.size:=by
  rw[Array.getElem?_eq_getElem hg] at h1
  exact bg h1
 rw[h' g this,h1]
def wpE (P:Program) (ops:Array Oper) (Q:Exit→Act→World→Prop) (ad:Nat→Bool):Nat→Array Bool→Act→World→Prop
 |0,bd,a,w=>Region.ready .any ops bd=[]∧Q .normal a w
 |n+1,bd,a,w=>(Region.ready .any ops bd=[]→Q .normal a w)∧
  ∀ i∈Region.ready .any ops bd,wpOp P ops Q i (fun a' w'=>(ad i=true→Ext w w')∧wpE P ops Q ad n (bd.setIfInBounds i true) a' w') a w
theorem Wi {ad:Nat→Bool}:∀ (n:Nat) {bd:Array Bool} {a:Act} {w:World},wpE P ops Q ad n bd a w→wpAny P .any ops Q n bd a w
 |0,_,_,_,h=>h
 |n+1,_,_,_,h=>⟨h.1,fun i hi=>wpOp_mono (fun _ _ h'=>Wi n h'.2) (h.2 i hi)⟩
theorem ZG {ad:Nat→Bool} {i:Nat} {oi:Oper} {v:Value} (hi:ops[i]?=some oi) (Ey:∀ (j:Nat) (o:Oper) cs b,ops[j]?=some o→o.op≠ .select cs b)
  (hQ:∀ c a w,Q (.panic c) (a.put oi.dst v) w→Q (.panic c) a w) {D:Nat→Bool} (hDi:D i=true)
  (hD:∀ j oj,ops[j]?=some oj→D j=true→j≠i→∃ e∈oj.after,Region.binds .any e=true∧D e.on=true):
  ∀ (fuel:Nat) (bd:Array Bool) (a:Act) (w:World),(∀ j,D j=true→bd.getD j true=false)→
   (∀ j oj,ops[j]?=some oj→D j=false→bd.getD j true=false→oi.apart ops oj=true∧ad j=true)→
   i∈Region.ready .any ops bd→YieldsIf P ops (Ext w) oi v a→wpE P ops Q ad fuel (bd.setIfInBounds i true) (a.put oi.dst v) w→wpE P ops Q ad (fuel+1) bd a w:=by
 intro fuel
 induction fuel with
 |zero=>
  intro bd a w _ _ hr hy HH
  refine⟨fun h=>(by rw[h] at hr;cases hr),fun j hj=>?_⟩
  by_cases la:j=i
  ·subst la;exact hy.wpOp hi (Ext.refl w) ⟨fun _=>Ext.refl w,HH⟩
  ·have:=ready_mono hj la
   rw[HH.1] at this
   cases this
 |succ fuel ih=>
  intro bd a w GC MZ hr hy HH
  refine⟨fun h=>(by rw[h] at hr;cases hr),fun j hj=>?_⟩
  by_cases la:j=i
  ·subst la;exact hy.wpOp hi (Ext.refl w) ⟨fun _=>Ext.refl w,HH⟩
  ·have h1:=HH.2 j (ready_mono hj la)
   obtain⟨adm,oj,nD,gh⟩:=mem_ready.1 hj
   have hDj:D j=false:=by
    cases hd:D j with
    |false=>rfl
    |true=>
     obtain⟨e,he,hb,hde⟩:=hD j oj nD hd la
     have h2:=gh e he hb
     have h3:=GC e.on hde
     rcases Nat.lt_or_ge e.on bd.size with hl |hl
     ·simp[hl] at h2 h3;rw[h3] at h2;cases h2
     ·simp[Array.getElem?_eq_none hl] at h2
   obtain⟨RA,had⟩:=MZ j oj nD hDj adm
   have h2:=wpOp_putIf nD RA (fun cs b=>Ey i oi cs b hi) (fun cs b=>Ey j oj cs b nD) hQ hy h1
   refine wpOp_mono (fun a' w' h3=>⟨fun _=>h3.2.1 had,?_⟩) h2
   have azA:=h3.2.1 had
   refine ih (bd.setIfInBounds j true) a' w' (fun k hk=>?_) (fun k ok hk hdk adn=>MZ k ok hk hdk ?_) (ready_mono hr (Ne.symm la)) ?_ ?_
   ·have RG:j≠k:=fun e=>by subst e;rw[hDj] at hk;cases hk
    rw[getD_set_ne true RG]
    exact GC k hk
   ·by_cases RG:j=k
    ·subst RG;exact adm
    ·rw[getD_set_ne true RG] at adn;exact adn
   ·exact h3.1.imp (fun⟨q1,q2⟩=>⟨q1,fun w2 tk=>q2 w2 (azA.trans tk)⟩) id
   ·rw[Array.setIfInBounds_comm _ _ la]
    exact h3.2.2
theorem Ez {ad:Nat→Bool} {i:Nat} {oi:Oper} {v:Value} (hi:ops[i]?=some oi) (Ey:∀ (j:Nat) (o:Oper) cs b,ops[j]?=some o→o.op≠ .select cs b)
  (hQ:∀ c a w,Q (.panic c) (a.put oi.dst v) w→Q (.panic c) a w) {D:Nat→Bool} (hDi:D i=true)
  (hD:∀ j oj,ops[j]?=some oj→D j=true→j≠i→∃ e∈oj.after,Region.binds .any e=true∧D e.on=true):
  ∀ (fuel:Nat) (bd:Array Bool) (a:Act) (w:World),(∀ j,D j=true→bd.getD j true=false)→
   (∀ j oj,ops[j]?=some oj→D j=false→bd.getD j true=false→oi.apart ops oj=true)→
   i∈Region.ready .any ops bd→YieldsIf P ops (fun _=>True) oi v a→wpE P ops Q ad fuel (bd.setIfInBounds i true) (a.put oi.dst v) w→wpE P ops Q ad (fuel+1) bd a w:=by
 intro fuel
 induction fuel with
 |zero=>
  intro bd a w _ _ hr hy HH
  refine⟨fun h=>(by rw[h] at hr;cases hr),fun j hj=>?_⟩
  by_cases la:j=i
  ·subst la;exact hy.wpOp hi trivial ⟨fun _=>Ext.refl w,HH⟩
  ·have:=ready_mono hj la
   rw[HH.1] at this
   cases this
 |succ fuel ih=>
  intro bd a w GC MZ hr hy HH
  refine⟨fun h=>(by rw[h] at hr;cases hr),fun j hj=>?_⟩
  by_cases la:j=i
  ·subst la;exact hy.wpOp hi trivial ⟨fun _=>Ext.refl w,HH⟩
  ·have h1:=HH.2 j (ready_mono hj la)
   obtain⟨adm,oj,nD,gh⟩:=mem_ready.1 hj
   have hDj:D j=false:=by
    cases hd:D j with
    |false=>rfl
    |true=>
     obtain⟨e,he,hb,hde⟩:=hD j oj nD hd la
     have h2:=gh e he hb
     have h3:=GC e.on hde
     rcases Nat.lt_or_ge e.on bd.size with hl |hl
     ·simp[hl] at h2 h3;rw[h3] at h2;cases h2
     ·simp[Array.getElem?_eq_none hl] at h2
   have RA:=MZ j oj nD hDj adm
   have h2:=wpOp_putIf nD RA (fun cs b=>Ey i oi cs b hi) (fun cs b=>Ey j oj cs b nD) hQ hy h1
   refine wpOp_mono (fun a' w' h3=>⟨h3.2.1,?_⟩) h2
   refine ih (bd.setIfInBounds j true) a' w' (fun k hk=>?_) (fun k ok hk hdk adn=>MZ k ok hk hdk ?_) (ready_mono hr (Ne.symm la)) ?_ ?_
   ·have RG:j≠k:=fun e=>by subst e;rw[hDj] at hk;cases hk
    rw[getD_set_ne true RG]
    exact GC k hk
   ·by_cases RG:j=k
    ·subst RG;exact adm
    ·rw[getD_set_ne true RG] at adn;exact adn
   ·exact h3.1
   ·rw[Array.setIfInBounds_comm _ _ la]
    exact h3.2.2
theorem gl (j k:Nat):Nat.testBit (2^j) k=decide (j=k):=Nat.testBit_two_pow
theorem Cl {o:Oper} {k:Nat} (h:Nat.testBit (bc o) k=true):∃ e∈o.after,Region.binds .any e=true∧e.on=k:=by
 have key:∀ (l:List Edge),Nat.testBit (l.foldr (fun e m=>bif Region.binds .any e then m|||2^e.on else m) 0) k=true→∃ e∈l,Region.binds .any e=true∧e.on=k:=by
  intro l
  induction l with
  |nil=>intro h;simp at h
  |cons e r ih=>
   intro h
   simp only[List.foldr_cons] at h
   cases hb:Region.binds .any e with
   |false=>
    rw[hb] at h
    obtain⟨e',h1,h2⟩:=ih h
    exact⟨e',List.mem_cons_of_mem _ h1,h2⟩
   |true=>
    rw[hb] at h
    simp only[cond_true,Nat.testBit_or,Bool.or_eq_true,gl,decide_eq_true_eq] at h
    rcases h with h |h
    ·obtain⟨e',h1,h2⟩:=ih h
     exact⟨e',List.mem_cons_of_mem _ h1,h2⟩
    ·exact⟨e,List.mem_cons_self ..,hb,h⟩
 obtain⟨e,h1,h2⟩:=key _ h
 exact⟨e,by simpa using h1,h2⟩
theorem RP {o:Oper} {e:Edge} (he:e∈o.after) (hb:Region.binds .any e=true):Nat.testBit (bc o) e.on=true:=by
 have key:∀ (l:List Edge),e∈l→Nat.testBit (l.foldr (fun e m=>bif Region.binds .any e then m|||2^e.on else m) 0) e.on=true:=by
  intro l
  induction l with
  |nil=>intro h;cases h
  |cons e' r ih=>
   intro h
   simp only[List.foldr_cons]
   rcases List.mem_cons.1 h with rfl |h
   ·rw[hb]
    simp[Nat.testBit_or,gl]
   ·cases Region.binds .any e'<;>simp[Nat.testBit_or,ih h]
 exact key _ (by simpa using he)
theorem uy (i:Nat):∀ (r:List Nat) (j acc k:Nat),Nat.testBit acc k=true→Nat.testBit (bu i r j acc) k=true
 |[],_,_,_,h=>h
 |m::r,j,acc,k,h=>by
  simp only[bu]
  refine uy i r _ _ k ?_
  cases (Nat.beq j i|| !(Nat.beq (m&&&acc) 0))<;>simp[Nat.testBit_or,h]
theorem EA (i:Nat):∀ (r:List Nat) (j acc:Nat),j≤i→i<j+r.length→Nat.testBit (bu i r j acc) i=true
 |[],_,_,h1,h2=>by simp at h2;omega
 |m::r,j,acc,h1,h2=>by
  simp only[bu]
  by_cases hj:j=i
  ·subst hj
   refine uy _ r _ _ _ ?_
   simp[Nat.testBit_or,gl]
  ·exact EA i r _ _ (by omega) (by simp only[List.length_cons] at h2;omega)
theorem uz (i:Nat):∀ (r:List Nat) (j acc k:Nat),Nat.testBit (bu i r j acc) k=true→
  Nat.testBit acc k=true∨∃ q m,k=j+q∧r[q]?=some m∧(k=i∨∃ t,Nat.testBit m t=true∧Nat.testBit (bu i r j acc) t=true)
 |[],_,_,_,h=>.inl h
 |m::r,j,acc,k,h=>by
  simp only[bu] at h ⊢
  rcases uz i r _ _ k h with h1 |⟨q,m',h1,h2,h3⟩
  ·cases hc:(Nat.beq j i|| !(Nat.beq (m&&&acc) 0)) with
   |false=>rw[hc] at h1;exact .inl h1
   |true=>
    rw[hc] at h1
    simp only[cond_true,Nat.testBit_or,Bool.or_eq_true,gl,decide_eq_true_eq] at h1
    rcases h1 with h1 |rfl
    ·exact .inl h1
    ·refine .inr ⟨0,m,by omega,rfl,?_⟩
     rw[Bool.or_eq_true] at hc
     rcases hc with hc |hc
     ·exact .inl (Nat.eq_of_beq_eq_true hc)
     ·right
      have nF:m&&&acc≠0:=fun e=>by rw[e] at hc;cases hc
      obtain⟨t,ht⟩:=Nat.exists_testBit_of_ne_zero nF
      rw[Nat.testBit_and,Bool.and_eq_true] at ht
      refine⟨t,ht.1,uy i r _ _ t ?_⟩
      simp[Nat.testBit_or,ht.2]
  ·exact .inr ⟨q+1,m',by omega,by simpa using h2,h3⟩
theorem tI {oi:Oper} {rest:Nat}:∀ (r:List Oper) (j:Nat),wO O ops oi rest r j=true→∀ (q:Nat) (oj:Oper),r[q]?=some oj→Nat.testBit rest (j+q)=true→oi.apart ops oj=true∧C6 O oj.op=true
 |[],_,_,q,oj,h,_=>by simp at h
 |o::r,j,h,q,oj,hq,ht=>by
  simp only[wO,Bool.and_eq_true] at h
  cases q with
  |zero=>
   simp only[List.getElem?_cons_zero,Option.some.injEq] at hq
   subst hq
   rw[Nat.add_zero] at ht
   rw[ht] at h
   simpa using h.1
  |succ q=>exact tI r (j+1) h.2 q oj (by simpa using hq) (by rw[←ht];congr 1;omega)
theorem ado (hT:cN P hh.tab=true) (h:a6 σ w0 W0 Z H S a w) {i:Nat} {o:Oper} (ho:ops[i]?=some o) (hq:quiet o.op=true) (hn:oP o.op=false) (e:aW hh O ops i S K=some ret):
  ∃ v,YieldsIf P ops (Ext w) o v a∧Iv w0 W0 Z H K ret (a.put o.dst v) w:=by
 rcases ux h ho e with⟨hw,dk,S',h',e'⟩ |⟨hw,MY⟩
 ·unfold gB at e'
  split at e'
  ·rename_i f as ts bO;rw[bO] at hq;cases hq
  ·rename_i i' as ts bO;rw[bO] at hq;cases hq
  ·rename_i bO;rw[bO] at hn;cases hn
  ·rename_i bO;rw[bO] at hn;cases hn
  ·split at e'
   case h_2=>cases e'
   rename_i g S1 Gt
   cases g with
   |false=>cases e'
   |true=>
    obtain⟨v,h1,h2⟩:=ac6 hT h' hq Gt
    exact⟨v,.inl ⟨hw,h1⟩,S1,e',h2⟩
 ·exact⟨undef,.inr ⟨hw,rfl⟩,MY⟩
theorem iR {oi:Oper} {rest:Nat}:∀ (r:List Oper) (j:Nat),jE ops oi rest r j=true→∀ (q:Nat) (oj:Oper),r[q]?=some oj→Nat.testBit rest (j+q)=true→oi.apart ops oj=true
 |[],_,_,q,oj,h,_=>by simp at h
 |o::r,j,h,q,oj,hq,ht=>by
  simp only[jE,Bool.and_eq_true] at h
  cases q with
  |zero=>
   simp only[List.getElem?_cons_zero,Option.some.injEq] at hq
   subst hq
   rw[Nat.add_zero] at ht
   rw[ht] at h
   simpa using h.1
  |succ q=>exact iR r (j+1) h.2 q oj (by simpa using hq) (by rw[←ht];congr 1;omega)
theorem xi {oi:Oper} {rest:Nat}:∀ (r:List Oper) (j:Nat),(∀ (q:Nat) (oj:Oper),r[q]?=some oj→Nat.testBit rest (j+q)=true→oi.apart ops oj=true)→jE ops oi rest r j=true
 |[],_,_=>rfl
 |o::r,j,h=>by
  unfold jE
  rw[Bool.and_eq_true]
  refine⟨?_,xi r (j+1) fun q oj hq ht=>h (q+1) oj (by simpa using hq) (by rw[←ht];congr 1;omega)⟩
  cases hb:Nat.testBit rest j with
  |false=>rfl
  |true=>exact h 0 o rfl (by rw[Nat.add_zero];exact hb)
theorem M0 (hT:cN P hh.tab=true) (h:a6 σ w0 W0 Z H S a w) {i:Nat} {o:Oper} (ho:ops[i]?=some o) (hqT:zU hh.tab o.op=true) (e:aW hh O ops i S K=some ret):
  ∃ v,YieldsIf P ops (fun _=>True) o v a∧Iv w0 W0 Z H K ret (a.put o.dst v) w:=by
 have hq:still o.op=true:=by unfold zU at hqT;simp only[Bool.and_eq_true] at hqT;exact hqT.1.1
 have hnn:oP o.op=false:=by unfold zU at hqT;simp only[Bool.and_eq_true,Bool.not_eq_true'] at hqT;exact hqT.1.2
 have qE:RH o.op=true:=by
  unfold still at hq
  split at hq<;>first |(rename_i bO;rw[bO];rfl) |cases hq
 rcases ux h ho e with⟨hw,dk,S',h',e'⟩ |⟨hw,MY⟩
 ·unfold gB at e'
  split at e'
  ·rename_i f as ts bO;rw[bO] at hq;cases hq
  ·rename_i i' as ts bO;rw[bO] at hq;cases hq
  ·rename_i bO;rw[bO] at hnn;simp[oP] at hnn
  ·rename_i bO;rw[bO] at hnn;simp[oP] at hnn
  ·split at e'
   case h_2=>cases e'
   rename_i g S1 Gt
   cases g with
   |false=>cases e'
   |true=>
    obtain⟨v,h1,h2⟩:=atq hT h' qE (by unfold zU at hqT;simp only[Bool.and_eq_true] at hqT;exact hqT.2) Gt
    exact⟨v,.inl ⟨hw,fun w _=>h1 w⟩,S1,e',h2⟩
 ·exact⟨undef,.inr ⟨hw,rfl⟩,MY⟩
def GJ (ops:Array Oper) (bd:Array Bool) (L:Nat):Prop:=bd.size=ops.size∧∀ j,j<ops.size→bd[j]?=some (Nat.testBit L j)
theorem GJ.set {bd:Array Bool} {L i:Nat} (h:GJ ops bd L) (hi:i<ops.size):GJ ops (bd.setIfInBounds i true) (L|||2^i):=by
 refine⟨by simp[h.1],fun j hj=>?_⟩
 rw[Array.getElem?_setIfInBounds]
 by_cases uf:i=j
 ·subst uf
  simp[h.1,hi,Nat.testBit_or,gl]
 ·rw[if_neg uf,h.2 j hj,Nat.testBit_or,gl]
  simp[uf]
theorem GJ.getD {bd:Array Bool} {L:Nat} (h:GJ ops bd L) {j:Nat} (hj:j<ops.size) (d:Bool):bd.getD j d=Nat.testBit L j:=by
 rw[Array.getD_eq_getD_getElem?,h.2 j hj];rfl
theorem GJ.out {bd:Array Bool} {L:Nat} (h:GJ ops bd L) {j:Nat} (hj: ¬j<ops.size) (d:Bool):bd.getD j d=d:=by
 rw[Array.getD_eq_getD_getElem?,Array.getElem?_eq_none (by rw[h.1];omega)];rfl
def aty (ops:Array Oper) (as:List Nat) (i j:Nat):Prop:=∃ m oi oj,as[j]?=some m∧ops[i]?=some oi∧ops[j]?=some oj∧i≠j∧(Nat.testBit m i=true∨GV ops oi oj=true)
theorem uA {as:List Nat}:∀ {l:List Nat},DQ ops as l=true↔l.Pairwise (aty ops as)
 |[]=>by simp[DQ]
 |i::r=>by
  simp only[DQ,Bool.and_eq_true,List.all_eq_true,List.pairwise_cons,uA (l:=r)]
  refine and_congr (forall_congr' fun j=>forall_congr' fun hj=>?_) Iff.rfl
  constructor
  ·intro h
   split at h
   case h_2=>cases h
   rename_i m oi oj h1 h2 h3
   simp only[Bool.and_eq_true,Bool.not_eq_true',Bool.or_eq_true] at h
   exact⟨m,oi,oj,h1,h2,h3,fun e=>by(subst e;rw[Nat.beq_refl] at h;cases h.1),h.2⟩
  ·rintro⟨m,oi,oj,h1,h2,h3,h4,h5⟩
   rw[h1,h2,h3]
   simp only[Bool.and_eq_true,Bool.not_eq_true',Bool.or_eq_true]
   refine⟨?_,h5⟩
   cases hb:Nat.beq i j with
   |false=>rfl
   |true=>exact absurd (Nat.eq_of_beq_eq_true hb) h4
theorem Hm {as:List Nat}:∀ (l:List Nat) {L L':Nat},(∀ k,Nat.testBit L k=true→Nat.testBit L' k=true)→lP as L l=true→lP as L' l=true
 |[],_,_,_,_=>rfl
 |i::r,L,L',hL,h=>by
  simp only[lP,Bool.and_eq_true] at h ⊢
  refine⟨?_,Hm r (fun k hk=>?_) h.2⟩
  ·have h1:=h.1
   split at h1
   case h_2=>cases h1
   rename_i m hm
   have h2:=Nat.eq_of_beq_eq_true h1
   have:m&&&L'=m:=Nat.eq_of_testBit_eq fun k=>by
    rw[Nat.testBit_and]
    cases hk:Nat.testBit m k with
    |false=>rfl
    |true=>
     have h3:Nat.testBit (m&&&L) k=true:=by rw[h2];exact hk
     rw[Nat.testBit_and,hk] at h3
     rw[hL k (by simpa using h3)]
     rfl
   rw[this]
   exact Nat.beq_refl m
  ·rw[Nat.testBit_or,Bool.or_eq_true] at hk ⊢
   exact hk.imp (hL k) id
theorem EB {as:List Nat} {j:Nat}:∀ (p r:List Nat) {L:Nat},lP as L (p++j::r)=true→lP as (L|||2^j) (p++r)=true
 |[],r,L,h=>by
  simp only[List.nil_append,lP,Bool.and_eq_true] at h
  exact h.2
 |x::p,r,L,h=>by
  simp only[List.cons_append,lP,Bool.and_eq_true] at h ⊢
  have h0:lP as (L|||2^j) [x]=true:=Hm [x] (L:=L) (fun k hk=>by rw[Nat.testBit_or,hk];rfl) (by simp only[lP,Bool.and_eq_true];exact⟨h.1,trivial⟩)
  simp only[lP,Bool.and_eq_true] at h0
  refine⟨h0.1,?_⟩
  have:=EB p r h.2
  rwa [Nat.or_assoc,Nat.or_comm (2^x),←Nat.or_assoc] at this
theorem ia:∀ (l:List Nat) (k:Nat),Nat.testBit (dQ l) k=decide (k∈l)
 |[],k=>by simp[dQ]
 |i::r,k=>by
  have h:dQ (i::r)=dQ r|||2^i:=rfl
  rw[h,Nat.testBit_or,ia r k,gl]
  by_cases h1:k∈r<;>by_cases h2:i=k<;>simp[h1,h2,eq_comm]
def OT.bare:OT→Prop
 | .own _ _=>False
 |_=>True
theorem Am:∀ (l:OT) {S:St} {a:Act} {w:World},fa hh O ops l S K=some ret→Rel w0 W0 Z H S a w→
  ∃ (l':OT) (S':St),l'.bare∧fa hh O ops l' S' K=some ret∧Rel w0 W0 Z H S' a w∧l'.len=l.len∧∀ (Θ:db) (as:List Nat) (full L:Nat),fv Θ O ops as full L l=true→fv Θ O ops as full L l'=true
 | .own d t,S,a,w,e,h=>by
  simp only[fa] at e
  split at e
  case h_2=>cases e
  rename_i g S1 hg
  cases g with
  |false=>cases e
  |true=>
   obtain⟨l',S',h1,h2,h3,h4,h5⟩:=Am t e (ZF h hg)
   exact⟨l',S',h1,h2,h3,by simp only[OT.len];exact h4,fun Θ as full L ho=>h5 Θ as full L (by simpa only[fv] using ho)⟩
 | .done,S,a,w,e,h=>⟨.done,S,trivial,e,h,rfl,fun _ _ _ _ h=>h⟩
 | .one i t,S,a,w,e,h=>⟨.one i t,S,trivial,e,h,rfl,fun _ _ _ _ h=>h⟩
 | .any q t,S,a,w,e,h=>⟨.any q t,S,trivial,e,h,rfl,fun _ _ _ _ h=>h⟩
 | .par q ds t,S,a,w,e,h=>⟨.par q ds t,S,trivial,e,h,rfl,fun _ _ _ _ h=>h⟩
theorem adp (hT:cN P hh.tab=true) (hO:qs Γ P O w0 W0) (hQ:∀ a w,Iv w0 W0 Z H K ret a w→Q .normal a w) (De:∀ c a w,¬Q (.panic c) a w) (Ey:Region.noSelect ops=true):
  ∀ (n:Nat) (L:Nat) (l:OT) {bd:Array Bool} {S:St} {a:Act} {w:World},fv hh.tab O ops (ops.toList.map bc) (2^ops.size - 1) L l=true→GJ ops bd L→l.len≤n→fa hh O ops l S K=some ret→Rel w0 W0 Z H S a w→
   wpE P ops Q (fun j=>match ops[j]? with |some o=>C6 O o.op |none=>false) n bd a w:=by
 have axW:∀ {bd:Array Bool} {L:Nat},GJ ops bd L→L=2^ops.size - 1→Region.ready .any ops bd=[]:=by
  intro bd L hb hL
  refine List.eq_nil_iff_forall_not_mem.2 fun j hj=>?_
  obtain⟨h1,oj,h2,_⟩:=mem_ready.1 hj
  have hj:=(Array.getElem?_eq_some_iff.1 h2).1
  rw[hb.getD hj,hL,Nat.testBit_two_pow_sub_one] at h1
  simp[hj] at h1
 intro n
 induction n with
 |zero=>
  intro L l bd S a w ho hb hn e h
  obtain⟨l,S,adq,e,h,hlen,qm⟩:=Am l e h
  replace ho:=qm _ _ _ _ ho
  rw[←hlen] at hn
  clear qm hlen
  cases l with
  |own _ _=>exact adq.elim
  |one _ _=>simp[OT.len] at hn
  |any q _=>
   cases q with
   |nil=>simp[fv,aja] at ho
   |cons _ _=>simp[OT.len] at hn
  |par q _ _=>
   cases q with
   |nil=>simp[fv,ajb] at ho
   |cons _ _=>simp[OT.len] at hn
  |done=>
   simp only[fv] at ho
   exact⟨axW hb (Nat.eq_of_beq_eq_true ho),hQ a w ⟨S,e,h⟩⟩
 |succ n ih=>
  intro L l bd S a w ho hb hn e h
  obtain⟨l,S,adq,e,h,hlen,qm⟩:=Am l e h
  replace ho:=qm _ _ _ _ ho
  rw[←hlen] at hn
  clear qm hlen
  have Rx:∀ (l:OT) (L:Nat),fv hh.tab O ops (ops.toList.map bc) (2^ops.size - 1) L l=true→L<2^ops.size:=by
   intro l
   induction l with
   |done=>
    intro L h
    have:=Nat.eq_of_beq_eq_true h
    have:=Nat.two_pow_pos ops.size
    omega
   |one i t ih=>
    intro L h
    simp only[fv,Bool.and_eq_true] at h
    exact Nat.lt_of_le_of_lt Nat.left_le_or (ih _ h.2)
   |any q t ih=>
    intro L h
    simp only[fv,Bool.and_eq_true] at h
    exact Nat.lt_of_le_of_lt Nat.left_le_or (ih _ h.2)
   |par q ds t ih=>
    intro L h
    simp only[fv,Bool.and_eq_true] at h
    exact Nat.lt_of_le_of_lt Nat.left_le_or (ih _ h.2)
   |own d t ih=>
    intro L h
    simp only[fv] at h
    exact ih _ h
  have hL2:=Rx l L ho
  have RQ:∀ (i:Nat) (oi:Oper),ops[i]?=some oi→bu i (ops.toList.map bc) 0 0&&&L=0→
    (∀ j,Nat.testBit (bu i (ops.toList.map bc) 0 0) j=true→Nat.testBit L j=false)∧Nat.testBit (bu i (ops.toList.map bc) 0 0) i=true∧
    (∀ j oj,ops[j]?=some oj→Nat.testBit (bu i (ops.toList.map bc) 0 0) j=true→j≠i→∃ e∈oj.after,Region.binds .any e=true∧Nat.testBit (bu i (ops.toList.map bc) 0 0) e.on=true)∧
    (∀ j,Nat.testBit (bu i (ops.toList.map bc) 0 0) j=true→j<ops.size):=by
   intro i oi Ho c3
   have hi:i<ops.size:=(Array.getElem?_eq_some_iff.1 Ho).1
   have hW3:∀ j,Nat.testBit (bu i (ops.toList.map bc) 0 0) j=true→Nat.testBit L j=false:=fun j hj=>by
    have:Nat.testBit (bu i (ops.toList.map bc) 0 0&&&L) j=false:=by rw[c3];simp
    rw[Nat.testBit_and,hj] at this
    simpa using this
   have hWi:Nat.testBit (bu i (ops.toList.map bc) 0 0) i=true:=EA i _ 0 0 (Nat.zero_le _) (by simpa using hi)
   have hWs:∀ j oj,ops[j]?=some oj→Nat.testBit (bu i (ops.toList.map bc) 0 0) j=true→j≠i→∃ e∈oj.after,Region.binds .any e=true∧Nat.testBit (bu i (ops.toList.map bc) 0 0) e.on=true:=fun j oj nD hj la=>by
    rcases uz i _ _ _ j hj with hx |⟨q,m,hq,hm,hx⟩
    ·simp at hx
    ·rw[Nat.zero_add] at hq
     subst hq
     rw[List.getElem?_map,Array.getElem?_toList,nD] at hm
     simp only[Option.map_some,Option.some.injEq] at hm
     subst hm
     rcases hx with hx |⟨t,h1,h2⟩
     ·exact absurd hx la
     ·obtain⟨e,he,hbd,rfl⟩:=Cl h1
      exact⟨e,he,hbd,h2⟩
   have Ix:∀ j,Nat.testBit (bu i (ops.toList.map bc) 0 0) j=true→j<ops.size:=fun j hj=>by
    rcases uz i _ _ _ j hj with hx |⟨q,m,hq,hm,hx⟩
    ·simp at hx
    ·have:=(List.getElem?_eq_some_iff.1 hm).1
     simp at this
     omega
   exact⟨hW3,hWi,hWs,Ix⟩
  have facts:∀ (i:Nat) (oi:Oper),ops[i]?=some oi→Nat.testBit L i=false→bc oi&&&L=bc oi→bu i (ops.toList.map bc) 0 0&&&L=0→
    (∀ j,Nat.testBit (bu i (ops.toList.map bc) 0 0) j=true→Nat.testBit L j=false)∧Nat.testBit (bu i (ops.toList.map bc) 0 0) i=true∧
    (∀ j oj,ops[j]?=some oj→Nat.testBit (bu i (ops.toList.map bc) 0 0) j=true→j≠i→∃ e∈oj.after,Region.binds .any e=true∧Nat.testBit (bu i (ops.toList.map bc) 0 0) e.on=true)∧
    (∀ j,Nat.testBit (bu i (ops.toList.map bc) 0 0) j=true→j<ops.size)∧i∈Region.ready .any ops bd:=by
   intro i oi Ho c1 c2 c3
   have hi:i<ops.size:=(Array.getElem?_eq_some_iff.1 Ho).1
   obtain⟨hW3,hWi,hWs,Ix⟩:=RQ i oi Ho c3
   refine⟨hW3,hWi,hWs,Ix,mem_ready.2 ⟨by rw[hb.getD hi];exact c1,oi,Ho,fun e he hbd=>?_⟩⟩
   have h1:=RP he hbd
   have h2:Nat.testBit (bc oi&&&L) e.on=true:=by rw[c2];exact h1
   rw[Nat.testBit_and,h1] at h2
   have h3:Nat.testBit L e.on=true:=by simpa using h2
   by_cases hl:e.on<ops.size
   ·rw[hb.getD hl];exact h3
   ·rw[Nat.testBit_lt_two_pow (Nat.lt_of_lt_of_le hL2 (Nat.pow_le_pow_right (by decide) (by omega)))] at h3
    cases h3
  cases l with
  |done=>
   simp only[fv] at ho
   have hr:=axW hb (Nat.eq_of_beq_eq_true ho)
   exact⟨fun _=>hQ a w ⟨S,e,h⟩,fun i hi=>by rw[hr] at hi;cases hi⟩
  |own _ _=>exact adq.elim
  |any q t=>
   simp only[fv,Bool.and_eq_true] at ho
   obtain⟨hc,hot⟩:=ho
   have Hp:=hc
   unfold aja at hc
   simp only[Bool.and_eq_true,Bool.not_eq_true',List.all_eq_true] at hc
   obtain⟨⟨⟨nF,nx⟩,RR⟩,EC⟩:=hc
   have Wj:=uA.1 RR
   have get:∀ i∈q,∃ oi,ops[i]?=some oi∧i<ops.size:=fun i hi=>by
    have h1:i<ops.size:=Nat.lt_of_lt_of_le (Nat.lt_succ_self _) (Nat.le_of_ble_eq_true (nx i hi).1.1.1)
    exact⟨ops[i],Array.getElem?_eq_getElem h1,h1⟩
   have unl:∀ i∈q,Nat.testBit L i=false:=fun i hi=>(nx i hi).1.1.2
   -- the first is ready
   obtain⟨i0,q0,rfl⟩:∃ i0 q0,q=i0::q0:=by
    cases q with
    |nil=>simp at nF
    |cons i0 q0=>exact⟨i0,q0,rfl⟩
   obtain⟨oi0,GK,Iy⟩:=get i0 (by simp)
   have hd0:=EC
   simp only[lP,Bool.and_eq_true] at hd0
   have hd1:=hd0.1
   rw[List.getElem?_map,Array.getElem?_toList,GK] at hd1
   simp only[Option.map_some] at hd1
   obtain⟨_,_,_,_,hr0⟩:=facts i0 oi0 GK (unl i0 (by simp)) (Nat.eq_of_beq_eq_true hd1) (Nat.eq_of_beq_eq_true (nx i0 (by simp)).1.2)
   refine⟨fun hx=>(by rw[hx] at hr0;cases hr0),fun j hj=>?_⟩
   obtain⟨j1,oj,nD,j3⟩:=mem_ready.1 hj
   have sv:=(Array.getElem?_eq_some_iff.1 nD).1
   have uB:∀ i∈i0::q0,j≠i→Nat.testBit (bu i (ops.toList.map bc) 0 0) j=false:=fun i hi la=>by
    cases hw:Nat.testBit (bu i (ops.toList.map bc) 0 0) j with
    |false=>rfl
    |true=>
     exfalso
     obtain⟨oi,Ho,GY⟩:=get i hi
     obtain⟨w3,_,ws,wlt⟩:=RQ i oi Ho (Nat.eq_of_beq_eq_true (nx i hi).1.2)
     obtain⟨e,he,hbd,h6⟩:=ws j oj nD hw la
     have h7:=j3 e he hbd
     rw[hb.getD (wlt _ h6),w3 _ h6] at h7
     cases h7
   have hjq:j∈i0::q0:=by
    refine Classical.byContradiction fun hnj=>?_
    have hz:=Nat.eq_of_beq_eq_true (nx i0 (by simp)).2
    have h4:Nat.testBit (2^ops.size - 1^^^(bu i0 (ops.toList.map bc) 0 0|||L|||dQ (i0::q0))) j=false:=by rw[hz];simp
    rw[Nat.testBit_xor,Nat.testBit_two_pow_sub_one,Nat.testBit_or,Nat.testBit_or,ia,uB i0 (by simp) (fun e=>hnj (by simp[e]))] at h4
    rw[hb.getD sv] at j1
    rw[j1] at h4
    simp[sv,hnj] at h4
   obtain⟨p,r,ZD⟩:=List.append_of_mem hjq
   rw[ZD] at Hp Wj EC nx uB unl e hn
   clear hd0 hd1 hr0 hjq get
   have RS:∀ x∈p,∃ ox,ops[x]?=some ox∧GV ops ox oj=true:=fun x hx=>by
    obtain⟨m,ox,oj',h1,h2,h3,h4,h5⟩:=(List.pairwise_append.1 Wj).2.2 x hx j (by simp)
    rw[nD] at h3
    injection h3 with h3
    subst h3
    refine⟨ox,h2,h5.resolve_left fun hm=>?_⟩
    rw[List.getElem?_map,Array.getElem?_toList,nD] at h1
    simp only[Option.map_some,Option.some.injEq] at h1
    subst h1
    obtain⟨e,he,hbd,rfl⟩:=Cl hm
    have h7:=j3 e he hbd
    have hxl:=(Array.getElem?_eq_some_iff.1 h2).1
    rw[hb.getD hxl,unl _ (by simp[hx])] at h7
    cases h7
   simp only[fa] at e
   have e2:=G4 hO.det nD p r RS e
   unfold mL at e2
   rw[nD] at e2
   simp only at e2
   cases gj:jv O ops S oj with
   |false=>rw[gj] at e2;cases e2
   |true=>
   rw[gj] at e2
   simp only[cond_true] at e2
   obtain⟨σ,h⟩:=h
   refine wpOp_mono (fun a' w' h'=>?_) (Dd hT hO h e2)
   obtain⟨⟨S',k1,k2⟩,k3⟩:=h'
   have hjn:j∉p++r:=fun hx=>by
    rw[List.pairwise_append,List.pairwise_cons] at Wj
    rcases List.mem_append.1 hx with hx |hx
    ·obtain⟨_,_,_,_,_,_,h4,_⟩:=Wj.2.2 j hx j (by simp);exact h4 rfl
    ·obtain⟨_,_,_,_,_,_,h4,_⟩:=Wj.2.1.1 j hx;exact h4 rfl
   have M1:L|||dQ (p++j::r)=L|||2^j|||dQ (p++r):=Nat.eq_of_testBit_eq fun k=>by
    rw[Nat.testBit_or,Nat.testBit_or,Nat.testBit_or,ia,ia,gl]
    have hm:decide (k∈p++j::r)=(decide (j=k)||decide (k∈p++r)):=by
     rw[←Bool.decide_or]
     apply decide_eq_decide.2
     simp only[List.mem_append,List.mem_cons]
     constructor
     ·rintro(h |h |h)
      ·exact .inr (.inl h)
      ·exact .inl h.symm
      ·exact .inr (.inr h)
     ·rintro(h |h |h)
      ·exact .inr (.inl h.symm)
      ·exact .inl h
      ·exact .inr (.inr h)
    rw[hm,Bool.or_assoc]
   refine⟨fun had=>?_,?_⟩
   ·simp only[nD] at had
    exact k3 oj nD had
   ·have RT:fv hh.tab O ops (ops.toList.map bc) (2^ops.size - 1) (L|||2^j|||dQ (p++r)) t=true:=by rw[←M1,←ZD];exact hot
    cases hpe:p++r with
    |nil=>
     rw[hpe] at k1 RT
     simp only[mL] at k1
     refine ih _ t (by simpa[dQ] using RT) (hb.set sv) ?_ k1 k2
     simp only[OT.len,List.length_append,List.length_cons] at hn
     omega
    |cons z zs=>
     refine ih (L|||2^j) (.any (p++r) t) ?_ (hb.set sv) ?_ k1 k2
     ·simp only[fv,Bool.and_eq_true]
      refine⟨?_,RT⟩
      unfold aja
      simp only[Bool.and_eq_true,Bool.not_eq_true',List.all_eq_true]
      refine⟨⟨⟨by rw[hpe];rfl,fun i hi=>?_⟩,uA.2 (Wj.sublist (by simp))⟩,EB p r EC⟩
      have Mh:i∈p++j::r:=by simp only[List.mem_append,List.mem_cons] at hi ⊢;exact hi.imp id .inr
      have uf:j≠i:=fun e=>hjn (by rw[e];exact hi)
      obtain⟨⟨⟨m1,m2⟩,m3⟩,m4⟩:=nx i Mh
      refine⟨⟨⟨m1,?_⟩,?_⟩,?_⟩
      ·rw[Nat.testBit_or,m2,gl];simp[uf]
      ·have hz:bu i (ops.toList.map bc) 0 0&&&(L|||2^j)=0:=Nat.eq_of_testBit_eq fun k=>by
        have hk:Nat.testBit (bu i (ops.toList.map bc) 0 0&&&L) k=false:=by rw[Nat.eq_of_beq_eq_true m3];simp
        rw[Nat.testBit_and] at hk
        rw[Nat.testBit_and,Nat.testBit_or,gl,Nat.zero_testBit]
        by_cases hkj:j=k
        ·subst hkj
         rw[uB i Mh uf]
         rfl
        ·simp only[hkj,decide_false,Bool.or_false]
         exact hk
       rw[hz];rfl
      ·have hz:=Nat.eq_of_beq_eq_true m4
       have:bu i (ops.toList.map bc) 0 0|||(L|||2^j)|||dQ (p++r)=bu i (ops.toList.map bc) 0 0|||L|||dQ (p++j::r):=by rw[Nat.or_assoc,←M1,Nat.or_assoc]
       rw[this]
       exact m4
     ·simp only[OT.len,List.length_append,List.length_cons] at hn ⊢
      omega
  |par q ds t=>
   simp only[fv,Bool.and_eq_true] at ho
   obtain⟨hc,hot⟩:=ho
   have Hp:=hc
   unfold ajb at hc
   simp only[Bool.and_eq_true,Bool.not_eq_true',List.all_eq_true] at hc
   obtain⟨⟨⟨⟨nF,nx⟩,RR⟩,EC⟩,RU⟩:=hc
   have Wj:=nw.1 RR
   have get:∀ i∈q,∃ oi,ops[i]?=some oi∧i<ops.size:=fun i hi=>by
    have h1:i<ops.size:=Nat.lt_of_lt_of_le (Nat.lt_succ_self _) (Nat.le_of_ble_eq_true (nx i hi).1.1.1)
    exact⟨ops[i],Array.getElem?_eq_getElem h1,h1⟩
   have unl:∀ i∈q,Nat.testBit L i=false:=fun i hi=>(nx i hi).1.1.2
   -- the first is ready
   obtain⟨i0,q0,rfl⟩:∃ i0 q0,q=i0::q0:=by
    cases q with
    |nil=>simp at nF
    |cons i0 q0=>exact⟨i0,q0,rfl⟩
   obtain⟨oi0,GK,Iy⟩:=get i0 (by simp)
   have hd0:=EC
   simp only[lP,Bool.and_eq_true] at hd0
   have hd1:=hd0.1
   rw[List.getElem?_map,Array.getElem?_toList,GK] at hd1
   simp only[Option.map_some] at hd1
   obtain⟨hW3,hWi,hWs,Ix,hr0⟩:=facts i0 oi0 GK (unl i0 (by simp)) (Nat.eq_of_beq_eq_true hd1) (Nat.eq_of_beq_eq_true (nx i0 (by simp)).1.2)
   have side:∀ x∈i0::q0,∀ ox,ops[x]?=some ox→DP ds ox=true∧oP ox.op=false:=fun x hx ox hox=>by
    have:=RU x hx
    rw[hox] at this
    simpa only[Bool.and_eq_true,Bool.not_eq_true'] using this
   -- those that wait for none that is ready
   have uB:∀ j,j∈Region.ready .any ops bd→∀ i∈i0::q0,j≠i→Nat.testBit (bu i (ops.toList.map bc) 0 0) j=false:=fun j hj i hi la=>by
    obtain⟨j1,oj,nD,j3⟩:=mem_ready.1 hj
    cases hw:Nat.testBit (bu i (ops.toList.map bc) 0 0) j with
    |false=>rfl
    |true=>
     exfalso
     obtain⟨oi,Ho,GY⟩:=get i hi
     obtain⟨w3,_,ws,wlt⟩:=RQ i oi Ho (Nat.eq_of_beq_eq_true (nx i hi).1.2)
     obtain⟨e,he,hbd,h6⟩:=ws j oj nD hw la
     have h7:=j3 e he hbd
     rw[hb.getD (wlt _ h6),w3 _ h6] at h7
     cases h7
   -- when one of them is done
   have tail:∀ (p r:List Nat) (j:Nat),i0::q0=p++j::r→j∈Region.ready .any ops bd→∀ {S':St} {a':Act} {w':World},(bif kJ ds S' then mK hh O ops (p++r) S' (fun S1=>fa hh O ops t S1 K) else none)=some ret→Rel w0 W0 Z H S' a' w'→
     wpE P ops Q (fun j=>match ops[j]? with |some o=>C6 O o.op |none=>false) n (bd.setIfInBounds j true) a' w':=by
    intro p r j ZD hjr S' a' w' k1 k2
    have sv:j<ops.size:=by
     obtain⟨_,oj,nD,_⟩:=mem_ready.1 hjr
     exact(Array.getElem?_eq_some_iff.1 nD).1
    have hnw:=uB j hjr
    rw[ZD] at Wj EC nx RU hn hnw
    have hjn:j∉p++r:=fun hx=>by
     rw[List.pairwise_append,List.pairwise_cons] at Wj
     rcases List.mem_append.1 hx with hx |hx
     ·obtain⟨_,_,_,_,h4,_⟩:=Wj.2.2 j hx j (by simp);exact h4 rfl
     ·obtain⟨_,_,_,_,h4,_⟩:=Wj.2.1.1 j hx;exact h4 rfl
    have M1:L|||dQ (p++j::r)=L|||2^j|||dQ (p++r):=Nat.eq_of_testBit_eq fun k=>by
     rw[Nat.testBit_or,Nat.testBit_or,Nat.testBit_or,ia,ia,gl]
     have hm:decide (k∈p++j::r)=(decide (j=k)||decide (k∈p++r)):=by
      rw[←Bool.decide_or]
      apply decide_eq_decide.2
      simp only[List.mem_append,List.mem_cons]
      constructor
      ·rintro(h |h |h)
       ·exact .inr (.inl h)
       ·exact .inl h.symm
       ·exact .inr (.inr h)
      ·rintro(h |h |h)
       ·exact .inr (.inl h.symm)
       ·exact .inl h
       ·exact .inr (.inr h)
     rw[hm,Bool.or_assoc]
    have RT:fv hh.tab O ops (ops.toList.map bc) (2^ops.size - 1) (L|||2^j|||dQ (p++r)) t=true:=by rw[←M1,←ZD];exact hot
    cases hpe:p++r with
    |nil=>
     rw[hpe] at k1 RT
     simp only[mK] at k1
     cases hw1:kJ ds S' with
     |false=>rw[hw1] at k1;cases k1
     |true=>
     rw[hw1] at k1
     simp only[cond_true] at k1
     refine ih _ t (by simpa[dQ] using RT) (hb.set sv) ?_ k1 k2
     simp only[OT.len,List.length_append,List.length_cons] at hn
     omega
    |cons z zs=>
     refine ih (L|||2^j) (.par (p++r) ds t) ?_ (hb.set sv) ?_ k1 k2
     ·simp only[fv,Bool.and_eq_true]
      refine⟨?_,RT⟩
      unfold ajb
      simp only[Bool.and_eq_true,Bool.not_eq_true',List.all_eq_true]
      refine⟨⟨⟨⟨by rw[hpe];rfl,fun i hi=>?_⟩,nw.2 (Wj.sublist (by simp))⟩,EB p r EC⟩,fun i hi=>RU i (by simp only[List.mem_append,List.mem_cons] at hi ⊢;exact hi.imp id .inr)⟩
      have Mh:i∈p++j::r:=by simp only[List.mem_append,List.mem_cons] at hi ⊢;exact hi.imp id .inr
      have uf:j≠i:=fun e=>hjn (by rw[e];exact hi)
      obtain⟨⟨⟨m1,m2⟩,m3⟩,m4⟩:=nx i Mh
      refine⟨⟨⟨m1,?_⟩,?_⟩,?_⟩
      ·rw[Nat.testBit_or,m2,gl];simp[uf]
      ·have hz:bu i (ops.toList.map bc) 0 0&&&(L|||2^j)=0:=Nat.eq_of_testBit_eq fun k=>by
        have hk:Nat.testBit (bu i (ops.toList.map bc) 0 0&&&L) k=false:=by rw[Nat.eq_of_beq_eq_true m3];simp
        rw[Nat.testBit_and] at hk
        rw[Nat.testBit_and,Nat.testBit_or,gl,Nat.zero_testBit]
        by_cases hkj:j=k
        ·subst hkj
         rw[hnw i Mh uf]
         rfl
        ·simp only[hkj,decide_false,Bool.or_false]
         exact hk
       rw[hz];rfl
      ·rw[Bool.or_eq_true] at m4 ⊢
       refine m4.imp (fun m4=>?_) fun m4=>?_
       ·have:bu i (ops.toList.map bc) 0 0|||(L|||2^j)|||dQ (p++r)=bu i (ops.toList.map bc) 0 0|||L|||dQ (p++j::r):=by rw[Nat.or_assoc,←M1,Nat.or_assoc]
        rw[this]
        exact m4
       ·unfold ack at m4 ⊢
        split at m4
        case h_2=>cases m4
        rename_i oi Ho
        rw[Bool.and_eq_true] at m4 ⊢
        refine⟨m4.1,xi _ _ fun k ok hk atz=>iR _ _ m4.2 k ok hk ?_⟩
        rw[Nat.testBit_xor,Nat.testBit_and,Nat.testBit_or,Nat.testBit_or] at atz ⊢
        rw[Nat.testBit_or] at atz
        revert atz
        cases Nat.testBit (2^ops.size - 1) (0+k)<;>cases Nat.testBit (bu i (ops.toList.map bc) 0 0) (0+k)<;>cases Nat.testBit L (0+k)<;>cases Nat.testBit (bc oi) (0+k)<;>simp
     ·simp only[OT.len,List.length_append,List.length_cons] at hn ⊢
      omega
   simp only[fa] at e
   cases hwh:kJ ds S with
   |false=>rw[hwh] at e;cases e
   |true=>
   rw[hwh] at e
   simp only[cond_true] at e
   rcases(Bool.or_eq_true _ _).mp (nx i0 (by simp)).2 with hz |hz
   rotate_left
   ·-- the first may always go first
    unfold ack at hz
    rw[GK] at hz
    simp only[Bool.and_eq_true] at hz
    obtain⟨hq,RA⟩:=hz
    obtain⟨s1,s2⟩:=side i0 (by simp) oi0 GK
    have e2:aW hh O ops i0 S (fun S1=>bif kJ ds S1 then mK hh O ops ([]++q0) S1 (fun S1=>fa hh O ops t S1 K) else none)=some ret:=by
     simp only[mK] at e
     obtain⟨X,x1,x2,x3⟩:=uk hO.det hwh GK s1 s2 e
     rw[x1,x2]
     exact x3
    obtain⟨σ,h⟩:=h
    obtain⟨v,hy,S',k1,k2⟩:=M0 hT h GK hq e2
    refine Ez GK (Region.noSelect_spec Ey) (fun c a w hx=>absurd hx (De _ _ _)) (D:=fun j=>Nat.testBit (bu i0 (ops.toList.map bc) 0 0) j) hWi hWs n bd a w (fun j hd=>?_) (fun j oj nD hd GC=>?_) hr0 hy (tail [] q0 i0 rfl hr0 k1 k2)
    ·rw[hb.getD (Ix j hd)];exact hW3 j hd
    ·have sv:=(Array.getElem?_eq_some_iff.1 nD).1
     refine iR ops.toList 0 RA j oj (by rw[Array.getElem?_toList];exact nD) ?_
     rw[hb.getD sv] at GC
     try simp only at hd
     have haf:Nat.testBit (bc oi0) j=false:=by
      cases hx:Nat.testBit (bc oi0) j with
      |false=>rfl
      |true=>
       exfalso
       have h2:Nat.testBit (bc oi0&&&L) j=true:=by rw[Nat.eq_of_beq_eq_true hd1];exact hx
       rw[Nat.testBit_and,hx,GC] at h2
       cases h2
     rw[Nat.zero_add,Nat.testBit_xor,Nat.testBit_and,Nat.testBit_two_pow_sub_one,Nat.testBit_or,Nat.testBit_or,hd,GC,haf]
     simp[sv]
   refine⟨fun hx=>(by rw[hx] at hr0;cases hr0),fun j hj=>?_⟩
   obtain⟨j1,oj,nD,j3⟩:=mem_ready.1 hj
   have sv:=(Array.getElem?_eq_some_iff.1 nD).1
   have hjq:j∈i0::q0:=by
    refine Classical.byContradiction fun hnj=>?_
    have hz:=Nat.eq_of_beq_eq_true hz
    have h4:Nat.testBit (2^ops.size - 1^^^(bu i0 (ops.toList.map bc) 0 0|||L|||dQ (i0::q0))) j=false:=by rw[hz];simp
    rw[Nat.testBit_xor,Nat.testBit_two_pow_sub_one,Nat.testBit_or,Nat.testBit_or,ia,uB j hj i0 (by simp) (fun e=>hnj (by simp[e]))] at h4
    rw[hb.getD sv] at j1
    rw[j1] at h4
    simp[sv,hnj] at h4
   obtain⟨p,r,ZD⟩:=List.append_of_mem hjq
   have RS:∀ x∈p,∃ ox,ops[x]?=some ox∧DP ds ox=true∧oP ox.op=false∧(Zc ds ox oj=true∨exB ox oj=true):=fun x hx=>by
    rw[ZD] at Wj
    obtain⟨ox,oj',h2,h3,h4,h5⟩:=(List.pairwise_append.1 Wj).2.2 x hx j (by simp)
    rw[nD] at h3
    injection h3 with h3
    subst h3
    obtain⟨s1,s2⟩:=side x (by rw[ZD];simp[hx]) ox h2
    refine⟨ox,h2,s1,s2,h5.resolve_left fun hm=>?_⟩
    rw[uB j hj x (by rw[ZD];simp[hx]) (Ne.symm h4)] at hm
    cases hm
   have e':=e
   rw[ZD] at e'
   have e3:=G' hO.det nD p r hwh RS e'
   obtain⟨sj1,sj2⟩:=side j hjq oj nD
   have e2:aW hh O ops j S (fun S1=>bif kJ ds S1 then mK hh O ops (p++r) S1 (fun S1=>fa hh O ops t S1 K) else none)=some ret:=by
    obtain⟨X,x1,x2,x3⟩:=uk hO.det hwh nD sj1 sj2 e3
    rw[x1,x2]
    exact x3
   obtain⟨σ,h⟩:=h
   refine wpOp_mono (fun a' w' h'=>?_) (Dd hT hO h e2)
   obtain⟨⟨S',k1,k2⟩,k3⟩:=h'
   refine⟨fun had=>?_,tail p r j ZD hj k1 k2⟩
   simp only[nD] at had
   exact k3 oj nD had
  |one i l=>
   simp only[fv,Bool.and_eq_true] at ho
   obtain⟨hc,ho⟩:=ho
   unfold acj at hc
   split at hc
   case h_2=>cases hc
   rename_i m oi hm Ho
   have hi:i<ops.size:=(Array.getElem?_eq_some_iff.1 Ho).1
   rw[List.getElem?_map,Array.getElem?_toList,Ho] at hm
   simp only[Option.map_some,Option.some.injEq] at hm
   subst hm
   simp only[Bool.and_eq_true,Bool.not_eq_true'] at hc
   obtain⟨⟨⟨c1,c2⟩,c3⟩,c4⟩:=hc
   have c2:=Nat.eq_of_beq_eq_true c2
   have c3:=Nat.eq_of_beq_eq_true c3
   have ZH:l.len≤n:=by simp only[OT.len] at hn;omega
   obtain⟨hW3,hWi,hWs,Ix,Iz⟩:=facts i oi Ho c1 c2 c3
   rw[Bool.or_eq_true] at c4
   have My:∀ j,j<ops.size→Nat.testBit (2^ops.size - 1^^^(bu i (ops.toList.map bc) 0 0|||L)) j=!(Nat.testBit (bu i (ops.toList.map bc) 0 0) j||Nat.testBit L j):=fun j hj=>by
    rw[Nat.testBit_xor,Nat.testBit_two_pow_sub_one,Nat.testBit_or]
    simp[hj]
   simp only[fa] at e
   obtain⟨σ,h⟩:=h
   by_cases c0:Nat.beq (2^ops.size - 1^^^(bu i (ops.toList.map bc) 0 0|||L)) 0=true
   ·have hz:=Nat.eq_of_beq_eq_true c0
    refine⟨fun hx=>(by rw[hx] at Iz;cases Iz),fun j hj=>?_⟩
    have la:j=i:=by
     refine Classical.byContradiction fun la=>?_
     obtain⟨h1,oj,h2,h3⟩:=mem_ready.1 hj
     have sv:=(Array.getElem?_eq_some_iff.1 h2).1
     have h4:=My j sv
     rw[hz,Nat.zero_testBit] at h4
     rw[hb.getD sv] at h1
     rw[h1] at h4
     have h5:Nat.testBit (bu i (ops.toList.map bc) 0 0) j=true:=by
      cases hx:Nat.testBit (bu i (ops.toList.map bc) 0 0) j with
      |true=>rfl
      |false=>rw[hx] at h4;cases h4
     obtain⟨e,he,hbd,h6⟩:=hWs j oj h2 h5 la
     have h7:=h3 e he hbd
     rw[hb.getD (Ix _ h6),hW3 _ h6] at h7
     cases h7
    subst la
    refine wpOp_mono (fun a' w' h'=>?_) (Dd hT hO h e)
    obtain⟨⟨S',k1,k2⟩,k3⟩:=h'
    refine⟨fun had=>?_,ih _ l ho (hb.set hi) ZH k1 k2⟩
    simp only[Ho] at had
    exact k3 oi Ho had
   ·rw[Bool.or_eq_true] at c4
    rcases c4 with c4 |c4
    rotate_left
    ·rw[Bool.and_eq_true] at c4
     obtain⟨hq,RA⟩:=c4
     obtain⟨v,hy,S',k1,k2⟩:=M0 hT h Ho hq e
     refine Ez Ho (Region.noSelect_spec Ey) (fun c a w hx=>absurd hx (De _ _ _)) (D:=fun j=>Nat.testBit (bu i (ops.toList.map bc) 0 0) j) hWi hWs n bd a w (fun j hd=>?_) (fun j oj nD hd GC=>?_) Iz hy (ih _ l ho (hb.set hi) ZH k1 k2)
     ·rw[hb.getD (Ix j hd)];exact hW3 j hd
     ·have sv:=(Array.getElem?_eq_some_iff.1 nD).1
      have h4:=My j sv
      rw[hb.getD sv] at GC
      try simp only at hd
      rw[hd,GC] at h4
      exact iR ops.toList 0 RA j oj (by rw[Array.getElem?_toList];exact nD) (by rw[Nat.zero_add];exact h4)
    have c4:=c4.resolve_left c0
    rw[Bool.and_eq_true,Bool.and_eq_true,Bool.not_eq_true'] at c4
    obtain⟨hq,hn0,RA⟩:=c4
    obtain⟨v,hy,S',k1,k2⟩:=ado hT h Ho hq hn0 e
    refine ZG Ho (Region.noSelect_spec Ey) (fun c a w hx=>absurd hx (De _ _ _)) (D:=fun j=>Nat.testBit (bu i (ops.toList.map bc) 0 0) j) hWi hWs n bd a w (fun j hd=>?_) (fun j oj nD hd GC=>?_) Iz hy (ih _ l ho (hb.set hi) ZH k1 k2)
    ·rw[hb.getD (Ix j hd)];exact hW3 j hd
    ·have sv:=(Array.getElem?_eq_some_iff.1 nD).1
     have h4:=My j sv
     rw[hb.getD sv] at GC
     try simp only at hd
     rw[hd,GC] at h4
     have:=tI ops.toList 0 RA j oj (by rw[Array.getElem?_toList];exact nD) (by rw[Nat.zero_add];exact h4)
     simp only[nD]
     exact this
theorem ajw (hT:cN P hh.tab=true) (hO:qs Γ P O w0 W0) (hQ:∀ a w,Iv w0 W0 Z H K ret a w→Q .normal a w) (De:∀ c a w,¬Q (.panic c) a w) {l:OT} (hl:as8 hh.tab O ops l=true) {S:St} {a:Act} {w:World} (e:fa hh O ops l S K=some ret) (h:Rel w0 W0 Z H S a w):
  wpAny P .any ops Q ops.size (Array.replicate ops.size false) a w:=by
 unfold as8 at hl
 rw[Bool.and_eq_true,Bool.and_eq_true] at hl
 obtain⟨⟨Ey,hlen⟩,ho⟩:=hl
 have hb:GJ ops (Array.replicate ops.size false) 0:=⟨by simp,fun j hj=>by simp[hj]⟩
 exact Wi _ (adp hT hO hQ De Ey ops.size 0 l ho hb (Nat.le_of_ble_eq_true hlen) e h)
end Go.Pv
