/- A verified evaluator of the program's form over pure values, part 3: what it tells of a function holds. -/
import Derived.Test.YtcpakhaogbempaaGreatPv2
import Derived.OrdersHeld
namespace Go.Pv
set_option linter.unusedVariables false
set_option linter.unusedSimpArgs false
variable {P:Program} {w w':World} {A A' Wr:Nat→Prop} {H:Nat→Value} {tm rH:Nat→Value} {S S' S1:St} {σ bF dZ:Nat→Option Nat} {w0:World} {W0 Z:Nat→Prop} {a:Act} {own:Nat→Prop} {v:Value} {Θ:dq} {dst:Option Nat}
theorem aW.setAt (h:aW σ w0 W0 Z H S a w) {i:Nat} {av:AV} (uf:∀ j,j≠i→(S.at j).refs i=false) (hv:Holds w (Av σ Z) H (bU a) (S.set i av) (fun g=>σ g=some i) av (bU a i)):
  aW σ w0 W0 Z H (S.set i av) a w:=by
 refine⟨by rw[List.length_set];exact h.len,h.defers,h.fr,h.new,h.lt,h.old,fun j=>?_⟩
 rw[cQ]
 by_cases hj:j=i∧i<S.length
 ·rw[if_pos hj,hj.1]
  exact hv
 ·rw[if_neg hj]
  by_cases lA:j=i
  ·have:S.at j=.dead:=Classical.byContradiction fun hx=>hj ⟨lA,by rw[←lA];exact eH hx⟩
   rw[this]
   trivial
  ·refine(h.holds j).kept (aP.refl _ _) (fun g hg _=>⟨rfl,hg⟩) (fun s hs=>?_)
   have hsi:s≠i:=fun e=>by subst e;rw[uf j lA] at hs;cases hs
   exact⟨fun r ex hr=>by rw[cQ,if_neg (fun e=>hsi e.1)];exact hr,rfl,_,h.holds s,fun _ _ _=>rfl⟩
theorem aW.part (h:aW σ w0 W0 Z H S a w) {i:Nat} (hi:∀ r ex,S.at i≠ .v r ex) (hl:i<S.length) {Q:Nat→Prop} {av:AV} (hv:Holds w (Av σ Z) H (bU a) (S.set i av) (fun g=>σ g=some i∧ ¬Q g) av (bU a i)):
  ∃ bF,aW bF w0 W0 Z H (S.set i av) a w∧gv σ bF S.length (fun g=>σ g=some i∧Q g):=by
 let bF:Nat→Option Nat:=fun g=>open Classical in if σ g=some i∧Q g then some S.length else σ g
 have hs:∀ g j,bF g=some j→∃ k,σ g=some k:=fun g j hg=>by
  simp only[bF] at hg
  split at hg
  ·rename_i hx;exact⟨i,hx.1⟩
  ·exact⟨j,hg⟩
 have oe:∀ g j,σ g=some j→¬(σ g=some i∧Q g)→bF g=some j:=fun g j hg hn=>by simp only[bF,if_neg hn,hg]
 have bQ:aP w w (Av σ Z) (Av bF Z):=⟨fun _ _ _=>rfl,fun g _ hg=>by
  rcases hg with⟨j,hg⟩ |hg
  ·exact .inl (hs g j hg)
  ·exact .inr hg⟩
 refine⟨bF,⟨by rw[List.length_set];exact h.len,h.defers,h.fr,fun g j hg=>(hs g j hg).elim fun k hk=>h.new g k hk,fun g j hg=>(hs g j hg).elim fun k hk=>h.lt g k hk,fun g hg=>⟨?_,(h.old g hg).2⟩,fun j=>?_⟩,?_⟩
 ·simp only[bF]
  rw[if_neg (fun hx=>by rw[(h.old g hg).1] at hx;cases hx.1)]
  exact(h.old g hg).1
 ·rw[cQ]
  by_cases hj:j=i
  ·rw[if_pos ⟨hj,hl⟩,hj]
   exact hv.kept bQ (fun g hg _=>⟨rfl,oe g i hg.1 (fun hx=>hg.2 hx.2)⟩) (fun s _=>⟨fun _ _ h=>h,rfl,by
    by_cases hsi:s=i
    ·subst hsi
     rw[cQ,if_pos ⟨rfl,hl⟩]
     exact⟨_,hv,fun _ _ _=>rfl⟩
    ·rw[cQ,if_neg (fun e=>hsi e.1)]
     refine⟨_,(h.holds s).kept (aP.refl _ _) (fun g hg _=>⟨rfl,hg⟩) (fun s1 hs1=>⟨fun r ex hr=>?_,rfl,_,h.holds s1,fun _ _ _=>rfl⟩),fun _ _ _=>rfl⟩
     by_cases auY:s1=i
     ·subst auY;exact absurd hr (hi r ex)
     ·rw[cQ,if_neg (fun e=>auY e.1)];exact hr⟩)
  ·rw[if_neg (fun e=>hj e.1)]
   refine(h.holds j).kept bQ (fun g hg _=>⟨rfl,oe g j hg (fun hx=>hj (by rw[hx.1] at hg;injection hg with hg;exact hg.symm))⟩) (fun s hs1=>⟨fun r ex hr=>?_,rfl,_,h.holds s,fun _ _ _=>rfl⟩)
   by_cases hsi:s=i
   ·subst hsi;exact absurd hr (hi r ex)
   ·rw[cQ,if_neg (fun e=>hsi e.1)];exact hr
 ·refine⟨fun g hg=>⟨i,hl,hg.1⟩,fun g hg=>⟨_,Nat.le_refl _,by simp only[bF,if_pos hg]⟩,fun g j hg hj=>?_,fun g=>⟨fun⟨j,hg⟩=>hs g j hg,fun⟨j,hg⟩=>?_⟩,fun g j hg hj=>oe g j hg (fun hx=>?_)⟩
  ·simp only[bF] at hg
   split at hg
   ·injection hg with hg;omega
   ·exact hg
  ·simp only[bF]
   split
   ·exact⟨_,rfl⟩
   ·exact⟨j,hg⟩
  ·rw[hx.1] at hg
   injection hg with hg
   omega
theorem ij.still {s:Sem Next} (hr:∀ w2,s.run P w2=.ok (.value v) w2) (h:ij P w0 W0 Z H S' a dst w s):mG P w0 W0 Z H S' a dst w s:=by
 obtain⟨v',h1,h2⟩:=h
 have:=(h1 w (Ext.refl w)).symm.trans (hr w)
 injection this with this
 injection this with this
 subst this
 exact⟨_,hr,h2⟩
theorem EF (h:aW σ w0 W0 Z H S a w) {o:Oper} {x:Operand} {j:Nat} (ho:o.op=.extract x j) (e:fV S o.dst x j=some (true,S')):mG P w0 W0 Z H S' a o.dst w (execOp a.eval o):=by
 unfold fV at e
 split at e
 case h_2=>cases e
 rename_i i
 split at e
 case h_2=>cases e
 rename_i l hl
 split at e
 case h_2=>cases e
 rename_i b hb
 have hh:=h.holds i
 rw[hl] at hh
 obtain⟨vs,τ,hv,hlen,va⟩:=hh
 have hbj:l[j]?=some (some b):=by
  rw[List.getD_eq_getElem?_getD] at hb
  cases hq:l[j]? with
  |none=>rw[hq] at hb;cases hb
  |some q=>rw[hq] at hb;simp only[Option.getD_some] at hb;rw[hb]
 obtain⟨u,cs,hu,hm,hM⟩:=va j b hbj
 have bZ:∀ w2,(execOp a.eval o).run P w2=.ok (.value u) w2:=fun w2=>by
  have:a.eval (.tmp i)=.tuple vs.toArray:=hv
  simp[execOp,ho,this,Instr.extract,hu]
 cases hk:b.m.bG with
 |true=>
  rw[hk] at e
  simp only[cond_true,Option.some.injEq,Prod.mk.injEq,true_and] at e
  subst e
  exact cg h bZ ⟨cs,hm,oh hk (fP _ hk hM)⟩
 |false=>
  rw[hk] at e
  simp only[cond_false] at e
  split at e
  case h_2=>cases e
  rename_i d hd
  cases Rq:Nat.beq d i with
  |true=>rw[Rq] at e;cases e
  |false=>
  rw[Rq] at e
  simp only[cond_false,Option.some.injEq,Prod.mk.injEq,true_and] at e
  subst e
  rw[←hd]
  have Hu:i<S.length:=eH (by rw[hl];exact fun e=>by cases e)
  obtain⟨bF,h1,Q4⟩:=h.part (i:=i) (fun r ex=>by rw[hl];exact fun e=>by cases e) Hu (Q:=fun g=>τ g=j) (av:=.ud (l.set j none)) ⟨vs,τ,hv,by rw[List.length_set];exact hlen,fun k b' eY=>by
   rw[List.getElem?_set] at eY
   split at eY
   ·split at eY<;>cases eY
   ·rename_i C'
    obtain⟨u',cJ,c1,c2,c3⟩:=va k b' eY
    exact⟨u',cJ,c1,c2,aG (aP.refl _ _) _ (fun _ _ _=>rfl) (fun g hg _=>⟨⟨hg.1,fun hx=>C' (by rw[←hx,hg.2])⟩,hg.2⟩) (fun _ h=>h) c3⟩⟩
  exact ij.still (v:=u) bZ (oK (n:=S.length) h1 Q4 (List.length_set) (fun w2 _=>bZ w2) hm (aG (aP.refl _ _) _ (fun _ _ _=>rfl) (fun g hg _=>hg) (fun _ h=>h) hM))
theorem aci (S:St) (d:Nat) (b:TV) (ex:List Path) (i:Nat) (hi:∀ j,(S.at j).refs i=false) (j:Nat):((S.put (some d) (.v b ex)).at j).refs i=false:=by
 rw[dP]
 split
 ·simp[AV.refs]
 ·cases hr:(S.at j).refs d&&(S.at d).zU with
  |true=>simp[AV.refs]
  |false=>exact hi j
theorem Y3 (S:St) (i:Nat) (hv:(S.at i).zU=true) (j:Nat):((S.put (some i) .dead).at j).refs i=false:=by
 rw[dP]
 split
 ·simp[AV.refs]
 ·rw[hv,Bool.and_true]
  cases hr:(S.at j).refs i with
  |true=>simp[AV.refs]
  |false=>exact hr
theorem Y4 (h:aW σ w0 W0 Z H S a w) {o:Oper} {x:Operand} (ho:o.op=.assign x) (e:DV Θ S o.dst o.type x=some (true,S')):ij P w0 W0 Z H S' a o.dst w (execOp a.eval o):=by
 have bZ:∀ w2,Ext w w2→(execOp a.eval o).run P w2=.ok (.value (a.eval x)) w2:=fun w2 _=>by simp only[execOp,ho];rfl
 unfold DV at e
 split at e
 case h_2=>
  split at e
  ·injection e with e
   injection e with _ e
   subst e
   exact cr h bZ trivial
  ·cases e
 rename_i av dL
 have hh:=bo h dL
 split at e
 ·-- a value of a temporary
  rename_i d i b ex hd
  cases hk:b.m.bG with
  |true=>
   rw[hk] at e
   simp only[cond_true,Option.some.injEq,Prod.mk.injEq,true_and] at e
   subst e
   obtain⟨cs,h1,h2⟩:=hh
   exact cr h bZ ⟨cs,h1,oh hk (fP _ hk h2)⟩
  |false=>
   rw[hk] at e
   simp only[cond_false] at e
   split at e
   case h_2=>cases e
   cases Rq:(Nat.beq d i|| !Nat.blt d S.length) with
   |true=>rw[Rq] at e;cases e
   |false=>
   rw[Rq] at e
   simp only[cond_false,Option.some.injEq,Prod.mk.injEq,true_and] at e
   subst e
   simp only[Bool.or_eq_false_iff,Bool.not_eq_false'] at Rq
   have auZ:d≠i:=fun e=>by rw[e,Nat.beq_refl] at Rq;cases Rq.1
   have EG:d<S.length:=Nat.lt_of_succ_le (Nat.le_of_ble_eq_true Rq.2)
   obtain⟨cs,h1,h2⟩:=hh
   simp only[St.dX,Option.some.injEq] at dL
   have Hu:i<S.length:=eH (by rw[dL];exact fun e=>by cases e)
   have hp:=h.jV i
   have hk:gv σ (jV σ S.length i) S.length (ao8 σ (.tmp i)):=gv.jV σ Hu (fun g hg=>by obtain⟨j,hj,hg⟩:=hg;injection hj with hj;subst hj;exact hg)
   obtain⟨v2,hr2,dZ,h3⟩:=oK (P:=P) (dst:=some d) (n:=S.length) hp hk (bW _ _ _) bZ h1 h2
   have MG:=hr2 w (Ext.refl w)
   rw[bZ w (Ext.refl w)] at MG
   injection MG with e1 e2
   injection e1 with e1
   subst e1
   refine⟨a.eval (.tmp i),bZ,dZ,?_⟩
   rw[hd]
   refine h3.setAt (fun j _=>aci _ d b [] i (Y3 S i (by rw[dL];rfl)) j) ?_
   have htm:bU (a.put (some d) (a.eval (.tmp i))) i=bU a i:=by rw[z8,if_neg (fun e=>auZ e.1.symm)]
   have htd:bU (a.put (some d) (a.eval (.tmp i))) d=bU a i:=by rw[z8,if_pos ⟨rfl,by rw[←h.len];exact EG⟩];rfl
   refine⟨b,cs,cs,⟨⟨[],?_,fun q hq=>by simp at hq⟩,trivial,⟨b,rfl,rfl⟩,by rw[htd];exact h1⟩,rfl,by rw[htm];exact h1⟩
   rw[cQ,if_neg (fun e=>auZ e.1),dP,if_pos ⟨rfl,by rw[bW];exact EG⟩]
   rfl
 ·-- another value
  rename_i b ex ly
  cases hk:b.m.bG with
  |true=>
   rw[hk] at e
   simp only[cond_true,Option.some.injEq,Prod.mk.injEq,true_and] at e
   subst e
   obtain⟨cs,h1,h2⟩:=hh
   exact cr h bZ ⟨cs,h1,oh hk (fP _ hk h2)⟩
  |false=>
   rw[hk] at e
   simp only[cond_false] at e
   split at e
   case h_2=>cases e
   simp only[Option.some.injEq,Prod.mk.injEq,true_and] at e
   subst e
   obtain⟨cs,h1,h2⟩:=hh
   exact cr h bZ ⟨cs,h1,aG (aP.refl _ _) _ (fun _ _ _=>rfl) (fun g hg _=>by obtain⟨i,hi,_⟩:=hg;cases hi) (fun _ h=>h) h2⟩
 ·rename_i d t s hd
  cases z':Nat.beq s d with
  |true=>rw[z'] at e;cases e
  |false=>
   rw[z'] at e
   simp only[cond_false,Option.some.injEq,Prod.mk.injEq,true_and] at e
   subst e
   exact cr h bZ hh
 ·rename_i d f c hd
  cases z':AV.refs d (.lu f c) with
  |true=>rw[z'] at e;cases e
  |false=>
   rw[z'] at e
   simp only[cond_false,Option.some.injEq,Prod.mk.injEq,true_and] at e
   subst e
   exact cr h bZ hh
 ·simp only[Option.some.injEq,Prod.mk.injEq,true_and] at e
  subst e
  exact cr h bZ hh
 ·split at e
  case h_2=>cases e
  rename_i b S1 hb
  simp only[Option.some.injEq,Prod.mk.injEq,true_and] at e
  subst e
  obtain⟨bF,cs,ow,h1,hm,hM,hk,hn⟩:=eV h dL hb
  exact oK h1 hk hn bZ hm hM
end Go.Pv
namespace Go.Pv
set_option linter.unusedVariables false
set_option linter.unusedSimpArgs false
variable {P:Program} {w w':World} {A A' Wr:Nat→Prop} {H:Nat→Value} {tm rH:Nat→Value} {S S' S1:St} {σ bF dZ:Nat→Option Nat} {w0:World} {W0 Z:Nat→Prop} {a:Act} {own:Nat→Prop} {v:Value} {Θ:dq} {dst:Option Nat}
theorem acj {t:Ty} (h:isAgg t=false):t.size=1:=by cases t<;>simp[isAgg] at h<;>rfl
theorem ack (hT:cP P Θ=true) (h:aW σ w0 W0 Z H S a w) {o:Oper} {T:TypeId} {x:Operand} {f:Nat} (ho:o.op=.field T x f) (e:IH Θ S o.dst T x f=some (true,S')):ij P w0 W0 Z H S' a o.dst w (execOp a.eval o):=by
 unfold IH at e
 split at e
 case h_2=>cases e
 rename_i b ex i dL hi
 cases hc:(Nat.blt f i.fs.length&&decide (i.ty=b.t)) with
 |false=>rw[hc] at e;cases e
 |true=>
 rw[hc] at e
 simp only[cond_true] at e
 simp only[Bool.and_eq_true,decide_eq_true_eq] at hc
 obtain⟨b9,fH⟩:=hc
 have b9:f<i.fs.length:=Nat.lt_of_succ_le (Nat.le_of_ble_eq_true b9)
 split at e
 case h_2=>cases e
 rename_i j
 split at e
 case h_2=>cases e
 rename_i c hg
 simp only[St.dX,Option.some.injEq] at dL
 have hh:=h.holds j
 rw[dL] at hh
 obtain⟨cs,hm,hM⟩:=hh
 obtain⟨_,hu,hT0⟩:=cR hT hi
 have hp:=iZ f i.fs.length
 obtain⟨pa,pb,hpp⟩:=xq (abZ b9) hp hg
 obtain⟨fs,f1,f2,f3,_⟩:=mF hu (fH.trans hpp)
 rw[hT0] at f1
 have Cc:fs.toList.length=i.fs.length:=by rw[←f2,List.length_map]
 have YW:fs.size=i.fs.length:=by rw[←Cc,Array.length_toList]
 obtain⟨fd,hfd⟩:∃ fd,fs[f]?=some fd:=⟨_,Array.getElem?_eq_getElem (by omega)⟩
 obtain⟨t,t1,t2,t3,_⟩:=iX f3 f fd (by rw[Array.getElem?_toList];exact hfd)
 rw[Nat.zero_add,YW,fH] at t1 t3
 have hct:c.t=t:=by
  have:=pT _ hp hg
  rw[t1] at this
  injection this with this
  exact this.symm
 subst hct
 obtain⟨hlen,aii⟩:=eP _ hM
 have w9:=eF _ hp hg
 have I4:aN w (ns f i.fs.length) b.t cs=some ((cs.drop (aI (ns f i.fs.length) b.t)).take c.t.size):=eQ _ hp hg hlen
 obtain⟨v,hv,bZ⟩:∃ v,aq c.t v ((cs.drop (aI (ns f i.fs.length) b.t)).take c.t.size)∧∀ w2,Ext w w2→(execOp a.eval o).run P w2=.ok (.value v) w2:=by
  have jw:a.eval (.tmp j)=.agg cs.toArray:=by
   unfold aq at hm
   rw[if_pos (by rw[hpp];rfl)] at hm
   exact hm
  have Rn:=Ry hT t2
  obtain⟨inf,s1,s2,_⟩:=iB hT t2
  have hso:∀ w2,(sizeOf fd.type).run P w2=.ok c.t.size w2:=fun w2=>by simp[sizeOf,typeInfo,s1,s2]
  cases hca:isAgg c.t with
  |true=>
   refine⟨.agg (cs.toArray.extract (aI (ns f i.fs.length) b.t) (aI (ns f i.fs.length) b.t+c.t.size)),?_,fun w2 _=>?_⟩
   ·unfold aq
    rw[if_pos hca]
    congr 1
    apply Array.toList_inj.1
    rw[Array.toList_extract,List.toList_toArray,List.toList_toArray,List.extract_eq_drop_take']
    rw[List.drop_take,Nat.add_sub_cancel_left]
   ·rw[hca] at Rn
    have acm:(part fd.type cs.toArray fd.offset).run P w2=.ok (.agg (cs.toArray.extract (aI (ns f i.fs.length) b.t) (aI (ns f i.fs.length) b.t+c.t.size))) w2:=by
     unfold part
     simp only[Sem.run_bind,Rn,Result.andThen_ok,if_true,hso,t3]
     rfl
    simp only[execOp,ho,jw,Instr.field,Sem.run_bind,run_underlying f1,Result.andThen_ok,hfd,asAgg,Sem.run_pure,acm]
  |false=>
   have h1:=acj hca
   have Rz:aI (ns f i.fs.length) b.t<cs.length:=by omega
   refine⟨cs[aI (ns f i.fs.length) b.t],?_,fun w2 _=>?_⟩
   ·unfold aq
    rw[if_neg (by rw[hca];exact Bool.false_ne_true),h1,List.drop_eq_getElem_cons Rz,List.take_succ_cons,List.take_zero]
   ·rw[hca] at Rn
    have acm:(part fd.type cs.toArray fd.offset).run P w2=.ok (cs[aI (ns f i.fs.length) b.t]) w2:=by
     unfold part
     simp only[Sem.run_bind,Rn,Result.andThen_ok,if_neg Bool.false_ne_true,t3]
     rw[List.getElem?_toArray,List.getElem?_eq_getElem Rz]
     rfl
    simp only[execOp,ho,jw,Instr.field,Sem.run_bind,run_underlying f1,Result.andThen_ok,hfd,asAgg,Sem.run_pure,acm]
 have hvalid:=ik _ hp hg
 cases hk:c.m.bG with
 |true=>
  rw[hk] at e
  simp only[cond_true] at e
  split at e
  case h_2=>cases e
  simp only[Option.some.injEq,Prod.mk.injEq,true_and] at e
  subst e
  obtain⟨cJ,cB,k1,k2,k3⟩:=focus _ hM (fun q hq=>by simp at hq) hvalid hg
  rw[I4] at k1
  injection k1 with k1
  subst k1
  exact cr h bZ ⟨_,hv,gb _ (fP _ hk k3)⟩
 |false=>
  rw[hk] at e
  simp only[cond_false] at e
  split at e
  case h_2=>cases e
  rename_i c' Cb
  simp only[Option.some.injEq,Prod.mk.injEq,true_and] at e
  subst e
  obtain⟨r,Dj,q1,q2,q3⟩:=dQ Cb
  rw[dL] at q1
  injection q1 with q1 Ep
  subst q1 Ep
  exact cr h bZ ⟨b,cs,_,⟨⟨ex,dL,eU q2⟩,hvalid,⟨c,hg,rfl⟩,hm⟩,I4,hv⟩
theorem Ch (h:aW σ w0 W0 Z H S a w):∀ {xs:List Operand} {l:List IG},DX S xs=some l→xs.length=l.length∧∀ (j:Nat) (c:IG),l[j]?=some c→∃ u,(xs.map a.eval)[j]?=some u∧mC w (Av σ Z) (bU a) S c u
 |[],l,e=>by
  simp only[DX,Option.some.injEq] at e
  subst e
  exact⟨rfl,fun j c hj=>by simp at hj⟩
 |x::xs,l,e=>by
  simp only[DX] at e
  split at e
  case h_2=>cases e
  rename_i c l2 hc hl
  simp only[Option.some.injEq] at e
  subst e
  obtain⟨h1,h2⟩:=Ch h hl
  refine⟨by simp[h1],fun j c' hj=>?_⟩
  cases j with
  |succ j=>simpa using h2 j c' (by simpa using hj)
  |zero=>
   simp only[List.getElem?_cons_zero,Option.some.injEq] at hj
   subst hj
   refine⟨a.eval x,rfl,?_⟩
   unfold ao4 at hc
   split at hc
   case h_2=>cases hc
   rename_i i
   have hh:=h.holds i
   split at hc
   ·rename_i t T tag me y ex dE
    injection hc with hc
    subst hc
    rw[dE] at hh
    obtain⟨cs,h1,h2⟩:=hh
    exact⟨_,cs,cs,⟨⟨ex,dE,fun q _ s r e=>by cases q<;>simp at e⟩,trivial,⟨_,rfl,rfl⟩,h1⟩,rfl,h1⟩
   ·rename_i t y ex dE
    injection hc with hc
    subst hc
    rw[dE] at hh
    obtain⟨cs,h1,h2⟩:=hh
    have h1':cs=[bU a i]:=by simpa[aq,isAgg] using h1
    subst h1'
    simp only[M] at h2
    rcases h2 with⟨_,hx,_⟩ |⟨_,h2⟩ |⟨T,tag,me,g,cur,hx,_⟩
    ·simp[Md.bG] at hx
    ·exact h2
    ·cases hx
   ·rename_i t s p dE
    injection hc with hc
    subst hc
    rw[dE] at hh
    exact hh
   ·cases hc
theorem Ni (h:aW σ w0 W0 Z H S a w) {o:Oper} {f:FuncId} {first cu:Array Operand} (ho:o.op=.makeFunc (.func f) first cu) (e:uV S o.dst f first.toList cu.toList=some (true,S')):ij P w0 W0 Z H S' a o.dst w (execOp a.eval o):=by
 unfold uV at e
 split at e
 case h_2=>cases e
 rename_i l hf hl
 split at e
 case h_2=>cases e
 rename_i d hd
 cases hr:AV.refs d (.lu f l) with
 |true=>rw[hr] at e;cases e
 |false=>
 rw[hr] at e
 simp only[cond_false,Option.some.injEq,Prod.mk.injEq,true_and] at e
 subst e
 obtain⟨h1,h2⟩:=Ch h hl
 have hfe:first=#[]:=by
  apply Array.toList_inj.1
  rw[hf]
 refine cr (v:=.func (.func f) #[] (cu.map a.eval)) h (fun w2 _=>by simp[execOp,ho,Instr.makeFunc,hfe]) ⟨cu.toList.map a.eval,?_,by rw[List.length_map,h1],h2⟩
 congr 1
 apply Array.toList_inj.1
 simp
theorem Nj (h:aW σ w0 W0 Z H S a w) {o:Oper} {x:Operand} (ho:o.op=.move x) (e:pE Θ S o.dst o.type x=some (true,S')):mG P w0 W0 Z H S' a o.dst w (execOp a.eval o):=by
 by_cases hnt:∃ l,S.dX Θ o.type x=some (.ud l)
 rotate_left
 ·exact aic h ho (fun l hl=>hnt ⟨l,hl⟩) e
 obtain⟨l,hl⟩:=hnt
 unfold pE at e
 rw[hl] at e
 simp only at e
 split at e
 case h_2=>cases e
 rename_i d i hd
 cases hc:(Nat.beq d i|| !Nat.blt d S.length) with
 |true=>rw[hc] at e;cases e
 |false=>
  rw[hc] at e
  simp only[cond_false,Option.some.injEq,Prod.mk.injEq,true_and] at e
  subst e
  have dE:S.at i=.ud l:=by simpa[St.dX] using hl
  have hh:=h.holds i
  rw[dE] at hh
  obtain⟨vs,τ,h1,h2,h3⟩:=hh
  refine⟨bU a i,fun w2=>by simp only[execOp,ho];rfl,?_⟩
  rw[hd]
  have hp:=h.jV i
  have hgo:=hp.VG (dst:=some d) (v:=bU a i) (av:=.ud l) (ow:=fun g=>σ g=some i) (w':=w) (Nat.le_refl _) (fun _ _ _=>rfl) h.fr (fun g hg=>⟨h.lt g i hg,.inl ⟨S.length,by rw[bW];exact Nat.le_refl _,by unfold jV;rw[if_pos hg]⟩⟩) (fun d' Vx q1 q2=>?_)
  ·exact⟨_,hgo⟩
  ·refine⟨vs,τ,h1,h2,fun j b hb=>?_⟩
   obtain⟨u,cs,u1,u2,u3⟩:=h3 j b hb
   refine⟨u,cs,u1,u2,aG ⟨fun _ _ _=>rfl,fun g hg hx=>?_⟩ _ (fun _ _ _=>rfl) (fun g hg _=>⟨q1 g hg.1,hg.2⟩) (fun _ h=>h) u3⟩
   rcases q2 g hx with q |q
   ·exact VE.1 q
   ·exact .inl ⟨i,q⟩
theorem acn (hT:cP P Θ=true) (h:aW σ w0 W0 Z H S a w) {hn:Hn} {o:Oper} (hq:quiet o.op=true) (e:ev Θ hn S o=some (true,S')):ij P w0 W0 Z H S' a o.dst w (execOp a.eval o):=by
 unfold ev at e
 split at e
 case h_1 x ho=>exact(Nj h ho e).q
 case h_2 x ho=>exact Y4 h ho e
 case h_3 c x y ho=>exact aid h ho e
 case h_4 T ho=>rw[ho] at hq;cases hq
 case h_5 T x ho=>rw[ho] at hq;cases hq
 case h_6 T ps ho=>exact ab' hT h ho e
 case h_7 T n ps ho=>rw[ho] at hq;cases hq
 case h_8 T x ho=>exact aie hT h ho e
 case h_9 T x y ho=>rw[ho] at hq;cases hq
 case h_10 x ho=>exact M4 h ho e
 case h_11 T x f ho=>exact(xr hT h ho e).q
 case h_12 T x f ho=>exact ack hT h ho e
 case h_13 T x ix ho=>exact(xt hT h ho e).q
 case h_14 T x ix ho=>exact abV hT h ho e
 case h_15 x j ho=>exact(EF h ho e).q
 case h_16 T x lo hi mx ho=>exact(M6 hT h ho e).q
 case h_17 T T' x ho=>exact MZ hT h ho e
 case h_18 op T x y p ho=>exact(abU hT h ho e).q
 case h_19 op T x ho=>exact auM h ho e
 case h_20 T l c ho=>rw[ho] at hq;cases hq
 case h_21 f first cu ho=>exact Ni h ho e
 case h_22 as ts ho=>exact(abW hT h ho e).q
 case h_23 as ts ho=>rw[ho] at hq;cases hq
 case h_24=>cases e
def RJ:Op→Bool
 | .extract ..=>true | .indexAddr ..=>true | .binOp ..=>true | .slice ..=>true | .move _=>true | .convert ..=>true | .fieldAddr ..=>true | .call { callee:=.builtin .len,.. }=>true |_=>false
theorem aqS (hT:cP P Θ=true) (h:aW σ w0 W0 Z H S a w) {hn:Hn} {o:Oper} (hq:RJ o.op=true) (Hz:(match o.op with
 | .convert _ T' _=>(match Θ.find T' with
  |some i=>(match i.ty with
   | .int _=>true
   |_=>false)
  |none=>false)
 |_=>true)=true) (e:ev Θ hn S o=some (true,S')):mG P w0 W0 Z H S' a o.dst w (execOp a.eval o):=by
 unfold RJ at hq
 split at hq
 ·rename_i x j ho
  unfold ev at e
  rw[ho] at e
  exact EF h ho e
 ·rename_i T x ix ho
  unfold ev at e
  rw[ho] at e
  exact xt hT h ho e
 ·rename_i op T x y T' ho
  unfold ev at e
  rw[ho] at e
  exact abU hT h ho e
 ·rename_i T x lo hi mx ho
  unfold ev at e
  rw[ho] at e
  exact M6 hT h ho e
 ·rename_i x ho
  unfold ev at e
  rw[ho] at e
  exact Nj h ho e
 ·rename_i T T' x ho
  unfold ev at e
  rw[ho] at e
  rw[ho] at Hz
  exact Em hT h ho Hz e
 ·rename_i T x f ho
  unfold ev at e
  rw[ho] at e
  exact xr hT h ho e
 ·rename_i as ts ho
  unfold ev at e
  rw[ho] at e
  exact abW hT h ho e
 ·cases hq
def Nk:Op→Bool
 | .alloc _=>true | .box ..=>true | .buildSlice ..=>true | .makeSlice ..=>true |o=>quiet o
theorem aco (hT:cP P Θ=true) (h:aW σ w0 W0 Z H S a w) {hn:Hn} {o:Oper} (hq:Nk o.op=true) (e:ev Θ hn S o=some (true,S')):Ce P w0 W0 Z H S' a o.dst w (execOp a.eval o):=by
 cases hqq:quiet o.op with
 |true=>exact(acn hT h hqq e).C8
 |false=>
 unfold ev at e
 split at e
 case h_4 T ho=>exact ab4 hT h ho e
 case h_5 T x ho=>exact aqK hT h ho e
 case h_7 T n ps ho=>exact Hb hT h ho e
 case h_20 T l c ho=>exact I0 hT h ho e
 case h_24=>cases e
 case h_9 T x y ho=>rw[ho] at hq;cases hq
 case h_23 as ts ho=>rw[ho] at hq;cases hq
 all_goals (rename_i ho;rw[ho] at hqq;cases hqq)
theorem Nl (h:aW σ w0 W0 Z H S a w) {S1:St} {T:TypeId} {y:Operand} {s:Sem Next} {dst:Option Nat} (g:IU P w0 W0 Z H S1 a dst w s) (hd:dst=none):IU P w0 W0 Z H (pG Θ S S1 T y) a dst w s:=by
 subst hd
 unfold pG
 split
 case h_2=>exact g
 rename_i t0 s0 _
 split
 case h_2=>exact g
 rename_i t m xs hs hs1
 cases hk:m.bG with
 |true=>exact g
 |false=>
 simp only[cond_false]
 obtain⟨w',v,h1,dA,h2⟩:=g
 refine⟨w',v,h1,?_⟩
 have hh:=h.holds s0
 rw[hs] at hh
 obtain⟨cs,hm,hM⟩:=hh
 have hZ:∃ A c,cs=[.slice A xs.length c]:=by
  simp only[M] at hM
  rcases hM with⟨hn,_⟩ |⟨eY,_⟩ |⟨T',tag,me,A,c,_,rfl,_⟩
  ·simp at hn
  ·rw[hk] at eY;cases eY
  ·exact⟨A,c,rfl⟩
 have ha:a.put none v=a:=rfl
 rw[ha] at h2 ⊢
 have h3:=h2.pure (dst:=some s0) (av:=.v ⟨.sl t,m,xs⟩ [[]]) (v:=bU a s0) ⟨cs,hm,by
  simp only[M]
  exact .inl ⟨by simp,hk,hZ⟩⟩
 rw[mH] at h3
 have he:S1.put (some s0) (.v ⟨.sl t,m,xs⟩ [[]])=S1.set s0 (.v ⟨.sl t,m,xs⟩ [[]]):=by
  simp only[St.put,hs1]
  rfl
 rw[he] at h3
 exact⟨_,h3⟩
theorem au0 (hT:cP P Θ=true) (h:aW σ w0 W0 Z H S a w) {hn:Hn} {o:Oper} (e:ev Θ hn S o=some (true,S')):IU P w0 W0 Z H S' a o.dst w (execOp a.eval o):=by
 cases hq:Nk o.op with
 |true=>exact(aco hT h hq e).auL
 |false=>
 unfold ev at e
 split at e
 case h_9 T x y ho=>
  split at e
  ·rename_i hd
   split at e
   ·rename_i g S1 he
    injection e with e
    injection e with e1 e2
    subst e1 e2
    exact Nl h (ab6 hT h ho hd he) hd
   ·cases e
  ·cases e
 case h_23 as ts ho=>
  split at e
  ·rename_i r hr
   injection e with e
   subst e
   exact Y2 hT h ho hr
  ·exact RI hT h ho e
 case h_24=>cases e
 all_goals (rename_i ho;rw[ho] at hq;cases hq)
end Go.Pv
namespace Go.Pv
set_option linter.unusedVariables false
set_option linter.unusedSimpArgs false
variable {P:Program} {w w':World} {A A' Wr:Nat→Prop} {H:Nat→Value} {tm rH:Nat→Value} {S S' S1:St} {σ bF dZ:Nat→Option Nat} {w0:World} {W0 Z:Nat→Prop} {a:Act} {own:Nat→Prop} {v:Value} {Θ:dq} {dst:Option Nat}
def Own (σ:Nat→Option Nat) (g:Nat):Prop:=∃ i,σ g=some i
def Ci (w:World) (A:Nat→Prop) (H:Nat→Value):Arg→Value→(Nat→Prop)→Prop
 | .tv b,v,own=>∃ cs,aq b.t v cs∧M w A H b.t b.m b.x cs own []
 | .fn f cu,v,_=>∃ vs:List Value,v=.func (.func f) #[] vs.toArray∧vs.length=cu.length∧∀ (j:Nat) (c:TV),cu[j]?=some c→∃ u,vs[j]?=some u∧K w A c.t c.x [u]
abbrev Gl:=Nat→Option Obj
structure In (Γ:Gl) (B:Nat→Prop) (H:Nat→Value) (w:World) (σ:Nat→Option Nat) (args:List Arg) (cp:List Value):Prop where
 len:cp.length=args.length
 lt:∀ g i,σ g=some i→i<args.length∧g<w.heap.size
 old:∀ g,B g→σ g=none∧g<w.heap.size
 env:∀ g o,Γ g=some o→σ g=none∧w.heap[g]?=some o
 ok:∀ (j:Nat) (a:Arg),args[j]?=some a→∃ v,cp[j]?=some v∧Ci w (Av σ B) H a v (fun g=>σ g=some j)
def acp:List Value→Value
 |[u]=>u
 |vs=>.tuple vs.toArray
structure Out (B:Nat→Prop) (H:Nat→Value) (w w':World) (σ:Nat→Option Nat) (rt:aa) (v:Value):Prop where
 fr:Fr w (Own σ) w'
 res:∃ (dA:Nat→Option Nat) (vs:List Value),v=acp vs∧vs.length=rt.res.length∧(∀ g i,dA g=some i→(w.heap.size≤g∨Own σ g)∧g<w'.heap.size)∧
  (∀ (i:Nat) (b:TV),rt.res[i]?=some b→∃ u cs,vs[i]?=some u∧aq b.t u cs∧M w' (Av dA B) H b.t b.m b.x cs (fun g=>dA g=some i) [])∧
  ∀ c,rt.refs=[c]→∃ cs,M w' (Av dA B) H c.t c.m c.x cs (fun g=>dA g=some rt.res.length) []
def RK (P:Program) (f:FuncId) (cp:List Value) (w:World) (R:Value→World→Prop):Prop:=
 ((callFunc f cp.toArray).run P w=.ok (.enter f cp.toArray) w∧Calls P f cp.toArray w fun
  | .returned v,w'=>R v w'
  |_,_=>False)∨∃ v w',(callFunc f cp.toArray).run P w=.ok (.value v) w'∧R v w'
theorem RK.mono {f:FuncId} {cp:List Value} {R R':Value→World→Prop} (h:RK P f cp w R) (hr:∀ v w',R v w'→R' v w'):RK P f cp w R':=by
 rcases h with⟨h1,h2⟩ |⟨v,w',h1,h2⟩
 ·refine .inl ⟨h1,h2.mono fun e w' he=>?_⟩
  cases e<;>first |exact hr _ _ he |exact he
 ·exact .inr ⟨v,w',h1,hr _ _ h2⟩
def VM (Γ:Gl) (P:Program) (f:FuncId) (run:List Arg→(aa→Option aa)→Option aa):Prop:=
 ∀ (args:List Arg) (kf:aa→Option aa) (ret:aa) (w:World) (σ:Nat→Option Nat) (cp:List Value) (H:Nat→Value) (B:Nat→Prop),run args kf=some ret→In Γ B H w σ args cp→
  RK P f cp w fun v w'=>∃ rt,kf rt=some ret∧Out B H w w' σ rt v
def Sound (Γ:Gl) (P:Program) (f:FuncId) (run:List Arg→(aa→Option aa)→Option aa):Prop:=VM Γ P f run∧∀ as,cK (run as)
def aqT (Γ:Gl) (P:Program) (O:jt):Prop:=∀ f,Sound Γ P f (O.run f)
structure rh (Γ:Gl) (P:Program) (O:jt) (w0:World) (W0:Nat→Prop):Prop where
 sd:aqT Γ P O
 env:∀ g o,Γ g=some o→¬W0 g∧w0.heap[g]?=some o
theorem rh.det {Γ:Gl} {P:Program} {O:jt} {w0:World} {W0:Nat→Prop} (h:rh Γ P O w0 W0):ot O:=fun f=>(h.sd f).2
variable {Γ:Gl}
theorem acq {l:List Entry} (h:∀ e∈l,Sound Γ P e.f e.run):aqT Γ P (jt.of l):=by
 intro f
 have key:∀ (l:List Entry) (e:Entry),entry l f=some e→e∈l∧e.f=f:=by
  intro l
  induction l with
  |nil=>intro e h;cases h
  |cons e' r ih=>
   intro e h
   simp only[entry] at h
   cases hb:Nat.beq e'.f f with
   |true=>
    rw[hb] at h
    injection h with h
    subst h
    exact⟨by simp,Nat.eq_of_beq_eq_true hb⟩
   |false=>
    rw[hb] at h
    obtain⟨h1,h2⟩:=ih e h
    exact⟨by simp[h1],h2⟩
 simp only[jt.of]
 split
 ·rename_i e he
  obtain⟨h1,h2⟩:=key l e he
  rw[←h2]
  exact h e h1
 ·exact⟨fun args kf ret w σ cp H B hr=>(by cases hr),fun _=>cK.none⟩
theorem EH:∀ (t:Ty) {x:t.I} {cs:List Value},iA t=true→K w A t x cs→K w' A' t x cs
 | .int _,_,_,_,h=>h
 | .bool,_,_,_,h=>h
 | .str,_,_,_,h=>h
 | .unit,_,_,_,h=>h
 | .pair a b,x,cs,hf,h=>by
  simp only[iA,Bool.and_eq_true] at hf
  simp only[K] at h ⊢
  obtain⟨c0,c1,rfl,h0,h1⟩:=h
  exact⟨c0,c1,rfl,EH a hf.1 h0,EH b hf.2 h1⟩
 | .arr n t,x,cs,hf,h=>by
  simp only[iA] at hf
  simp only[K] at h ⊢
  obtain⟨e8,rfl,hl,hx,hj⟩:=h
  exact⟨e8,rfl,hl,hx,fun j h1 h2=>EH t hf (hj j h1 h2)⟩
theorem jD:∀ (t:Ty) {m:Md} {x:t.I} {cs:List Value} {ow:Nat→Prop},fQ t m=true→M w A H t m x cs ow []→M w A' H t m x cs ow []
 | .sl t,.o T tag me,xs,cs,ow,hs,h=>by
  simp only[fQ] at hs
  simp only[M] at h ⊢
  rcases h with⟨hn,_⟩ |⟨hk,_⟩ |⟨T,tag,me,X,c,e1,e2,hc,ht,h⟩
  ·simp at hn
  ·simp[Md.bG] at hk
  ·injection e1 with e1 Ao pW
   subst e1 Ao pW
   refine .inr (.inr ⟨_,_,_,X,c,rfl,e2,hc,ht,?_⟩)
   rcases h with h |⟨g,cur,τ,h1,h2,h3,h4,h5,h6⟩
   ·exact .inl h
   ·exact .inr ⟨g,cur,τ,h1,h2,h3,h4,h5,fun j hj=>jD t hs (h6 j hj)⟩
 | .ptr t,.o T tag me,x,cs,ow,hs,h=>by
  simp only[fQ] at hs
  simp only[M] at h ⊢
  rcases h with⟨hn,_⟩ |⟨hk,_⟩ |⟨T,tag,me,g,cur,e1,e2,ht,hg,hw,h⟩
  ·simp at hn
  ·simp[Md.bG] at hk
  ·injection e1 with e1 Ao pW
   subst e1 Ao pW
   exact .inr (.inr ⟨_,_,_,g,cur,rfl,e2,ht,hg,hw,jD t hs h⟩)
 | .pair a b,.p ma mb,x,cs,ow,hs,h=>by
  simp only[fQ,Bool.and_eq_true] at hs
  simp only[M] at h ⊢
  rcases h with⟨hn,_⟩ |⟨hk,h⟩ |⟨ma,mb,c0,c1,s,e1,e2,h0,h1⟩
  ·simp at hn
  ·simp only[K] at h
   simp only[Md.bG,Bool.and_eq_true] at hk
   obtain⟨c0,c1,e2,h0,h1⟩:=h
   refine .inr (.inr ⟨ma,mb,c0,c1,fun _=>True,rfl,e2,jD a hs.1 (oh hk.1 h0),jD b hs.2 (oh hk.2 h1)⟩)
  ·injection e1 with e1 Ao
   subst e1 Ao
   exact .inr (.inr ⟨_,_,c0,c1,s,rfl,e2,jD a hs.1 h0,jD b hs.2 h1⟩)
 | .sl t,.k,xs,cs,ow,hs,h=>by simp[fQ,iA] at hs
 | .sl t,.p _ _,xs,cs,ow,hs,h=>by simp[fQ,iA] at hs
 | .ptr t,.k,xs,cs,ow,hs,h=>by simp[fQ,iA] at hs
 | .ptr t,.p _ _,xs,cs,ow,hs,h=>by simp[fQ,iA] at hs
 | .pair a b,.k,xs,cs,ow,hs,h=>by
  simp only[fQ,Bool.and_eq_true] at hs
  exact oh hs.1 (EH _ hs.2 (fP _ hs.1 h))
 | .pair a b,.o ..,xs,cs,ow,hs,h=>by simp[fQ,Md.bG] at hs
 | .int k,m,x,cs,ow,hs,h=>by simp only[M,K] at h ⊢;exact h
 | .bool,m,x,cs,ow,hs,h=>by simp only[M,K] at h ⊢;exact h
 | .str,m,x,cs,ow,hs,h=>by simp only[M,K] at h ⊢;exact h
 | .unit,m,x,cs,ow,hs,h=>by simp only[M,K] at h ⊢;exact h
 | .arr n t,m,x,cs,ow,hs,h=>by
  have hs:(m.bG&&iA (.arr n t))=true:=by cases m<;>exact hs
  simp only[Bool.and_eq_true] at hs
  exact oh hs.1 (EH _ hs.2 (fP _ hs.1 h))
def Pk (σ:Nat→Option Nat) (n:Nat) (g:Nat):Prop:=∃ i,n≤i∧σ g=some i
theorem ain {t:Ty} {m:Md} {x:t.I} {cs:List Value} {s n:Nat} {ow:Nat→Prop} (hs:s<n) (ho:∀ g,ow g→σ g=some s) (h:M w (Av σ Z) H t m x cs ow []):K w (Pk σ n) t x cs:=
 M_K (fun g _ hg=>by obtain⟨i,_,hi⟩:=hg;exact .inl ⟨i,hi⟩) t rfl (fun g hg hx=>by
  obtain⟨i,hi,nk⟩:=hx
  rw[ho g hg] at nk
  injection nk with nk
  omega) h
theorem acr (h:aW σ w0 W0 Z H S a w) {T:TypeId} {x:Operand} {av:AV} {b:TV} (ho:S.dX Θ T x=some av) (e:S.tp av=some b):
  ∃ cs,aq b.t (a.eval x) cs∧K w (Pk σ S.length) b.t b.x cs:=by
 have hh:=bo h ho
 cases av with
 |v a0 ex=>
  cases ex with
  |cons _ _=>simp[St.tp] at e
  |nil=>
   simp only[St.tp,Option.some.injEq] at e
   subst e
   obtain⟨cs,h1,h2⟩:=hh
   cases x with
   |tmp i=>
    simp only[St.dX,Option.some.injEq] at ho
    exact⟨cs,h1,ain (s:=i) (eH (by rw[ho];exact fun e=>by cases e)) (fun g hg=>by obtain⟨j,hj,hg⟩:=hg;injection hj with hj;subst hj;exact hg) h2⟩
   |const c=>exact⟨cs,h1,M_K (fun g _ hg=>by obtain⟨i,_,hi⟩:=hg;exact .inl ⟨i,hi⟩) _ rfl (fun g hg=>by obtain⟨j,hj,_⟩:=hg;cases hj) h2⟩
   |func f=>exact⟨cs,h1,M_K (fun g _ hg=>by obtain⟨i,_,hi⟩:=hg;exact .inl ⟨i,hi⟩) _ rfl (fun g hg=>by obtain⟨j,hj,_⟩:=hg;cases hj) h2⟩
   |global f=>exact⟨cs,h1,M_K (fun g _ hg=>by obtain⟨i,_,hi⟩:=hg;exact .inl ⟨i,hi⟩) _ rfl (fun g hg=>by obtain⟨j,hj,_⟩:=hg;cases hj) h2⟩
 |al t s p=>
  simp only[St.tp] at e
  obtain⟨r,cN,cs,hr,hc,hm⟩:=hh
  obtain⟨rfl,cB,k2,k3⟩:=db h hr hc e
  obtain⟨ex0,VF,_⟩:=hr.at_
  exact⟨cs,hm,ain (s:=s) (eH (by rw[VF];exact fun e=>by cases e)) k2 k3⟩
 |cut t s p lo hi=>
  simp only[St.tp] at e
  obtain⟨r,cN,t',X,n,c,hr,rfl,hc,YK,Ea,hv⟩:=hh
  cases hp:S.place s p with
  |none=>rw[hp] at e;cases e
  |some b'=>
   obtain⟨ht,cB,k2,k3⟩:=db h hr hc hp
   obtain⟨bt,bm,bx⟩:=b'
   simp only at ht
   subst ht
   rw[hp] at e
   simp only[Option.some.injEq] at e
   subst e
   obtain⟨ex0,VF,_⟩:=hr.at_
   have hK:=ain (s:=s) (n:=S.length) (eH (by rw[VF];exact fun e=>by cases e)) k2 k3
   have hn:n=List.length bx:=by
    simp only[K] at hK
    obtain⟨_,_,e,_⟩:=hK
    simp only[List.cons.injEq,Value.slice.injEq,and_true] at e
    exact e.2.1
   subst hn
   rw[hv]
   exact⟨_,by simp[aq,isAgg],Vw hK YK Ea⟩
 |_=>simp[St.tp] at e
theorem acs {n:Nat}:aP w w (Av σ Z) (Pk σ n):=⟨fun _ _ _=>rfl,fun g _ hg=>by obtain⟨i,_,hi⟩:=hg;exact .inl ⟨i,hi⟩⟩
theorem sj (h:aW σ w0 W0 Z H S a w):∀ {cu:List IG} {l:List TV} {vs:List Value},pK S cu=some l→vs.length=cu.length→(∀ (j:Nat) (c:IG),cu[j]?=some c→∃ u,vs[j]?=some u∧mC w (Av σ Z) (bU a) S c u)→
  l.length=cu.length∧∀ (j:Nat) (c:TV),l[j]?=some c→∃ u,vs[j]?=some u∧K w (Pk σ S.length) c.t c.x [u]
 |[],l,vs,e,_,_=>by
  simp only[pK,Option.some.injEq] at e
  subst e
  exact⟨rfl,fun j c hj=>by simp at hj⟩
 |c::cu,l,vs,e,hl,hv=>by
  simp only[pK] at e
  split at e
  case h_2=>cases e
  rename_i b l2 hb hl2
  simp only[Option.some.injEq] at e
  subst e
  match vs,hl with
  |u::vs,hl=>
   obtain⟨h1,h2⟩:=sj h (vs:=vs) hl2 (by simpa using hl) (fun j c hj=>by simpa using hv (j+1) c (by simpa using hj))
   refine⟨by simp[h1],fun j c' hj=>?_⟩
   cases j with
   |succ j=>simpa using h2 j c' (by simpa using hj)
   |zero=>
    simp only[List.getElem?_cons_zero,Option.some.injEq] at hj
    subst hj
    obtain⟨u',hu,hc⟩:=hv 0 c rfl
    simp only[List.getElem?_cons_zero,Option.some.injEq] at hu
    subst hu
    refine⟨u,rfl,?_⟩
    cases c with
    |kv b'=>
     simp only[Hp,Option.some.injEq] at hb
     subst hb
     exact bR acs _ hc
    |pl t s p=>
     simp only[Hp] at hb
     split at hb
     case h_2=>cases hb
     rename_i b' hp
     simp only[Option.some.injEq] at hb
     subst hb
     obtain⟨r,cN,cs,hr,gg,hm⟩:=hc
     obtain⟨zX,cB,k2,k3⟩:=db h hr gg hp
     obtain⟨ex0,VF,_⟩:=hr.at_
     have hK:=ain (s:=s) (n:=S.length) (eH (by rw[VF];exact fun e=>by cases e)) k2 k3
     have:cs=[u]:=by simpa[aq,isAgg] using hm
     rw[this] at hK
     exact hK
theorem vf:∀ (xs:List Operand) (Ts:List TypeId) (ps:List Pass) (j:Nat) {S S1:St} {σ:Nat→Option Nat} {l:List (Option TV)},aW σ w0 W0 Z H S a w→gh Θ S xs Ts ps=some (l,S1)→
  ∃ (bF:Nat→Option Nat) (ow:Nat→Prop) (τ:Nat→Nat),aW bF w0 W0 Z H S1 a w∧S1.length=S.length∧gv σ bF S.length ow∧l.length=xs.length∧(∀ g,ow g→j≤τ g∧τ g<j+l.length)∧
   ((∀ p∈ps,p=.val)→∀ g,¬ow g)∧
   ∀ (k:Nat) (b:TV),l[k]?=some (some b)→∃ x cs,xs[k]?=some x∧aq b.t (a.eval x) cs∧M w (Av σ Z) H b.t b.m b.x cs (fun g=>ow g∧τ g=j+k) []
 |[],Ts,ps,j,S,S1,σ,l,h,e=>by
  simp only[gh,Option.some.injEq,Prod.mk.injEq] at e
  obtain⟨rfl,rfl⟩:=e
  exact⟨σ,fun _=>False,fun _=>j,h,rfl,gv.none _ _,rfl,fun _ h=>h.elim,fun _ _ h=>h,fun k b hk=>by simp at hk⟩
 |x::xs,[],ps,j,S,S1,σ,l,h,e=>by simp[gh] at e
 |x::xs,T::Ts,[],j,S,S1,σ,l,h,e=>by simp[gh] at e
 |x::xs,T::Ts,p::ps,j,S,S1,σ,l,h,e=>by
  simp only[gh] at e
  split at e
  ·split at e
   case h_2=>cases e
   rename_i r hr
   simp only[Option.some.injEq,Prod.mk.injEq] at e
   obtain⟨rfl,rfl⟩:=e
   obtain⟨bF,ow,τ,k1,k2,k3,k4,k5,k6,k7⟩:=vf xs Ts ps (j+1) h hr
   refine⟨bF,ow,τ,k1,k2,k3,by simp[k4],fun g hg=>by have:=k5 g hg;simp only[List.length_cons];omega,fun hp=>k6 (fun p hp'=>hp p (by simp[hp'])),fun k b hk=>?_⟩
   cases k with
   |zero=>simp at hk
   |succ k=>
    obtain⟨x',cs,q1,q2,q3⟩:=k7 k b (by simpa using hk)
    exact⟨x',cs,by simpa using q1,q2,by rw[show j+(k+1)=j+1+k from by omega];exact q3⟩
  rotate_left
  ·cases e
  ·unfold St.take at e
   split at e
   case h_2=>cases e
   rename_i b S2 hb
   split at hb
   case h_2=>cases hb
   rename_i av dL
   split at e
   case h_2=>cases e
   rename_i r hr
   simp only[Option.some.injEq,Prod.mk.injEq] at e
   obtain⟨rfl,rfl⟩:=e
   obtain⟨bF,cs,ow,h1,hm,hM,hk,hn⟩:=eV h dL hb
   obtain⟨dZ,pS,τ,k1,k2,k3,k4,k5,k6,k7⟩:=vf xs Ts ps (j+1) h1 hr
   rw[hn] at k3
   have RD:∀ g,ow g→¬pS g:=fun g hg=>hk.apart k3 hg
   let VI:Nat→Nat:=fun g=>open Classical in if ow g then j else τ g
   refine⟨dZ,fun g=>ow g∨pS g,VI,k1,by omega,hk.trans k3,by simp[k4],fun g hg=>?_,fun hp=>(fun hx:Pass.take=Pass.val=>nomatch hx) (hp .take (by simp)),fun k b' eY=>?_⟩
   ·simp only[VI,List.length_cons]
    split
    ·omega
    ·rename_i hx
     have:=k5 g (hg.resolve_left hx)
     omega
   ·cases k with
    |zero=>
     simp only[List.getElem?_cons_zero,Option.some.injEq] at eY
     subst eY
     refine⟨x,cs,rfl,hm,aG (aP.refl _ _) _ (fun _ _ _=>rfl) (fun g hg _=>⟨.inl hg,by simp only[VI,if_pos hg,Nat.add_zero]⟩) (fun _ h=>h) hM⟩
    |succ k=>
     obtain⟨x',cJ,q1,q2,q3⟩:=k7 k b' (by simpa using eY)
     refine⟨x',cJ,by simpa using q1,q2,aG ⟨fun _ _ _=>rfl,fun g _ hg=>hk.Av.2 hg⟩ _ (fun _ _ _=>rfl) (fun g hg _=>⟨.inr hg.1,?_⟩) (fun _ h=>h) q3⟩
     simp only[VI]
     rw[if_neg (fun hx=>RD g hx hg.1),hg.2]
     omega
theorem kx (h:aW σ w0 W0 Z H S a w):∀ (xs:List Operand) (Ts:List TypeId) (l:List (Option TV)) {as:List Arg},l.length=xs.length→reads Θ S xs Ts l=some as→
  as.length=xs.length∧∀ (k:Nat) (r:Arg),as[k]?=some r→(∃ b,l[k]?=some (some b)∧r=.tv b)∨∃ x,xs[k]?=some x∧∀ H,Ci w (Pk σ S.length) H r (a.eval x) (fun _=>False)
 |[],Ts,l,as,_,e=>by
  simp only[reads,Option.some.injEq] at e
  subst e
  exact⟨rfl,fun k r hk=>by simp at hk⟩
 |x::xs,[],l,as,hl,e=>by simp[reads] at e
 |x::xs,T::Ts,[],as,hl,e=>by simp at hl
 |x::xs,T::Ts,p::ps,as,hl,e=>by
  have VC:ps.length=xs.length:=by simpa using hl
  simp only[reads] at e
  split at e
  ·rename_i b
   split at e
   case h_2=>cases e
   rename_i r hr
   simp only[Option.some.injEq] at e
   subst e
   obtain⟨h1,h2⟩:=kx h xs Ts ps VC hr
   refine⟨by simp[h1],fun k r' hk=>?_⟩
   cases k with
   |zero=>
    simp only[List.getElem?_cons_zero,Option.some.injEq] at hk
    exact .inl ⟨b,rfl,hk.symm⟩
   |succ k=>simpa using h2 k r' (by simpa using hk)
  ·split at e
   ·rename_i f cu dL
    split at e
    case h_2=>cases e
    rename_i cs r hZ hr
    simp only[Option.some.injEq] at e
    subst e
    obtain⟨h1,h2⟩:=kx h xs Ts ps VC hr
    refine⟨by simp[h1],fun k r' hk=>?_⟩
    cases k with
    |zero=>
     simp only[List.getElem?_cons_zero,Option.some.injEq] at hk
     subst hk
     obtain⟨vs,v1,v2,v3⟩:=bo h dL
     obtain⟨c1,c2⟩:=sj h hZ v2 v3
     exact .inr ⟨x,rfl,fun _=>⟨vs,v1,by omega,c2⟩⟩
    |succ k=>simpa using h2 k r' (by simpa using hk)
   ·rename_i av _ dL
    split at e
    case h_2=>cases e
    rename_i b r hb hr
    simp only[Option.some.injEq] at e
    subst e
    obtain⟨h1,h2⟩:=kx h xs Ts ps VC hr
    refine⟨by simp[h1],fun k r' hk=>?_⟩
    cases k with
    |zero=>
     simp only[List.getElem?_cons_zero,Option.some.injEq] at hk
     subst hk
     obtain⟨cs,c1,c2⟩:=acr h dL hb
     exact .inr ⟨x,rfl,fun _=>⟨cs,c1,gb _ c2⟩⟩
    |succ k=>simpa using h2 k r' (by simpa using hk)
   ·cases e
theorem mJ (h:aW σ w0 W0 Z H S a w):∀ (xs:List Operand) (Ts:List TypeId) (l:List (Option TV)) {as:List Arg},l.length=xs.length→reads Θ S xs Ts l=some as→ju S xs l as=true→
  ∀ (k:Nat) (r:Arg),as[k]?=some r→(∃ b,l[k]?=some (some b)∧r=.tv b)∨∃ x,xs[k]?=some x∧∀ H,Ci w (Av σ Z) H r (a.eval x) (fun _=>False)
 |[],Ts,l,as,_,e,_=>by
  simp only[reads,Option.some.injEq] at e
  subst e
  exact fun k r hk=>by simp at hk
 |x::xs,[],l,as,hl,e,_=>by simp[reads] at e
 |x::xs,T::Ts,[],as,hl,e,_=>by simp at hl
 |x::xs,T::Ts,p::ps,as,hl,e,hf=>by
  have VC:ps.length=xs.length:=by simpa using hl
  have dY:=(kx h (x::xs) (T::Ts) (p::ps) hl e).2
  simp only[reads] at e
  split at e
  ·rename_i b
   split at e
   case h_2=>cases e
   rename_i r hr
   simp only[Option.some.injEq] at e
   subst e
   simp only[ju,Bool.true_or,Bool.true_and] at hf
   have h2:=mJ h xs Ts ps VC hr hf
   intro k r' hk
   cases k with
   |zero=>
    simp only[List.getElem?_cons_zero,Option.some.injEq] at hk
    exact .inl ⟨b,rfl,hk.symm⟩
   |succ k=>simpa using h2 k r' (by simpa using hk)
  ·split at e
   ·rename_i f cu dL
    split at e
    case h_2=>cases e
    rename_i cs r hZ hr
    simp only[Option.some.injEq] at e
    subst e
    simp only[ju,Bool.false_or,Bool.and_eq_true,List.isEmpty_iff] at hf
    obtain⟨hf1,hf2⟩:=hf
    have h2:=mJ h xs Ts ps VC hr hf2
    intro k r' hk
    cases k with
    |succ k=>simpa using h2 k r' (by simpa using hk)
    |zero=>
     simp only[List.getElem?_cons_zero,Option.some.injEq] at hk
     subst hk
     rcases dY 0 _ rfl with⟨b',I5,_⟩ |⟨x',xi,iY⟩
     ·simp at I5
     ·simp only[List.getElem?_cons_zero,Option.some.injEq] at xi
      subst xi
      refine .inr ⟨x,rfl,fun H'=>?_⟩
      obtain⟨vs,v1,v2,v3⟩:=iY H'
      exact⟨vs,v1,v2,fun j c hj=>by rw[hf1] at hj;simp at hj⟩
   ·rename_i av _ dL
    split at e
    case h_2=>cases e
    rename_i b r hb hr
    simp only[Option.some.injEq] at e
    subst e
    simp only[ju,Bool.false_or,Bool.and_eq_true,Bool.or_eq_true] at hf
    obtain⟨hf1,hf2⟩:=hf
    have h2:=mJ h xs Ts ps VC hr hf2
    intro k r' hk
    cases k with
    |succ k=>simpa using h2 k r' (by simpa using hk)
    |zero=>
     simp only[List.getElem?_cons_zero,Option.some.injEq] at hk
     subst hk
     rcases hf1 with hs |hs
     ·rcases dY 0 _ rfl with⟨b',I5,_⟩ |⟨x',xi,iY⟩
      ·simp at I5
      ·simp only[List.getElem?_cons_zero,Option.some.injEq] at xi
       subst xi
       refine .inr ⟨x,rfl,fun H'=>?_⟩
       obtain⟨cs,c1,c2⟩:=iY H'
       exact⟨cs,c1,jD _ hs c2⟩
     ·refine .inr ⟨x,rfl,fun H'=>?_⟩
      have hh:=bo h dL
      cases x with
      |func f=>simp[uq] at hs
      |global f=>simp[uq] at hs
      |tmp i=>
       simp only[St.dX,Option.some.injEq] at dL
       subst dL
       simp only[uq] at hs
       split at hs
       ·rename_i b0 hb0
        rw[hb0] at hh hb
        simp only[St.tp,Option.some.injEq] at hb
        subst hb
        obtain⟨cs,c1,c2⟩:=hh
        exact⟨cs,c1,oh rfl (fP _ hs c2)⟩
       ·cases hs
      |const c=>
       have hk:∀ a0,av=.v a0 []→∀ H',Ci w (Av σ Z) H' (.tv (Ra b)) (a.eval (.const c)) fun _=>False:=fun a0 e H'=>by
        subst e
        simp only[St.tp,Option.some.injEq] at hb
        subst hb
        have hh:=bo h dL
        obtain⟨cs,c1,c2⟩:=hh
        exact⟨cs,c1,oh rfl (M_K (fun g _ hg=>hg) _ rfl (fun g hg=>by obtain⟨j,hj,_⟩:=hg;cases hj) c2)⟩
       simp only[St.dX] at dL
       cases hc:nr Θ T c with
       |none=>rw[hc] at dL;cases dL
       |some a0=>
        rw[hc] at dL
        simp only[Option.map_some,Option.some.injEq] at dL
        exact hk a0 dL.symm H'
   ·cases e
end Go.Pv
namespace Go.Pv
set_option linter.unusedVariables false
set_option linter.unusedSimpArgs false
variable {P:Program} {w w':World} {A A' B Wr:Nat→Prop} {H H':Nat→Value}
theorem mK:∀ (t:Ty) {m:Md} {x:t.I} {cs:List Value} {ow:Nat→Prop} {hs:List Path},q9 m=true→M w A H t m x cs ow hs→M w A H' t m x cs ow hs
 | .int _,_,_,_,_,_,_,h=>by simp only[M] at h ⊢;exact h
 | .bool,_,_,_,_,_,_,h=>by simp only[M] at h ⊢;exact h
 | .str,_,_,_,_,_,_,h=>by simp only[M] at h ⊢;exact h
 | .unit,_,_,_,_,_,_,h=>by simp only[M] at h ⊢;exact h
 | .arr _ _,_,_,_,_,_,_,h=>by simp only[M] at h ⊢;exact h
 | .sl t,m,xs,cs,ow,hs,hb,h=>by
  simp only[M] at h ⊢
  rcases h with h |h |⟨T,tag,me,X,c,rfl,e2,hc,ht,h⟩
  ·exact .inl h
  ·exact .inr (.inl h)
  ·simp only[q9,Bool.and_eq_true] at hb
   obtain⟨hb1,hb2⟩:=hb
   cases tag with
   |some _=>cases hb1
   |none=>
    refine .inr (.inr ⟨T,none,me,X,c,rfl,e2,hc,fun h hh=>(by cases hh),?_⟩)
    rcases h with h |⟨g,cur,τ,h1,h2,h3,h4,h5,h6⟩
    ·exact .inl h
    ·exact .inr ⟨g,cur,τ,h1,h2,h3,h4,h5,fun j hj=>mK t hb2 (h6 j hj)⟩
 | .ptr t,m,x,cs,ow,hs,hb,h=>by
  simp only[M] at h ⊢
  rcases h with h |h |⟨T,tag,me,g,cur,rfl,e2,ht,hg,hw,h⟩
  ·exact .inl h
  ·exact .inr (.inl h)
  ·simp only[q9,Bool.and_eq_true] at hb
   obtain⟨hb1,hb2⟩:=hb
   cases tag with
   |some _=>cases hb1
   |none=>exact .inr (.inr ⟨T,none,me,g,cur,rfl,e2,fun h hh=>(by cases hh),hg,hw,mK t hb2 h⟩)
 | .pair a b,m,x,cs,ow,hs,hb,h=>by
  simp only[M] at h ⊢
  rcases h with h |h |⟨ma,mb,c0,c1,s,rfl,e2,h0,h1⟩
  ·exact .inl h
  ·exact .inr (.inl h)
  ·simp only[q9,Bool.and_eq_true] at hb
   exact .inr (.inr ⟨ma,mb,c0,c1,s,rfl,e2,mK a hb.1 h0,mK b hb.2 h1⟩)
theorem sk:∀ (t:Ty) {m:Md} {n:Nat},m.bG=true→(jv t m n).bG=true
 | .int _,m,n,h=>by simpa[jv] using h
 | .bool,m,n,h=>by simpa[jv] using h
 | .str,m,n,h=>by simpa[jv] using h
 | .unit,m,n,h=>by simpa[jv] using h
 | .arr _ _,m,n,h=>by simpa[jv] using h
 | .sl t,m,n,h=>by cases m<;>simp_all [jv,Md.bG]
 | .ptr t,m,n,h=>by cases m<;>simp_all [jv,Md.bG]
 | .pair a b,m,n,h=>by
  cases m with
  |k=>simp[jv,Md.bG]
  |o=>simp[Md.bG] at h
  |p ma mb=>
   simp only[Md.bG,Bool.and_eq_true] at h
   simp only[jv,Md.bG,Bool.and_eq_true]
   exact⟨sk a h.1,sk b h.2⟩
theorem mL:∀ (t:Ty) {m:Md} {x y:t.I},m.bG=true→fE t m x y=x
 | .int _,m,x,y,h=>rfl
 | .bool,m,x,y,h=>rfl
 | .str,m,x,y,h=>rfl
 | .unit,m,x,y,h=>rfl
 | .arr _ _,m,x,y,h=>rfl
 | .sl t,m,x,y,h=>by cases m<;>simp_all [fE,Md.bG]
 | .ptr t,m,x,y,h=>by cases m<;>simp_all [fE,Md.bG]
 | .pair a b,m,x,y,h=>by
  cases m with
  |k=>simp[fE]
  |o=>simp[Md.bG] at h
  |p ma mb=>
   simp only[Md.bG,Bool.and_eq_true] at h
   simp only[fE]
   rw[mL a h.1,mL b h.2]
theorem acu:∀ (t:Ty) {m:Md} {x:t.I} {cs:List Value} {ow:Nat→Prop} {n:Nat},fb t m=true→M w A H t m x cs ow []→(∀ (j:Nat) (u:Value),cs[j]?=some u→H' (n+j)=u)→M w A H' t (jv t m n) x cs ow []
 | .int _,_,_,_,_,_,_,h,_=>by simp only[M,jv] at h ⊢;exact h
 | .bool,_,_,_,_,_,_,h,_=>by simp only[M,jv] at h ⊢;exact h
 | .str,_,_,_,_,_,_,h,_=>by simp only[M,jv] at h ⊢;exact h
 | .unit,_,_,_,_,_,_,h,_=>by simp only[M,jv] at h ⊢;exact h
 | .arr _ _,_,_,_,_,_,_,h,_=>by simp only[M,jv] at h ⊢;exact h
 | .sl t,m,xs,cs,ow,n,hl,h,hH=>by
  simp only[M] at h ⊢
  rcases h with⟨h,_⟩ |⟨hk,h⟩ |⟨T,tag,me,X,c,rfl,rfl,hc,ht,h⟩
  ·simp at h
  ·exact .inr (.inl ⟨sk (.sl t) hk,h⟩)
  ·simp only[fb,Bool.and_eq_true] at hl
   refine .inr (.inr ⟨T,some n,me,X,c,rfl,rfl,hc,fun h hh=>?_,?_⟩)
   ·injection hh with hh
    subst hh
    exact hH 0 _ rfl
   ·rcases h with h |⟨g,cur,τ,h1,h2,h3,h4,h5,h6⟩
    ·exact .inl h
    ·exact .inr ⟨g,cur,τ,h1,h2,h3,h4,h5,fun j hj=>mK t hl (h6 j hj)⟩
 | .ptr t,m,x,cs,ow,n,hl,h,hH=>by
  simp only[M] at h ⊢
  rcases h with⟨h,_⟩ |⟨hk,h⟩ |⟨T,tag,me,g,cur,rfl,rfl,ht,hg,hw,h⟩
  ·simp at h
  ·exact .inr (.inl ⟨sk (.ptr t) hk,h⟩)
  ·simp only[fb,Bool.and_eq_true] at hl
   refine .inr (.inr ⟨T,some n,me,g,cur,rfl,rfl,fun h hh=>?_,hg,hw,mK t hl h⟩)
   injection hh with hh
   subst hh
   exact hH 0 _ rfl
 | .pair a b,m,x,cs,ow,n,hl,h,hH=>by
  simp only[M] at h ⊢
  rcases h with⟨h,_⟩ |⟨hk,h⟩ |⟨ma,mb,c0,c1,s,rfl,rfl,h0,h1⟩
  ·simp at h
  ·exact .inr (.inl ⟨sk (.pair a b) hk,h⟩)
  ·simp only[fb,Bool.and_eq_true] at hl
   have hl0:=(eP a h0).1
   refine .inr (.inr ⟨_,_,c0,c1,s,rfl,rfl,acu a hl.1 h0 (fun j u hj=>hH j u ?_),acu b hl.2 h1 (fun j u hj=>?_)⟩)
   ·rw[List.getElem?_append_left (List.getElem?_eq_some_iff.1 hj).1];exact hj
   ·rw[Nat.add_assoc]
    refine hH (a.size+j) u ?_
    rw[List.getElem?_append_right (by omega),hl0,Nat.add_sub_cancel_left]
    exact hj
theorem xA (bQ:aP w w' A A'):∀ (t:Ty) {m:Md} {x y:t.I} {cs cJ:List Value} {ow cB:Nat→Prop} {n:Nat},fb t m=true→(rP t m=true∨aP w' w' B A')→M w A H t m x cs ow []→(∀ (j:Nat) (u:Value),cs[j]?=some u→H' (n+j)=u)→
  M w' B H' t (jv t m n) y cJ cB []→M w' A' H t m (fE t m x y) cs cB []
 | .int _,_,_,_,_,_,_,_,_,_,_,h,_,_=>by simp only[M,fE] at h ⊢;exact⟨h.1,bR bQ _ h.2⟩
 | .bool,_,_,_,_,_,_,_,_,_,_,h,_,_=>by simp only[M,fE] at h ⊢;exact⟨h.1,bR bQ _ h.2⟩
 | .str,_,_,_,_,_,_,_,_,_,_,h,_,_=>by simp only[M,fE] at h ⊢;exact⟨h.1,bR bQ _ h.2⟩
 | .unit,_,_,_,_,_,_,_,_,_,_,h,_,_=>by simp only[M,fE] at h ⊢;exact⟨h.1,bR bQ _ h.2⟩
 | .arr _ _,_,_,_,_,_,_,_,_,_,_,h,_,_=>by simp only[M,fE] at h ⊢;exact⟨h.1,bR bQ _ h.2⟩
 | .sl t,m,xs,ys,cs,cJ,ow,cB,n,hl,hB,h,hH,h'=>by
  simp only[M] at h
  rcases h with⟨h,_⟩ |⟨hk,h⟩ |⟨T,tag,me,X,c,rfl,rfl,hc,ht,h⟩
  ·simp at h
  ·rw[mL _ hk]
   exact oh hk (bR bQ _ h)
  ·simp only[fb,Bool.and_eq_true] at hl
   simp only[jv,M] at h'
   rcases h' with⟨h',_⟩ |⟨hk,_⟩ |⟨T2,YY,me2,X2,c2,e1,e2,zZ,ht2,h'⟩
   ·simp at h'
   ·simp[Md.bG] at hk
   ·injection e1 with e1 Ao pW
    subst e1 Ao pW
    have q1:=ht2 n rfl
    rw[show H' n=.slice X xs.length c from hH 0 _ rfl] at q1
    injection q1 with q1 q2 q3
    subst q1 q3
    simp only[M,fE]
    refine .inr (.inr ⟨T,tag,me,X,c,rfl,by rw[q2],zZ,fun h hh=>by rw[ht h hh,q2],?_⟩)
    rcases h' with h' |⟨g,cur,τ,k1,k2,k3,k4,k5,k6⟩
    ·exact .inl h'
    ·exact .inr ⟨g,cur,τ,k1,k2,k3,k4,k5,fun j hj=>hB.elim (fun hs=>jD t hs (mK t hl (k6 j hj))) fun bQ=>aG bQ t (fun _ _ _=>rfl) (fun _ h _=>h) (fun _ h=>h) (mK t hl (k6 j hj))⟩
 | .ptr t,m,x,y,cs,cJ,ow,cB,n,hl,hB,h,hH,h'=>by
  simp only[M] at h
  rcases h with⟨h,_⟩ |⟨hk,h⟩ |⟨T,tag,me,g,cur,rfl,rfl,ht,hg,hw,h⟩
  ·simp at h
  ·rw[mL _ hk]
   exact oh hk (bR bQ _ h)
  ·simp only[fb,Bool.and_eq_true] at hl
   simp only[jv,M] at h'
   rcases h' with⟨h',_⟩ |⟨hk,_⟩ |⟨T2,YY,me2,g2,gq,e1,e2,ht2,rC,rB,h'⟩
   ·simp at h'
   ·simp[Md.bG] at hk
   ·injection e1 with e1 Ao pW
    subst e1 Ao pW
    have q1:=ht2 n rfl
    rw[show H' n=.pointer (some ⟨g,0,none⟩) from hH 0 _ rfl] at q1
    injection q1 with q1
    injection q1 with q1
    injection q1 with q1
    subst q1
    simp only[M,fE]
    exact .inr (.inr ⟨T,tag,me,g,gq,rfl,rfl,ht,rC,rB,hB.elim (fun hs=>jD t hs (mK t hl h')) fun bQ=>aG bQ t (fun _ _ _=>rfl) (fun _ h _=>h) (fun _ h=>h) (mK t hl h')⟩)
 | .pair a b,m,x,y,cs,cJ,ow,cB,n,hl,hB,h,hH,h'=>by
  simp only[M] at h
  rcases h with⟨h,_⟩ |⟨hk,h⟩ |⟨ma,mb,c0,c1,s,rfl,rfl,h0,h1⟩
  ·simp at h
  ·rw[mL _ hk]
   exact oh hk (bR bQ _ h)
  ·simp only[fb,Bool.and_eq_true] at hl
   have hBa:rP a ma=true∨aP w' w' B A':=hB.imp (fun h=>by simp only[rP,Bool.and_eq_true] at h;exact h.1) id
   have hBb:rP b mb=true∨aP w' w' B A':=hB.imp (fun h=>by simp only[rP,Bool.and_eq_true] at h;exact h.2) id
   have hl0:=(eP a h0).1
   have hH0:∀ (j:Nat) (u:Value),c0[j]?=some u→H' (n+j)=u:=fun j u hj=>hH j u (by rw[List.getElem?_append_left (List.getElem?_eq_some_iff.1 hj).1];exact hj)
   have hH1:∀ (j:Nat) (u:Value),c1[j]?=some u→H' (n+a.size+j)=u:=fun j u hj=>by
    rw[Nat.add_assoc]
    refine hH (a.size+j) u ?_
    rw[List.getElem?_append_right (by omega),hl0,Nat.add_sub_cancel_left]
    exact hj
   simp only[jv,M] at h'
   simp only[M,fE]
   rcases h' with⟨h',_⟩ |⟨hk,h'⟩ |⟨ma2,mb2,d0,d1,s2,e1,e2,k0,k1⟩
   ·simp at h'
   ·simp only[Md.bG,Bool.and_eq_true] at hk
    simp only[K] at h'
    obtain⟨d0,d1,e2,k0,k1⟩:=h'
    exact .inr (.inr ⟨ma,mb,c0,c1,fun _=>True,rfl,rfl,xA bQ a hl.1 hBa h0 hH0 (oh hk.1 k0),xA bQ b hl.2 hBb h1 hH1 (oh hk.2 k1)⟩)
   ·injection e1 with e1 Ao
    subst e1 Ao
    exact .inr (.inr ⟨ma,mb,c0,c1,s2,rfl,rfl,xA bQ a hl.1 hBa h0 hH0 k0,xA bQ b hl.2 hBb h1 hH1 k1⟩)
end Go.Pv
namespace Go.Pv
set_option linter.unusedVariables false
set_option linter.unusedSimpArgs false
variable {P:Program} {w w':World} {A A' Wr:Nat→Prop} {H:Nat→Value} {tm rH:Nat→Value} {S S' S1:St} {σ bF dZ:Nat→Option Nat} {w0:World} {W0 Z:Nat→Prop} {a:Act} {own:Nat→Prop} {v:Value} {Θ:dq} {dst:Option Nat} {O:jt} {hh:Hint} {Γ:Gl}
theorem Fr.trans {W1:Nat→Prop} (h:Fr w0 W0 w) (h1:Fr w W1 w') (hw:∀ g,W1 g→g<w0.heap.size→W0 g):Fr w0 W0 w':=by
 refine⟨h1.os.trans h.os,h1.tape.trans h.tape,h1.output.trans h.output,Nat.le_trans h.size h1.size,fun g hg hn=>?_⟩
 rw[h1.block g (by have:=h.size;omega) (fun hx=>hn (hw g hx hg))]
 exact h.block g hg hn
theorem VN (hT:cP P hh.tab=true) (hO:rh Γ P O w0 W0) (h:aW σ w0 W0 Z H S a w) {o:Oper} {f:FuncId} {cal:Option Nat} {as:List Operand} {ts:List TypeId} {K:St→Option aa} {ret:aa} {xB:List Value}
  (awY:(cal=none∧xB=[])∨∃ i,cal=some i∧bU a i=.func (.func f) #[] xB.toArray) (e:hJ hh O o f cal as ts S K=some ret):
  RK P f (as.map a.eval++xB) w fun v w'=>∃ S',K S'=some ret∧Rel w0 W0 Z H S' (a.put o.dst v) w'∧((∀ p∈O.sig f,p=.val)→Ext w w'):=by
 unfold hJ at e
 split at e
 case h_2=>cases e
 rename_i l S1 hl
 split at e
 case h_2=>cases e
 rename_i args cs HS hZ
 obtain⟨bF,ow,τ,t1,t2,t3,t4,t5,t6,t7⟩:=vf as ts (O.sig f) 0 h hl
 obtain⟨r1,r2⟩:=kx t1 as ts l t4 HS
 -- the captured values
 have aio:cs.length=xB.length∧∀ (j:Nat) (c:TV),cs[j]?=some c→Vm c=true∧∃ u,xB[j]?=some u∧Go.Pv.K w (Pk bF S1.length) c.t c.x [u]:=by
  rcases awY with⟨rfl,rfl⟩ |⟨i,rfl,hv⟩
  ·simp only[rO,Option.some.injEq] at hZ
   subst hZ
   exact⟨rfl,fun j c hj=>by simp at hj⟩
  ·simp only[rO] at hZ
   split at hZ
   case h_2=>cases hZ
   rename_i f' cu dE
   cases hb:Nat.beq f' f with
   |false=>rw[hb] at hZ;cases hZ
   |true=>
    rw[hb] at hZ
    simp only[cond_true] at hZ
    have hold:=t1.holds i
    rw[dE] at hold
    obtain⟨vs,v1,v2,v3⟩:=hold
    rw[hv] at v1
    injection v1 with _ _ v1
    have hvs:xB=vs:=by
     have:=congrArg Array.toList v1
     simpa using this
    subst hvs
    split at hZ
    case h_2=>cases hZ
    rename_i l' VC
    cases hp:l'.all Vm with
    |false=>rw[hp] at hZ;cases hZ
    |true=>
     rw[hp] at hZ
     simp only[cond_true,Option.some.injEq] at hZ
     subst hZ
     obtain⟨c1,c2⟩:=sj t1 VC v2 v3
     exact⟨by omega,fun j c hj=>⟨List.all_eq_true.1 hp c (List.mem_of_getElem? hj),c2 j c hj⟩⟩
 -- the callee's arguments
 let vg:Nat→Option Nat:=fun g=>open Classical in if ow g then some (τ g) else none
 have vh:∀ g i,vg g=some i↔ow g∧τ g=i:=fun g i=>by
  simp only[vg]
  split
  ·rename_i hx;exact⟨fun hg=>⟨hx,by injection hg⟩,fun hg=>by rw[hg.2]⟩
  ·rename_i hx;exact⟨fun hg=>(by cases hg),fun hg=>absurd hg.1 hx⟩
 have ug:∀ g,Own vg g↔ow g:=fun g=>⟨fun⟨i,hi⟩=>((vh g i).1 hi).1,fun hg=>⟨τ g,(vh g _).2 ⟨hg,rfl⟩⟩⟩
 have I6:∀ g,ow g→Pk bF S1.length g:=fun g hg=>by rw[t2];exact t3.now g hg
 obtain⟨uh,Cj⟩:∃ uh,uh=(cs.isEmpty&&ju S1 as l args):=⟨_,rfl⟩
 let B:Nat→Prop:=fun g=>uh=true∧Av σ Z g∧ ¬ow g
 have RL:aP w w (Av σ Z) (Av vg B):=⟨fun _ _ _=>rfl,fun g _ hg=>by
  rcases hg with hg |hg
  ·obtain⟨i,_,hi⟩:=t3.M7 g ((ug g).1 hg)
   exact .inl ⟨i,hi⟩
  ·exact hg.2.1⟩
 have aqU:aP w w (Av bF Z) (Av vg B):=⟨fun _ _ _=>rfl,fun g hl hg=>t3.Av.2 (RL.wr g hl hg)⟩
 have aip:uh=false→aP w w (Pk bF S1.length) (Av vg B):=fun hn=>⟨fun _ _ _=>rfl,fun g _ hg=>by
  rcases hg with hg |hg
  ·exact I6 g ((ug g).1 hg)
  ·have h1:=hg.1;rw[hn] at h1;cases h1⟩
 have r3:=fun hf:uh=true=>mJ t1 as ts l t4 HS (by rw[hf] at Cj;exact(Bool.and_eq_true _ _▸Cj.symm).2)
 have ep:In Γ B H w vg (args++cs.map .tv) (as.map a.eval++xB):=by
  refine⟨by simp[r1,aio.1],fun g i hg=>?_,fun g hg=>⟨?_,?_⟩,fun g o hg=>⟨?_,?_⟩,fun j r hj=>?_⟩
  ·obtain⟨q1,q2⟩:=(vh g i).1 hg
   have:=(t5 g q1).2
   obtain⟨k,_,hk⟩:=t3.M7 g q1
   exact⟨by simp only[List.length_append];omega,h.lt g k hk⟩
  ·cases hc:vg g with
   |none=>rfl
   |some i=>exact absurd ((vh g i).1 hc).1 hg.2.2
  ·rcases hg.2.1 with⟨i,hi⟩ |hz
   ·exact h.lt g i hi
   ·have:=(h.old g hz).2;have:=h.fr.size;omega
  ·cases hc:vg g with
   |none=>rfl
   |some i=>
    obtain⟨k,_,hk⟩:=t3.M7 g ((vh g i).1 hc).1
    obtain⟨e1,e2⟩:=hO.env g o hg
    rcases h.new g k hk with hx |hx
    ·have:=a7 e2;omega
    ·exact absurd hx e1
  ·obtain⟨e1,e2⟩:=hO.env g o hg
   rw[h.fr.block g (a7 e2) e1,e2]
  ·rcases Nat.lt_or_ge j args.length with tx |tx
   ·rw[List.getElem?_append_left tx] at hj
    rw[List.getElem?_append_left (by simp only[List.length_map];omega),List.getElem?_map]
    rcases r2 j r hj with⟨b,hb,rfl⟩ |⟨x,hx,iY⟩
    ·obtain⟨x,c,q1,q2,q3⟩:=t7 j b hb
     rw[q1]
     exact⟨_,rfl,c,q2,aG RL _ (fun _ _ _=>rfl) (fun g hg _=>(vh g j).2 ⟨hg.1,by rw[hg.2];omega⟩) (fun _ h=>h) q3⟩
    ·have fin:∀ {A0:Nat→Prop},aP w w A0 (Av vg B)→Ci w A0 H r (a.eval x) (fun _=>False)→Ci w (Av vg B) H r (a.eval x) (fun g=>vg g=some j):=fun bQ iY=>by
      cases r with
      |tv b=>
       obtain⟨c,c1,c2⟩:=iY
       exact⟨c,c1,aG bQ _ (fun _ _ _=>rfl) (fun _ hg _=>hg.elim) (fun _ h=>h) c2⟩
      |fn f' cu=>
       obtain⟨vs,c1,c2,c3⟩:=iY
       exact⟨vs,c1,c2,fun k c hk=>by obtain⟨u,u1,u2⟩:=c3 k c hk;exact⟨u,u1,bR bQ _ u2⟩⟩
     cases Nn:uh with
     |false=>
      rw[hx]
      exact⟨_,rfl,fin (aip Nn) (iY H)⟩
     |true=>
      rcases r3 Nn j r hj with⟨b,hb,rfl⟩ |⟨x',xi,aqV⟩
      ·obtain⟨x,c,q1,q2,q3⟩:=t7 j b hb
       rw[q1]
       exact⟨_,rfl,c,q2,aG RL _ (fun _ _ _=>rfl) (fun g hg _=>(vh g j).2 ⟨hg.1,by rw[hg.2];omega⟩) (fun _ h=>h) q3⟩
      ·rw[hx] at xi
       injection xi with xi
       subst xi
       rw[hx]
       exact⟨_,rfl,fin aqU (aqV H)⟩
   ·rw[List.getElem?_append_right tx,List.getElem?_map] at hj
    cases hc:cs[j - args.length]? with
    |none=>rw[hc] at hj;cases hj
    |some c=>
     rw[hc] at hj
     injection hj with hj
     subst hj
     obtain⟨u0,u,u1,u2⟩:=aio.2 _ c hc
     refine⟨u,?_,?_⟩
     ·rw[List.getElem?_append_right (by simp only[List.length_map];omega)]
      simpa[r1] using u1
     ·have Nn:uh=false:=by
       cases hf:uh with
       |false=>rfl
       |true=>
        rw[hf] at Cj
        cases cs with
        |nil=>simp at hc
        |cons _ _=>simp at Cj
      have hK:=bR (aip Nn) _ u2
      obtain⟨ct,cm,cx⟩:=c
      unfold Vm at u0
      split at u0
      ·rename_i t ht
       simp only at ht u0 hK
       subst ht
       exact⟨[u],by simp[aq,isAgg],oh u0 hK⟩
      ·cases u0
 refine((hO.sd f).1 _ _ ret w vg _ H B e ep).mono fun v w' hv=>?_
 obtain⟨rt,Cf,Hc⟩:=hv
 split at Cf
 case h_2=>cases Cf
 cases acv:(rt.res.all (fun d=>fQ d.t d.m)||(cs.isEmpty&&ju S1 as l args)) with
 |false=>rw[acv] at Cf;cases Cf
 |true=>
 rw[acv] at Cf
 simp only[cond_true] at Cf
 rw[←Cj,Bool.or_eq_true] at acv
 refine⟨_,Cf,?_,fun dY g hg=>Hc.fr.block g hg (fun hx=>t6 dY g ((ug g).1 hx))⟩
 -- behind the call
 obtain⟨dA,vs,q1,q2,q3,q4,_⟩:=Hc.res
 let n:=S1.length
 let sn:Nat→Option Nat:=fun g=>match dA g with
  |some i=>some (S1.length+i)
  |none=>open Classical in if ow g then none else bF g
 have Hd:∀ g i,sn g=some i→(∃ k,dA g=some k∧i=S1.length+k)∨(dA g=none∧ ¬ow g∧bF g=some i):=fun g i hg=>by
  simp only[sn] at hg
  split at hg
  ·rename_i k hk
   injection hg with hg
   exact .inl ⟨k,hk,hg.symm⟩
  ·rename_i hk
   split at hg
   ·cases hg
   ·exact .inr ⟨hk,by assumption,hg⟩
 have HT:∀ g k,dA g=some k→sn g=some (S1.length+k):=fun g k hk=>by simp only[sn,hk]
 have VO:∀ g i,dA g=none→¬ow g→bF g=some i→sn g=some i:=fun g i h1 h2 h3=>by simp only[sn,h1,if_neg h2,h3]
 have Ck:∀ g,g<w.heap.size→¬ow g→w'.heap[g]?=w.heap[g]?:=fun g hg hn=>Hc.fr.block g hg (fun hx=>hn ((ug g).1 hx))
 have EJ:∀ g,g<w.heap.size→∀ k,dA g=some k→ow g:=fun g hg k hk=>by
  rcases(q3 g k hk).1 with hx |hx
  ·omega
  ·exact(ug g).1 hx
 have bQ:aP w w' (Av bF Z) (Av sn Z):=⟨fun g hn hg=>Ck g hg (fun hx=>hn (by obtain⟨i,_,hi⟩:=I6 g hx;exact .inl ⟨i,hi⟩)),fun g hg hx=>by
  rcases hx with⟨i,hx⟩ |hx
  ·rcases Hd g i hx with⟨k,hk,_⟩ |⟨_,_,hk⟩
   ·obtain⟨i,_,hi⟩:=I6 g (EJ g hg k hk)
    exact .inl ⟨i,hi⟩
   ·exact .inl ⟨i,hk⟩
  ·exact .inr hx⟩
 have Ar:∀ g,ow g→∀ i,bF g=some i→S1.length≤i:=fun g hg i hi=>by
  obtain⟨j,hj,pC⟩:=I6 g hg
  rw[hi] at pC
  injection pC with pC
  omega
 have hR:aW sn w0 W0 Z H S1 a w':=by
  refine⟨t1.len,t1.defers,t1.fr.trans Hc.fr (fun g hg hl=>?_),fun g i hg=>?_,fun g i hg=>?_,fun g hg=>⟨?_,(t1.old g hg).2⟩,fun i=>?_⟩
  ·obtain⟨i,_,hi⟩:=I6 g ((ug g).1 hg)
   rcases t1.new g i hi with hx |hx
   ·omega
   ·exact hx
  ·rcases Hd g i hg with⟨k,hk,_⟩ |⟨_,_,hk⟩
   ·rcases(q3 g k hk).1 with hx |hx
    ·have:=t1.fr.size;exact .inl (by omega)
    ·obtain⟨i,_,hi⟩:=I6 g ((ug g).1 hx)
     exact t1.new g i hi
   ·exact t1.new g i hk
  ·rcases Hd g i hg with⟨k,hk,_⟩ |⟨_,_,hk⟩
   ·exact(q3 g k hk).2
   ·have:=t1.lt g i hk;have:=Hc.fr.size;omega
  ·obtain⟨z1,z2⟩:=t1.old g hg
   have uf: ¬ow g:=fun hx=>by obtain⟨i,_,hi⟩:=I6 g hx;rw[z1] at hi;cases hi
   have:dA g=none:=by
    cases hk:dA g with
    |none=>rfl
    |some k=>exact absurd (EJ g (by have:=t1.fr.size;omega) k hk) uf
   simp only[sn,this,if_neg uf,z1]
  ·by_cases Hu:i<S1.length
   ·refine(t1.holds i).kept bQ (fun g hg hl=>?_) (fun s hs=>?_)
    ·have uf: ¬ow g:=fun hx=>by have:=Ar g hx i hg;omega
     refine⟨Ck g hl uf,VO g i ?_ uf hg⟩
     cases hk:dA g with
     |none=>rfl
     |some k=>exact absurd (EJ g hl k hk) uf
    ·by_cases G1:s<S1.length
     ·exact⟨fun _ _ h=>h,rfl,_,t1.holds s,fun g hg hl=>Ck g hl (fun hx=>by have:=Ar g hx s hg;omega)⟩
     ·have hd:S1.at s=.dead:=Classical.byContradiction fun hx=>G1 (eH hx)
      exact⟨fun _ _ h=>h,rfl,fun _=>False,by rw[hd];trivial,fun _ h=>h.elim⟩
   ·have hd:S1.at i=.dead:=Classical.byContradiction fun hx=>Hu (eH hx)
    rw[hd]
    trivial
 refine⟨_,hR.VG (ow:=fun g=>∃ k,dA g=some k) (Nat.le_refl _) (fun _ _ _=>rfl) hR.fr (fun g ⟨k,hk⟩=>⟨(q3 g k hk).2,.inl ⟨S1.length+k,by omega,HT g k hk⟩⟩) fun d _ g1 g2=>?_⟩
 -- the results
 have aqW:uh=true→aP w' w' (Av dA B) (Av (gE sn o.dst fun g=>∃ k,dA g=some k) Z):=fun Nn=>⟨fun _ _ _=>rfl,fun g _ hg=>by
  rcases g2 g hg with (⟨i,hi⟩ |hz) |hx
  ·rcases Hd g i hi with⟨k,hk,_⟩ |⟨_,uf,hk⟩
   ·exact .inl ⟨k,hk⟩
   ·exact .inr ⟨Nn,t3.Av.1 (.inl ⟨i,hk⟩),uf⟩
  ·refine .inr ⟨Nn,.inr hz,fun hx=>?_⟩
   obtain⟨i,_,hi⟩:=I6 g hx
   rw[(t1.old g hz).1] at hi
   cases hi
  ·exact .inl hx⟩
 have EA:∀ (i:Nat) (b:TV),rt.res[i]?=some b→∃ u cs,vs[i]?=some u∧aq b.t u cs∧M w' (Av (gE sn o.dst fun g=>∃ k,dA g=some k) Z) H b.t b.m b.x cs (fun g=>dA g=some i) []:=fun i b hb=>by
  obtain⟨u,c,u1,u2,u3⟩:=q4 i b hb
  refine⟨u,c,u1,u2,?_⟩
  rcases acv with hs |Nn
  ·exact jD _ (List.all_eq_true.1 hs b (List.mem_of_getElem? hb)) u3
  ·exact aG (aqW Nn) _ (fun _ _ _=>rfl) (fun _ h _=>h) (fun _ h=>h) u3
 have acw:∀ l:List TV,l=rt.res→Holds w' (Av (gE sn o.dst fun g=>∃ k,dA g=some k) Z) H (bU (a.put o.dst v)) (S1.put o.dst (.ud (l.map some))) (fun g=>gE sn o.dst (fun g=>∃ k,dA g=some k) g=some d) (.ud (l.map some)) (.tuple vs.toArray):=fun l hl=>by
  subst hl
  refine⟨vs,fun g=>(dA g).getD 0,rfl,by simp[q2],fun j b hj=>?_⟩
  rw[List.getElem?_map] at hj
  cases hb:rt.res[j]? with
  |none=>rw[hb] at hj;cases hj
  |some b'=>
   rw[hb] at hj
   simp only[Option.map_some,Option.some.injEq] at hj
   subst hj
   obtain⟨u,c,u1,u2,u3⟩:=EA j b' hb
   exact⟨u,c,u1,u2,aG (aP.refl _ _) _ (fun _ _ _=>rfl) (fun g hg _=>⟨g1 g ⟨j,hg⟩,by show(dA g).getD 0=j;rw[hg];rfl⟩) (fun _ h=>h) u3⟩
 subst q1
 match EK:rt.res,q2 with
 |[b],q2=>
  match vs,q2 with
  |[u],_=>
   obtain⟨u',c,u1,u2,u3⟩:=EA 0 b (by rw[EK];rfl)
   simp only[List.getElem?_cons_zero,Option.some.injEq] at u1
   subst u1
   exact⟨c,u2,aG (aP.refl _ _) _ (fun _ _ _=>rfl) (fun g hg _=>g1 g ⟨0,hg⟩) (fun _ h=>h) u3⟩
 |[],q2=>
  match vs,q2 with
  |[],_=>exact acw [] EK.symm
 |b::b'::r,q2=>
  match vs,q2 with
  |u::u'::vr,_=>exact acw (b::b'::r) EK.symm
end Go.Pv
namespace Go.Pv
set_option linter.unusedVariables false
set_option linter.unusedSimpArgs false
variable {P:Program} {w w':World} {A A' Wr:Nat→Prop} {H H':Nat→Value} {tm rH:Nat→Value} {S S' S1:St} {σ bF dZ:Nat→Option Nat} {w0:World} {W0 Z:Nat→Prop} {a:Act} {own:Nat→Prop} {v:Value} {Θ:dq} {dst:Option Nat} {O:jt} {hh:Hint} {Γ:Gl}
theorem uy (cur:List Value) (off n:Nat) (h:off+n≤cur.length):putCells cur off ((cur.drop off).take n)=cur:=by
 have hl:((cur.drop off).take n).length=n:=by rw[List.length_take,List.length_drop];omega
 apply List.ext_getElem?
 intro k
 rw[iy _ _ _ _ (by omega),hl]
 by_cases h1:k<off
 ·rw[if_pos h1]
 ·rw[if_neg h1]
  by_cases h2:k<off+n
  ·rw[if_pos h2,List.getElem?_take,if_pos (by omega),List.getElem?_drop]
   congr 1;omega
  ·rw[if_neg h2]
theorem RM {ow:Nat→Prop} {vg dA:Nat→Option Nat} (t1:aW bF w0 W0 Z H S1 a w) (I6:∀ g,ow g→Pk bF S1.length g) (ug:∀ g,Own vg g↔ow g) (ra:Fr w (Own vg) w')
  (q3:∀ g i,dA g=some i→(w.heap.size≤g∨Own vg g)∧g<w'.heap.size):
  ∃ sn,aW sn w0 W0 Z H S1 a w'∧(∀ g k,dA g=some k→sn g=some (S1.length+k))∧aP w w' (Av bF Z) (Av sn Z)∧
   (∀ g i,i<S1.length→sn g=some i→bF g=some i)∧(∀ g i,i<S1.length→bF g=some i→w'.heap[g]?=w.heap[g]?)∧(∀ g i,sn g=some i→(∃ k,dA g=some k)∨(¬ow g∧bF g=some i)):=by
 let sn:Nat→Option Nat:=fun g=>match dA g with
  |some i=>some (S1.length+i)
  |none=>open Classical in if ow g then none else bF g
 have Hd:∀ g i,sn g=some i→(∃ k,dA g=some k∧i=S1.length+k)∨(dA g=none∧ ¬ow g∧bF g=some i):=fun g i hg=>by
  simp only[sn] at hg
  split at hg
  ·rename_i k hk
   injection hg with hg
   exact .inl ⟨k,hk,hg.symm⟩
  ·rename_i hk
   split at hg
   ·cases hg
   ·exact .inr ⟨hk,by assumption,hg⟩
 have HT:∀ g k,dA g=some k→sn g=some (S1.length+k):=fun g k hk=>by simp only[sn,hk]
 have VO:∀ g i,dA g=none→¬ow g→bF g=some i→sn g=some i:=fun g i h1 h2 h3=>by simp only[sn,h1,if_neg h2,h3]
 have Ck:∀ g,g<w.heap.size→¬ow g→w'.heap[g]?=w.heap[g]?:=fun g hg hn=>ra.block g hg (fun hx=>hn ((ug g).1 hx))
 have EJ:∀ g,g<w.heap.size→∀ k,dA g=some k→ow g:=fun g hg k hk=>by
  rcases(q3 g k hk).1 with hx |hx
  ·omega
  ·exact(ug g).1 hx
 have bQ:aP w w' (Av bF Z) (Av sn Z):=⟨fun g hn hg=>Ck g hg (fun hx=>hn (by obtain⟨i,_,hi⟩:=I6 g hx;exact .inl ⟨i,hi⟩)),fun g hg hx=>by
  rcases hx with⟨i,hx⟩ |hx
  ·rcases Hd g i hx with⟨k,hk,_⟩ |⟨_,_,hk⟩
   ·obtain⟨i,_,hi⟩:=I6 g (EJ g hg k hk)
    exact .inl ⟨i,hi⟩
   ·exact .inl ⟨i,hk⟩
  ·exact .inr hx⟩
 have Ar:∀ g,ow g→∀ i,bF g=some i→S1.length≤i:=fun g hg i hi=>by
  obtain⟨j,hj,pC⟩:=I6 g hg
  rw[hi] at pC
  injection pC with pC
  omega
 refine⟨sn,?_,HT,bQ,fun g i hi hg=>?_,fun g i hi hg=>Ck g (t1.lt g i hg) (fun hx=>by have:=Ar g hx i hg;omega),fun g i hg=>by
  rcases Hd g i hg with⟨k,hk,_⟩ |⟨_,h1,h2⟩
  ·exact .inl ⟨k,hk⟩
  ·exact .inr ⟨h1,h2⟩⟩
 rotate_left
 ·rcases Hd g i hg with⟨k,_,hk⟩ |⟨_,_,hk⟩
  ·omega
  ·exact hk
 refine⟨t1.len,t1.defers,t1.fr.trans ra (fun g hg hl=>?_),fun g i hg=>?_,fun g i hg=>?_,fun g hg=>⟨?_,(t1.old g hg).2⟩,fun i=>?_⟩
 ·obtain⟨i,_,hi⟩:=I6 g ((ug g).1 hg)
  rcases t1.new g i hi with hx |hx
  ·omega
  ·exact hx
 ·rcases Hd g i hg with⟨k,hk,_⟩ |⟨_,_,hk⟩
  ·rcases(q3 g k hk).1 with hx |hx
   ·have:=t1.fr.size;exact .inl (by omega)
   ·obtain⟨i,_,hi⟩:=I6 g ((ug g).1 hx)
    exact t1.new g i hi
  ·exact t1.new g i hk
 ·rcases Hd g i hg with⟨k,hk,_⟩ |⟨_,_,hk⟩
  ·exact(q3 g k hk).2
  ·have:=t1.lt g i hk;have:=ra.size;omega
 ·obtain⟨z1,z2⟩:=t1.old g hg
  have uf: ¬ow g:=fun hx=>by obtain⟨i,_,hi⟩:=I6 g hx;rw[z1] at hi;cases hi
  have:dA g=none:=by
   cases hk:dA g with
   |none=>rfl
   |some k=>exact absurd (EJ g (by have:=t1.fr.size;omega) k hk) uf
  simp only[sn,this,if_neg uf,z1]
 ·by_cases Hu:i<S1.length
  ·refine(t1.holds i).kept bQ (fun g hg hl=>?_) (fun s hs=>?_)
   ·have uf: ¬ow g:=fun hx=>by have:=Ar g hx i hg;omega
    refine⟨Ck g hl uf,VO g i ?_ uf hg⟩
    cases hk:dA g with
    |none=>rfl
    |some k=>exact absurd (EJ g hl k hk) uf
   ·by_cases G1:s<S1.length
    ·exact⟨fun _ _ h=>h,rfl,_,t1.holds s,fun g hg hl=>Ck g hl (fun hx=>by have:=Ar g hx s hg;omega)⟩
    ·have hd:S1.at s=.dead:=Classical.byContradiction fun hx=>G1 (eH hx)
     exact⟨fun _ _ h=>h,rfl,fun _=>False,by rw[hd];trivial,fun _ h=>h.elim⟩
  ·have hd:S1.at i=.dead:=Classical.byContradiction fun hx=>Hu (eH hx)
   rw[hd]
   trivial
theorem RN (h:aW σ w0 W0 Z H S a w) {T:TypeId} {x:Operand} {av:AV} {b:TV} {s:Nat} {p:Path} {cs:List Value} (ho:S.dX Θ T x=some av) (hl:ki x av=some (s,p)) (e:S.dN x av=some (b,S1)) (hk:b.m.bG=false) (hm:aq b.t (a.eval x) cs):
  (p=[]∧s<S.length∧aq b.t (bU a s) cs)∨∃ r ex cN,p≠[]∧S1.at s=.v r (ex++[p])∧aq r.t (bU a s) cN∧aN w p r.t cN=some cs∧valid p r.t r.x∧aX p r.t r.m r.x=some b∧∀ q∈ex,gy q p=false:=by
 have hh:=bo h ho
 cases av with
 |v a0 ex=>
  cases x with
  |tmp i=>
   simp only[ki,Option.some.injEq,Prod.mk.injEq] at hl
   obtain⟨rfl,rfl⟩:=hl
   exact .inl ⟨rfl,eH (by simp only[St.dX,Option.some.injEq] at ho;rw[ho];exact fun e=>by cases e),hm⟩
  |const c=>simp[ki] at hl
  |func f=>simp[ki] at hl
  |global g=>simp[ki] at hl
 |al t s' p'=>
  simp only[ki,Option.some.injEq,Prod.mk.injEq] at hl
  obtain⟨rfl,rfl⟩:=hl
  obtain⟨r,cN,cs1,hr,hc,hm1⟩:=hh
  simp only[St.dN] at e
  split at e
  case h_2=>cases e
  rename_i b' hb
  cases eY:b'.m.bG with
  |true=>
   rw[eY] at e
   simp only[cond_true,Option.some.injEq,Prod.mk.injEq] at e
   obtain⟨rfl,rfl⟩:=e
   rw[hk] at eY;cases eY
  |false=>
   rw[eY] at e
   simp only[cond_false] at e
   have Y5:=db h hr hc hb
   obtain⟨zX,_⟩:=Y5
   cases hp:p' with
   |nil=>
    subst hp
    simp only[Option.some.injEq,Prod.mk.injEq] at e
    obtain⟨rfl,rfl⟩:=e
    simp only[aN,Option.some.injEq] at hc
    subst hc
    obtain⟨b2,g1,g2⟩:=hr.get
    simp only[aX,Option.some.injEq] at g1
    subst g1
    have Cf:r.t=b'.t:=by rw[zX];exact g2
    refine .inl ⟨rfl,eH (by obtain⟨ex0,VF,_⟩:=hr.at_;rw[VF];exact fun e=>by cases e),?_⟩
    rw[zX] at hm ⊢
    obtain rfl:=eT hm hm1
    have:=hr.mat
    rw[Cf,zX] at this
    exact this
   |cons G9 pp=>
    rw[hp] at e
    obtain⟨ex,b2,cJ,ow0,j1,j2,j3,j4,hM,j5,j6,j7⟩:=fX h hr
    rw[j1] at e
    simp only[Option.some.injEq,Prod.mk.injEq] at e
    rw[←hp] at e
    obtain⟨rfl,rfl⟩:=e
    obtain⟨r3,ex3,q1,q2,q3⟩:=pR hb
    rw[j1] at q1
    injection q1 with q1 Ep
    subst q1 Ep
    rw[j3] at q3
    injection q3 with q3
    subst q3
    rw[zX] at hm
    obtain rfl:=eT hm hm1
    have hlen:((S.weaken s').cover s' p').length=S.length:=by simp[St.weaken,St.cover]
    have G1:s'<S.length:=eH (by rw[j1];exact fun e=>by cases e)
    have Ap:St.at (((S.weaken s').cover s' p').set s' (.v r (ex++[p']))) s'=.v r (ex++[p']):=by rw[cQ,if_pos ⟨rfl,by rw[hlen];exact G1⟩]
    exact .inr ⟨r,ex,cN,by simp,by rw[←hp];exact Ap,hr.mat,by rw[←hp];exact hc,by rw[←hp];exact hr.val,by rw[←hp];exact j3,by rw[←hp];exact q2⟩
 |_=>simp[ki] at hl
theorem Cl {b:TV} {s:Nat} {p:Path} {r:TV} {ex:List Path} {cN cs:List Value} {pS:Nat→Prop} {b0:TV} {m:Md} {z:r.t.I} (h:aW σ w0 W0 Z H S a w) (oJ:∀ g,pS g→∃ i,S.length≤i∧σ g=some i)
  (dE:S.at s=.v r (ex++[p])) (RO:aq r.t (bU a s) cN) (hc:aN w p r.t cN=some cs) (jw:valid p r.t r.x) (e6:aX p r.t r.m r.x=some b0) (gg:∀ q∈ex,gy q p=false)
  (n9:gw b p r.t r.m r.x=some (m,z)) (hM:M w (Av σ Z) H b.t b.m b.x cs pS []):∃ dZ,aW dZ w0 W0 Z H (S.put (some s) (.v ⟨r.t,m,z⟩ ex)) a w∧∀ g i,S.length≤i→¬pS g→σ g=some i→dZ g=some i:=by
 have hh:=h.holds s
 rw[dE] at hh
 obtain⟨auR,Y1,ML⟩:=hh
 obtain rfl:=eT RO Y1
 have xw:open_ p (ex++[p]):=by
  intro q hq s' r' e
  rcases List.mem_append.1 hq with hq |hq
  ·exact ur gg q hq s' r' e
  ·rw[List.mem_singleton.1 hq] at e
   have:=congrArg List.length e
   simp at this
 obtain⟨cJ,cB,c1,c2,c3,kY⟩:=zW p ML xw jw e6
 rw[hc] at c1
 injection c1 with c1
 subst c1
 have fH:b.t=b0.t:=tD p n9 e6
 obtain⟨pJ,kY⟩:=kY b (m,z) fH n9
 have hlen:cs.length=b.t.size:=(eP _ hM).1
 let dZ:Nat→Option Nat:=fun g'=>open Classical in if pS g' then some s else σ g'
 have M':∀ g' i,dZ g'=some i→(pS g'∧i=s)∨(¬pS g'∧σ g'=some i):=fun g' i a8=>by
  simp only[dZ] at a8
  split at a8
  ·injection a8 with a8;exact .inl ⟨by assumption,a8.symm⟩
  ·exact .inr ⟨by assumption,a8⟩
 have HO:∀ g' i,¬pS g'→σ g'=some i→dZ g'=some i:=fun g' i hn a8=>by simp only[dZ,if_neg hn,a8]
 have G1:s<S.length:=eH (by rw[dE];exact fun e=>by cases e)
 have aij:∀ g',Av dZ Z g'→Av σ Z g':=fun g' a8=>by
  rcases a8 with⟨i,a8⟩ |a8
  ·rcases M' g' i a8 with⟨hx,_⟩ |⟨_,hx⟩
   ·obtain⟨j,_,hj⟩:=oJ g' hx
    exact .inl ⟨j,hj⟩
   ·exact .inl ⟨i,hx⟩
  ·exact .inr a8
 have uf:∀ g i,i<S.length→σ g=some i→¬pS g:=fun g i hi hg hx=>by
  obtain⟨j,hj,pC⟩:=oJ g hx
  rw[hg] at pC
  injection pC with pC
  omega
 have bQ:aP w w (Av σ Z) (Av dZ Z):=⟨fun _ _ _=>rfl,fun g _ hg=>aij g hg⟩
 have hl0:cN.length=r.t.size:=(eP _ ML).1
 have EA:=kY w (Av dZ Z) cs pS ex bQ (by rw[hlen,fH]) (fun g eO rC _=>by
   unfold lx
   split
   ·rename_i q hq
    split
    ·rename_i hgq
     obtain⟨_,_,cur,T,hw,hb,hZ⟩:=pJ q.1 q.2 hq
     subst hgq
     refine⟨cur,T,hw,?_⟩
     rw[hZ,uy _ _ _ (by simpa using hb)]
     simpa using hw
    ·rfl
   ·rfl) (aG bQ _ (fun _ _ _=>rfl) (fun g hg _=>hg) (fun _ hx=>by cases hx) hM) (fun g eO _ rC=>absurd eO (uf g s G1 rC)) (fun q hq1 Hz=>by
   rcases List.mem_append.1 Hz with Hz |Hz
   ·exact Hz
   ·exact absurd (by rw[List.mem_singleton.1 Hz];simp) (hq1 []))
 have awZ:pI p r.t cN cs=cN:=by
  cases hp:aH p with
  |false=>exact ke p hp
  |true=>
   have h1:=eQ (w:=w) p hp e6 hl0
   rw[hc] at h1
   injection h1 with h1
   rw[kX p hp e6 hl0 (by rw[hlen,fH]),h1]
   exact uy _ _ _ (by rw[hl0];exact eF p hp e6)
 rw[awZ] at EA
 refine⟨dZ,?_,fun g i _ hn hg=>HO g i hn hg⟩
 have:=h.put (dst:=some s) (av:=.v ⟨r.t,m,z⟩ ex) (v:=bU a s) bQ h.fr (fun g i hg=>?_) (fun g hg=>?_) (fun i g hi hd hg=>⟨rfl,HO g i (uf g i hi hg) hg⟩) (fun d hd EG _=>?_)
 ·rw[mH] at this
  exact this
 ·rcases M' g i hg with⟨hx,_⟩ |⟨_,hx⟩
  ·obtain⟨j,_,hj⟩:=oJ g hx
   exact⟨h.new g j hj,h.lt g j hj⟩
  ·exact⟨h.new g i hx,h.lt g i hx⟩
 ·have h0:=(h.old g hg).1
  simp only[dZ]
  split
  ·rename_i hx
   obtain⟨j,_,hj⟩:=oJ g hx
   rw[h0] at hj;cases hj
  ·exact h0
 ·injection hd with hd
  subst hd
  refine⟨cN,RO,aG (aP.refl _ _) _ (fun _ _ _=>rfl) (fun g hg _=>?_) (fun _ h=>h) EA⟩
  rcases hg with⟨k1,_⟩ |k1
  ·exact HO g s (uf g s G1 k1) k1
  ·simp only[dZ,if_pos k1]
theorem No {b:TV} {s:Nat} {cs:List Value} {pS:Nat→Prop} (h:aW σ w0 W0 Z H S a w) (oJ:∀ g,pS g→∃ i,S.length≤i∧σ g=some i)
  (hs:s<S.length) (RO:aq b.t (bU a s) cs) (hM:M w (Av σ Z) H b.t b.m b.x cs pS []):∃ dZ,aW dZ w0 W0 Z H (S.put (some s) (.v b [])) a w∧∀ g i,S.length≤i→¬pS g→σ g=some i→dZ g=some i:=by
 refine⟨gE σ (some s) pS,?_,fun g i hi hn hg=>by
  unfold gE
  rw[if_neg hn]
  exact lS (fun e=>by injection e with e;omega) hg⟩
 have:=h.M8 (dst:=some s) (v:=bU a s) (ow:=pS) (A':=Av σ Z) (fun _ _=>rfl) h.fr (fun g hg=>by
  obtain⟨i,hi,nk⟩:=oJ g hg
  exact⟨h.lt g i nk,.inl ⟨i,hi,nk⟩⟩) (fun g _ hg=>by
  rcases hg with hg |hg
  ·exact hg
  ·obtain⟨i,hi,nk⟩:=oJ g hg
   exact .inl ⟨i,nk⟩) RO hM
 rw[mH] at this
 exact this
theorem aiq (hT:cP P hh.tab=true) (hO:rh Γ P O w0 W0) (h:aW σ w0 W0 Z H S a w) {o:Oper} {f:FuncId} {j:Nat} {as:List Operand} {ts:List TypeId} {K:St→Option aa} {ret:aa}
  (e:rQ hh O o f j as ts S K=some ret):RK P f (as.map a.eval) w fun v w'=>∃ S',K S'=some ret∧Rel w0 W0 Z H S' (a.put o.dst v) w':=by
 unfold rQ at e
 split at e
 case h_2=>cases e
 rename_i x T hx hT'
 split at e
 case h_2=>cases e
 rename_i av dL
 split at e
 case h_2=>cases e
 rename_i s p b S1 hlp htk
 cases VP:(!b.m.bG&&fb b.t b.m) with
 |false=>rw[VP] at e;cases e
 |true=>
 rw[VP] at e
 simp only[cond_true] at e
 simp only[Bool.and_eq_true,Bool.not_eq_true'] at VP
 obtain⟨hk,hlb⟩:=VP
 split at e
 case h_2=>cases e
 rename_i args HS
 obtain⟨uh,Cj⟩:∃ uh,uh=ju S1 as ((List.replicate as.length none).set j (some ⟨b.t,jv b.t b.m 0,b.x⟩)) args:=⟨_,rfl⟩
 cases hls:(rP b.t b.m||ju S1 as ((List.replicate as.length none).set j (some ⟨b.t,jv b.t b.m 0,b.x⟩)) args) with
 |false=>rw[hls] at e;cases e
 |true=>
 rw[hls] at e
 simp only[cond_true] at e
 rw[←Cj,Bool.or_eq_true] at hls
 obtain⟨bF,cs,ow,t1,hm,hM,t3,t2⟩:=eV h dL htk
 have aqX:=RN h dL hlp htk hk hm
 have tx:j<as.length:=(List.getElem?_eq_some_iff.1 hx).1
 obtain⟨r1,r2⟩:=kx t1 as ts _ (by simp) HS
 let H':Nat→Value:=fun n=>cs.getD n undef
 have hH':∀ (j:Nat) (u:Value),cs[j]?=some u→H' (0+j)=u:=fun j u hj=>by
  simp only[H',Nat.zero_add,List.getD_eq_getElem?_getD,hj,Option.getD_some]
 have hMt:=acu (H':=H') (n:=0) b.t hlb hM hH'
 let vg:Nat→Option Nat:=fun g=>open Classical in if ow g then some j else none
 have vh:∀ g i,vg g=some i↔ow g∧j=i:=fun g i=>by
  simp only[vg]
  split
  ·rename_i hx;exact⟨fun hg=>⟨hx,by injection hg⟩,fun hg=>by rw[hg.2]⟩
  ·rename_i hx;exact⟨fun hg=>(by cases hg),fun hg=>absurd hg.1 hx⟩
 have ug:∀ g,Own vg g↔ow g:=fun g=>⟨fun⟨i,hi⟩=>((vh g i).1 hi).1,fun hg=>⟨j,(vh g _).2 ⟨hg,rfl⟩⟩⟩
 have I6:∀ g,ow g→Pk bF S1.length g:=fun g hg=>by rw[t2];exact t3.now g hg
 let B:Nat→Prop:=fun g=>uh=true∧Av σ Z g∧ ¬ow g
 have RL:aP w w (Av σ Z) (Av vg B):=⟨fun _ _ _=>rfl,fun g _ hg=>by
  rcases hg with hg |hg
  ·obtain⟨i,_,hi⟩:=t3.M7 g ((ug g).1 hg)
   exact .inl ⟨i,hi⟩
  ·exact hg.2.1⟩
 have aqU:aP w w (Av bF Z) (Av vg B):=⟨fun _ _ _=>rfl,fun g hl hg=>t3.Av.2 (RL.wr g hl hg)⟩
 have aip:uh=false→aP w w (Pk bF S1.length) (Av vg B):=fun hn=>⟨fun _ _ _=>rfl,fun g _ hg=>by
  rcases hg with hg |hg
  ·exact I6 g ((ug g).1 hg)
  ·have h1:=hg.1;rw[hn] at h1;cases h1⟩
 have r3:=fun hf:uh=true=>mJ t1 as ts _ (by simp) HS (Cj.symm.trans hf)
 have ep:In Γ B H' w vg args (as.map a.eval):=by
  refine⟨by simp[r1],fun g i hg=>?_,fun g hg=>⟨?_,?_⟩,fun g o hg=>⟨?_,?_⟩,fun k r eY=>?_⟩
  ·obtain⟨q1,q2⟩:=(vh g i).1 hg
   obtain⟨k,_,hk⟩:=t3.M7 g q1
   exact⟨by omega,h.lt g k hk⟩
  ·cases hc:vg g with
   |none=>rfl
   |some i=>exact absurd ((vh g i).1 hc).1 hg.2.2
  ·rcases hg.2.1 with⟨i,hi⟩ |hz
   ·exact h.lt g i hi
   ·have:=(h.old g hz).2;have:=h.fr.size;omega
  ·cases hc:vg g with
   |none=>rfl
   |some i=>
    obtain⟨k,_,hk⟩:=t3.M7 g ((vh g i).1 hc).1
    obtain⟨e1,e2⟩:=hO.env g o hg
    rcases h.new g k hk with hx |hx
    ·have:=a7 e2;omega
    ·exact absurd hx e1
  ·obtain⟨e1,e2⟩:=hO.env g o hg
   rw[h.fr.block g (a7 e2) e1,e2]
  ·rw[List.getElem?_map]
   rcases r2 k r eY with⟨b',I5,rfl⟩ |⟨x',xi,iY⟩
   ·rw[List.getElem?_set] at I5
    split at I5
    ·rename_i C'
     subst C'
     simp only[List.length_replicate,if_pos tx,Option.some.injEq] at I5
     subst I5
     rw[hx]
     exact⟨_,rfl,cs,hm,aG RL _ (fun _ _ _=>rfl) (fun g hg _=>(vh g j).2 ⟨hg,rfl⟩) (fun _ h=>h) hMt⟩
    ·rw[List.getElem?_replicate] at I5
     split at I5<;>simp at I5
   ·have fin:∀ {A0:Nat→Prop},aP w w A0 (Av vg B)→Ci w A0 H' r (a.eval x') (fun _=>False)→Ci w (Av vg B) H' r (a.eval x') (fun g=>vg g=some k):=fun bQ iY=>by
     cases r with
     |tv b=>
      obtain⟨c,c1,c2⟩:=iY
      exact⟨c,c1,aG bQ _ (fun _ _ _=>rfl) (fun _ hg _=>hg.elim) (fun _ h=>h) c2⟩
     |fn f' cu=>
      obtain⟨vs,c1,c2,c3⟩:=iY
      exact⟨vs,c1,c2,fun k c hk=>by obtain⟨u,u1,u2⟩:=c3 k c hk;exact⟨u,u1,bR bQ _ u2⟩⟩
    cases Nn:uh with
    |false=>
     rw[xi]
     exact⟨_,rfl,fin (aip Nn) (iY H')⟩
    |true=>
     rcases r3 Nn k r eY with⟨b',I5,rfl⟩ |⟨x2,nx,aqV⟩
     ·rw[List.getElem?_set] at I5
      split at I5
      ·rename_i C'
       subst C'
       simp only[List.length_replicate,if_pos tx,Option.some.injEq] at I5
       subst I5
       rw[hx]
       exact⟨_,rfl,cs,hm,aG RL _ (fun _ _ _=>rfl) (fun g hg _=>(vh g j).2 ⟨hg,rfl⟩) (fun _ h=>h) hMt⟩
      ·rw[List.getElem?_replicate] at I5
       split at I5<;>simp at I5
     ·rw[xi] at nx
      injection nx with nx
      subst nx
      rw[xi]
      exact⟨_,rfl,fin aqU (aqV H')⟩
 refine((hO.sd f).1 _ _ ret w vg _ H' B e ep).mono fun v w' hv=>?_
 obtain⟨rt,Cf,Hc⟩:=hv
 split at Cf
 case h_2=>cases Cf
 rename_i c hrefs
 cases dY:rt.res.all (fun d=>fQ d.t d.m&&q9 d.m) with
 |false=>rw[dY] at Cf;cases Cf
 |true=>
 rw[dY] at Cf
 simp only[cond_true] at Cf
 split at Cf
 case isFalse=>cases Cf
 rename_i hct
 split at Cf
 case isFalse=>cases Cf
 rename_i hcm
 split at Cf
 case h_2=>cases Cf
 rename_i S2 Q5
 obtain⟨dA,vs,q1,q2,q3,q4,q5⟩:=Hc.res
 obtain⟨cJ,hMc⟩:=q5 c hrefs
 obtain⟨sn,hR,HT,bQ,VO,jr,au1⟩:=RM t1 I6 ug Hc.fr q3
 -- what comes back
 obtain⟨ct,cm,cx⟩:=c
 simp only at hct hcm hMc Q5
 subst hct
 subst hcm
 have aqR:aP w w' (Av σ Z) (Av sn Z):=⟨fun g hn hl=>bQ.same g (fun hx=>hn (t3.Av.1 hx)) hl,fun g hl hg=>t3.Av.1 (bQ.wr g hl hg)⟩
 have aqW:rP b.t b.m=true∨aP w' w' (Av dA B) (Av sn Z):=hls.imp id fun Nn=>⟨fun _ _ _=>rfl,fun g _ hg=>by
  rcases hg with⟨i,hi⟩ |hz
  ·rcases au1 g i hi with⟨k,hk⟩ |⟨uf,hk⟩
   ·exact .inl ⟨k,hk⟩
   ·exact .inr ⟨Nn,t3.Av.1 (.inl ⟨i,hk⟩),uf⟩
  ·refine .inr ⟨Nn,.inr hz,fun hx=>?_⟩
   obtain⟨i,_,hi⟩:=I6 g hx
   rw[(t1.old g hz).1] at hi
   cases hi⟩
 have hMb:=xA (B:=Av dA B) (A':=Av sn Z) aqR b.t hlb aqW hM hH' hMc
 have oJ:∀ g,dA g=some rt.res.length→∃ i,S1.length≤i∧sn g=some i:=fun g hg=>⟨_,by omega,HT g _ hg⟩
 have hR2:∃ dZ,aW dZ w0 W0 Z H S2 a w'∧∀ g i,S1.length≤i→¬dA g=some rt.res.length→sn g=some i→dZ g=some i:=by
  rcases aqX with⟨rfl,ab2,hmt⟩ |⟨r,ex,cN,hp,dE,hmt,gg,jw,e6,acx⟩
  ·simp only[St.pL,Option.some.injEq] at Q5
   subst Q5
   exact No (b:=⟨b.t,b.m,_⟩) hR oJ (by rw[t2];exact ab2) hmt hMb
  ·cases p with
   |nil=>exact absurd rfl hp
   |cons G9 pp=>
   simp only[St.pL,dE] at Q5
   split at Q5
   case h_2=>cases Q5
   rename_i m z n9
   simp only[Option.some.injEq,List.dropLast_concat] at Q5
   subst Q5
   have hh0:=t1.holds s
   rw[dE] at hh0
   obtain⟨auR,Y1,ML⟩:=hh0
   obtain rfl:=eT hmt Y1
   have xw:open_ (G9::pp) (ex++[G9::pp]):=by
    intro q hq s' r' e
    rcases List.mem_append.1 hq with hq |hq
    ·exact ur acx q hq s' r' e
    ·rw[List.mem_singleton.1 hq] at e
     have:=congrArg List.length e
     simp at this
   have G1:s<S1.length:=eH (by rw[dE];exact fun e=>by cases e)
   have aim:=(eS bQ (G9::pp) none ML (fun g hg _=>jr g s G1 hg) xw jw).1
   exact Cl (b:=⟨b.t,b.m,_⟩) hR oJ dE hmt (aim.trans gg) jw e6 acx n9 hMb
 refine⟨_,Cf,?_⟩
 obtain⟨σ3,hR3,hR4⟩:=hR2
 have axJ:S2.length=S1.length:=by have:=hR3.len;have:=t1.len;omega
 obtain⟨n,hn⟩:∃ n,n=rt.res.length:=⟨_,rfl⟩
 have aw0:∀ g k,k<n→dA g=some k→σ3 g=some (S1.length+k):=fun g k hk hg=>hR4 g _ (by omega) (fun e=>by rw[hg] at e;injection e with e;omega) (HT g k hg)
 refine⟨_,hR3.VG (ow:=fun g=>∃ k,k<n∧dA g=some k) (Nat.le_refl _) (fun _ _ _=>rfl) hR3.fr (fun g ⟨k,Q4,hk⟩=>⟨(q3 g k hk).2,.inl ⟨S1.length+k,by omega,aw0 g k Q4 hk⟩⟩) fun d _ g1 g2=>?_⟩
 have EA:∀ (i:Nat) (b:TV),rt.res[i]?=some b→∃ u cs,vs[i]?=some u∧aq b.t u cs∧M w' (Av (gE σ3 o.dst fun g=>∃ k,k<n∧dA g=some k) Z) H b.t b.m b.x cs (fun g=>i<n∧dA g=some i) []:=fun i b hb=>by
  obtain⟨u,c,u1,u2,u3⟩:=q4 i b hb
  have Hu:i<n:=by rw[hn];exact(List.getElem?_eq_some_iff.1 hb).1
  have hsb:=List.all_eq_true.1 dY b (List.mem_of_getElem? hb)
  simp only[Bool.and_eq_true] at hsb
  exact⟨u,c,u1,u2,aG (aP.refl _ _) _ (fun _ _ _=>rfl) (fun g hg _=>⟨Hu,hg⟩) (fun _ h=>h) (mK _ hsb.2 (jD _ hsb.1 u3))⟩
 have acw:∀ l:List TV,l=rt.res→Holds w' (Av (gE σ3 o.dst fun g=>∃ k,k<n∧dA g=some k) Z) H (bU (a.put o.dst v)) (S2.put o.dst (.ud (l.map some))) (fun g=>gE σ3 o.dst (fun g=>∃ k,k<n∧dA g=some k) g=some d) (.ud (l.map some)) (.tuple vs.toArray):=fun l hl=>by
  subst hl
  refine⟨vs,fun g=>(dA g).getD 0,rfl,by simp[q2],fun j b hj=>?_⟩
  rw[List.getElem?_map] at hj
  cases hb:rt.res[j]? with
  |none=>rw[hb] at hj;cases hj
  |some b'=>
   rw[hb] at hj
   simp only[Option.map_some,Option.some.injEq] at hj
   subst hj
   obtain⟨u,c,u1,u2,u3⟩:=EA j b' hb
   exact⟨u,c,u1,u2,aG (aP.refl _ _) _ (fun _ _ _=>rfl) (fun g hg _=>⟨g1 g ⟨j,hg⟩,by show(dA g).getD 0=j;rw[hg.2];rfl⟩) (fun _ h=>h) u3⟩
 subst q1
 match EK:rt.res,q2 with
 |[b],q2=>
  match vs,q2 with
  |[u],_=>
   obtain⟨u',c,u1,u2,u3⟩:=EA 0 b (by rw[EK];rfl)
   simp only[List.getElem?_cons_zero,Option.some.injEq] at u1
   subst u1
   exact⟨c,u2,aG (aP.refl _ _) _ (fun _ _ _=>rfl) (fun g hg _=>g1 g ⟨0,hg⟩) (fun _ h=>h) u3⟩
 |[],q2=>
  match vs,q2 with
  |[],_=>exact acw [] EK.symm
 |b::b'::r,q2=>
  match vs,q2 with
  |u::u'::vr,_=>exact acw (b::b'::r) EK.symm
end Go.Pv
namespace Go.Pv
set_option linter.unusedVariables false
set_option linter.unusedSimpArgs false
variable {P:Program} {w w':World} {A A' Wr:Nat→Prop} {H:Nat→Value} {tm rH:Nat→Value} {S S' S1:St} {σ bF dZ:Nat→Option Nat} {w0:World} {W0 Z:Nat→Prop} {a:Act} {own:Nat→Prop} {v:Value} {Θ:dq} {dst:Option Nat}
theorem aW.drop (h:aW σ w0 W0 Z H S a w) (ow:Nat→Prop) (rG:∀ g,ow g→∀ i,σ g=some i→S.length≤i):
  ∃ dZ,aW dZ w0 W0 Z H S a w∧(∀ g,Av dZ Z g→Av σ Z g∧ ¬ow g∨Z g):=by
 let dZ:Nat→Option Nat:=fun g=>open Classical in if ow g then none else σ g
 have h2:∀ g i,dZ g=some i→¬ow g∧σ g=some i:=fun g i hg=>by
  simp only[dZ] at hg
  split at hg
  ·cases hg
  ·exact⟨by assumption,hg⟩
 have h3:∀ g i,¬ow g→σ g=some i→dZ g=some i:=fun g i hn hg=>by simp only[dZ,if_neg hn,hg]
 have bQ:aP w w (Av σ Z) (Av dZ Z):=⟨fun _ _ _=>rfl,fun g _ hg=>by
  rcases hg with⟨i,hi⟩ |hz
  ·exact .inl ⟨i,(h2 g i hi).2⟩
  ·exact .inr hz⟩
 refine⟨dZ,⟨h.len,h.defers,h.fr,fun g i hg=>h.new g i (h2 g i hg).2,fun g i hg=>h.lt g i (h2 g i hg).2,fun g hg=>⟨?_,(h.old g hg).2⟩,fun i=>?_⟩,fun g hg=>?_⟩
 ·simp only[dZ]
  split
  ·rfl
  ·exact(h.old g hg).1
 ·by_cases Hu:i<S.length
  ·refine(h.holds i).kept bQ (fun g hg _=>⟨rfl,h3 g i (fun hx=>?_) hg⟩) (fun s hs=>⟨fun _ _ h=>h,rfl,_,h.holds s,fun _ _ _=>rfl⟩)
   have:=rG g hx i hg
   omega
  ·have hd:S.at i=.dead:=Classical.byContradiction fun hx=>Hu (eH hx)
   rw[hd];trivial
 ·rcases hg with⟨i,hi⟩ |hz
  ·exact .inl ⟨.inl ⟨i,(h2 g i hi).2⟩,(h2 g i hi).1⟩
  ·exact .inr hz
theorem nB:∀ (p:Path) {t:Ty} {m:Md} {x:t.I} {b:TV},MM p=true→aX p t m x=some b→valid p t x
 |[],_,_,_,_,_,_=>trivial
 | .idx _::_,_,_,_,_,h,_=>by simp[MM] at h
 | .deref::p,t,m,x,b,h,e=>by
  cases t<;>simp only[aX] at e<;>first |cases e |exact nB p h e
 | .fst::p,t,m,x,b,h,e=>by
  cases t<;>simp only[aX] at e<;>first |cases e |exact nB p h e
 | .snd::p,t,m,x,b,h,e=>by
  cases t<;>simp only[aX] at e<;>first |cases e |exact nB p h e
theorem aW.freeze (h:aW σ w0 W0 Z H S a w) {d:Nat} {r:TV} (dE:S.at d=.v r []):Rel w0 W0 Z H (S.put (some d) (.v (Ra r) [])) a w:=by
 have hh:=h.holds d
 rw[dE] at hh
 obtain⟨cs,hm,hM⟩:=hh
 have h0:∀ g,σ g=some d→¬Av (release σ (some d)) Z g:=fun g hg hx=>by
  rcases hx with⟨i,hi⟩ |hz
  ·obtain⟨h1,h2⟩:=fG hi
   rw[hg] at h1
   exact h2 h1
  ·rw[(h.old g hz).1] at hg;cases hg
 have bQ:aP w w (Av σ Z) (Av (release σ (some d)) Z):=⟨fun _ _ _=>rfl,fun g _ hg=>uY hg⟩
 refine⟨release σ (some d),?_⟩
 have:=h.put (dst:=some d) (av:=.v (Ra r) []) (v:=bU a d) bQ h.fr (fun g i hg=>⟨h.new g i (fG hg).1,h.lt g i (fG hg).1⟩) (fun g hg=>by
  unfold release
  split
  ·rfl
  ·exact(h.old g hg).1) (fun i g _ hd hg=>⟨rfl,lS hd hg⟩) (fun d' Vx _ _=>by
  injection Vx with Vx
  subst Vx
  refine⟨cs,hm,oh (t:=r.t) rfl (M_K (fun g _ hx=>uY hx) r.t rfl h0 hM)⟩)
 rw[mH] at this
 exact this
theorem Y6 (h:Rel w0 W0 Z H S a w) {d:Nat} (e:Vo S d=some (true,S')):Rel w0 W0 Z H S' a w:=by
 obtain⟨σ,h⟩:=h
 unfold Vo at e
 split at e
 case h_2=>cases e
 rename_i t s st pp dE
 split at e
 case h_2=>cases e
 rename_i r ex hs
 split at e
 case h_2=>cases e
 rename_i b e6
 cases hk:b.m.bG with
 |true=>rw[hk] at e;cases e
 |false=>
 rw[hk] at e
 simp only[cond_false,Option.some.injEq,Prod.mk.injEq] at e
 obtain⟨gg,rfl⟩:=e
 have hal:=h.holds d
 rw[dE] at hal
 obtain⟨bF,cs2,ow,t1,hm,hM,Q4,hn⟩:=si (vv:=bU a d) h (by simp) hal hs e6 hk (fun q hq=>by simpa using List.all_eq_true.1 gg q hq)
 have:=t1.M8 (dst:=some d) (v:=bU a d) (ow:=ow) (A':=Av bF Z) (fun _ _=>rfl) t1.fr (fun g hg=>by
  obtain⟨i,hi,nk⟩:=Q4.now g hg
  exact⟨t1.lt g i nk,.inl ⟨i,by omega,nk⟩⟩) (fun g _ hg=>by
  rcases hg with hg |hg
  ·exact hg
  ·obtain⟨i,hi,nk⟩:=Q4.now g hg
   exact .inl ⟨i,nk⟩) hm hM
 rw[mH] at this
 exact⟨_,this⟩
theorem acy (h:Rel w0 W0 Z H S a w) (q:Nat×Path):Rel w0 W0 Z H (S.aqy q) a w:=by
 obtain⟨σ,h⟩:=h
 obtain⟨s,p⟩:=q
 unfold St.aqy
 simp only
 split
 case h_2=>exact⟨σ,h⟩
 rename_i r dE
 split
 case h_2=>exact⟨σ,h⟩
 rename_i b e6
 cases hc:(b.m.bG|| !MM p) with
 |true=>exact⟨σ,h⟩
 |false=>
 simp only[cond_false]
 simp only[Bool.or_eq_false_iff,Bool.not_eq_false'] at hc
 obtain⟨hk,hni⟩:=hc
 split
 ·exact h.freeze dE
 rename_i hp
 split
 case h_2=>exact⟨σ,h⟩
 rename_i m z n9
 have hh:=h.holds s
 rw[dE] at hh
 obtain⟨cN,RO,ML⟩:=hh
 have jw:=nB p hni e6
 have xw:open_ p []:=fun _ hq=>by cases hq
 obtain⟨cs,cB,k1,k2,k3⟩:=focus p ML xw jw e6
 have hal:∃ t vv,Holds w (Av σ Z) H (bU a) S (fun _=>False) (.al t s p) vv∧t=b.t∧aq t vv cs:=by
  obtain⟨vv,hvv⟩:∃ vv,aq b.t vv cs:=by
   unfold aq
   cases hg:isAgg b.t with
   |true=>exact⟨_,by rw[if_pos rfl]⟩
   |false=>
    have hl:=(eP _ k3).1
    have h1:=HL hg
    rw[h1] at hl
    obtain⟨u,rfl⟩:=List.length_eq_one_iff.1 hl
    exact⟨u,by simp⟩
  exact⟨b.t,vv,⟨r,cN,cs,⟨⟨[],dE,xw⟩,jw,⟨b,e6,rfl⟩,RO⟩,k1,hvv⟩,rfl,hvv⟩
 obtain⟨t,vv,hal,rfl,hvv⟩:=hal
 obtain⟨bF,cs2,ow,t1,hm,hM,Q4,hn⟩:=si (vv:=vv) h hp hal dE e6 hk (fun _ hq=>by cases hq)
 obtain rfl:=eT hvv hm
 obtain⟨dZ,d1,d2⟩:=t1.drop ow (fun g hg i hi=>by
  obtain⟨j,hj,pC⟩:=Q4.now g hg
  rw[hi] at pC
  injection pC with pC
  omega)
 have hK:K w (Av dZ Z) b.t b.x cs:=M_K (fun g _ hx=>by
  rcases d2 g hx with hx |hx
  ·exact hx.1
  ·exact .inr hx) b.t rfl (fun g hg hx=>by
  rcases d2 g hx with hx |hx
  ·exact hx.2 hg
  ·obtain⟨j,_,hj⟩:=Q4.now g hg
   rw[(t1.old g hx).1] at hj;cases hj) hM
 have aw1:St.at (((S.weaken s).cover s p).set s (.v r [p])) s=.v r ([]++[p]):=by
  rw[cQ,if_pos ⟨rfl,by simp only[St.weaken,St.cover,List.length_map];exact eH (by rw[dE];exact fun e=>by cases e)⟩]
  rfl
 obtain⟨σ3,h3,_⟩:=Cl (b:=Ra b) (pS:=fun _=>False) (ex:=[]) d1 (fun _ h=>h.elim) aw1 RO k1 jw e6 (fun _ hq=>by cases hq) n9 (oh (t:=b.t) rfl hK)
 exact⟨σ3,h3⟩
theorem Np:∀ (l:List (Nat×List (Nat×Path))) {id:Nat},Rel w0 W0 Z H S a w→Rel w0 W0 Z H (YB l id S) a w
 |[],_,h=>h
 |q::r,id,h=>by
  unfold YB
  cases Nat.beq q.1 id with
  |true=>
   simp only[cond_true]
   generalize q.2=l
   induction l generalizing S with
   |nil=>exact h
   |cons x l ih=>exact ih (acy h x)
  |false=>exact Np r h
end Go.Pv
namespace Go.Pv
set_option linter.unusedVariables false
set_option linter.unusedSimpArgs false
variable {Γ:Gl} {P:Program} {w w':World} {A A' Wr:Nat→Prop} {H:Nat→Value} {tm rH:Nat→Value} {S S' S1:St} {σ bF dZ:Nat→Option Nat} {w0:World} {W0 Z:Nat→Prop} {a:Act} {own:Nat→Prop} {v:Value} {Θ:dq} {dst:Option Nat} {O:jt} {hh:Hint} {Q:Exit→Act→World→Prop} {K:St→Option aa} {ret:aa}
def I7 (w0:World) (W0 Z:Nat→Prop) (H:Nat→Value) (K:St→Option aa) (ret:aa) (a:Act) (w:World):Prop:=∃ S,K S=some ret∧Rel w0 W0 Z H S a w
theorem I8 {o:Oper} {c:Call} {f:FuncId} {xB:List Value} (ho:o.op=.call c) (hc:∃ x,c.callee=.value x∧a.eval x=.func (.func f) #[] xB.toArray) {R:Value→World→Prop} (hd:RK P f (c.args.toList.map a.eval++xB) w R)
  {N:Act→World→Prop} (hN:∀ v w',R v w'→N (a.put o.dst v) w'):o.wp P a w N Q:=by
 obtain⟨x,hx,hv⟩:=hc
 have bZ:(execOp a.eval o).run P w=(callFunc f (c.args.toList.map a.eval++xB).toArray).run P w:=by
  simp only[execOp,ho,resolve,hx,Deferred.ofValue,hv,Sem.run_bind,Sem.run_pure,Result.andThen_ok,invoke]
  congr 2
  apply Array.toList_inj.1
  simp
 unfold Oper.wp
 rw[bZ]
 rcases hd with⟨h1,h2⟩ |⟨v,w',h1,h2⟩
 ·rw[h1,Oper.upon_enter]
  refine h2.mono fun e w' he=>?_
  cases e with
  |returned v=>exact hN _ _ he
  |panicked c=>exact he.elim
  |outgrown=>exact he.elim
 ·rw[h1,Oper.upon_value]
  exact hN _ _ h2
theorem HU {f:FuncId} {c:Call} (hc:c.callee=.value (.func f)) (h:C8 O (.call c)=true):∀ p∈O.sig f,p=.val:=by
 obtain⟨callee,args,ats⟩:=c
 simp only at hc
 subst hc
 simp only[C8,List.all_eq_true] at h
 intro p hp
 have:=h p hp
 cases p<;>first |rfl |cases this
theorem RP {op:Op} (h:quiet op=true):Nk op=true:=by
 unfold Nk
 split<;>first |rfl |exact h
theorem EL:∀ (l:List Pass) (n:Nat) {j:Nat},uW l n=some j→¬ ∀ p∈l,p=.val
 |[],n,j,h,_=>by cases h
 | .kZ::r,n,j,h,hv=>by have:=hv .kZ (by simp);cases this
 | .val::r,n,j,h,hv=>EL r (n+1) (by simpa[uW] using h) (fun p hp=>hv p (by simp[hp]))
 | .take::r,n,j,h,hv=>by have:=hv .take (by simp);cases this
theorem acz (hT:cP P hh.tab=true) (h:aW σ w0 W0 Z H S a w) {T:TypeId} {x:Operand} {eq:Bool} {dst:Option Nat} (e:Vn hh dst T eq x S K=some ret):
  (∃ A n c,a.eval x=.slice A n c)∧∃ q,(binOp (bif eq then .eql else .neq) T (a.eval x) (.slice none 0 0)).run P w=.ok (.bool q) w∧∃ S',K S'=some ret∧Rel w0 W0 Z H S' (a.put dst (.bool q)) w:=by
 unfold Vn at e
 split at e
 case h_2=>cases e
 rename_i t m xs hx
 cases zR:hh.tab.is T (.sl t) with
 |false=>rw[zR] at e;cases e
 |true=>
 rw[zR] at e
 simp only[cond_true] at e
 obtain⟨cs,h1,h2,_⟩:=iC h hx
 simp only[Go.Pv.K] at h2
 obtain⟨A,c,rfl,hc,C9⟩:=h2
 have hv:a.eval x=.slice A (List.length xs) c:=by simpa[aq,isAgg] using h1.symm
 obtain⟨i,hi,fH⟩:=dW zR
 obtain⟨_,hu,hTT⟩:=cR hT hi
 obtain⟨u1,_,_⟩:=lD hu fH
 rw[hTT] at u1
 have ep:∀ d,(Op.equalIn (d+1) T (.slice A (List.length xs) c) (.slice none 0 0)).run P w=.ok A.isNone w:=fun d=>by
  simp only[Op.equalIn,Sem.run_bind,run_underlying u1,Result.andThen_ok]
  cases A<;>simp
 have bZ:(Op.equal T (a.eval x) (.slice none 0 0)).run P w=.ok A.isNone w:=by
  rw[hv]
  exact ep 9999
 have hq:(binOp (bif eq then .eql else .neq) T (a.eval x) (.slice none 0 0)).run P w=.ok (.bool (bif eq then A.isNone else !A.isNone)) w:=by
  cases eq<;>simp[binOp,bZ]
 refine⟨⟨A,_,c,hv⟩,_,hq,?_⟩
 have put:∀ q:Bool,Rel w0 W0 Z H (S.put dst (.v ⟨.bool,.k,q⟩ [])) (a.put dst (.bool q)) w:=fun q=>⟨_,h.pure (cD q)⟩
 cases aqY:List.isEmpty xs with
 |true=>
  rw[aqY] at e
  simp only[cond_true] at e
  obtain⟨e1,e2⟩:=YC e
  cases hb:(bif eq then A.isNone else !A.isNone) with
  |true=>exact⟨_,e1,put true⟩
  |false=>exact⟨_,e2,put false⟩
 |false=>
  rw[aqY] at e
  simp only[cond_false] at e
  have hp:0<List.length xs:=by
   cases xs with
   |nil=>simp at aqY
   |cons _ _=>simp
  obtain⟨g,off,cur,T',fr,rfl,_⟩:=C9 hp
  cases eq with
  |true=>exact⟨_,e,put false⟩
  |false=>exact⟨_,e,put true⟩
theorem au2 (hT:cP P hh.tab=true) (hO:rh Γ P O w0 W0) (h:aW σ w0 W0 Z H S a w) {o:Oper} (e:hY hh O o S K=some ret):
  o.wp P a w (fun a' w'=>I7 w0 W0 Z H K ret a' w'∧(C8 O o.op=true→Ext w w')) Q:=by
 unfold hY at e
 split at e
 ·rename_i f as ts ho
  split at e
  ·rename_i j hj
   have hd:=aiq hT hO h e
   rw[←List.append_nil (as.toList.map a.eval)] at hd
   refine I8 ho (xB:=[]) ⟨_,rfl,by simp[Act.eval]⟩ hd ?_
   intro v w' ⟨S',h1,h2⟩
   exact⟨⟨S',h1,h2⟩,fun hx=>absurd (HU rfl (by rw[ho] at hx;exact hx)) (EL _ _ hj)⟩
  refine I8 ho (xB:=[]) ⟨_,rfl,by simp[Act.eval]⟩ (VN hT hO h (.inl ⟨rfl,rfl⟩) e) ?_
  intro v w' ⟨S',h1,h2,h3⟩
  exact⟨⟨S',h1,h2⟩,fun hx=>h3 (HU rfl (by rw[ho] at hx;exact hx))⟩
 ·rename_i i as ts ho
  split at e
  case h_2=>cases e
  rename_i f cu dE
  have hold:=h.holds i
  rw[dE] at hold
  obtain⟨vs,v1,v2,v3⟩:=hold
  refine I8 ho (xB:=vs) ⟨_,rfl,v1⟩ (VN hT hO h (.inr ⟨i,rfl,v1⟩) e) ?_
  intro v w' ⟨S',h1,h2,h3⟩
  refine⟨⟨S',h1,h2⟩,fun hx=>?_⟩
  rw[ho] at hx
  cases hx
 ·rename_i T x T' ho
  obtain⟨⟨A,n,c,hv⟩,q,hq,S',hS,hR⟩:=acz hT h (eq:=true) e
  unfold Oper.wp
  have hr:(execOp a.eval o).run P w=.ok (.value (.bool q)) w:=by
   have rE:(binOp .eql T (a.eval x) (a.eval (.const (.slice none 0 0)))).run P w=.ok (.bool q) w:=hq
   have hg:(eqGuard .eql T x (.const (.slice none 0 0)) (a.eval x) (a.eval (.const (.slice none 0 0)))).run P w=.ok () w:=by
    rw[hv]
    simp[eqGuard,Act.eval]
   simp only[execOp,ho,Sem.run_bind]
   rw[hg]
   simp only[Result.andThen_ok]
   rw[rE]
   rfl
  rw[hr,Oper.upon_value]
  exact⟨⟨S',hS,hR⟩,fun _=>Ext.refl w⟩
 ·rename_i T x T' ho
  obtain⟨⟨A,n,c,hv⟩,q,hq,S',hS,hR⟩:=acz hT h (eq:=false) e
  unfold Oper.wp
  have hr:(execOp a.eval o).run P w=.ok (.value (.bool q)) w:=by
   have rE:(binOp .neq T (a.eval x) (a.eval (.const (.slice none 0 0)))).run P w=.ok (.bool q) w:=hq
   have hg:(eqGuard .neq T x (.const (.slice none 0 0)) (a.eval x) (a.eval (.const (.slice none 0 0)))).run P w=.ok () w:=by
    rw[hv]
    simp[eqGuard,Act.eval]
   simp only[execOp,ho,Sem.run_bind]
   rw[hg]
   simp only[Result.andThen_ok]
   rw[rE]
   rfl
  rw[hr,Oper.upon_value]
  exact⟨⟨S',hS,hR⟩,fun _=>Ext.refl w⟩
 ·rename_i n1 n2 n3 n4
  split at e
  case h_2=>cases e
  rename_i g S1 GZ
  cases g with
  |false=>cases e
  |true=>
  simp only[cond_true] at e
  by_cases acA:Nk o.op=true
  ·obtain⟨w',v,r1,r2,r3⟩:=aco hT h acA GZ
   unfold Oper.wp
   rw[r1,Oper.upon_value]
   exact⟨⟨S1,e,r3⟩,fun _=>r2⟩
  ·obtain⟨w',v,r1,r3⟩:=au0 hT h GZ
   have hna: ¬C8 O o.op=true:=fun hx=>by
    apply acA
    revert hx n1
    generalize o.op=op
    intro n1 hx
    unfold C8 at hx
    split at hx<;>first |rfl |(exact absurd rfl (n1 _ _ _)) |exact RP hx
   unfold Oper.wp
   rcases r1 with r1 |⟨rfl,r1⟩
   ·rw[r1,Oper.upon_value]
    exact⟨⟨S1,e,r3⟩,fun hx=>absurd hx hna⟩
   ·rw[r1,Oper.upon_skip]
    exact⟨⟨S1,e,r3⟩,fun hx=>absurd hx hna⟩
end Go.Pv
namespace Go.Pv
set_option linter.unusedVariables false
set_option linter.unusedSimpArgs false
variable {Γ:Gl} {P:Program} {w w':World} {A A' Wr:Nat→Prop} {H:Nat→Value} {tm rH:Nat→Value} {S S' S1:St} {σ bF dZ:Nat→Option Nat} {w0:World} {W0 Z:Nat→Prop} {a:Act} {own:Nat→Prop} {v:Value} {Θ:dq} {dst:Option Nat} {O:jt} {hh:Hint} {Q:Exit→Act→World→Prop} {K:St→Option aa} {ret:aa} {ops:Array Oper}
theorem acB {i:Nat} (h:aW σ w0 W0 Z H S a w) (hi:i<S.length):a.tmps[i]?=some (bU a i):=by
 have hl:i<a.tmps.size:=by rw[←h.len];exact hi
 unfold bU
 rw[Array.getD_eq_getD_getElem?,Array.getElem?_eq_getElem hl]
 rfl
theorem RQ (h:aW σ w0 W0 Z H S a w) {j d:Nat} {m:Md} {q:Bool} {ex:List Path} (hd:(ops[j]?).bind (·.dst)=some d) (dE:S.at d=.v ⟨.bool,m,q⟩ ex):yielded ops a.tmps j=some q∧bU a d=.bool q:=by
 have hl:=eH (S:=S) (i:=d) (by rw[dE];exact fun e=>by cases e)
 have hh:=h.holds d
 rw[dE] at hh
 obtain⟨cs,h1,h2⟩:=hh
 simp only[M] at h2
 have hv:=de h1 h2.2
 refine⟨?_,hv⟩
 unfold yielded
 rw[hd,Option.bind_some,acB h hl,hv]
theorem Nq (h:aW σ w0 W0 Z H S a w) {j d:Nat} (hd:(ops[j]?).bind (·.dst)=some d) (dE:S.at d=.undef):yielded ops a.tmps j=none:=by
 have hl:=eH (S:=S) (i:=d) (by rw[dE];exact fun e=>by cases e)
 have hh:=h.holds d
 rw[dE] at hh
 have hv:bU a d=undef:=hh
 unfold yielded
 rw[hd,Option.bind_some,acB h hl,hv]
 rfl
theorem Rel.undef (h:aW σ w0 W0 Z H S a w) (dst:Option Nat):Rel w0 W0 Z H (S.put dst .undef) (a.put dst Go.undef) w:=⟨_,h.pure (av:=.undef) (v:=Go.undef) rfl⟩
theorem acC {S:St} {d:Nat} {a:AV} (h:S.at d=a) (hd:a≠ .dead):S.set d a=S:=by
 unfold St.at at h
 rw[List.getD_eq_getElem?_getD] at h
 by_cases hl:d<S.length
 ·rw[List.getElem?_eq_getElem hl] at h
  simp only[Option.getD_some] at h
  subst h
  simp
 ·rw[List.getElem?_eq_none (by omega)] at h
  exact absurd h.symm hd
theorem vi (h:aW σ w0 W0 Z H S a w) {i:Nat} {o:Oper} (ho:ops[i]?=some o) (e:aT hh O ops i S K=some ret):
  (Region.wanted o (yielded ops a.tmps)=true∧∃ dA S',aW dA w0 W0 Z H S' a w∧hY hh O o S' K=some ret)∨
  (Region.wanted o (yielded ops a.tmps)=false∧I7 w0 W0 Z H K ret (a.put o.dst undef) w):=by
 unfold aT at e
 rw[ho] at e
 simp only at e
 split at e
 ·rename_i hg
  exact .inl ⟨by simp[Region.wanted,hg],σ,S,h,e⟩
 ·rename_i j want hg
  split at e
  case h_2=>cases e
  rename_i d hd
  split at e
  ·rename_i m q ex dE
   obtain⟨hy,hv⟩:=RQ h hd dE
   have hw:Region.wanted o (yielded ops a.tmps)=(q==want):=by
    unfold Region.wanted
    rw[hg]
    simp only[hy]
    cases q<;>cases want<;>rfl
   have Nr:=acC dE (fun e=>by cases e)
   cases q with
   |true=>
    simp only[cond_true,Nr] at e
    cases want with
    |true=>exact .inl ⟨hw,σ,_,h,e⟩
    |false=>exact .inr ⟨hw,_,e,Rel.undef h o.dst⟩
   |false=>
    simp only[cond_false,Nr] at e
    cases want with
    |true=>exact .inr ⟨hw,_,e,Rel.undef h o.dst⟩
    |false=>exact .inl ⟨hw,σ,_,h,e⟩
  ·rename_i dE
   have hy:=Nq h hd dE
   refine .inr ⟨?_,_,e,Rel.undef h o.dst⟩
   unfold Region.wanted
   rw[hg]
   simp only[hy]
   rfl
  ·cases e
theorem Dk (hT:cP P hh.tab=true) (hO:rh Γ P O w0 W0) (h:aW σ w0 W0 Z H S a w) {i:Nat} (e:aT hh O ops i S K=some ret):
  wpOp P ops Q i (fun a' w'=>I7 w0 W0 Z H K ret a' w'∧(∀ o,ops[i]?=some o→C8 O o.op=true→Ext w w')) a w:=by
 unfold wpOp
 cases ho:ops[i]? with
 |none=>unfold aT at e;rw[ho] at e;cases e
 |some o=>
  simp only
  rcases vi h ho e with⟨hw,dA,S',h',e'⟩ |⟨hw,Ns⟩
  ·rw[if_pos hw]
   refine .inl (Oper.wp_mono (fun a' w' h=>⟨h.1,fun o' G3=>?_⟩) (au2 hT hO h' e'))
   injection G3 with G3
   subst G3
   exact h.2
  ·rw[if_neg (by rw[hw];exact Bool.false_ne_true)]
   exact⟨Ns,fun _ _ _=>Ext.refl w⟩
theorem acD (hT:cP P hh.tab=true) (hO:rh Γ P O w0 W0) (hQ:∀ a w,I7 w0 W0 Z H K ret a w→Q .normal a w):∀ (l:List Nat) {S:St} {a:Act} {w:World},nu hh O ops l S K=some ret→Rel w0 W0 Z H S a w→wpOps P ops Q l a w
 |[],S,a,w,e,h=>hQ a w ⟨S,e,h⟩
 |i::l,S,a,w,e,⟨σ,h⟩=>by
  rw[wpOps_cons]
  simp only[nu] at e
  refine wpOp_mono (fun a' w' h'=>?_) (Dk hT hO h e)
  obtain⟨⟨S',h1,h2⟩,_⟩:=h'
  exact acD hT hO hQ l h1 h2
theorem Ext.trans {w1 w2 w3:World} (h:Ext w1 w2) (h':Ext w2 w3):Ext w1 w3:=fun g hg=>by
 have h1:=h g hg
 have:g<w2.heap.size:=by
  rw[Array.getElem?_eq_getElem hg] at h1
  exact a7 h1
 rw[h' g this,h1]
def wpE (P:Program) (ops:Array Oper) (Q:Exit→Act→World→Prop) (ad:Nat→Bool):Nat→Array Bool→Act→World→Prop
 |0,a6,a,w=>Region.ready .any ops a6=[]∧Q .normal a w
 |n+1,a6,a,w=>(Region.ready .any ops a6=[]→Q .normal a w)∧
  ∀ i∈Region.ready .any ops a6,wpOp P ops Q i (fun a' w'=>(ad i=true→Ext w w')∧wpE P ops Q ad n (a6.setIfInBounds i true) a' w') a w
theorem VQ {ad:Nat→Bool}:∀ (n:Nat) {a6:Array Bool} {a:Act} {w:World},wpE P ops Q ad n a6 a w→wpAny P .any ops Q n a6 a w
 |0,_,_,_,h=>h
 |n+1,_,_,_,h=>⟨h.1,fun i hi=>wpOp_mono (fun _ _ h'=>VQ n h'.2) (h.2 i hi)⟩
theorem Y7 {ad:Nat→Bool} {i:Nat} {oi:Oper} {v:Value} (hi:ops[i]?=some oi) (EM:∀ (j:Nat) (o:Oper) cs b,ops[j]?=some o→o.op≠ .select cs b)
  (hQ:∀ c a w,Q (.panic c) (a.put oi.dst v) w→Q (.panic c) a w) {D:Nat→Bool} (hDi:D i=true)
  (hD:∀ j oj,ops[j]?=some oj→D j=true→j≠i→∃ e∈oj.after,Region.binds .any e=true∧D e.on=true):
  ∀ (fuel:Nat) (a6:Array Bool) (a:Act) (w:World),(∀ j,D j=true→a6.getD j true=false)→
   (∀ j oj,ops[j]?=some oj→D j=false→a6.getD j true=false→oi.apart ops oj=true∧ad j=true)→
   i∈Region.ready .any ops a6→YieldsIf P ops (Ext w) oi v a→wpE P ops Q ad fuel (a6.setIfInBounds i true) (a.put oi.dst v) w→wpE P ops Q ad (fuel+1) a6 a w:=by
 intro fuel
 induction fuel with
 |zero=>
  intro a6 a w _ _ hr hy HH
  refine⟨fun h=>(by rw[h] at hr;cases hr),fun j hj=>?_⟩
  by_cases lA:j=i
  ·subst lA;exact hy.wpOp hi (Ext.refl w) ⟨fun _=>Ext.refl w,HH⟩
  ·have:=ready_mono hj lA
   rw[HH.1] at this
   cases this
 |succ fuel ih=>
  intro a6 a w G' Nt hr hy HH
  refine⟨fun h=>(by rw[h] at hr;cases hr),fun j hj=>?_⟩
  by_cases lA:j=i
  ·subst lA;exact hy.wpOp hi (Ext.refl w) ⟨fun _=>Ext.refl w,HH⟩
  ·have h1:=HH.2 j (ready_mono hj lA)
   obtain⟨acE,oj,og,dY⟩:=mem_ready.1 hj
   have hDj:D j=false:=by
    cases hd:D j with
    |false=>rfl
    |true=>
     obtain⟨e,he,hb,hde⟩:=hD j oj og hd lA
     have h2:=dY e he hb
     have h3:=G' e.on hde
     rcases Nat.lt_or_ge e.on a6.size with hl |hl
     ·simp[hl] at h2 h3;rw[h3] at h2;cases h2
     ·simp[Array.getElem?_eq_none hl] at h2
   obtain⟨RD,had⟩:=Nt j oj og hDj acE
   have h2:=wpOp_putIf og RD (fun cs b=>EM i oi cs b hi) (fun cs b=>EM j oj cs b og) hQ hy h1
   refine wpOp_mono (fun a' w' h3=>⟨fun _=>h3.2.1 had,?_⟩) h2
   have aw2:=h3.2.1 had
   refine ih (a6.setIfInBounds j true) a' w' (fun k hk=>?_) (fun k ok hk hdk acF=>Nt k ok hk hdk ?_) (ready_mono hr (Ne.symm lA)) ?_ ?_
   ·have C':j≠k:=fun e=>by subst e;rw[hDj] at hk;cases hk
    rw[getD_set_ne true C']
    exact G' k hk
   ·by_cases C':j=k
    ·subst C';exact acE
    ·rw[getD_set_ne true C'] at acF;exact acF
   ·exact h3.1.imp (fun⟨q1,q2⟩=>⟨q1,fun w2 rB=>q2 w2 (aw2.trans rB)⟩) id
   ·rw[Array.setIfInBounds_comm _ _ lA]
    exact h3.2.2
theorem EN {ad:Nat→Bool} {i:Nat} {oi:Oper} {v:Value} (hi:ops[i]?=some oi) (EM:∀ (j:Nat) (o:Oper) cs b,ops[j]?=some o→o.op≠ .select cs b)
  (hQ:∀ c a w,Q (.panic c) (a.put oi.dst v) w→Q (.panic c) a w) {D:Nat→Bool} (hDi:D i=true)
  (hD:∀ j oj,ops[j]?=some oj→D j=true→j≠i→∃ e∈oj.after,Region.binds .any e=true∧D e.on=true):
  ∀ (fuel:Nat) (a6:Array Bool) (a:Act) (w:World),(∀ j,D j=true→a6.getD j true=false)→
   (∀ j oj,ops[j]?=some oj→D j=false→a6.getD j true=false→oi.apart ops oj=true)→
   i∈Region.ready .any ops a6→YieldsIf P ops (fun _=>True) oi v a→wpE P ops Q ad fuel (a6.setIfInBounds i true) (a.put oi.dst v) w→wpE P ops Q ad (fuel+1) a6 a w:=by
 intro fuel
 induction fuel with
 |zero=>
  intro a6 a w _ _ hr hy HH
  refine⟨fun h=>(by rw[h] at hr;cases hr),fun j hj=>?_⟩
  by_cases lA:j=i
  ·subst lA;exact hy.wpOp hi trivial ⟨fun _=>Ext.refl w,HH⟩
  ·have:=ready_mono hj lA
   rw[HH.1] at this
   cases this
 |succ fuel ih=>
  intro a6 a w G' Nt hr hy HH
  refine⟨fun h=>(by rw[h] at hr;cases hr),fun j hj=>?_⟩
  by_cases lA:j=i
  ·subst lA;exact hy.wpOp hi trivial ⟨fun _=>Ext.refl w,HH⟩
  ·have h1:=HH.2 j (ready_mono hj lA)
   obtain⟨acE,oj,og,dY⟩:=mem_ready.1 hj
   have hDj:D j=false:=by
    cases hd:D j with
    |false=>rfl
    |true=>
     obtain⟨e,he,hb,hde⟩:=hD j oj og hd lA
     have h2:=dY e he hb
     have h3:=G' e.on hde
     rcases Nat.lt_or_ge e.on a6.size with hl |hl
     ·simp[hl] at h2 h3;rw[h3] at h2;cases h2
     ·simp[Array.getElem?_eq_none hl] at h2
   have RD:=Nt j oj og hDj acE
   have h2:=wpOp_putIf og RD (fun cs b=>EM i oi cs b hi) (fun cs b=>EM j oj cs b og) hQ hy h1
   refine wpOp_mono (fun a' w' h3=>⟨h3.2.1,?_⟩) h2
   refine ih (a6.setIfInBounds j true) a' w' (fun k hk=>?_) (fun k ok hk hdk acF=>Nt k ok hk hdk ?_) (ready_mono hr (Ne.symm lA)) ?_ ?_
   ·have C':j≠k:=fun e=>by subst e;rw[hDj] at hk;cases hk
    rw[getD_set_ne true C']
    exact G' k hk
   ·by_cases C':j=k
    ·subst C';exact acE
    ·rw[getD_set_ne true C'] at acF;exact acF
   ·exact h3.1
   ·rw[Array.setIfInBounds_comm _ _ lA]
    exact h3.2.2
theorem gQ (j k:Nat):Nat.testBit (2^j) k=decide (j=k):=Nat.testBit_two_pow
theorem Cm {o:Oper} {k:Nat} (h:Nat.testBit (aZ o) k=true):∃ e∈o.after,Region.binds .any e=true∧e.on=k:=by
 have key:∀ (l:List Edge),Nat.testBit (l.foldr (fun e m=>bif Region.binds .any e then m|||2^e.on else m) 0) k=true→∃ e∈l,Region.binds .any e=true∧e.on=k:=by
  intro l
  induction l with
  |nil=>intro h;simp at h
  |cons e r ih=>
   intro h
   simp only[List.foldr_cons] at h
   cases hb:Region.binds .any e with
   |false=>
    rw[hb] at h
    obtain⟨e',h1,h2⟩:=ih h
    exact⟨e',List.mem_cons_of_mem _ h1,h2⟩
   |true=>
    rw[hb] at h
    simp only[cond_true,Nat.testBit_or,Bool.or_eq_true,gQ,decide_eq_true_eq] at h
    rcases h with h |h
    ·obtain⟨e',h1,h2⟩:=ih h
     exact⟨e',List.mem_cons_of_mem _ h1,h2⟩
    ·exact⟨e,List.mem_cons_self ..,hb,h⟩
 obtain⟨e,h1,h2⟩:=key _ h
 exact⟨e,by simpa using h1,h2⟩
theorem RR {o:Oper} {e:Edge} (he:e∈o.after) (hb:Region.binds .any e=true):Nat.testBit (aZ o) e.on=true:=by
 have key:∀ (l:List Edge),e∈l→Nat.testBit (l.foldr (fun e m=>bif Region.binds .any e then m|||2^e.on else m) 0) e.on=true:=by
  intro l
  induction l with
  |nil=>intro h;cases h
  |cons e' r ih=>
   intro h
   simp only[List.foldr_cons]
   rcases List.mem_cons.1 h with rfl |h
   ·rw[hb]
    simp[Nat.testBit_or,gQ]
   ·cases Region.binds .any e'<;>simp[Nat.testBit_or,ih h]
 exact key _ (by simpa using he)
theorem vj (i:Nat):∀ (r:List Nat) (j acc k:Nat),Nat.testBit acc k=true→Nat.testBit (aQ i r j acc) k=true
 |[],_,_,_,h=>h
 |m::r,j,acc,k,h=>by
  simp only[aQ]
  refine vj i r _ _ k ?_
  cases (Nat.beq j i|| !(Nat.beq (m&&&acc) 0))<;>simp[Nat.testBit_or,h]
theorem EO (i:Nat):∀ (r:List Nat) (j acc:Nat),j≤i→i<j+r.length→Nat.testBit (aQ i r j acc) i=true
 |[],_,_,h1,h2=>by simp at h2;omega
 |m::r,j,acc,h1,h2=>by
  simp only[aQ]
  by_cases hj:j=i
  ·subst hj
   refine vj _ r _ _ _ ?_
   simp[Nat.testBit_or,gQ]
  ·exact EO i r _ _ (by omega) (by simp only[List.length_cons] at h2;omega)
theorem vk (i:Nat):∀ (r:List Nat) (j acc k:Nat),Nat.testBit (aQ i r j acc) k=true→
  Nat.testBit acc k=true∨∃ q m,k=j+q∧r[q]?=some m∧(k=i∨∃ t,Nat.testBit m t=true∧Nat.testBit (aQ i r j acc) t=true)
 |[],_,_,_,h=>.inl h
 |m::r,j,acc,k,h=>by
  simp only[aQ] at h ⊢
  rcases vk i r _ _ k h with h1 |⟨q,m',h1,h2,h3⟩
  ·cases hc:(Nat.beq j i|| !(Nat.beq (m&&&acc) 0)) with
   |false=>rw[hc] at h1;exact .inl h1
   |true=>
    rw[hc] at h1
    simp only[cond_true,Nat.testBit_or,Bool.or_eq_true,gQ,decide_eq_true_eq] at h1
    rcases h1 with h1 |rfl
    ·exact .inl h1
    ·refine .inr ⟨0,m,by omega,rfl,?_⟩
     rw[Bool.or_eq_true] at hc
     rcases hc with hc |hc
     ·exact .inl (Nat.eq_of_beq_eq_true hc)
     ·right
      have ly:m&&&acc≠0:=fun e=>by rw[e] at hc;cases hc
      obtain⟨t,ht⟩:=Nat.exists_testBit_of_ne_zero ly
      rw[Nat.testBit_and,Bool.and_eq_true] at ht
      refine⟨t,ht.1,vj i r _ _ t ?_⟩
      simp[Nat.testBit_or,ht.2]
  ·exact .inr ⟨q+1,m',by omega,by simpa using h2,h3⟩
theorem uz {oi:Oper} {rest:Nat}:∀ (r:List Oper) (j:Nat),xb O ops oi rest r j=true→∀ (q:Nat) (oj:Oper),r[q]?=some oj→Nat.testBit rest (j+q)=true→oi.apart ops oj=true∧C8 O oj.op=true
 |[],_,_,q,oj,h,_=>by simp at h
 |o::r,j,h,q,oj,hq,ht=>by
  simp only[xb,Bool.and_eq_true] at h
  cases q with
  |zero=>
   simp only[List.getElem?_cons_zero,Option.some.injEq] at hq
   subst hq
   rw[Nat.add_zero] at ht
   rw[ht] at h
   simpa using h.1
  |succ q=>exact uz r (j+1) h.2 q oj (by simpa using hq) (by rw[←ht];congr 1;omega)
theorem acG (hT:cP P hh.tab=true) (h:aW σ w0 W0 Z H S a w) {i:Nat} {o:Oper} (ho:ops[i]?=some o) (hq:quiet o.op=true) (hn:pM o.op=false) (e:aT hh O ops i S K=some ret):
  ∃ v,YieldsIf P ops (Ext w) o v a∧I7 w0 W0 Z H K ret (a.put o.dst v) w:=by
 rcases vi h ho e with⟨hw,dA,S',h',e'⟩ |⟨hw,Ns⟩
 ·unfold hY at e'
  split at e'
  ·rename_i f as ts bI;rw[bI] at hq;cases hq
  ·rename_i i' as ts bI;rw[bI] at hq;cases hq
  ·rename_i bI;rw[bI] at hn;cases hn
  ·rename_i bI;rw[bI] at hn;cases hn
  ·split at e'
   case h_2=>cases e'
   rename_i g S1 GZ
   cases g with
   |false=>cases e'
   |true=>
    obtain⟨v,h1,h2⟩:=acn hT h' hq GZ
    exact⟨v,.inl ⟨hw,h1⟩,S1,e',h2⟩
 ·exact⟨undef,.inr ⟨hw,rfl⟩,Ns⟩
theorem jE {oi:Oper} {rest:Nat}:∀ (r:List Oper) (j:Nat),kj ops oi rest r j=true→∀ (q:Nat) (oj:Oper),r[q]?=some oj→Nat.testBit rest (j+q)=true→oi.apart ops oj=true
 |[],_,_,q,oj,h,_=>by simp at h
 |o::r,j,h,q,oj,hq,ht=>by
  simp only[kj,Bool.and_eq_true] at h
  cases q with
  |zero=>
   simp only[List.getElem?_cons_zero,Option.some.injEq] at hq
   subst hq
   rw[Nat.add_zero] at ht
   rw[ht] at h
   simpa using h.1
  |succ q=>exact jE r (j+1) h.2 q oj (by simpa using hq) (by rw[←ht];congr 1;omega)
theorem xC {oi:Oper} {rest:Nat}:∀ (r:List Oper) (j:Nat),(∀ (q:Nat) (oj:Oper),r[q]?=some oj→Nat.testBit rest (j+q)=true→oi.apart ops oj=true)→kj ops oi rest r j=true
 |[],_,_=>rfl
 |o::r,j,h=>by
  unfold kj
  rw[Bool.and_eq_true]
  refine⟨?_,xC r (j+1) fun q oj hq ht=>h (q+1) oj (by simpa using hq) (by rw[←ht];congr 1;omega)⟩
  cases hb:Nat.testBit rest j with
  |false=>rfl
  |true=>exact h 0 o rfl (by rw[Nat.add_zero];exact hb)
theorem Nu (hT:cP P hh.tab=true) (h:aW σ w0 W0 Z H S a w) {i:Nat} {o:Oper} (ho:ops[i]?=some o) (hqT:z6 hh.tab o.op=true) (e:aT hh O ops i S K=some ret):
  ∃ v,YieldsIf P ops (fun _=>True) o v a∧I7 w0 W0 Z H K ret (a.put o.dst v) w:=by
 have hq:still o.op=true:=by unfold z6 at hqT;simp only[Bool.and_eq_true] at hqT;exact hqT.1.1
 have hnn:pM o.op=false:=by unfold z6 at hqT;simp only[Bool.and_eq_true,Bool.not_eq_true'] at hqT;exact hqT.1.2
 have rE:RJ o.op=true:=by
  unfold still at hq
  split at hq<;>first |(rename_i bI;rw[bI];rfl) |cases hq
 rcases vi h ho e with⟨hw,dA,S',h',e'⟩ |⟨hw,Ns⟩
 ·unfold hY at e'
  split at e'
  ·rename_i f as ts bI;rw[bI] at hq;cases hq
  ·rename_i i' as ts bI;rw[bI] at hq;cases hq
  ·rename_i bI;rw[bI] at hnn;simp[pM] at hnn
  ·rename_i bI;rw[bI] at hnn;simp[pM] at hnn
  ·split at e'
   case h_2=>cases e'
   rename_i g S1 GZ
   cases g with
   |false=>cases e'
   |true=>
    obtain⟨v,h1,h2⟩:=aqS hT h' rE (by unfold z6 at hqT;simp only[Bool.and_eq_true] at hqT;exact hqT.2) GZ
    exact⟨v,.inl ⟨hw,fun w _=>h1 w⟩,S1,e',h2⟩
 ·exact⟨undef,.inr ⟨hw,rfl⟩,Ns⟩
def He (ops:Array Oper) (a6:Array Bool) (L:Nat):Prop:=a6.size=ops.size∧∀ j,j<ops.size→a6[j]?=some (Nat.testBit L j)
theorem He.set {a6:Array Bool} {L i:Nat} (h:He ops a6 L) (hi:i<ops.size):He ops (a6.setIfInBounds i true) (L|||2^i):=by
 refine⟨by simp[h.1],fun j hj=>?_⟩
 rw[Array.getElem?_setIfInBounds]
 by_cases n5:i=j
 ·subst n5
  simp[h.1,hi,Nat.testBit_or,gQ]
 ·rw[if_neg n5,h.2 j hj,Nat.testBit_or,gQ]
  simp[n5]
theorem He.getD {a6:Array Bool} {L:Nat} (h:He ops a6 L) {j:Nat} (hj:j<ops.size) (d:Bool):a6.getD j d=Nat.testBit L j:=by
 rw[Array.getD_eq_getD_getElem?,h.2 j hj];rfl
theorem He.out {a6:Array Bool} {L:Nat} (h:He ops a6 L) {j:Nat} (hj: ¬j<ops.size) (d:Bool):a6.getD j d=d:=by
 rw[Array.getD_eq_getD_getElem?,Array.getElem?_eq_none (by rw[h.1];omega)];rfl
def aqZ (ops:Array Oper) (as:List Nat) (i j:Nat):Prop:=∃ m oi oj,as[j]?=some m∧ops[i]?=some oi∧ops[j]?=some oj∧i≠j∧(Nat.testBit m i=true∨Hr ops oi oj=true)
theorem vl {as:List Nat}:∀ {l:List Nat},D2 ops as l=true↔l.Pairwise (aqZ ops as)
 |[]=>by simp[D2]
 |i::r=>by
  simp only[D2,Bool.and_eq_true,List.all_eq_true,List.pairwise_cons,vl (l:=r)]
  refine and_congr (forall_congr' fun j=>forall_congr' fun hj=>?_) Iff.rfl
  constructor
  ·intro h
   split at h
   case h_2=>cases h
   rename_i m oi oj h1 h2 h3
   simp only[Bool.and_eq_true,Bool.not_eq_true',Bool.or_eq_true] at h
   exact⟨m,oi,oj,h1,h2,h3,fun e=>by(subst e;rw[Nat.beq_refl] at h;cases h.1),h.2⟩
  ·rintro⟨m,oi,oj,h1,h2,h3,h4,h5⟩
   rw[h1,h2,h3]
   simp only[Bool.and_eq_true,Bool.not_eq_true',Bool.or_eq_true]
   refine⟨?_,h5⟩
   cases hb:Nat.beq i j with
   |false=>rfl
   |true=>exact absurd (Nat.eq_of_beq_eq_true hb) h4
theorem HV {as:List Nat}:∀ (l:List Nat) {L L':Nat},(∀ k,Nat.testBit L k=true→Nat.testBit L' k=true)→mA as L l=true→mA as L' l=true
 |[],_,_,_,_=>rfl
 |i::r,L,L',hL,h=>by
  simp only[mA,Bool.and_eq_true] at h ⊢
  refine⟨?_,HV r (fun k hk=>?_) h.2⟩
  ·have h1:=h.1
   split at h1
   case h_2=>cases h1
   rename_i m hm
   have h2:=Nat.eq_of_beq_eq_true h1
   have:m&&&L'=m:=Nat.eq_of_testBit_eq fun k=>by
    rw[Nat.testBit_and]
    cases hk:Nat.testBit m k with
    |false=>rfl
    |true=>
     have h3:Nat.testBit (m&&&L) k=true:=by rw[h2];exact hk
     rw[Nat.testBit_and,hk] at h3
     rw[hL k (by simpa using h3)]
     rfl
   rw[this]
   exact Nat.beq_refl m
  ·rw[Nat.testBit_or,Bool.or_eq_true] at hk ⊢
   exact hk.imp (hL k) id
theorem EP {as:List Nat} {j:Nat}:∀ (p r:List Nat) {L:Nat},mA as L (p++j::r)=true→mA as (L|||2^j) (p++r)=true
 |[],r,L,h=>by
  simp only[List.nil_append,mA,Bool.and_eq_true] at h
  exact h.2
 |x::p,r,L,h=>by
  simp only[List.cons_append,mA,Bool.and_eq_true] at h ⊢
  have h0:mA as (L|||2^j) [x]=true:=HV [x] (L:=L) (fun k hk=>by rw[Nat.testBit_or,hk];rfl) (by simp only[mA,Bool.and_eq_true];exact⟨h.1,trivial⟩)
  simp only[mA,Bool.and_eq_true] at h0
  refine⟨h0.1,?_⟩
  have:=EP p r h.2
  rwa [Nat.or_assoc,Nat.or_comm (2^x),←Nat.or_assoc] at this
theorem iM:∀ (l:List Nat) (k:Nat),Nat.testBit (eo l) k=decide (k∈l)
 |[],k=>by simp[eo]
 |i::r,k=>by
  have h:eo (i::r)=eo r|||2^i:=rfl
  rw[h,Nat.testBit_or,iM r k,gQ]
  by_cases h1:k∈r<;>by_cases h2:i=k<;>simp[h1,h2,eq_comm]
def OT.bare:OT→Prop
 | .own _ _=>False
 |_=>True
theorem As:∀ (l:OT) {S:St} {a:Act} {w:World},fF hh O ops l S K=some ret→Rel w0 W0 Z H S a w→
  ∃ (l':OT) (S':St),l'.bare∧fF hh O ops l' S' K=some ret∧Rel w0 W0 Z H S' a w∧l'.len=l.len∧∀ (Θ:dq) (as:List Nat) (full L:Nat),fR Θ O ops as full L l=true→fR Θ O ops as full L l'=true
 | .own d t,S,a,w,e,h=>by
  simp only[fF] at e
  split at e
  case h_2=>cases e
  rename_i g S1 hg
  cases g with
  |false=>cases e
  |true=>
   obtain⟨l',S',h1,h2,h3,h4,h5⟩:=As t e (Y6 h hg)
   exact⟨l',S',h1,h2,h3,by simp only[OT.len];exact h4,fun Θ as full L ho=>h5 Θ as full L (by simpa only[fR] using ho)⟩
 | .done,S,a,w,e,h=>⟨.done,S,trivial,e,h,rfl,fun _ _ _ _ h=>h⟩
 | .one i t,S,a,w,e,h=>⟨.one i t,S,trivial,e,h,rfl,fun _ _ _ _ h=>h⟩
 | .any q t,S,a,w,e,h=>⟨.any q t,S,trivial,e,h,rfl,fun _ _ _ _ h=>h⟩
 | .par q ds t,S,a,w,e,h=>⟨.par q ds t,S,trivial,e,h,rfl,fun _ _ _ _ h=>h⟩
theorem acH (hT:cP P hh.tab=true) (hO:rh Γ P O w0 W0) (hQ:∀ a w,I7 w0 W0 Z H K ret a w→Q .normal a w) (Dl:∀ c a w,¬Q (.panic c) a w) (EM:Region.noSelect ops=true):
  ∀ (n:Nat) (L:Nat) (l:OT) {a6:Array Bool} {S:St} {a:Act} {w:World},fR hh.tab O ops (ops.toList.map aZ) (2^ops.size - 1) L l=true→He ops a6 L→l.len≤n→fF hh O ops l S K=some ret→Rel w0 W0 Z H S a w→
   wpE P ops Q (fun j=>match ops[j]? with |some o=>C8 O o.op |none=>false) n a6 a w:=by
 have au3:∀ {a6:Array Bool} {L:Nat},He ops a6 L→L=2^ops.size - 1→Region.ready .any ops a6=[]:=by
  intro a6 L hb hL
  refine List.eq_nil_iff_forall_not_mem.2 fun j hj=>?_
  obtain⟨h1,oj,h2,_⟩:=mem_ready.1 hj
  have hj:=(Array.getElem?_eq_some_iff.1 h2).1
  rw[hb.getD hj,hL,Nat.testBit_two_pow_sub_one] at h1
  simp[hj] at h1
 intro n
 induction n with
 |zero=>
  intro L l a6 S a w ho hb hn e h
  obtain⟨l,S,acI,e,h,hlen,q8⟩:=As l e h
  replace ho:=q8 _ _ _ _ ho
  rw[←hlen] at hn
  clear q8 hlen
  cases l with
  |own _ _=>exact acI.elim
  |one _ _=>simp[OT.len] at hn
  |any q _=>
   cases q with
   |nil=>simp[fR,ah5] at ho
   |cons _ _=>simp[OT.len] at hn
  |par q _ _=>
   cases q with
   |nil=>simp[fR,ah6] at ho
   |cons _ _=>simp[OT.len] at hn
  |done=>
   simp only[fR] at ho
   exact⟨au3 hb (Nat.eq_of_beq_eq_true ho),hQ a w ⟨S,e,h⟩⟩
 |succ n ih=>
  intro L l a6 S a w ho hb hn e h
  obtain⟨l,S,acI,e,h,hlen,q8⟩:=As l e h
  replace ho:=q8 _ _ _ _ ho
  rw[←hlen] at hn
  clear q8 hlen
  have Rz:∀ (l:OT) (L:Nat),fR hh.tab O ops (ops.toList.map aZ) (2^ops.size - 1) L l=true→L<2^ops.size:=by
   intro l
   induction l with
   |done=>
    intro L h
    have:=Nat.eq_of_beq_eq_true h
    have:=Nat.two_pow_pos ops.size
    omega
   |one i t ih=>
    intro L h
    simp only[fR,Bool.and_eq_true] at h
    exact Nat.lt_of_le_of_lt Nat.left_le_or (ih _ h.2)
   |any q t ih=>
    intro L h
    simp only[fR,Bool.and_eq_true] at h
    exact Nat.lt_of_le_of_lt Nat.left_le_or (ih _ h.2)
   |par q ds t ih=>
    intro L h
    simp only[fR,Bool.and_eq_true] at h
    exact Nat.lt_of_le_of_lt Nat.left_le_or (ih _ h.2)
   |own d t ih=>
    intro L h
    simp only[fR] at h
    exact ih _ h
  have hL2:=Rz l L ho
  have RS:∀ (i:Nat) (oi:Oper),ops[i]?=some oi→aQ i (ops.toList.map aZ) 0 0&&&L=0→
    (∀ j,Nat.testBit (aQ i (ops.toList.map aZ) 0 0) j=true→Nat.testBit L j=false)∧Nat.testBit (aQ i (ops.toList.map aZ) 0 0) i=true∧
    (∀ j oj,ops[j]?=some oj→Nat.testBit (aQ i (ops.toList.map aZ) 0 0) j=true→j≠i→∃ e∈oj.after,Region.binds .any e=true∧Nat.testBit (aQ i (ops.toList.map aZ) 0 0) e.on=true)∧
    (∀ j,Nat.testBit (aQ i (ops.toList.map aZ) 0 0) j=true→j<ops.size):=by
   intro i oi HW c3
   have hi:i<ops.size:=(Array.getElem?_eq_some_iff.1 HW).1
   have hW3:∀ j,Nat.testBit (aQ i (ops.toList.map aZ) 0 0) j=true→Nat.testBit L j=false:=fun j hj=>by
    have:Nat.testBit (aQ i (ops.toList.map aZ) 0 0&&&L) j=false:=by rw[c3];simp
    rw[Nat.testBit_and,hj] at this
    simpa using this
   have hWi:Nat.testBit (aQ i (ops.toList.map aZ) 0 0) i=true:=EO i _ 0 0 (Nat.zero_le _) (by simpa using hi)
   have hWs:∀ j oj,ops[j]?=some oj→Nat.testBit (aQ i (ops.toList.map aZ) 0 0) j=true→j≠i→∃ e∈oj.after,Region.binds .any e=true∧Nat.testBit (aQ i (ops.toList.map aZ) 0 0) e.on=true:=fun j oj og hj lA=>by
    rcases vk i _ _ _ j hj with hx |⟨q,m,hq,hm,hx⟩
    ·simp at hx
    ·rw[Nat.zero_add] at hq
     subst hq
     rw[List.getElem?_map,Array.getElem?_toList,og] at hm
     simp only[Option.map_some,Option.some.injEq] at hm
     subst hm
     rcases hx with hx |⟨t,h1,h2⟩
     ·exact absurd hx lA
     ·obtain⟨e,he,hbd,rfl⟩:=Cm h1
      exact⟨e,he,hbd,h2⟩
   have I9:∀ j,Nat.testBit (aQ i (ops.toList.map aZ) 0 0) j=true→j<ops.size:=fun j hj=>by
    rcases vk i _ _ _ j hj with hx |⟨q,m,hq,hm,hx⟩
    ·simp at hx
    ·have:=(List.getElem?_eq_some_iff.1 hm).1
     simp at this
     omega
   exact⟨hW3,hWi,hWs,I9⟩
  have facts:∀ (i:Nat) (oi:Oper),ops[i]?=some oi→Nat.testBit L i=false→aZ oi&&&L=aZ oi→aQ i (ops.toList.map aZ) 0 0&&&L=0→
    (∀ j,Nat.testBit (aQ i (ops.toList.map aZ) 0 0) j=true→Nat.testBit L j=false)∧Nat.testBit (aQ i (ops.toList.map aZ) 0 0) i=true∧
    (∀ j oj,ops[j]?=some oj→Nat.testBit (aQ i (ops.toList.map aZ) 0 0) j=true→j≠i→∃ e∈oj.after,Region.binds .any e=true∧Nat.testBit (aQ i (ops.toList.map aZ) 0 0) e.on=true)∧
    (∀ j,Nat.testBit (aQ i (ops.toList.map aZ) 0 0) j=true→j<ops.size)∧i∈Region.ready .any ops a6:=by
   intro i oi HW c1 c2 c3
   have hi:i<ops.size:=(Array.getElem?_eq_some_iff.1 HW).1
   obtain⟨hW3,hWi,hWs,I9⟩:=RS i oi HW c3
   refine⟨hW3,hWi,hWs,I9,mem_ready.2 ⟨by rw[hb.getD hi];exact c1,oi,HW,fun e he hbd=>?_⟩⟩
   have h1:=RR he hbd
   have h2:Nat.testBit (aZ oi&&&L) e.on=true:=by rw[c2];exact h1
   rw[Nat.testBit_and,h1] at h2
   have h3:Nat.testBit L e.on=true:=by simpa using h2
   by_cases hl:e.on<ops.size
   ·rw[hb.getD hl];exact h3
   ·rw[Nat.testBit_lt_two_pow (Nat.lt_of_lt_of_le hL2 (Nat.pow_le_pow_right (by decide) (by omega)))] at h3
    cases h3
  cases l with
  |done=>
   simp only[fR] at ho
   have hr:=au3 hb (Nat.eq_of_beq_eq_true ho)
   exact⟨fun _=>hQ a w ⟨S,e,h⟩,fun i hi=>by rw[hr] at hi;cases hi⟩
  |own _ _=>exact acI.elim
  |any q t=>
   simp only[fR,Bool.and_eq_true] at ho
   obtain⟨hc,hot⟩:=ho
   have G2:=hc
   unfold ah5 at hc
   simp only[Bool.and_eq_true,Bool.not_eq_true',List.all_eq_true] at hc
   obtain⟨⟨⟨ly,lE⟩,RT⟩,ER⟩:=hc
   have VR:=vl.1 RT
   have get:∀ i∈q,∃ oi,ops[i]?=some oi∧i<ops.size:=fun i hi=>by
    have h1:i<ops.size:=Nat.lt_of_lt_of_le (Nat.lt_succ_self _) (Nat.le_of_ble_eq_true (lE i hi).1.1.1)
    exact⟨ops[i],Array.getElem?_eq_getElem h1,h1⟩
   have unl:∀ i∈q,Nat.testBit L i=false:=fun i hi=>(lE i hi).1.1.2
   -- the first is ready
   obtain⟨i0,q0,rfl⟩:∃ i0 q0,q=i0::q0:=by
    cases q with
    |nil=>simp at ly
    |cons i0 q0=>exact⟨i0,q0,rfl⟩
   obtain⟨oi0,Hf,I'⟩:=get i0 (by simp)
   have hd0:=ER
   simp only[mA,Bool.and_eq_true] at hd0
   have hd1:=hd0.1
   rw[List.getElem?_map,Array.getElem?_toList,Hf] at hd1
   simp only[Option.map_some] at hd1
   obtain⟨_,_,_,_,hr0⟩:=facts i0 oi0 Hf (unl i0 (by simp)) (Nat.eq_of_beq_eq_true hd1) (Nat.eq_of_beq_eq_true (lE i0 (by simp)).1.2)
   refine⟨fun hx=>(by rw[hx] at hr0;cases hr0),fun j hj=>?_⟩
   obtain⟨j1,oj,og,j3⟩:=mem_ready.1 hj
   have tx:=(Array.getElem?_eq_some_iff.1 og).1
   have vm:∀ i∈i0::q0,j≠i→Nat.testBit (aQ i (ops.toList.map aZ) 0 0) j=false:=fun i hi lA=>by
    cases hw:Nat.testBit (aQ i (ops.toList.map aZ) 0 0) j with
    |false=>rfl
    |true=>
     exfalso
     obtain⟨oi,HW,Hu⟩:=get i hi
     obtain⟨w3,_,ws,wlt⟩:=RS i oi HW (Nat.eq_of_beq_eq_true (lE i hi).1.2)
     obtain⟨e,he,hbd,h6⟩:=ws j oj og hw lA
     have h7:=j3 e he hbd
     rw[hb.getD (wlt _ h6),w3 _ h6] at h7
     cases h7
   have hjq:j∈i0::q0:=by
    refine Classical.byContradiction fun hnj=>?_
    have hz:=Nat.eq_of_beq_eq_true (lE i0 (by simp)).2
    have h4:Nat.testBit (2^ops.size - 1^^^(aQ i0 (ops.toList.map aZ) 0 0|||L|||eo (i0::q0))) j=false:=by rw[hz];simp
    rw[Nat.testBit_xor,Nat.testBit_two_pow_sub_one,Nat.testBit_or,Nat.testBit_or,iM,vm i0 (by simp) (fun e=>hnj (by simp[e]))] at h4
    rw[hb.getD tx] at j1
    rw[j1] at h4
    simp[tx,hnj] at h4
   obtain⟨p,r,Y5⟩:=List.append_of_mem hjq
   rw[Y5] at G2 VR ER lE vm unl e hn
   clear hd0 hd1 hr0 hjq get
   have RU:∀ x∈p,∃ ox,ops[x]?=some ox∧Hr ops ox oj=true:=fun x hx=>by
    obtain⟨m,ox,oj',h1,h2,h3,h4,h5⟩:=(List.pairwise_append.1 VR).2.2 x hx j (by simp)
    rw[og] at h3
    injection h3 with h3
    subst h3
    refine⟨ox,h2,h5.resolve_left fun hm=>?_⟩
    rw[List.getElem?_map,Array.getElem?_toList,og] at h1
    simp only[Option.map_some,Option.some.injEq] at h1
    subst h1
    obtain⟨e,he,hbd,rfl⟩:=Cm hm
    have h7:=j3 e he hbd
    have hxl:=(Array.getElem?_eq_some_iff.1 h2).1
    rw[hb.getD hxl,unl _ (by simp[hx])] at h7
    cases h7
   simp only[fF] at e
   have e2:=HB hO.det og p r RU e
   unfold nw at e2
   rw[og] at e2
   simp only at e2
   cases gj:jY O ops S oj with
   |false=>rw[gj] at e2;cases e2
   |true=>
   rw[gj] at e2
   simp only[cond_true] at e2
   obtain⟨σ,h⟩:=h
   refine wpOp_mono (fun a' w' h'=>?_) (Dk hT hO h e2)
   obtain⟨⟨S',k1,k2⟩,k3⟩:=h'
   have hjn:j∉p++r:=fun hx=>by
    rw[List.pairwise_append,List.pairwise_cons] at VR
    rcases List.mem_append.1 hx with hx |hx
    ·obtain⟨_,_,_,_,_,_,h4,_⟩:=VR.2.2 j hx j (by simp);exact h4 rfl
    ·obtain⟨_,_,_,_,_,_,h4,_⟩:=VR.2.1.1 j hx;exact h4 rfl
   have Nv:L|||eo (p++j::r)=L|||2^j|||eo (p++r):=Nat.eq_of_testBit_eq fun k=>by
    rw[Nat.testBit_or,Nat.testBit_or,Nat.testBit_or,iM,iM,gQ]
    have hm:decide (k∈p++j::r)=(decide (j=k)||decide (k∈p++r)):=by
     rw[←Bool.decide_or]
     apply decide_eq_decide.2
     simp only[List.mem_append,List.mem_cons]
     constructor
     ·rintro(h |h |h)
      ·exact .inr (.inl h)
      ·exact .inl h.symm
      ·exact .inr (.inr h)
     ·rintro(h |h |h)
      ·exact .inr (.inl h.symm)
      ·exact .inl h
      ·exact .inr (.inr h)
    rw[hm,Bool.or_assoc]
   refine⟨fun had=>?_,?_⟩
   ·simp only[og] at had
    exact k3 oj og had
   ·have RV:fR hh.tab O ops (ops.toList.map aZ) (2^ops.size - 1) (L|||2^j|||eo (p++r)) t=true:=by rw[←Nv,←Y5];exact hot
    cases hpe:p++r with
    |nil=>
     rw[hpe] at k1 RV
     simp only[nw] at k1
     refine ih _ t (by simpa[eo] using RV) (hb.set tx) ?_ k1 k2
     simp only[OT.len,List.length_append,List.length_cons] at hn
     omega
    |cons z zs=>
     refine ih (L|||2^j) (.any (p++r) t) ?_ (hb.set tx) ?_ k1 k2
     ·simp only[fR,Bool.and_eq_true]
      refine⟨?_,RV⟩
      unfold ah5
      simp only[Bool.and_eq_true,Bool.not_eq_true',List.all_eq_true]
      refine⟨⟨⟨by rw[hpe];rfl,fun i hi=>?_⟩,vl.2 (VR.sublist (by simp))⟩,EP p r ER⟩
      have nj:i∈p++j::r:=by simp only[List.mem_append,List.mem_cons] at hi ⊢;exact hi.imp id .inr
      have n5:j≠i:=fun e=>hjn (by rw[e];exact hi)
      obtain⟨⟨⟨m1,m2⟩,m3⟩,m4⟩:=lE i nj
      refine⟨⟨⟨m1,?_⟩,?_⟩,?_⟩
      ·rw[Nat.testBit_or,m2,gQ];simp[n5]
      ·have hz:aQ i (ops.toList.map aZ) 0 0&&&(L|||2^j)=0:=Nat.eq_of_testBit_eq fun k=>by
        have hk:Nat.testBit (aQ i (ops.toList.map aZ) 0 0&&&L) k=false:=by rw[Nat.eq_of_beq_eq_true m3];simp
        rw[Nat.testBit_and] at hk
        rw[Nat.testBit_and,Nat.testBit_or,gQ,Nat.zero_testBit]
        by_cases hkj:j=k
        ·subst hkj
         rw[vm i nj n5]
         rfl
        ·simp only[hkj,decide_false,Bool.or_false]
         exact hk
       rw[hz];rfl
      ·have hz:=Nat.eq_of_beq_eq_true m4
       have:aQ i (ops.toList.map aZ) 0 0|||(L|||2^j)|||eo (p++r)=aQ i (ops.toList.map aZ) 0 0|||L|||eo (p++j::r):=by rw[Nat.or_assoc,←Nv,Nat.or_assoc]
       rw[this]
       exact m4
     ·simp only[OT.len,List.length_append,List.length_cons] at hn ⊢
      omega
  |par q ds t=>
   simp only[fR,Bool.and_eq_true] at ho
   obtain⟨hc,hot⟩:=ho
   have G2:=hc
   unfold ah6 at hc
   simp only[Bool.and_eq_true,Bool.not_eq_true',List.all_eq_true] at hc
   obtain⟨⟨⟨⟨ly,lE⟩,RT⟩,ER⟩,RW⟩:=hc
   have VR:=oa.1 RT
   have get:∀ i∈q,∃ oi,ops[i]?=some oi∧i<ops.size:=fun i hi=>by
    have h1:i<ops.size:=Nat.lt_of_lt_of_le (Nat.lt_succ_self _) (Nat.le_of_ble_eq_true (lE i hi).1.1.1)
    exact⟨ops[i],Array.getElem?_eq_getElem h1,h1⟩
   have unl:∀ i∈q,Nat.testBit L i=false:=fun i hi=>(lE i hi).1.1.2
   -- the first is ready
   obtain⟨i0,q0,rfl⟩:∃ i0 q0,q=i0::q0:=by
    cases q with
    |nil=>simp at ly
    |cons i0 q0=>exact⟨i0,q0,rfl⟩
   obtain⟨oi0,Hf,I'⟩:=get i0 (by simp)
   have hd0:=ER
   simp only[mA,Bool.and_eq_true] at hd0
   have hd1:=hd0.1
   rw[List.getElem?_map,Array.getElem?_toList,Hf] at hd1
   simp only[Option.map_some] at hd1
   obtain⟨hW3,hWi,hWs,I9,hr0⟩:=facts i0 oi0 Hf (unl i0 (by simp)) (Nat.eq_of_beq_eq_true hd1) (Nat.eq_of_beq_eq_true (lE i0 (by simp)).1.2)
   have side:∀ x∈i0::q0,∀ ox,ops[x]?=some ox→D1 ds ox=true∧pM ox.op=false:=fun x hx ox hox=>by
    have:=RW x hx
    rw[hox] at this
    simpa only[Bool.and_eq_true,Bool.not_eq_true'] using this
   -- those that wait for none that is ready
   have vm:∀ j,j∈Region.ready .any ops a6→∀ i∈i0::q0,j≠i→Nat.testBit (aQ i (ops.toList.map aZ) 0 0) j=false:=fun j hj i hi lA=>by
    obtain⟨j1,oj,og,j3⟩:=mem_ready.1 hj
    cases hw:Nat.testBit (aQ i (ops.toList.map aZ) 0 0) j with
    |false=>rfl
    |true=>
     exfalso
     obtain⟨oi,HW,Hu⟩:=get i hi
     obtain⟨w3,_,ws,wlt⟩:=RS i oi HW (Nat.eq_of_beq_eq_true (lE i hi).1.2)
     obtain⟨e,he,hbd,h6⟩:=ws j oj og hw lA
     have h7:=j3 e he hbd
     rw[hb.getD (wlt _ h6),w3 _ h6] at h7
     cases h7
   -- when one of them is done
   have tail:∀ (p r:List Nat) (j:Nat),i0::q0=p++j::r→j∈Region.ready .any ops a6→∀ {S':St} {a':Act} {w':World},(bif lB ds S' then nu hh O ops (p++r) S' (fun S1=>fF hh O ops t S1 K) else none)=some ret→Rel w0 W0 Z H S' a' w'→
     wpE P ops Q (fun j=>match ops[j]? with |some o=>C8 O o.op |none=>false) n (a6.setIfInBounds j true) a' w':=by
    intro p r j Y5 hjr S' a' w' k1 k2
    have tx:j<ops.size:=by
     obtain⟨_,oj,og,_⟩:=mem_ready.1 hjr
     exact(Array.getElem?_eq_some_iff.1 og).1
    have hnw:=vm j hjr
    rw[Y5] at VR ER lE RW hn hnw
    have hjn:j∉p++r:=fun hx=>by
     rw[List.pairwise_append,List.pairwise_cons] at VR
     rcases List.mem_append.1 hx with hx |hx
     ·obtain⟨_,_,_,_,h4,_⟩:=VR.2.2 j hx j (by simp);exact h4 rfl
     ·obtain⟨_,_,_,_,h4,_⟩:=VR.2.1.1 j hx;exact h4 rfl
    have Nv:L|||eo (p++j::r)=L|||2^j|||eo (p++r):=Nat.eq_of_testBit_eq fun k=>by
     rw[Nat.testBit_or,Nat.testBit_or,Nat.testBit_or,iM,iM,gQ]
     have hm:decide (k∈p++j::r)=(decide (j=k)||decide (k∈p++r)):=by
      rw[←Bool.decide_or]
      apply decide_eq_decide.2
      simp only[List.mem_append,List.mem_cons]
      constructor
      ·rintro(h |h |h)
       ·exact .inr (.inl h)
       ·exact .inl h.symm
       ·exact .inr (.inr h)
      ·rintro(h |h |h)
       ·exact .inr (.inl h.symm)
       ·exact .inl h
       ·exact .inr (.inr h)
     rw[hm,Bool.or_assoc]
    have RV:fR hh.tab O ops (ops.toList.map aZ) (2^ops.size - 1) (L|||2^j|||eo (p++r)) t=true:=by rw[←Nv,←Y5];exact hot
    cases hpe:p++r with
    |nil=>
     rw[hpe] at k1 RV
     simp only[nu] at k1
     cases hw1:lB ds S' with
     |false=>rw[hw1] at k1;cases k1
     |true=>
     rw[hw1] at k1
     simp only[cond_true] at k1
     refine ih _ t (by simpa[eo] using RV) (hb.set tx) ?_ k1 k2
     simp only[OT.len,List.length_append,List.length_cons] at hn
     omega
    |cons z zs=>
     refine ih (L|||2^j) (.par (p++r) ds t) ?_ (hb.set tx) ?_ k1 k2
     ·simp only[fR,Bool.and_eq_true]
      refine⟨?_,RV⟩
      unfold ah6
      simp only[Bool.and_eq_true,Bool.not_eq_true',List.all_eq_true]
      refine⟨⟨⟨⟨by rw[hpe];rfl,fun i hi=>?_⟩,oa.2 (VR.sublist (by simp))⟩,EP p r ER⟩,fun i hi=>RW i (by simp only[List.mem_append,List.mem_cons] at hi ⊢;exact hi.imp id .inr)⟩
      have nj:i∈p++j::r:=by simp only[List.mem_append,List.mem_cons] at hi ⊢;exact hi.imp id .inr
      have n5:j≠i:=fun e=>hjn (by rw[e];exact hi)
      obtain⟨⟨⟨m1,m2⟩,m3⟩,m4⟩:=lE i nj
      refine⟨⟨⟨m1,?_⟩,?_⟩,?_⟩
      ·rw[Nat.testBit_or,m2,gQ];simp[n5]
      ·have hz:aQ i (ops.toList.map aZ) 0 0&&&(L|||2^j)=0:=Nat.eq_of_testBit_eq fun k=>by
        have hk:Nat.testBit (aQ i (ops.toList.map aZ) 0 0&&&L) k=false:=by rw[Nat.eq_of_beq_eq_true m3];simp
        rw[Nat.testBit_and] at hk
        rw[Nat.testBit_and,Nat.testBit_or,gQ,Nat.zero_testBit]
        by_cases hkj:j=k
        ·subst hkj
         rw[hnw i nj n5]
         rfl
        ·simp only[hkj,decide_false,Bool.or_false]
         exact hk
       rw[hz];rfl
      ·rw[Bool.or_eq_true] at m4 ⊢
       refine m4.imp (fun m4=>?_) fun m4=>?_
       ·have:aQ i (ops.toList.map aZ) 0 0|||(L|||2^j)|||eo (p++r)=aQ i (ops.toList.map aZ) 0 0|||L|||eo (p++j::r):=by rw[Nat.or_assoc,←Nv,Nat.or_assoc]
        rw[this]
        exact m4
       ·unfold abC at m4 ⊢
        split at m4
        case h_2=>cases m4
        rename_i oi HW
        rw[Bool.and_eq_true] at m4 ⊢
        refine⟨m4.1,xC _ _ fun k ok hk aq0=>jE _ _ m4.2 k ok hk ?_⟩
        rw[Nat.testBit_xor,Nat.testBit_and,Nat.testBit_or,Nat.testBit_or] at aq0 ⊢
        rw[Nat.testBit_or] at aq0
        revert aq0
        cases Nat.testBit (2^ops.size - 1) (0+k)<;>cases Nat.testBit (aQ i (ops.toList.map aZ) 0 0) (0+k)<;>cases Nat.testBit L (0+k)<;>cases Nat.testBit (aZ oi) (0+k)<;>simp
     ·simp only[OT.len,List.length_append,List.length_cons] at hn ⊢
      omega
   simp only[fF] at e
   cases hwh:lB ds S with
   |false=>rw[hwh] at e;cases e
   |true=>
   rw[hwh] at e
   simp only[cond_true] at e
   rcases(Bool.or_eq_true _ _).mp (lE i0 (by simp)).2 with hz |hz
   rotate_left
   ·-- the first may always go first
    unfold abC at hz
    rw[Hf] at hz
    simp only[Bool.and_eq_true] at hz
    obtain⟨hq,RD⟩:=hz
    obtain⟨s1,s2⟩:=side i0 (by simp) oi0 Hf
    have e2:aT hh O ops i0 S (fun S1=>bif lB ds S1 then nu hh O ops ([]++q0) S1 (fun S1=>fF hh O ops t S1 K) else none)=some ret:=by
     simp only[nu] at e
     obtain⟨X,x1,x2,x3⟩:=u9 hO.det hwh Hf s1 s2 e
     rw[x1,x2]
     exact x3
    obtain⟨σ,h⟩:=h
    obtain⟨v,hy,S',k1,k2⟩:=Nu hT h Hf hq e2
    refine EN Hf (Region.noSelect_spec EM) (fun c a w hx=>absurd hx (Dl _ _ _)) (D:=fun j=>Nat.testBit (aQ i0 (ops.toList.map aZ) 0 0) j) hWi hWs n a6 a w (fun j hd=>?_) (fun j oj og hd G'=>?_) hr0 hy (tail [] q0 i0 rfl hr0 k1 k2)
    ·rw[hb.getD (I9 j hd)];exact hW3 j hd
    ·have tx:=(Array.getElem?_eq_some_iff.1 og).1
     refine jE ops.toList 0 RD j oj (by rw[Array.getElem?_toList];exact og) ?_
     rw[hb.getD tx] at G'
     try simp only at hd
     have haf:Nat.testBit (aZ oi0) j=false:=by
      cases hx:Nat.testBit (aZ oi0) j with
      |false=>rfl
      |true=>
       exfalso
       have h2:Nat.testBit (aZ oi0&&&L) j=true:=by rw[Nat.eq_of_beq_eq_true hd1];exact hx
       rw[Nat.testBit_and,hx,G'] at h2
       cases h2
     rw[Nat.zero_add,Nat.testBit_xor,Nat.testBit_and,Nat.testBit_two_pow_sub_one,Nat.testBit_or,Nat.testBit_or,hd,G',haf]
     simp[tx]
   refine⟨fun hx=>(by rw[hx] at hr0;cases hr0),fun j hj=>?_⟩
   obtain⟨j1,oj,og,j3⟩:=mem_ready.1 hj
   have tx:=(Array.getElem?_eq_some_iff.1 og).1
   have hjq:j∈i0::q0:=by
    refine Classical.byContradiction fun hnj=>?_
    have hz:=Nat.eq_of_beq_eq_true hz
    have h4:Nat.testBit (2^ops.size - 1^^^(aQ i0 (ops.toList.map aZ) 0 0|||L|||eo (i0::q0))) j=false:=by rw[hz];simp
    rw[Nat.testBit_xor,Nat.testBit_two_pow_sub_one,Nat.testBit_or,Nat.testBit_or,iM,vm j hj i0 (by simp) (fun e=>hnj (by simp[e]))] at h4
    rw[hb.getD tx] at j1
    rw[j1] at h4
    simp[tx,hnj] at h4
   obtain⟨p,r,Y5⟩:=List.append_of_mem hjq
   have RU:∀ x∈p,∃ ox,ops[x]?=some ox∧D1 ds ox=true∧pM ox.op=false∧(YE ds ox oj=true∨exB ox oj=true):=fun x hx=>by
    rw[Y5] at VR
    obtain⟨ox,oj',h2,h3,h4,h5⟩:=(List.pairwise_append.1 VR).2.2 x hx j (by simp)
    rw[og] at h3
    injection h3 with h3
    subst h3
    obtain⟨s1,s2⟩:=side x (by rw[Y5];simp[hx]) ox h2
    refine⟨ox,h2,s1,s2,h5.resolve_left fun hm=>?_⟩
    rw[vm j hj x (by rw[Y5];simp[hx]) (Ne.symm h4)] at hm
    cases hm
   have e':=e
   rw[Y5] at e'
   have e3:=HJ hO.det og p r hwh RU e'
   obtain⟨sj1,sj2⟩:=side j hjq oj og
   have e2:aT hh O ops j S (fun S1=>bif lB ds S1 then nu hh O ops (p++r) S1 (fun S1=>fF hh O ops t S1 K) else none)=some ret:=by
    obtain⟨X,x1,x2,x3⟩:=u9 hO.det hwh og sj1 sj2 e3
    rw[x1,x2]
    exact x3
   obtain⟨σ,h⟩:=h
   refine wpOp_mono (fun a' w' h'=>?_) (Dk hT hO h e2)
   obtain⟨⟨S',k1,k2⟩,k3⟩:=h'
   refine⟨fun had=>?_,tail p r j Y5 hj k1 k2⟩
   simp only[og] at had
   exact k3 oj og had
  |one i l=>
   simp only[fR,Bool.and_eq_true] at ho
   obtain⟨hc,ho⟩:=ho
   unfold abB at hc
   split at hc
   case h_2=>cases hc
   rename_i m oi hm HW
   have hi:i<ops.size:=(Array.getElem?_eq_some_iff.1 HW).1
   rw[List.getElem?_map,Array.getElem?_toList,HW] at hm
   simp only[Option.map_some,Option.some.injEq] at hm
   subst hm
   simp only[Bool.and_eq_true,Bool.not_eq_true'] at hc
   obtain⟨⟨⟨c1,c2⟩,c3⟩,c4⟩:=hc
   have c2:=Nat.eq_of_beq_eq_true c2
   have c3:=Nat.eq_of_beq_eq_true c3
   have Y8:l.len≤n:=by simp only[OT.len] at hn;omega
   obtain⟨hW3,hWi,hWs,I9,Ja⟩:=facts i oi HW c1 c2 c3
   rw[Bool.or_eq_true] at c4
   have M1:∀ j,j<ops.size→Nat.testBit (2^ops.size - 1^^^(aQ i (ops.toList.map aZ) 0 0|||L)) j=!(Nat.testBit (aQ i (ops.toList.map aZ) 0 0) j||Nat.testBit L j):=fun j hj=>by
    rw[Nat.testBit_xor,Nat.testBit_two_pow_sub_one,Nat.testBit_or]
    simp[hj]
   simp only[fF] at e
   obtain⟨σ,h⟩:=h
   by_cases c0:Nat.beq (2^ops.size - 1^^^(aQ i (ops.toList.map aZ) 0 0|||L)) 0=true
   ·have hz:=Nat.eq_of_beq_eq_true c0
    refine⟨fun hx=>(by rw[hx] at Ja;cases Ja),fun j hj=>?_⟩
    have lA:j=i:=by
     refine Classical.byContradiction fun lA=>?_
     obtain⟨h1,oj,h2,h3⟩:=mem_ready.1 hj
     have tx:=(Array.getElem?_eq_some_iff.1 h2).1
     have h4:=M1 j tx
     rw[hz,Nat.zero_testBit] at h4
     rw[hb.getD tx] at h1
     rw[h1] at h4
     have h5:Nat.testBit (aQ i (ops.toList.map aZ) 0 0) j=true:=by
      cases hx:Nat.testBit (aQ i (ops.toList.map aZ) 0 0) j with
      |true=>rfl
      |false=>rw[hx] at h4;cases h4
     obtain⟨e,he,hbd,h6⟩:=hWs j oj h2 h5 lA
     have h7:=h3 e he hbd
     rw[hb.getD (I9 _ h6),hW3 _ h6] at h7
     cases h7
    subst lA
    refine wpOp_mono (fun a' w' h'=>?_) (Dk hT hO h e)
    obtain⟨⟨S',k1,k2⟩,k3⟩:=h'
    refine⟨fun had=>?_,ih _ l ho (hb.set hi) Y8 k1 k2⟩
    simp only[HW] at had
    exact k3 oi HW had
   ·rw[Bool.or_eq_true] at c4
    rcases c4 with c4 |c4
    rotate_left
    ·rw[Bool.and_eq_true] at c4
     obtain⟨hq,RD⟩:=c4
     obtain⟨v,hy,S',k1,k2⟩:=Nu hT h HW hq e
     refine EN HW (Region.noSelect_spec EM) (fun c a w hx=>absurd hx (Dl _ _ _)) (D:=fun j=>Nat.testBit (aQ i (ops.toList.map aZ) 0 0) j) hWi hWs n a6 a w (fun j hd=>?_) (fun j oj og hd G'=>?_) Ja hy (ih _ l ho (hb.set hi) Y8 k1 k2)
     ·rw[hb.getD (I9 j hd)];exact hW3 j hd
     ·have tx:=(Array.getElem?_eq_some_iff.1 og).1
      have h4:=M1 j tx
      rw[hb.getD tx] at G'
      try simp only at hd
      rw[hd,G'] at h4
      exact jE ops.toList 0 RD j oj (by rw[Array.getElem?_toList];exact og) (by rw[Nat.zero_add];exact h4)
    have c4:=c4.resolve_left c0
    rw[Bool.and_eq_true,Bool.and_eq_true,Bool.not_eq_true'] at c4
    obtain⟨hq,hn0,RD⟩:=c4
    obtain⟨v,hy,S',k1,k2⟩:=acG hT h HW hq hn0 e
    refine Y7 HW (Region.noSelect_spec EM) (fun c a w hx=>absurd hx (Dl _ _ _)) (D:=fun j=>Nat.testBit (aQ i (ops.toList.map aZ) 0 0) j) hWi hWs n a6 a w (fun j hd=>?_) (fun j oj og hd G'=>?_) Ja hy (ih _ l ho (hb.set hi) Y8 k1 k2)
    ·rw[hb.getD (I9 j hd)];exact hW3 j hd
    ·have tx:=(Array.getElem?_eq_some_iff.1 og).1
     have h4:=M1 j tx
     rw[hb.getD tx] at G'
     try simp only at hd
     rw[hd,G'] at h4
     have:=uz ops.toList 0 RD j oj (by rw[Array.getElem?_toList];exact og) (by rw[Nat.zero_add];exact h4)
     simp only[og]
     exact this
theorem air (hT:cP P hh.tab=true) (hO:rh Γ P O w0 W0) (hQ:∀ a w,I7 w0 W0 Z H K ret a w→Q .normal a w) (Dl:∀ c a w,¬Q (.panic c) a w) {l:OT} (hl:aqz hh.tab O ops l=true) {S:St} {a:Act} {w:World} (e:fF hh O ops l S K=some ret) (h:Rel w0 W0 Z H S a w):
  wpAny P .any ops Q ops.size (Array.replicate ops.size false) a w:=by
 unfold aqz at hl
 rw[Bool.and_eq_true,Bool.and_eq_true] at hl
 obtain⟨⟨EM,hlen⟩,ho⟩:=hl
 have hb:He ops (Array.replicate ops.size false) 0:=⟨by simp,fun j hj=>by simp[hj]⟩
 exact VQ _ (acH hT hO hQ Dl EM ops.size 0 l ho hb (Nat.le_of_ble_eq_true hlen) e h)
end Go.Pv
