/- A verified evaluator of the program's form over pure values, part 3: what it tells of a function holds. -/
import Derived.Test.YtcpakhaogbempaaGreatPv2
import Derived.OrdersHeld
namespace Go.Pv
set_option linter.unusedVariables false
set_option linter.unusedSimpArgs false
variable {P:Program} {w w':World} {A A' Wr:Nat→Prop} {H:Nat→Value} {tm rC:Nat→Value} {S S' S1:St} {σ bF dS:Nat→Option Nat} {w0:World} {W0 Z:Nat→Prop} {a:Act} {own:Nat→Prop} {v:Value} {Θ:da} {dst:Option Nat}
theorem aW.setAt (h:aW σ w0 W0 Z H S a w) {i:Nat} {av:AV} (ud:∀ j,j≠i→(S.at j).refs i=false) (hv:Holds w (Av σ Z) H (bR a) (S.set i av) (fun g=>σ g=some i) av (bR a i)):
  aW σ w0 W0 Z H (S.set i av) a w:=by
 refine⟨by rw[List.length_set];exact h.len,h.defers,h.fr,h.new,h.lt,h.old,fun j=>?_⟩
 rw[cN]
 by_cases hj:j=i∧i<S.length
 ·rw[if_pos hj,hj.1]
  exact hv
 ·rw[if_neg hj]
  by_cases kS:j=i
  ·have:S.at j=.dead:=Classical.byContradiction fun hx=>hj ⟨kS,by rw[←kS];exact eA hx⟩
   rw[this]
   trivial
  ·refine(h.holds j).kept (aO.refl _ _) (fun g hg _=>⟨rfl,hg⟩) (fun s hs=>?_)
   have hsi:s≠i:=fun e=>by subst e;rw[ud j kS] at hs;cases hs
   exact⟨fun r ex hr=>by rw[cN,if_neg (fun e=>hsi e.1)];exact hr,rfl,_,h.holds s,fun _ _ _=>rfl⟩
theorem aW.part (h:aW σ w0 W0 Z H S a w) {i:Nat} (hi:∀ r ex,S.at i≠ .v r ex) (hl:i<S.length) {Q:Nat→Prop} {av:AV} (hv:Holds w (Av σ Z) H (bR a) (S.set i av) (fun g=>σ g=some i∧ ¬Q g) av (bR a i)):
  ∃ bF,aW bF w0 W0 Z H (S.set i av) a w∧gm σ bF S.length (fun g=>σ g=some i∧Q g):=by
 let bF:Nat→Option Nat:=fun g=>open Classical in if σ g=some i∧Q g then some S.length else σ g
 have hs:∀ g j,bF g=some j→∃ k,σ g=some k:=fun g j hg=>by
  simp only[bF] at hg
  split at hg
  ·rename_i hx;exact⟨i,hx.1⟩
  ·exact⟨j,hg⟩
 have nV:∀ g j,σ g=some j→¬(σ g=some i∧Q g)→bF g=some j:=fun g j hg hn=>by simp only[bF,if_neg hn,hg]
 have bO:aO w w (Av σ Z) (Av bF Z):=⟨fun _ _ _=>rfl,fun g _ hg=>by
  rcases hg with⟨j,hg⟩ |hg
  ·exact .inl (hs g j hg)
  ·exact .inr hg⟩
 refine⟨bF,⟨by rw[List.length_set];exact h.len,h.defers,h.fr,fun g j hg=>(hs g j hg).elim fun k hk=>h.new g k hk,fun g j hg=>(hs g j hg).elim fun k hk=>h.lt g k hk,fun g hg=>⟨?_,(h.old g hg).2⟩,fun j=>?_⟩,?_⟩
 ·simp only[bF]
  rw[if_neg (fun hx=>by rw[(h.old g hg).1] at hx;cases hx.1)]
  exact(h.old g hg).1
 ·rw[cN]
  by_cases hj:j=i
  ·rw[if_pos ⟨hj,hl⟩,hj]
   exact hv.kept bO (fun g hg _=>⟨rfl,nV g i hg.1 (fun hx=>hg.2 hx.2)⟩) (fun s _=>⟨fun _ _ h=>h,rfl,by
    by_cases hsi:s=i
    ·subst hsi
     rw[cN,if_pos ⟨rfl,hl⟩]
     exact⟨_,hv,fun _ _ _=>rfl⟩
    ·rw[cN,if_neg (fun e=>hsi e.1)]
     refine⟨_,(h.holds s).kept (aO.refl _ _) (fun g hg _=>⟨rfl,hg⟩) (fun s1 hs1=>⟨fun r ex hr=>?_,rfl,_,h.holds s1,fun _ _ _=>rfl⟩),fun _ _ _=>rfl⟩
     by_cases auS:s1=i
     ·subst auS;exact absurd hr (hi r ex)
     ·rw[cN,if_neg (fun e=>auS e.1)];exact hr⟩)
  ·rw[if_neg (fun e=>hj e.1)]
   refine(h.holds j).kept bO (fun g hg _=>⟨rfl,nV g j hg (fun hx=>hj (by rw[hx.1] at hg;injection hg with hg;exact hg.symm))⟩) (fun s hs1=>⟨fun r ex hr=>?_,rfl,_,h.holds s,fun _ _ _=>rfl⟩)
   by_cases hsi:s=i
   ·subst hsi;exact absurd hr (hi r ex)
   ·rw[cN,if_neg (fun e=>hsi e.1)];exact hr
 ·refine⟨fun g hg=>⟨i,hl,hg.1⟩,fun g hg=>⟨_,Nat.le_refl _,by simp only[bF,if_pos hg]⟩,fun g j hg hj=>?_,fun g=>⟨fun⟨j,hg⟩=>hs g j hg,fun⟨j,hg⟩=>?_⟩,fun g j hg hj=>nV g j hg (fun hx=>?_)⟩
  ·simp only[bF] at hg
   split at hg
   ·injection hg with hg;omega
   ·exact hg
  ·simp only[bF]
   split
   ·exact⟨_,rfl⟩
   ·exact⟨j,hg⟩
  ·rw[hx.1] at hg
   injection hg with hg
   omega
theorem gY.still {s:Sem Next} (hr:∀ w2,s.run P w2=.ok (.value v) w2) (h:gY P w0 W0 Z H S' a dst w s):mv P w0 W0 Z H S' a dst w s:=by
 obtain⟨v',h1,h2⟩:=h
 have:=(h1 w (Ext.refl w)).symm.trans (hr w)
 injection this with this
 injection this with this
 subst this
 exact⟨_,hr,h2⟩
theorem Ez (h:aW σ w0 W0 Z H S a w) {o:Oper} {x:Operand} {j:Nat} (ho:o.op=.extract x j) (e:fQ S o.dst x j=some (true,S')):mv P w0 W0 Z H S' a o.dst w (execOp a.eval o):=by
 unfold fQ at e
 split at e
 case h_2=>cases e
 rename_i i
 split at e
 case h_2=>cases e
 rename_i l hl
 split at e
 case h_2=>cases e
 rename_i b hb
 have hh:=h.holds i
 rw[hl] at hh
 obtain⟨vs,τ,hv,hlen,u6⟩:=hh
 have hbj:l[j]?=some (some b):=by
  rw[List.getD_eq_getElem?_getD] at hb
  cases hq:l[j]? with
  |none=>rw[hq] at hb;cases hb
  |some q=>rw[hq] at hb;simp only[Option.getD_some] at hb;rw[hb]
 obtain⟨u,cs,hu,hm,hM⟩:=u6 j b hbj
 have b7:∀ w2,(execOp a.eval o).run P w2=.ok (.value u) w2:=fun w2=>by
  have:a.eval (.tmp i)=.tuple vs.toArray:=hv
  simp[execOp,ho,this,Instr.extract,hu]
 cases hk:b.m.bH with
 |true=>
  rw[hk] at e
  simp only[cond_true,Option.some.injEq,Prod.mk.injEq,true_and] at e
  subst e
  exact b6 h b7 ⟨cs,hm,nX hk (fJ _ hk hM)⟩
 |false=>
  rw[hk] at e
  simp only[cond_false] at e
  split at e
  case h_2=>cases e
  rename_i d hd
  cases Q8:Nat.beq d i with
  |true=>rw[Q8] at e;cases e
  |false=>
  rw[Q8] at e
  simp only[cond_false,Option.some.injEq,Prod.mk.injEq,true_and] at e
  subst e
  rw[←hd]
  have Hv:i<S.length:=eA (by rw[hl];exact fun e=>by cases e)
  obtain⟨bF,h1,QN⟩:=h.part (i:=i) (fun r ex=>by rw[hl];exact fun e=>by cases e) Hv (Q:=fun g=>τ g=j) (av:=.ua (l.set j none)) ⟨vs,τ,hv,by rw[List.length_set];exact hlen,fun k b' fo=>by
   rw[List.getElem?_set] at fo
   split at fo
   ·split at fo<;>cases fo
   ·rename_i I1
    obtain⟨u',cI,c1,c2,c3⟩:=u6 k b' fo
    exact⟨u',cI,c1,c2,aH (aO.refl _ _) _ (fun _ _ _=>rfl) (fun g hg _=>⟨⟨hg.1,fun hx=>I1 (by rw[←hx,hg.2])⟩,hg.2⟩) (fun _ h=>h) c3⟩⟩
  exact gY.still (v:=u) b7 (oh (n:=S.length) h1 QN (List.length_set) (fun w2 _=>b7 w2) hm (aH (aO.refl _ _) _ (fun _ _ _=>rfl) (fun g hg _=>hg) (fun _ h=>h) hM))
theorem abN (S:St) (d:Nat) (b:TV) (ex:List Path) (i:Nat) (hi:∀ j,(S.at j).refs i=false) (j:Nat):((S.put (some d) (.v b ex)).at j).refs i=false:=by
 rw[dL]
 split
 ·simp[AV.refs]
 ·cases hr:(S.at j).refs d&&(S.at d).zM with
  |true=>simp[AV.refs]
  |false=>exact hi j
theorem YG (S:St) (i:Nat) (hv:(S.at i).zM=true) (j:Nat):((S.put (some i) .dead).at j).refs i=false:=by
 rw[dL]
 split
 ·simp[AV.refs]
 ·rw[hv,Bool.and_true]
  cases hr:(S.at j).refs i with
  |true=>simp[AV.refs]
  |false=>exact hr
theorem YH (h:aW σ w0 W0 Z H S a w) {o:Oper} {x:Operand} (ho:o.op=.assign x) (e:DP Θ S o.dst o.type x=some (true,S')):gY P w0 W0 Z H S' a o.dst w (execOp a.eval o):=by
 have b7:∀ w2,Ext w w2→(execOp a.eval o).run P w2=.ok (.value (a.eval x)) w2:=fun w2 _=>by simp only[execOp,ho];rfl
 unfold DP at e
 split at e
 case h_2=>
  split at e
  ·injection e with e
   injection e with _ e
   subst e
   exact cn h b7 trivial
  ·cases e
 rename_i av dG
 have hh:=bu h dG
 split at e
 ·-- a value of a temporary
  rename_i d i b ex hd
  cases hk:b.m.bH with
  |true=>
   rw[hk] at e
   simp only[cond_true,Option.some.injEq,Prod.mk.injEq,true_and] at e
   subst e
   obtain⟨cs,h1,h2⟩:=hh
   exact cn h b7 ⟨cs,h1,nX hk (fJ _ hk h2)⟩
  |false=>
   rw[hk] at e
   simp only[cond_false] at e
   split at e
   case h_2=>cases e
   cases Q8:(Nat.beq d i|| !Nat.blt d S.length) with
   |true=>rw[Q8] at e;cases e
   |false=>
   rw[Q8] at e
   simp only[cond_false,Option.some.injEq,Prod.mk.injEq,true_and] at e
   subst e
   simp only[Bool.or_eq_false_iff,Bool.not_eq_false'] at Q8
   have auT:d≠i:=fun e=>by rw[e,Nat.beq_refl] at Q8;cases Q8.1
   have G':d<S.length:=Nat.lt_of_succ_le (Nat.le_of_ble_eq_true Q8.2)
   obtain⟨cs,h1,h2⟩:=hh
   simp only[St.dR,Option.some.injEq] at dG
   have Hv:i<S.length:=eA (by rw[dG];exact fun e=>by cases e)
   have hp:=h.jS i
   have hk:gm σ (jS σ S.length i) S.length (aoN σ (.tmp i)):=gm.jS σ Hv (fun g hg=>by obtain⟨j,hj,hg⟩:=hg;injection hj with hj;subst hj;exact hg)
   obtain⟨v2,hr2,dS,h3⟩:=oh (P:=P) (dst:=some d) (n:=S.length) hp hk (bV _ _ _) b7 h1 h2
   have MI:=hr2 w (Ext.refl w)
   rw[b7 w (Ext.refl w)] at MI
   injection MI with e1 e2
   injection e1 with e1
   subst e1
   refine⟨a.eval (.tmp i),b7,dS,?_⟩
   rw[hd]
   refine h3.setAt (fun j _=>abN _ d b [] i (YG S i (by rw[dG];rfl)) j) ?_
   have htm:bR (a.put (some d) (a.eval (.tmp i))) i=bR a i:=by rw[zS,if_neg (fun e=>auT e.1.symm)]
   have htd:bR (a.put (some d) (a.eval (.tmp i))) d=bR a i:=by rw[zS,if_pos ⟨rfl,by rw[←h.len];exact G'⟩];rfl
   refine⟨b,cs,cs,⟨⟨[],?_,fun q hq=>by simp at hq⟩,trivial,⟨b,rfl,rfl⟩,by rw[htd];exact h1⟩,rfl,by rw[htm];exact h1⟩
   rw[cN,if_neg (fun e=>auT e.1),dL,if_pos ⟨rfl,by rw[bV];exact G'⟩]
   rfl
 ·-- another value
  rename_i b ex nM
  cases hk:b.m.bH with
  |true=>
   rw[hk] at e
   simp only[cond_true,Option.some.injEq,Prod.mk.injEq,true_and] at e
   subst e
   obtain⟨cs,h1,h2⟩:=hh
   exact cn h b7 ⟨cs,h1,nX hk (fJ _ hk h2)⟩
  |false=>
   rw[hk] at e
   simp only[cond_false] at e
   split at e
   case h_2=>cases e
   simp only[Option.some.injEq,Prod.mk.injEq,true_and] at e
   subst e
   obtain⟨cs,h1,h2⟩:=hh
   exact cn h b7 ⟨cs,h1,aH (aO.refl _ _) _ (fun _ _ _=>rfl) (fun g hg _=>by obtain⟨i,hi,_⟩:=hg;cases hi) (fun _ h=>h) h2⟩
 ·rename_i d t s hd
  cases zT:Nat.beq s d with
  |true=>rw[zT] at e;cases e
  |false=>
   rw[zT] at e
   simp only[cond_false,Option.some.injEq,Prod.mk.injEq,true_and] at e
   subst e
   exact cn h b7 hh
 ·rename_i d f c hd
  cases zT:AV.refs d (.lE f c) with
  |true=>rw[zT] at e;cases e
  |false=>
   rw[zT] at e
   simp only[cond_false,Option.some.injEq,Prod.mk.injEq,true_and] at e
   subst e
   exact cn h b7 hh
 ·simp only[Option.some.injEq,Prod.mk.injEq,true_and] at e
  subst e
  exact cn h b7 hh
 ·split at e
  case h_2=>cases e
  rename_i b S1 hb
  simp only[Option.some.injEq,Prod.mk.injEq,true_and] at e
  subst e
  obtain⟨bF,cs,ow,h1,hm,hM,hk,hn⟩:=eN h dG hb
  exact oh h1 hk hn b7 hm hM
end Go.Pv
namespace Go.Pv
set_option linter.unusedVariables false
set_option linter.unusedSimpArgs false
variable {P:Program} {w w':World} {A A' Wr:Nat→Prop} {H:Nat→Value} {tm rC:Nat→Value} {S S' S1:St} {σ bF dS:Nat→Option Nat} {w0:World} {W0 Z:Nat→Prop} {a:Act} {own:Nat→Prop} {v:Value} {Θ:da} {dst:Option Nat}
theorem abO {t:Ty} (h:isAgg t=false):t.size=1:=by cases t<;>simp[isAgg] at h<;>rfl
theorem abP (hT:cM P Θ=true) (h:aW σ w0 W0 Z H S a w) {o:Oper} {T:TypeId} {x:Operand} {f:Nat} (ho:o.op=.field T x f) (e:IE Θ S o.dst T x f=some (true,S')):gY P w0 W0 Z H S' a o.dst w (execOp a.eval o):=by
 unfold IE at e
 split at e
 case h_2=>cases e
 rename_i b ex i dG hi
 cases hc:(Nat.blt f i.fs.length&&decide (i.ty=b.t)) with
 |false=>rw[hc] at e;cases e
 |true=>
 rw[hc] at e
 simp only[cond_true] at e
 simp only[Bool.and_eq_true,decide_eq_true_eq] at hc
 obtain⟨cf,fw⟩:=hc
 have cf:f<i.fs.length:=Nat.lt_of_succ_le (Nat.le_of_ble_eq_true cf)
 split at e
 case h_2=>cases e
 rename_i j
 split at e
 case h_2=>cases e
 rename_i c hg
 simp only[St.dR,Option.some.injEq] at dG
 have hh:=h.holds j
 rw[dG] at hh
 obtain⟨cs,hm,hM⟩:=hh
 obtain⟨_,hu,hT0⟩:=cO hT hi
 have hp:=iS f i.fs.length
 obtain⟨pa,pb,hpp⟩:=xn (abu cf) hp hg
 obtain⟨fs,f1,f2,f3,_⟩:=mu hu (fw.trans hpp)
 rw[hT0] at f1
 have B7:fs.toList.length=i.fs.length:=by rw[←f2,List.length_map]
 have Yz:fs.size=i.fs.length:=by rw[←B7,Array.length_toList]
 obtain⟨fd,hfd⟩:∃ fd,fs[f]?=some fd:=⟨_,Array.getElem?_eq_getElem (by omega)⟩
 obtain⟨t,t1,t2,t3,_⟩:=iQ f3 f fd (by rw[Array.getElem?_toList];exact hfd)
 rw[Nat.zero_add,Yz,fw] at t1 t3
 have hct:c.t=t:=by
  have:=pI _ hp hg
  rw[t1] at this
  injection this with this
  exact this.symm
 subst hct
 obtain⟨hlen,aih⟩:=eH _ hM
 have w6:=eo _ hp hg
 have I2:aN w (m7 f i.fs.length) b.t cs=some ((cs.drop (aK (m7 f i.fs.length) b.t)).take c.t.size):=eI _ hp hg hlen
 obtain⟨v,hv,b7⟩:∃ v,an c.t v ((cs.drop (aK (m7 f i.fs.length) b.t)).take c.t.size)∧∀ w2,Ext w w2→(execOp a.eval o).run P w2=.ok (.value v) w2:=by
  have jk:a.eval (.tmp j)=.agg cs.toArray:=by
   unfold an at hm
   rw[if_pos (by rw[hpp];rfl)] at hm
   exact hm
  have Q5:=Rg hT t2
  obtain⟨inf,s1,s2,_⟩:=iy hT t2
  have hso:∀ w2,(sizeOf fd.type).run P w2=.ok c.t.size w2:=fun w2=>by simp[sizeOf,typeInfo,s1,s2]
  cases hca:isAgg c.t with
  |true=>
   refine⟨.agg (cs.toArray.extract (aK (m7 f i.fs.length) b.t) (aK (m7 f i.fs.length) b.t+c.t.size)),?_,fun w2 _=>?_⟩
   ·unfold an
    rw[if_pos hca]
    congr 1
    apply Array.toList_inj.1
    rw[Array.toList_extract,List.toList_toArray,List.toList_toArray,List.extract_eq_drop_take']
    rw[List.drop_take,Nat.add_sub_cancel_left]
   ·rw[hca] at Q5
    have abQ:(part fd.type cs.toArray fd.offset).run P w2=.ok (.agg (cs.toArray.extract (aK (m7 f i.fs.length) b.t) (aK (m7 f i.fs.length) b.t+c.t.size))) w2:=by
     unfold part
     simp only[Sem.run_bind,Q5,Result.andThen_ok,if_true,hso,t3]
     rfl
    simp only[execOp,ho,jk,Instr.field,Sem.run_bind,run_underlying f1,Result.andThen_ok,hfd,asAgg,Sem.run_pure,abQ]
  |false=>
   have h1:=abO hca
   have Rh:aK (m7 f i.fs.length) b.t<cs.length:=by omega
   refine⟨cs[aK (m7 f i.fs.length) b.t],?_,fun w2 _=>?_⟩
   ·unfold an
    rw[if_neg (by rw[hca];exact Bool.false_ne_true),h1,List.drop_eq_getElem_cons Rh,List.take_succ_cons,List.take_zero]
   ·rw[hca] at Q5
    have abQ:(part fd.type cs.toArray fd.offset).run P w2=.ok (cs[aK (m7 f i.fs.length) b.t]) w2:=by
     unfold part
     simp only[Sem.run_bind,Q5,Result.andThen_ok,if_neg Bool.false_ne_true,t3]
     rw[List.getElem?_toArray,List.getElem?_eq_getElem Rh]
     rfl
    simp only[execOp,ho,jk,Instr.field,Sem.run_bind,run_underlying f1,Result.andThen_ok,hfd,asAgg,Sem.run_pure,abQ]
 have hvalid:=gZ _ hp hg
 cases hk:c.m.bH with
 |true=>
  rw[hk] at e
  simp only[cond_true] at e
  split at e
  case h_2=>cases e
  simp only[Option.some.injEq,Prod.mk.injEq,true_and] at e
  subst e
  obtain⟨cI,cA,k1,k2,k3⟩:=focus _ hM (fun q hq=>by simp at hq) hvalid hg
  rw[I2] at k1
  injection k1 with k1
  subst k1
  exact cn h b7 ⟨_,hv,fW _ (fJ _ hk k3)⟩
 |false=>
  rw[hk] at e
  simp only[cond_false] at e
  split at e
  case h_2=>cases e
  rename_i c' B6
  simp only[Option.some.injEq,Prod.mk.injEq,true_and] at e
  subst e
  obtain⟨r,Dj,q1,q2,q3⟩:=dM B6
  rw[dG] at q1
  injection q1 with q1 Eh
  subst q1 Eh
  exact cn h b7 ⟨b,cs,_,⟨⟨ex,dG,eM q2⟩,hvalid,⟨c,hg,rfl⟩,hm⟩,I2,hv⟩
theorem Cb (h:aW σ w0 W0 Z H S a w):∀ {xs:List Operand} {l:List ID},DR S xs=some l→xs.length=l.length∧∀ (j:Nat) (c:ID),l[j]?=some c→∃ u,(xs.map a.eval)[j]?=some u∧mo w (Av σ Z) (bR a) S c u
 |[],l,e=>by
  simp only[DR,Option.some.injEq] at e
  subst e
  exact⟨rfl,fun j c hj=>by simp at hj⟩
 |x::xs,l,e=>by
  simp only[DR] at e
  split at e
  case h_2=>cases e
  rename_i c l2 hc hl
  simp only[Option.some.injEq] at e
  subst e
  obtain⟨h1,h2⟩:=Cb h hl
  refine⟨by simp[h1],fun j c' hj=>?_⟩
  cases j with
  |succ j=>simpa using h2 j c' (by simpa using hj)
  |zero=>
   simp only[List.getElem?_cons_zero,Option.some.injEq] at hj
   subst hj
   refine⟨a.eval x,rfl,?_⟩
   unfold aoJ at hc
   split at hc
   case h_2=>cases hc
   rename_i i
   have hh:=h.holds i
   split at hc
   ·rename_i t T tag me y ex dx
    injection hc with hc
    subst hc
    rw[dx] at hh
    obtain⟨cs,h1,h2⟩:=hh
    exact⟨_,cs,cs,⟨⟨ex,dx,fun q _ s r e=>by cases q<;>simp at e⟩,trivial,⟨_,rfl,rfl⟩,h1⟩,rfl,h1⟩
   ·rename_i t y ex dx
    injection hc with hc
    subst hc
    rw[dx] at hh
    obtain⟨cs,h1,h2⟩:=hh
    have h1':cs=[bR a i]:=by simpa[an,isAgg] using h1
    subst h1'
    simp only[M] at h2
    rcases h2 with⟨_,hx,_⟩ |⟨_,h2⟩ |⟨T,tag,me,g,cur,hx,_⟩
    ·simp[Md.bH] at hx
    ·exact h2
    ·cases hx
   ·rename_i t s p dx
    injection hc with hc
    subst hc
    rw[dx] at hh
    exact hh
   ·cases hc
theorem Na (h:aW σ w0 W0 Z H S a w) {o:Oper} {f:FuncId} {first cq:Array Operand} (ho:o.op=.makeFunc (.func f) first cq) (e:uS S o.dst f first.toList cq.toList=some (true,S')):gY P w0 W0 Z H S' a o.dst w (execOp a.eval o):=by
 unfold uS at e
 split at e
 case h_2=>cases e
 rename_i l hf hl
 split at e
 case h_2=>cases e
 rename_i d hd
 cases hr:AV.refs d (.lE f l) with
 |true=>rw[hr] at e;cases e
 |false=>
 rw[hr] at e
 simp only[cond_false,Option.some.injEq,Prod.mk.injEq,true_and] at e
 subst e
 obtain⟨h1,h2⟩:=Cb h hl
 have hfe:first=#[]:=by
  apply Array.toList_inj.1
  rw[hf]
 refine cn (v:=.func (.func f) #[] (cq.map a.eval)) h (fun w2 _=>by simp[execOp,ho,Instr.makeFunc,hfe]) ⟨cq.toList.map a.eval,?_,by rw[List.length_map,h1],h2⟩
 congr 1
 apply Array.toList_inj.1
 simp
theorem Nb (h:aW σ w0 W0 Z H S a w) {o:Oper} {x:Operand} (ho:o.op=.move x) (e:pk Θ S o.dst o.type x=some (true,S')):mv P w0 W0 Z H S' a o.dst w (execOp a.eval o):=by
 by_cases hnt:∃ l,S.dR Θ o.type x=some (.ua l)
 rotate_left
 ·exact aib h ho (fun l hl=>hnt ⟨l,hl⟩) e
 obtain⟨l,hl⟩:=hnt
 unfold pk at e
 rw[hl] at e
 simp only at e
 split at e
 case h_2=>cases e
 rename_i d i hd
 cases hc:(Nat.beq d i|| !Nat.blt d S.length) with
 |true=>rw[hc] at e;cases e
 |false=>
  rw[hc] at e
  simp only[cond_false,Option.some.injEq,Prod.mk.injEq,true_and] at e
  subst e
  have dx:S.at i=.ua l:=by simpa[St.dR] using hl
  have hh:=h.holds i
  rw[dx] at hh
  obtain⟨vs,τ,h1,h2,h3⟩:=hh
  refine⟨bR a i,fun w2=>by simp only[execOp,ho];rfl,?_⟩
  rw[hd]
  have hp:=h.jS i
  have hgo:=hp.Ve (dst:=some d) (v:=bR a i) (av:=.ua l) (ow:=fun g=>σ g=some i) (w':=w) (Nat.le_refl _) (fun _ _ _=>rfl) h.fr (fun g hg=>⟨h.lt g i hg,.inl ⟨S.length,by rw[bV];exact Nat.le_refl _,by unfold jS;rw[if_pos hg]⟩⟩) (fun d' U6 q1 q2=>?_)
  ·exact⟨_,hgo⟩
  ·refine⟨vs,τ,h1,h2,fun j b hb=>?_⟩
   obtain⟨u,cs,u1,u2,u3⟩:=h3 j b hb
   refine⟨u,cs,u1,u2,aH ⟨fun _ _ _=>rfl,fun g hg hx=>?_⟩ _ (fun _ _ _=>rfl) (fun g hg _=>⟨q1 g hg.1,hg.2⟩) (fun _ h=>h) u3⟩
   rcases q2 g hx with q |q
   ·exact Vc.1 q
   ·exact .inl ⟨i,q⟩
theorem abR (hT:cM P Θ=true) (h:aW σ w0 W0 Z H S a w) {hn:Hn} {o:Oper} (hq:quiet o.op=true) (e:ev Θ hn S o=some (true,S')):gY P w0 W0 Z H S' a o.dst w (execOp a.eval o):=by
 unfold ev at e
 split at e
 case h_1 x ho=>exact(Nb h ho e).q
 case h_2 x ho=>exact YH h ho e
 case h_3 c x y ho=>exact aic h ho e
 case h_4 T ho=>rw[ho] at hq;cases hq
 case h_5 T x ho=>rw[ho] at hq;cases hq
 case h_6 T ps ho=>exact abF hT h ho e
 case h_7 T n ps ho=>rw[ho] at hq;cases hq
 case h_8 T x ho=>exact aid hT h ho e
 case h_9 T x y ho=>rw[ho] at hq;cases hq
 case h_10 x ho=>exact MW h ho e
 case h_11 T x f ho=>exact(xo hT h ho e).q
 case h_12 T x f ho=>exact abP hT h ho e
 case h_13 T x ix ho=>exact(xp hT h ho e).q
 case h_14 T x ix ho=>exact abp hT h ho e
 case h_15 x j ho=>exact(Ez h ho e).q
 case h_16 T x lo hi mx ho=>exact(MY hT h ho e).q
 case h_17 T T' x ho=>exact MS hT h ho e
 case h_18 op T x y p ho=>exact(abo hT h ho e).q
 case h_19 op T x ho=>exact auG h ho e
 case h_20 T l c ho=>rw[ho] at hq;cases hq
 case h_21 f first cq ho=>exact Na h ho e
 case h_22 as ts ho=>exact(abq hT h ho e).q
 case h_23 as ts ho=>rw[ho] at hq;cases hq
 case h_24=>cases e
def Rq:Op→Bool
 | .extract ..=>true | .indexAddr ..=>true | .binOp ..=>true | .slice ..=>true | .move _=>true | .convert ..=>true | .fieldAddr ..=>true | .call { callee:=.builtin .len,.. }=>true |_=>false
theorem aqx (hT:cM P Θ=true) (h:aW σ w0 W0 Z H S a w) {hn:Hn} {o:Oper} (hq:Rq o.op=true) (HB:(match o.op with
 | .convert _ T' _=>(match Θ.find T' with
  |some i=>(match i.ty with
   | .int _=>true
   |_=>false)
  |none=>false)
 |_=>true)=true) (e:ev Θ hn S o=some (true,S')):mv P w0 W0 Z H S' a o.dst w (execOp a.eval o):=by
 unfold Rq at hq
 split at hq
 ·rename_i x j ho
  unfold ev at e
  rw[ho] at e
  exact Ez h ho e
 ·rename_i T x ix ho
  unfold ev at e
  rw[ho] at e
  exact xp hT h ho e
 ·rename_i op T x y T' ho
  unfold ev at e
  rw[ho] at e
  exact abo hT h ho e
 ·rename_i T x lo hi mx ho
  unfold ev at e
  rw[ho] at e
  exact MY hT h ho e
 ·rename_i x ho
  unfold ev at e
  rw[ho] at e
  exact Nb h ho e
 ·rename_i T T' x ho
  unfold ev at e
  rw[ho] at e
  rw[ho] at HB
  exact Ef hT h ho HB e
 ·rename_i T x f ho
  unfold ev at e
  rw[ho] at e
  exact xo hT h ho e
 ·rename_i as ts ho
  unfold ev at e
  rw[ho] at e
  exact abq hT h ho e
 ·cases hq
def Nc:Op→Bool
 | .alloc _=>true | .box ..=>true | .buildSlice ..=>true | .makeSlice ..=>true |o=>quiet o
theorem abS (hT:cM P Θ=true) (h:aW σ w0 W0 Z H S a w) {hn:Hn} {o:Oper} (hq:Nc o.op=true) (e:ev Θ hn S o=some (true,S')):B9 P w0 W0 Z H S' a o.dst w (execOp a.eval o):=by
 cases hqq:quiet o.op with
 |true=>exact(abR hT h hqq e).Dc
 |false=>
 unfold ev at e
 split at e
 case h_4 T ho=>exact abz hT h ho e
 case h_5 T x ho=>exact aqp hT h ho e
 case h_7 T n ps ho=>exact G9 hT h ho e
 case h_20 T l c ho=>exact IX hT h ho e
 case h_24=>cases e
 case h_9 T x y ho=>rw[ho] at hq;cases hq
 case h_23 as ts ho=>rw[ho] at hq;cases hq
 all_goals (rename_i ho;rw[ho] at hqq;cases hqq)
theorem Nd (h:aW σ w0 W0 Z H S a w) {S1:St} {T:TypeId} {y:Operand} {s:Sem Next} {dst:Option Nat} (g:IQ P w0 W0 Z H S1 a dst w s) (hd:dst=none):IQ P w0 W0 Z H (pq Θ S S1 T y) a dst w s:=by
 subst hd
 unfold pq
 split
 case h_2=>exact g
 rename_i t0 s0 _
 split
 case h_2=>exact g
 rename_i t m xs hs hs1
 cases hk:m.bH with
 |true=>exact g
 |false=>
 simp only[cond_false]
 obtain⟨w',v,h1,dq,h2⟩:=g
 refine⟨w',v,h1,?_⟩
 have hh:=h.holds s0
 rw[hs] at hh
 obtain⟨cs,hm,hM⟩:=hh
 have gP:∃ A c,cs=[.slice A xs.length c]:=by
  simp only[M] at hM
  rcases hM with⟨hn,_⟩ |⟨fo,_⟩ |⟨T',tag,me,A,c,_,rfl,_⟩
  ·simp at hn
  ·rw[hk] at fo;cases fo
  ·exact⟨A,c,rfl⟩
 have ha:a.put none v=a:=rfl
 rw[ha] at h2 ⊢
 have h3:=h2.pure (dst:=some s0) (av:=.v ⟨.sl t,m,xs⟩ [[]]) (v:=bR a s0) ⟨cs,hm,by
  simp only[M]
  exact .inl ⟨by simp,hk,gP⟩⟩
 rw[mw] at h3
 have he:S1.put (some s0) (.v ⟨.sl t,m,xs⟩ [[]])=S1.set s0 (.v ⟨.sl t,m,xs⟩ [[]]):=by
  simp only[St.put,hs1]
  rfl
 rw[he] at h3
 exact⟨_,h3⟩
theorem auU (hT:cM P Θ=true) (h:aW σ w0 W0 Z H S a w) {hn:Hn} {o:Oper} (e:ev Θ hn S o=some (true,S')):IQ P w0 W0 Z H S' a o.dst w (execOp a.eval o):=by
 cases hq:Nc o.op with
 |true=>exact(abS hT h hq e).auF
 |false=>
 unfold ev at e
 split at e
 case h_9 T x y ho=>
  split at e
  ·rename_i hd
   split at e
   ·rename_i g S1 he
    injection e with e
    injection e with e1 e2
    subst e1 e2
    exact Nd h (abB hT h ho hd he) hd
   ·cases e
  ·cases e
 case h_23 as ts ho=>
  split at e
  ·rename_i r hr
   injection e with e
   subst e
   exact YF hT h ho hr
  ·exact Rp hT h ho e
 case h_24=>cases e
 all_goals (rename_i ho;rw[ho] at hq;cases hq)
end Go.Pv
namespace Go.Pv
set_option linter.unusedVariables false
set_option linter.unusedSimpArgs false
variable {P:Program} {w w':World} {A A' Wr:Nat→Prop} {H:Nat→Value} {tm rC:Nat→Value} {S S' S1:St} {σ bF dS:Nat→Option Nat} {w0:World} {W0 Z:Nat→Prop} {a:Act} {own:Nat→Prop} {v:Value} {Θ:da} {dst:Option Nat}
def Own (σ:Nat→Option Nat) (g:Nat):Prop:=∃ i,σ g=some i
def Cc (w:World) (A:Nat→Prop) (H:Nat→Value):Arg→Value→(Nat→Prop)→Prop
 | .tv b,v,own=>∃ cs,an b.t v cs∧M w A H b.t b.m b.x cs own []
 | .fn f cq,v,_=>∃ vs:List Value,v=.func (.func f) #[] vs.toArray∧vs.length=cq.length∧∀ (j:Nat) (c:TV),cq[j]?=some c→∃ u,vs[j]?=some u∧K w A c.t c.x [u]
abbrev Gl:=Nat→Option Obj
structure In (Γ:Gl) (B:Nat→Prop) (H:Nat→Value) (w:World) (σ:Nat→Option Nat) (args:List Arg) (cd:List Value):Prop where
 len:cd.length=args.length
 lt:∀ g i,σ g=some i→i<args.length∧g<w.heap.size
 old:∀ g,B g→σ g=none∧g<w.heap.size
 env:∀ g o,Γ g=some o→σ g=none∧w.heap[g]?=some o
 ok:∀ (j:Nat) (a:Arg),args[j]?=some a→∃ v,cd[j]?=some v∧Cc w (Av σ B) H a v (fun g=>σ g=some j)
def abT:List Value→Value
 |[u]=>u
 |vs=>.tuple vs.toArray
structure Out (B:Nat→Prop) (H:Nat→Value) (w w':World) (σ:Nat→Option Nat) (rt:aa) (v:Value):Prop where
 fr:Fr w (Own σ) w'
 res:∃ (dq:Nat→Option Nat) (vs:List Value),v=abT vs∧vs.length=rt.res.length∧(∀ g i,dq g=some i→(w.heap.size≤g∨Own σ g)∧g<w'.heap.size)∧
  (∀ (i:Nat) (b:TV),rt.res[i]?=some b→∃ u cs,vs[i]?=some u∧an b.t u cs∧M w' (Av dq B) H b.t b.m b.x cs (fun g=>dq g=some i) [])∧
  ∀ c,rt.refs=[c]→∃ cs,M w' (Av dq B) H c.t c.m c.x cs (fun g=>dq g=some rt.res.length) []
def Rr (P:Program) (f:FuncId) (cd:List Value) (w:World) (R:Value→World→Prop):Prop:=
 ((callFunc f cd.toArray).run P w=.ok (.enter f cd.toArray) w∧Calls P f cd.toArray w fun
  | .returned v,w'=>R v w'
  |_,_=>False)∨∃ v w',(callFunc f cd.toArray).run P w=.ok (.value v) w'∧R v w'
theorem Rr.mono {f:FuncId} {cd:List Value} {R R':Value→World→Prop} (h:Rr P f cd w R) (hr:∀ v w',R v w'→R' v w'):Rr P f cd w R':=by
 rcases h with⟨h1,h2⟩ |⟨v,w',h1,h2⟩
 ·refine .inl ⟨h1,h2.mono fun e w' he=>?_⟩
  cases e<;>first |exact hr _ _ he |exact he
 ·exact .inr ⟨v,w',h1,hr _ _ h2⟩
def Vk (Γ:Gl) (P:Program) (f:FuncId) (run:List Arg→(aa→Option aa)→Option aa):Prop:=
 ∀ (args:List Arg) (kf:aa→Option aa) (ret:aa) (w:World) (σ:Nat→Option Nat) (cd:List Value) (H:Nat→Value) (B:Nat→Prop),run args kf=some ret→In Γ B H w σ args cd→
  Rr P f cd w fun v w'=>∃ rt,kf rt=some ret∧Out B H w w' σ rt v
def Sound (Γ:Gl) (P:Program) (f:FuncId) (run:List Arg→(aa→Option aa)→Option aa):Prop:=Vk Γ P f run∧∀ as,cJ (run as)
def aqy (Γ:Gl) (P:Program) (O:jf):Prop:=∀ f,Sound Γ P f (O.run f)
structure qZ (Γ:Gl) (P:Program) (O:jf) (w0:World) (W0:Nat→Prop):Prop where
 sd:aqy Γ P O
 env:∀ g o,Γ g=some o→¬W0 g∧w0.heap[g]?=some o
theorem qZ.det {Γ:Gl} {P:Program} {O:jf} {w0:World} {W0:Nat→Prop} (h:qZ Γ P O w0 W0):n5 O:=fun f=>(h.sd f).2
variable {Γ:Gl}
theorem abU {l:List Entry} (h:∀ e∈l,Sound Γ P e.f e.run):aqy Γ P (jf.of l):=by
 intro f
 have key:∀ (l:List Entry) (e:Entry),entry l f=some e→e∈l∧e.f=f:=by
  intro l
  induction l with
  |nil=>intro e h;cases h
  |cons e' r ih=>
   intro e h
   simp only[entry] at h
   cases hb:Nat.beq e'.f f with
   |true=>
    rw[hb] at h
    injection h with h
    subst h
    exact⟨by simp,Nat.eq_of_beq_eq_true hb⟩
   |false=>
    rw[hb] at h
    obtain⟨h1,h2⟩:=ih e h
    exact⟨by simp[h1],h2⟩
 simp only[jf.of]
 split
 ·rename_i e he
  obtain⟨h1,h2⟩:=key l e he
  rw[←h2]
  exact h e h1
 ·exact⟨fun args kf ret w σ cd H B hr=>(by cases hr),fun _=>cJ.none⟩
theorem EA:∀ (t:Ty) {x:t.I} {cs:List Value},iw t=true→K w A t x cs→K w' A' t x cs
 | .int _,_,_,_,h=>h
 | .bool,_,_,_,h=>h
 | .str,_,_,_,h=>h
 | .unit,_,_,_,h=>h
 | .pair a b,x,cs,hf,h=>by
  simp only[iw,Bool.and_eq_true] at hf
  simp only[K] at h ⊢
  obtain⟨c0,c1,rfl,h0,h1⟩:=h
  exact⟨c0,c1,rfl,EA a hf.1 h0,EA b hf.2 h1⟩
 | .arr n t,x,cs,hf,h=>by
  simp only[iw] at hf
  simp only[K] at h ⊢
  obtain⟨eT,rfl,hl,hx,hj⟩:=h
  exact⟨eT,rfl,hl,hx,fun j h1 h2=>EA t hf (hj j h1 h2)⟩
theorem jv:∀ (t:Ty) {m:Md} {x:t.I} {cs:List Value} {ow:Nat→Prop},fK t m=true→M w A H t m x cs ow []→M w A' H t m x cs ow []
 | .sl t,.o T tag me,xs,cs,ow,hs,h=>by
  simp only[fK] at hs
  simp only[M] at h ⊢
  rcases h with⟨hn,_⟩ |⟨hk,_⟩ |⟨T,tag,me,X,c,e1,e2,hc,ht,h⟩
  ·simp at hn
  ·simp[Md.bH] at hk
  ·injection e1 with e1 Ae pL
   subst e1 Ae pL
   refine .inr (.inr ⟨_,_,_,X,c,rfl,e2,hc,ht,?_⟩)
   rcases h with h |⟨g,cur,τ,h1,h2,h3,h4,h5,h6⟩
   ·exact .inl h
   ·exact .inr ⟨g,cur,τ,h1,h2,h3,h4,h5,fun j hj=>jv t hs (h6 j hj)⟩
 | .ptr t,.o T tag me,x,cs,ow,hs,h=>by
  simp only[fK] at hs
  simp only[M] at h ⊢
  rcases h with⟨hn,_⟩ |⟨hk,_⟩ |⟨T,tag,me,g,cur,e1,e2,ht,hg,hw,h⟩
  ·simp at hn
  ·simp[Md.bH] at hk
  ·injection e1 with e1 Ae pL
   subst e1 Ae pL
   exact .inr (.inr ⟨_,_,_,g,cur,rfl,e2,ht,hg,hw,jv t hs h⟩)
 | .pair a b,.p ma mb,x,cs,ow,hs,h=>by
  simp only[fK,Bool.and_eq_true] at hs
  simp only[M] at h ⊢
  rcases h with⟨hn,_⟩ |⟨hk,h⟩ |⟨ma,mb,c0,c1,s,e1,e2,h0,h1⟩
  ·simp at hn
  ·simp only[K] at h
   simp only[Md.bH,Bool.and_eq_true] at hk
   obtain⟨c0,c1,e2,h0,h1⟩:=h
   refine .inr (.inr ⟨ma,mb,c0,c1,fun _=>True,rfl,e2,jv a hs.1 (nX hk.1 h0),jv b hs.2 (nX hk.2 h1)⟩)
  ·injection e1 with e1 Ae
   subst e1 Ae
   exact .inr (.inr ⟨_,_,c0,c1,s,rfl,e2,jv a hs.1 h0,jv b hs.2 h1⟩)
 | .sl t,.k,xs,cs,ow,hs,h=>by simp[fK,iw] at hs
 | .sl t,.p _ _,xs,cs,ow,hs,h=>by simp[fK,iw] at hs
 | .ptr t,.k,xs,cs,ow,hs,h=>by simp[fK,iw] at hs
 | .ptr t,.p _ _,xs,cs,ow,hs,h=>by simp[fK,iw] at hs
 | .pair a b,.k,xs,cs,ow,hs,h=>by
  simp only[fK,Bool.and_eq_true] at hs
  exact nX hs.1 (EA _ hs.2 (fJ _ hs.1 h))
 | .pair a b,.o ..,xs,cs,ow,hs,h=>by simp[fK,Md.bH] at hs
 | .int k,m,x,cs,ow,hs,h=>by simp only[M,K] at h ⊢;exact h
 | .bool,m,x,cs,ow,hs,h=>by simp only[M,K] at h ⊢;exact h
 | .str,m,x,cs,ow,hs,h=>by simp only[M,K] at h ⊢;exact h
 | .unit,m,x,cs,ow,hs,h=>by simp only[M,K] at h ⊢;exact h
 | .arr n t,m,x,cs,ow,hs,h=>by
  have hs:(m.bH&&iw (.arr n t))=true:=by cases m<;>exact hs
  simp only[Bool.and_eq_true] at hs
  exact nX hs.1 (EA _ hs.2 (fJ _ hs.1 h))
def Pk (σ:Nat→Option Nat) (n:Nat) (g:Nat):Prop:=∃ i,n≤i∧σ g=some i
theorem aim {t:Ty} {m:Md} {x:t.I} {cs:List Value} {s n:Nat} {ow:Nat→Prop} (hs:s<n) (ho:∀ g,ow g→σ g=some s) (h:M w (Av σ Z) H t m x cs ow []):K w (Pk σ n) t x cs:=
 M_K (fun g _ hg=>by obtain⟨i,_,hi⟩:=hg;exact .inl ⟨i,hi⟩) t rfl (fun g hg hx=>by
  obtain⟨i,hi,mY⟩:=hx
  rw[ho g hg] at mY
  injection mY with mY
  omega) h
theorem abV (h:aW σ w0 W0 Z H S a w) {T:TypeId} {x:Operand} {av:AV} {b:TV} (ho:S.dR Θ T x=some av) (e:S.ta av=some b):
  ∃ cs,an b.t (a.eval x) cs∧K w (Pk σ S.length) b.t b.x cs:=by
 have hh:=bu h ho
 cases av with
 |v a0 ex=>
  cases ex with
  |cons _ _=>simp[St.ta] at e
  |nil=>
   simp only[St.ta,Option.some.injEq] at e
   subst e
   obtain⟨cs,h1,h2⟩:=hh
   cases x with
   |tmp i=>
    simp only[St.dR,Option.some.injEq] at ho
    exact⟨cs,h1,aim (s:=i) (eA (by rw[ho];exact fun e=>by cases e)) (fun g hg=>by obtain⟨j,hj,hg⟩:=hg;injection hj with hj;subst hj;exact hg) h2⟩
   |const c=>exact⟨cs,h1,M_K (fun g _ hg=>by obtain⟨i,_,hi⟩:=hg;exact .inl ⟨i,hi⟩) _ rfl (fun g hg=>by obtain⟨j,hj,_⟩:=hg;cases hj) h2⟩
   |func f=>exact⟨cs,h1,M_K (fun g _ hg=>by obtain⟨i,_,hi⟩:=hg;exact .inl ⟨i,hi⟩) _ rfl (fun g hg=>by obtain⟨j,hj,_⟩:=hg;cases hj) h2⟩
   |global f=>exact⟨cs,h1,M_K (fun g _ hg=>by obtain⟨i,_,hi⟩:=hg;exact .inl ⟨i,hi⟩) _ rfl (fun g hg=>by obtain⟨j,hj,_⟩:=hg;cases hj) h2⟩
 |al t s p=>
  simp only[St.ta] at e
  obtain⟨r,cL,cs,hr,hc,hm⟩:=hh
  obtain⟨rfl,cA,k2,k3⟩:=c6 h hr hc e
  obtain⟨ex0,Vd,_⟩:=hr.at_
  exact⟨cs,hm,aim (s:=s) (eA (by rw[Vd];exact fun e=>by cases e)) k2 k3⟩
 |cut t s p lo hi=>
  simp only[St.ta] at e
  obtain⟨r,cL,t',X,n,c,hr,rfl,hc,Yn,D5,hv⟩:=hh
  cases hp:S.place s p with
  |none=>rw[hp] at e;cases e
  |some b'=>
   obtain⟨ht,cA,k2,k3⟩:=c6 h hr hc hp
   obtain⟨bt,bm,bx⟩:=b'
   simp only at ht
   subst ht
   rw[hp] at e
   simp only[Option.some.injEq] at e
   subst e
   obtain⟨ex0,Vd,_⟩:=hr.at_
   have hK:=aim (s:=s) (n:=S.length) (eA (by rw[Vd];exact fun e=>by cases e)) k2 k3
   have hn:n=List.length bx:=by
    simp only[K] at hK
    obtain⟨_,_,e,_⟩:=hK
    simp only[List.cons.injEq,Value.slice.injEq,and_true] at e
    exact e.2.1
   subst hn
   rw[hv]
   exact⟨_,by simp[an,isAgg],U5 hK Yn D5⟩
 |_=>simp[St.ta] at e
theorem abW {n:Nat}:aO w w (Av σ Z) (Pk σ n):=⟨fun _ _ _=>rfl,fun g _ hg=>by obtain⟨i,_,hi⟩:=hg;exact .inl ⟨i,hi⟩⟩
theorem se (h:aW σ w0 W0 Z H S a w):∀ {cq:List ID} {l:List TV} {vs:List Value},pz S cq=some l→vs.length=cq.length→(∀ (j:Nat) (c:ID),cq[j]?=some c→∃ u,vs[j]?=some u∧mo w (Av σ Z) (bR a) S c u)→
  l.length=cq.length∧∀ (j:Nat) (c:TV),l[j]?=some c→∃ u,vs[j]?=some u∧K w (Pk σ S.length) c.t c.x [u]
 |[],l,vs,e,_,_=>by
  simp only[pz,Option.some.injEq] at e
  subst e
  exact⟨rfl,fun j c hj=>by simp at hj⟩
 |c::cq,l,vs,e,hl,hv=>by
  simp only[pz] at e
  split at e
  case h_2=>cases e
  rename_i b l2 hb hl2
  simp only[Option.some.injEq] at e
  subst e
  match vs,hl with
  |u::vs,hl=>
   obtain⟨h1,h2⟩:=se h (vs:=vs) hl2 (by simpa using hl) (fun j c hj=>by simpa using hv (j+1) c (by simpa using hj))
   refine⟨by simp[h1],fun j c' hj=>?_⟩
   cases j with
   |succ j=>simpa using h2 j c' (by simpa using hj)
   |zero=>
    simp only[List.getElem?_cons_zero,Option.some.injEq] at hj
    subst hj
    obtain⟨u',hu,hc⟩:=hv 0 c rfl
    simp only[List.getElem?_cons_zero,Option.some.injEq] at hu
    subst hu
    refine⟨u,rfl,?_⟩
    cases c with
    |kv b'=>
     simp only[Hq,Option.some.injEq] at hb
     subst hb
     exact bP abW _ hc
    |pl t s p=>
     simp only[Hq] at hb
     split at hb
     case h_2=>cases hb
     rename_i b' hp
     simp only[Option.some.injEq] at hb
     subst hb
     obtain⟨r,cL,cs,hr,iY,hm⟩:=hc
     obtain⟨zP,cA,k2,k3⟩:=c6 h hr iY hp
     obtain⟨ex0,Vd,_⟩:=hr.at_
     have hK:=aim (s:=s) (n:=S.length) (eA (by rw[Vd];exact fun e=>by cases e)) k2 k3
     have:cs=[u]:=by simpa[an,isAgg] using hm
     rw[this] at hK
     exact hK
theorem va:∀ (xs:List Operand) (Ts:List TypeId) (ps:List Pass) (j:Nat) {S S1:St} {σ:Nat→Option Nat} {l:List (Option TV)},aW σ w0 W0 Z H S a w→fZ Θ S xs Ts ps=some (l,S1)→
  ∃ (bF:Nat→Option Nat) (ow:Nat→Prop) (τ:Nat→Nat),aW bF w0 W0 Z H S1 a w∧S1.length=S.length∧gm σ bF S.length ow∧l.length=xs.length∧(∀ g,ow g→j≤τ g∧τ g<j+l.length)∧
   ((∀ p∈ps,p=.val)→∀ g,¬ow g)∧
   ∀ (k:Nat) (b:TV),l[k]?=some (some b)→∃ x cs,xs[k]?=some x∧an b.t (a.eval x) cs∧M w (Av σ Z) H b.t b.m b.x cs (fun g=>ow g∧τ g=j+k) []
 |[],Ts,ps,j,S,S1,σ,l,h,e=>by
  simp only[fZ,Option.some.injEq,Prod.mk.injEq] at e
  obtain⟨rfl,rfl⟩:=e
  exact⟨σ,fun _=>False,fun _=>j,h,rfl,gm.none _ _,rfl,fun _ h=>h.elim,fun _ _ h=>h,fun k b hk=>by simp at hk⟩
 |x::xs,[],ps,j,S,S1,σ,l,h,e=>by simp[fZ] at e
 |x::xs,T::Ts,[],j,S,S1,σ,l,h,e=>by simp[fZ] at e
 |x::xs,T::Ts,p::ps,j,S,S1,σ,l,h,e=>by
  simp only[fZ] at e
  split at e
  ·split at e
   case h_2=>cases e
   rename_i r hr
   simp only[Option.some.injEq,Prod.mk.injEq] at e
   obtain⟨rfl,rfl⟩:=e
   obtain⟨bF,ow,τ,k1,k2,k3,k4,k5,k6,k7⟩:=va xs Ts ps (j+1) h hr
   refine⟨bF,ow,τ,k1,k2,k3,by simp[k4],fun g hg=>by have:=k5 g hg;simp only[List.length_cons];omega,fun hp=>k6 (fun p hp'=>hp p (by simp[hp'])),fun k b hk=>?_⟩
   cases k with
   |zero=>simp at hk
   |succ k=>
    obtain⟨x',cs,q1,q2,q3⟩:=k7 k b (by simpa using hk)
    exact⟨x',cs,by simpa using q1,q2,by rw[show j+(k+1)=j+1+k from by omega];exact q3⟩
  rotate_left
  ·cases e
  ·unfold St.take at e
   split at e
   case h_2=>cases e
   rename_i b S2 hb
   split at hb
   case h_2=>cases hb
   rename_i av dG
   split at e
   case h_2=>cases e
   rename_i r hr
   simp only[Option.some.injEq,Prod.mk.injEq] at e
   obtain⟨rfl,rfl⟩:=e
   obtain⟨bF,cs,ow,h1,hm,hM,hk,hn⟩:=eN h dG hb
   obtain⟨dS,pH,τ,k1,k2,k3,k4,k5,k6,k7⟩:=va xs Ts ps (j+1) h1 hr
   rw[hn] at k3
   have Rk:∀ g,ow g→¬pH g:=fun g hg=>hk.apart k3 hg
   let Vg:Nat→Nat:=fun g=>open Classical in if ow g then j else τ g
   refine⟨dS,fun g=>ow g∨pH g,Vg,k1,by omega,hk.trans k3,by simp[k4],fun g hg=>?_,fun hp=>(fun hx:Pass.take=Pass.val=>nomatch hx) (hp .take (by simp)),fun k b' fo=>?_⟩
   ·simp only[Vg,List.length_cons]
    split
    ·omega
    ·rename_i hx
     have:=k5 g (hg.resolve_left hx)
     omega
   ·cases k with
    |zero=>
     simp only[List.getElem?_cons_zero,Option.some.injEq] at fo
     subst fo
     refine⟨x,cs,rfl,hm,aH (aO.refl _ _) _ (fun _ _ _=>rfl) (fun g hg _=>⟨.inl hg,by simp only[Vg,if_pos hg,Nat.add_zero]⟩) (fun _ h=>h) hM⟩
    |succ k=>
     obtain⟨x',cI,q1,q2,q3⟩:=k7 k b' (by simpa using fo)
     refine⟨x',cI,by simpa using q1,q2,aH ⟨fun _ _ _=>rfl,fun g _ hg=>hk.Av.2 hg⟩ _ (fun _ _ _=>rfl) (fun g hg _=>⟨.inr hg.1,?_⟩) (fun _ h=>h) q3⟩
     simp only[Vg]
     rw[if_neg (fun hx=>Rk g hx hg.1),hg.2]
     omega
theorem kj (h:aW σ w0 W0 Z H S a w):∀ (xs:List Operand) (Ts:List TypeId) (l:List (Option TV)) {as:List Arg},l.length=xs.length→reads Θ S xs Ts l=some as→
  as.length=xs.length∧∀ (k:Nat) (r:Arg),as[k]?=some r→(∃ b,l[k]?=some (some b)∧r=.tv b)∨∃ x,xs[k]?=some x∧∀ H,Cc w (Pk σ S.length) H r (a.eval x) (fun _=>False)
 |[],Ts,l,as,_,e=>by
  simp only[reads,Option.some.injEq] at e
  subst e
  exact⟨rfl,fun k r hk=>by simp at hk⟩
 |x::xs,[],l,as,hl,e=>by simp[reads] at e
 |x::xs,T::Ts,[],as,hl,e=>by simp at hl
 |x::xs,T::Ts,p::ps,as,hl,e=>by
  have Vb:ps.length=xs.length:=by simpa using hl
  simp only[reads] at e
  split at e
  ·rename_i b
   split at e
   case h_2=>cases e
   rename_i r hr
   simp only[Option.some.injEq] at e
   subst e
   obtain⟨h1,h2⟩:=kj h xs Ts ps Vb hr
   refine⟨by simp[h1],fun k r' hk=>?_⟩
   cases k with
   |zero=>
    simp only[List.getElem?_cons_zero,Option.some.injEq] at hk
    exact .inl ⟨b,rfl,hk.symm⟩
   |succ k=>simpa using h2 k r' (by simpa using hk)
  ·split at e
   ·rename_i f cq dG
    split at e
    case h_2=>cases e
    rename_i cs r gP hr
    simp only[Option.some.injEq] at e
    subst e
    obtain⟨h1,h2⟩:=kj h xs Ts ps Vb hr
    refine⟨by simp[h1],fun k r' hk=>?_⟩
    cases k with
    |zero=>
     simp only[List.getElem?_cons_zero,Option.some.injEq] at hk
     subst hk
     obtain⟨vs,v1,v2,v3⟩:=bu h dG
     obtain⟨c1,c2⟩:=se h gP v2 v3
     exact .inr ⟨x,rfl,fun _=>⟨vs,v1,by omega,c2⟩⟩
    |succ k=>simpa using h2 k r' (by simpa using hk)
   ·rename_i av _ dG
    split at e
    case h_2=>cases e
    rename_i b r hb hr
    simp only[Option.some.injEq] at e
    subst e
    obtain⟨h1,h2⟩:=kj h xs Ts ps Vb hr
    refine⟨by simp[h1],fun k r' hk=>?_⟩
    cases k with
    |zero=>
     simp only[List.getElem?_cons_zero,Option.some.injEq] at hk
     subst hk
     obtain⟨cs,c1,c2⟩:=abV h dG hb
     exact .inr ⟨x,rfl,fun _=>⟨cs,c1,fW _ c2⟩⟩
    |succ k=>simpa using h2 k r' (by simpa using hk)
   ·cases e
theorem mA (h:aW σ w0 W0 Z H S a w):∀ (xs:List Operand) (Ts:List TypeId) (l:List (Option TV)) {as:List Arg},l.length=xs.length→reads Θ S xs Ts l=some as→jg S xs l as=true→
  ∀ (k:Nat) (r:Arg),as[k]?=some r→(∃ b,l[k]?=some (some b)∧r=.tv b)∨∃ x,xs[k]?=some x∧∀ H,Cc w (Av σ Z) H r (a.eval x) (fun _=>False)
 |[],Ts,l,as,_,e,_=>by
  simp only[reads,Option.some.injEq] at e
  subst e
  exact fun k r hk=>by simp at hk
 |x::xs,[],l,as,hl,e,_=>by simp[reads] at e
 |x::xs,T::Ts,[],as,hl,e,_=>by simp at hl
 |x::xs,T::Ts,p::ps,as,hl,e,hf=>by
  have Vb:ps.length=xs.length:=by simpa using hl
  have fI:=(kj h (x::xs) (T::Ts) (p::ps) hl e).2
  simp only[reads] at e
  split at e
  ·rename_i b
   split at e
   case h_2=>cases e
   rename_i r hr
   simp only[Option.some.injEq] at e
   subst e
   simp only[jg,Bool.true_or,Bool.true_and] at hf
   have h2:=mA h xs Ts ps Vb hr hf
   intro k r' hk
   cases k with
   |zero=>
    simp only[List.getElem?_cons_zero,Option.some.injEq] at hk
    exact .inl ⟨b,rfl,hk.symm⟩
   |succ k=>simpa using h2 k r' (by simpa using hk)
  ·split at e
   ·rename_i f cq dG
    split at e
    case h_2=>cases e
    rename_i cs r gP hr
    simp only[Option.some.injEq] at e
    subst e
    simp only[jg,Bool.false_or,Bool.and_eq_true,List.isEmpty_iff] at hf
    obtain⟨hf1,hf2⟩:=hf
    have h2:=mA h xs Ts ps Vb hr hf2
    intro k r' hk
    cases k with
    |succ k=>simpa using h2 k r' (by simpa using hk)
    |zero=>
     simp only[List.getElem?_cons_zero,Option.some.injEq] at hk
     subst hk
     rcases fI 0 _ rfl with⟨b',I3,_⟩ |⟨x',xf,iR⟩
     ·simp at I3
     ·simp only[List.getElem?_cons_zero,Option.some.injEq] at xf
      subst xf
      refine .inr ⟨x,rfl,fun H'=>?_⟩
      obtain⟨vs,v1,v2,v3⟩:=iR H'
      exact⟨vs,v1,v2,fun j c hj=>by rw[hf1] at hj;simp at hj⟩
   ·rename_i av _ dG
    split at e
    case h_2=>cases e
    rename_i b r hb hr
    simp only[Option.some.injEq] at e
    subst e
    simp only[jg,Bool.false_or,Bool.and_eq_true,Bool.or_eq_true] at hf
    obtain⟨hf1,hf2⟩:=hf
    have h2:=mA h xs Ts ps Vb hr hf2
    intro k r' hk
    cases k with
    |succ k=>simpa using h2 k r' (by simpa using hk)
    |zero=>
     simp only[List.getElem?_cons_zero,Option.some.injEq] at hk
     subst hk
     rcases hf1 with hs |hs
     ·rcases fI 0 _ rfl with⟨b',I3,_⟩ |⟨x',xf,iR⟩
      ·simp at I3
      ·simp only[List.getElem?_cons_zero,Option.some.injEq] at xf
       subst xf
       refine .inr ⟨x,rfl,fun H'=>?_⟩
       obtain⟨cs,c1,c2⟩:=iR H'
       exact⟨cs,c1,jv _ hs c2⟩
     ·refine .inr ⟨x,rfl,fun H'=>?_⟩
      have hh:=bu h dG
      cases x with
      |func f=>simp[uk] at hs
      |global f=>simp[uk] at hs
      |tmp i=>
       simp only[St.dR,Option.some.injEq] at dG
       subst dG
       simp only[uk] at hs
       split at hs
       ·rename_i b0 hb0
        rw[hb0] at hh hb
        simp only[St.ta,Option.some.injEq] at hb
        subst hb
        obtain⟨cs,c1,c2⟩:=hh
        exact⟨cs,c1,nX rfl (fJ _ hs c2)⟩
       ·cases hs
      |const c=>
       have hk:∀ a0,av=.v a0 []→∀ H',Cc w (Av σ Z) H' (.tv (QR b)) (a.eval (.const c)) fun _=>False:=fun a0 e H'=>by
        subst e
        simp only[St.ta,Option.some.injEq] at hb
        subst hb
        have hh:=bu h dG
        obtain⟨cs,c1,c2⟩:=hh
        exact⟨cs,c1,nX rfl (M_K (fun g _ hg=>hg) _ rfl (fun g hg=>by obtain⟨j,hj,_⟩:=hg;cases hj) c2)⟩
       simp only[St.dR] at dG
       cases hc:m6 Θ T c with
       |none=>rw[hc] at dG;cases dG
       |some a0=>
        rw[hc] at dG
        simp only[Option.map_some,Option.some.injEq] at dG
        exact hk a0 dG.symm H'
   ·cases e
end Go.Pv
namespace Go.Pv
set_option linter.unusedVariables false
set_option linter.unusedSimpArgs false
variable {P:Program} {w w':World} {A A' B Wr:Nat→Prop} {H H':Nat→Value}
theorem mB:∀ (t:Ty) {m:Md} {x:t.I} {cs:List Value} {ow:Nat→Prop} {hs:List Path},qV m=true→M w A H t m x cs ow hs→M w A H' t m x cs ow hs
 | .int _,_,_,_,_,_,_,h=>by simp only[M] at h ⊢;exact h
 | .bool,_,_,_,_,_,_,h=>by simp only[M] at h ⊢;exact h
 | .str,_,_,_,_,_,_,h=>by simp only[M] at h ⊢;exact h
 | .unit,_,_,_,_,_,_,h=>by simp only[M] at h ⊢;exact h
 | .arr _ _,_,_,_,_,_,_,h=>by simp only[M] at h ⊢;exact h
 | .sl t,m,xs,cs,ow,hs,hb,h=>by
  simp only[M] at h ⊢
  rcases h with h |h |⟨T,tag,me,X,c,rfl,e2,hc,ht,h⟩
  ·exact .inl h
  ·exact .inr (.inl h)
  ·simp only[qV,Bool.and_eq_true] at hb
   obtain⟨hb1,hb2⟩:=hb
   cases tag with
   |some _=>cases hb1
   |none=>
    refine .inr (.inr ⟨T,none,me,X,c,rfl,e2,hc,fun h hh=>(by cases hh),?_⟩)
    rcases h with h |⟨g,cur,τ,h1,h2,h3,h4,h5,h6⟩
    ·exact .inl h
    ·exact .inr ⟨g,cur,τ,h1,h2,h3,h4,h5,fun j hj=>mB t hb2 (h6 j hj)⟩
 | .ptr t,m,x,cs,ow,hs,hb,h=>by
  simp only[M] at h ⊢
  rcases h with h |h |⟨T,tag,me,g,cur,rfl,e2,ht,hg,hw,h⟩
  ·exact .inl h
  ·exact .inr (.inl h)
  ·simp only[qV,Bool.and_eq_true] at hb
   obtain⟨hb1,hb2⟩:=hb
   cases tag with
   |some _=>cases hb1
   |none=>exact .inr (.inr ⟨T,none,me,g,cur,rfl,e2,fun h hh=>(by cases hh),hg,hw,mB t hb2 h⟩)
 | .pair a b,m,x,cs,ow,hs,hb,h=>by
  simp only[M] at h ⊢
  rcases h with h |h |⟨ma,mb,c0,c1,s,rfl,e2,h0,h1⟩
  ·exact .inl h
  ·exact .inr (.inl h)
  ·simp only[qV,Bool.and_eq_true] at hb
   exact .inr (.inr ⟨ma,mb,c0,c1,s,rfl,e2,mB a hb.1 h0,mB b hb.2 h1⟩)
theorem sh:∀ (t:Ty) {m:Md} {n:Nat},m.bH=true→(jh t m n).bH=true
 | .int _,m,n,h=>by simpa[jh] using h
 | .bool,m,n,h=>by simpa[jh] using h
 | .str,m,n,h=>by simpa[jh] using h
 | .unit,m,n,h=>by simpa[jh] using h
 | .arr _ _,m,n,h=>by simpa[jh] using h
 | .sl t,m,n,h=>by cases m<;>simp_all [jh,Md.bH]
 | .ptr t,m,n,h=>by cases m<;>simp_all [jh,Md.bH]
 | .pair a b,m,n,h=>by
  cases m with
  |k=>simp[jh,Md.bH]
  |o=>simp[Md.bH] at h
  |p ma mb=>
   simp only[Md.bH,Bool.and_eq_true] at h
   simp only[jh,Md.bH,Bool.and_eq_true]
   exact⟨sh a h.1,sh b h.2⟩
theorem mC:∀ (t:Ty) {m:Md} {x y:t.I},m.bH=true→ft t m x y=x
 | .int _,m,x,y,h=>rfl
 | .bool,m,x,y,h=>rfl
 | .str,m,x,y,h=>rfl
 | .unit,m,x,y,h=>rfl
 | .arr _ _,m,x,y,h=>rfl
 | .sl t,m,x,y,h=>by cases m<;>simp_all [ft,Md.bH]
 | .ptr t,m,x,y,h=>by cases m<;>simp_all [ft,Md.bH]
 | .pair a b,m,x,y,h=>by
  cases m with
  |k=>simp[ft]
  |o=>simp[Md.bH] at h
  |p ma mb=>
   simp only[Md.bH,Bool.and_eq_true] at h
   simp only[ft]
   rw[mC a h.1,mC b h.2]
theorem abX:∀ (t:Ty) {m:Md} {x:t.I} {cs:List Value} {ow:Nat→Prop} {n:Nat},eV t m=true→M w A H t m x cs ow []→(∀ (j:Nat) (u:Value),cs[j]?=some u→H' (n+j)=u)→M w A H' t (jh t m n) x cs ow []
 | .int _,_,_,_,_,_,_,h,_=>by simp only[M,jh] at h ⊢;exact h
 | .bool,_,_,_,_,_,_,h,_=>by simp only[M,jh] at h ⊢;exact h
 | .str,_,_,_,_,_,_,h,_=>by simp only[M,jh] at h ⊢;exact h
 | .unit,_,_,_,_,_,_,h,_=>by simp only[M,jh] at h ⊢;exact h
 | .arr _ _,_,_,_,_,_,_,h,_=>by simp only[M,jh] at h ⊢;exact h
 | .sl t,m,xs,cs,ow,n,hl,h,hH=>by
  simp only[M] at h ⊢
  rcases h with⟨h,_⟩ |⟨hk,h⟩ |⟨T,tag,me,X,c,rfl,rfl,hc,ht,h⟩
  ·simp at h
  ·exact .inr (.inl ⟨sh (.sl t) hk,h⟩)
  ·simp only[eV,Bool.and_eq_true] at hl
   refine .inr (.inr ⟨T,some n,me,X,c,rfl,rfl,hc,fun h hh=>?_,?_⟩)
   ·injection hh with hh
    subst hh
    exact hH 0 _ rfl
   ·rcases h with h |⟨g,cur,τ,h1,h2,h3,h4,h5,h6⟩
    ·exact .inl h
    ·exact .inr ⟨g,cur,τ,h1,h2,h3,h4,h5,fun j hj=>mB t hl (h6 j hj)⟩
 | .ptr t,m,x,cs,ow,n,hl,h,hH=>by
  simp only[M] at h ⊢
  rcases h with⟨h,_⟩ |⟨hk,h⟩ |⟨T,tag,me,g,cur,rfl,rfl,ht,hg,hw,h⟩
  ·simp at h
  ·exact .inr (.inl ⟨sh (.ptr t) hk,h⟩)
  ·simp only[eV,Bool.and_eq_true] at hl
   refine .inr (.inr ⟨T,some n,me,g,cur,rfl,rfl,fun h hh=>?_,hg,hw,mB t hl h⟩)
   injection hh with hh
   subst hh
   exact hH 0 _ rfl
 | .pair a b,m,x,cs,ow,n,hl,h,hH=>by
  simp only[M] at h ⊢
  rcases h with⟨h,_⟩ |⟨hk,h⟩ |⟨ma,mb,c0,c1,s,rfl,rfl,h0,h1⟩
  ·simp at h
  ·exact .inr (.inl ⟨sh (.pair a b) hk,h⟩)
  ·simp only[eV,Bool.and_eq_true] at hl
   have hl0:=(eH a h0).1
   refine .inr (.inr ⟨_,_,c0,c1,s,rfl,rfl,abX a hl.1 h0 (fun j u hj=>hH j u ?_),abX b hl.2 h1 (fun j u hj=>?_)⟩)
   ·rw[List.getElem?_append_left (List.getElem?_eq_some_iff.1 hj).1];exact hj
   ·rw[Nat.add_assoc]
    refine hH (a.size+j) u ?_
    rw[List.getElem?_append_right (by omega),hl0,Nat.add_sub_cancel_left]
    exact hj
theorem xx (bO:aO w w' A A'):∀ (t:Ty) {m:Md} {x y:t.I} {cs cI:List Value} {ow cA:Nat→Prop} {n:Nat},eV t m=true→(rK t m=true∨aO w' w' B A')→M w A H t m x cs ow []→(∀ (j:Nat) (u:Value),cs[j]?=some u→H' (n+j)=u)→
  M w' B H' t (jh t m n) y cI cA []→M w' A' H t m (ft t m x y) cs cA []
 | .int _,_,_,_,_,_,_,_,_,_,_,h,_,_=>by simp only[M,ft] at h ⊢;exact⟨h.1,bP bO _ h.2⟩
 | .bool,_,_,_,_,_,_,_,_,_,_,h,_,_=>by simp only[M,ft] at h ⊢;exact⟨h.1,bP bO _ h.2⟩
 | .str,_,_,_,_,_,_,_,_,_,_,h,_,_=>by simp only[M,ft] at h ⊢;exact⟨h.1,bP bO _ h.2⟩
 | .unit,_,_,_,_,_,_,_,_,_,_,h,_,_=>by simp only[M,ft] at h ⊢;exact⟨h.1,bP bO _ h.2⟩
 | .arr _ _,_,_,_,_,_,_,_,_,_,_,h,_,_=>by simp only[M,ft] at h ⊢;exact⟨h.1,bP bO _ h.2⟩
 | .sl t,m,xs,ys,cs,cI,ow,cA,n,hl,hB,h,hH,h'=>by
  simp only[M] at h
  rcases h with⟨h,_⟩ |⟨hk,h⟩ |⟨T,tag,me,X,c,rfl,rfl,hc,ht,h⟩
  ·simp at h
  ·rw[mC _ hk]
   exact nX hk (bP bO _ h)
  ·simp only[eV,Bool.and_eq_true] at hl
   simp only[jh,M] at h'
   rcases h' with⟨h',_⟩ |⟨hk,_⟩ |⟨T2,YB,me2,X2,c2,e1,e2,QU,ht2,h'⟩
   ·simp at h'
   ·simp[Md.bH] at hk
   ·injection e1 with e1 Ae pL
    subst e1 Ae pL
    have q1:=ht2 n rfl
    rw[show H' n=.slice X xs.length c from hH 0 _ rfl] at q1
    injection q1 with q1 q2 q3
    subst q1 q3
    simp only[M,ft]
    refine .inr (.inr ⟨T,tag,me,X,c,rfl,by rw[q2],QU,fun h hh=>by rw[ht h hh,q2],?_⟩)
    rcases h' with h' |⟨g,cur,τ,k1,k2,k3,k4,k5,k6⟩
    ·exact .inl h'
    ·exact .inr ⟨g,cur,τ,k1,k2,k3,k4,k5,fun j hj=>hB.elim (fun hs=>jv t hs (mB t hl (k6 j hj))) fun bO=>aH bO t (fun _ _ _=>rfl) (fun _ h _=>h) (fun _ h=>h) (mB t hl (k6 j hj))⟩
 | .ptr t,m,x,y,cs,cI,ow,cA,n,hl,hB,h,hH,h'=>by
  simp only[M] at h
  rcases h with⟨h,_⟩ |⟨hk,h⟩ |⟨T,tag,me,g,cur,rfl,rfl,ht,hg,hw,h⟩
  ·simp at h
  ·rw[mC _ hk]
   exact nX hk (bP bO _ h)
  ·simp only[eV,Bool.and_eq_true] at hl
   simp only[jh,M] at h'
   rcases h' with⟨h',_⟩ |⟨hk,_⟩ |⟨T2,YB,me2,g2,gk,e1,e2,ht2,rq,rH,h'⟩
   ·simp at h'
   ·simp[Md.bH] at hk
   ·injection e1 with e1 Ae pL
    subst e1 Ae pL
    have q1:=ht2 n rfl
    rw[show H' n=.pointer (some ⟨g,0,none⟩) from hH 0 _ rfl] at q1
    injection q1 with q1
    injection q1 with q1
    injection q1 with q1
    subst q1
    simp only[M,ft]
    exact .inr (.inr ⟨T,tag,me,g,gk,rfl,rfl,ht,rq,rH,hB.elim (fun hs=>jv t hs (mB t hl h')) fun bO=>aH bO t (fun _ _ _=>rfl) (fun _ h _=>h) (fun _ h=>h) (mB t hl h')⟩)
 | .pair a b,m,x,y,cs,cI,ow,cA,n,hl,hB,h,hH,h'=>by
  simp only[M] at h
  rcases h with⟨h,_⟩ |⟨hk,h⟩ |⟨ma,mb,c0,c1,s,rfl,rfl,h0,h1⟩
  ·simp at h
  ·rw[mC _ hk]
   exact nX hk (bP bO _ h)
  ·simp only[eV,Bool.and_eq_true] at hl
   have hBa:rK a ma=true∨aO w' w' B A':=hB.imp (fun h=>by simp only[rK,Bool.and_eq_true] at h;exact h.1) id
   have hBb:rK b mb=true∨aO w' w' B A':=hB.imp (fun h=>by simp only[rK,Bool.and_eq_true] at h;exact h.2) id
   have hl0:=(eH a h0).1
   have hH0:∀ (j:Nat) (u:Value),c0[j]?=some u→H' (n+j)=u:=fun j u hj=>hH j u (by rw[List.getElem?_append_left (List.getElem?_eq_some_iff.1 hj).1];exact hj)
   have hH1:∀ (j:Nat) (u:Value),c1[j]?=some u→H' (n+a.size+j)=u:=fun j u hj=>by
    rw[Nat.add_assoc]
    refine hH (a.size+j) u ?_
    rw[List.getElem?_append_right (by omega),hl0,Nat.add_sub_cancel_left]
    exact hj
   simp only[jh,M] at h'
   simp only[M,ft]
   rcases h' with⟨h',_⟩ |⟨hk,h'⟩ |⟨ma2,mb2,d0,d1,s2,e1,e2,k0,k1⟩
   ·simp at h'
   ·simp only[Md.bH,Bool.and_eq_true] at hk
    simp only[K] at h'
    obtain⟨d0,d1,e2,k0,k1⟩:=h'
    exact .inr (.inr ⟨ma,mb,c0,c1,fun _=>True,rfl,rfl,xx bO a hl.1 hBa h0 hH0 (nX hk.1 k0),xx bO b hl.2 hBb h1 hH1 (nX hk.2 k1)⟩)
   ·injection e1 with e1 Ae
    subst e1 Ae
    exact .inr (.inr ⟨ma,mb,c0,c1,s2,rfl,rfl,xx bO a hl.1 hBa h0 hH0 k0,xx bO b hl.2 hBb h1 hH1 k1⟩)
end Go.Pv
namespace Go.Pv
set_option linter.unusedVariables false
set_option linter.unusedSimpArgs false
variable {P:Program} {w w':World} {A A' Wr:Nat→Prop} {H:Nat→Value} {tm rC:Nat→Value} {S S' S1:St} {σ bF dS:Nat→Option Nat} {w0:World} {W0 Z:Nat→Prop} {a:Act} {own:Nat→Prop} {v:Value} {Θ:da} {dst:Option Nat} {O:jf} {hh:Hint} {Γ:Gl}
theorem Fr.trans {W1:Nat→Prop} (h:Fr w0 W0 w) (h1:Fr w W1 w') (hw:∀ g,W1 g→g<w0.heap.size→W0 g):Fr w0 W0 w':=by
 refine⟨h1.os.trans h.os,h1.tape.trans h.tape,h1.output.trans h.output,Nat.le_trans h.size h1.size,fun g hg hn=>?_⟩
 rw[h1.block g (by have:=h.size;omega) (fun hx=>hn (hw g hx hg))]
 exact h.block g hg hn
theorem Vl (hT:cM P hh.tab=true) (hO:qZ Γ P O w0 W0) (h:aW σ w0 W0 Z H S a w) {o:Oper} {f:FuncId} {cal:Option Nat} {as:List Operand} {ts:List TypeId} {K:St→Option aa} {ret:aa} {xy:List Value}
  (awF:(cal=none∧xy=[])∨∃ i,cal=some i∧bR a i=.func (.func f) #[] xy.toArray) (e:gN hh O o f cal as ts S K=some ret):
  Rr P f (as.map a.eval++xy) w fun v w'=>∃ S',K S'=some ret∧Rel w0 W0 Z H S' (a.put o.dst v) w'∧((∀ p∈O.sig f,p=.val)→Ext w w'):=by
 unfold gN at e
 split at e
 case h_2=>cases e
 rename_i l S1 hl
 split at e
 case h_2=>cases e
 rename_i args cs HT gP
 obtain⟨bF,ow,τ,t1,t2,t3,t4,t5,t6,t7⟩:=va as ts (O.sig f) 0 h hl
 obtain⟨r1,r2⟩:=kj t1 as ts l t4 HT
 -- the captured values
 have ain:cs.length=xy.length∧∀ (j:Nat) (c:TV),cs[j]?=some c→UW c=true∧∃ u,xy[j]?=some u∧Go.Pv.K w (Pk bF S1.length) c.t c.x [u]:=by
  rcases awF with⟨rfl,rfl⟩ |⟨i,rfl,hv⟩
  ·simp only[rJ,Option.some.injEq] at gP
   subst gP
   exact⟨rfl,fun j c hj=>by simp at hj⟩
  ·simp only[rJ] at gP
   split at gP
   case h_2=>cases gP
   rename_i f' cq dx
   cases hb:Nat.beq f' f with
   |false=>rw[hb] at gP;cases gP
   |true=>
    rw[hb] at gP
    simp only[cond_true] at gP
    have hold:=t1.holds i
    rw[dx] at hold
    obtain⟨vs,v1,v2,v3⟩:=hold
    rw[hv] at v1
    injection v1 with _ _ v1
    have hvs:xy=vs:=by
     have:=congrArg Array.toList v1
     simpa using this
    subst hvs
    split at gP
    case h_2=>cases gP
    rename_i l' Vb
    cases hp:l'.all UW with
    |false=>rw[hp] at gP;cases gP
    |true=>
     rw[hp] at gP
     simp only[cond_true,Option.some.injEq] at gP
     subst gP
     obtain⟨c1,c2⟩:=se t1 Vb v2 v3
     exact⟨by omega,fun j c hj=>⟨List.all_eq_true.1 hp c (List.mem_of_getElem? hj),c2 j c hj⟩⟩
 -- the callee's arguments
 let vd:Nat→Option Nat:=fun g=>open Classical in if ow g then some (τ g) else none
 have ve:∀ g i,vd g=some i↔ow g∧τ g=i:=fun g i=>by
  simp only[vd]
  split
  ·rename_i hx;exact⟨fun hg=>⟨hx,by injection hg⟩,fun hg=>by rw[hg.2]⟩
  ·rename_i hx;exact⟨fun hg=>(by cases hg),fun hg=>absurd hg.1 hx⟩
 have ue:∀ g,Own vd g↔ow g:=fun g=>⟨fun⟨i,hi⟩=>((ve g i).1 hi).1,fun hg=>⟨τ g,(ve g _).2 ⟨hg,rfl⟩⟩⟩
 have I4:∀ g,ow g→Pk bF S1.length g:=fun g hg=>by rw[t2];exact t3.now g hg
 obtain⟨uf,Cd⟩:∃ uf,uf=(cs.isEmpty&&jg S1 as l args):=⟨_,rfl⟩
 let B:Nat→Prop:=fun g=>uf=true∧Av σ Z g∧ ¬ow g
 have Rs:aO w w (Av σ Z) (Av vd B):=⟨fun _ _ _=>rfl,fun g _ hg=>by
  rcases hg with hg |hg
  ·obtain⟨i,_,hi⟩:=t3.MZ g ((ue g).1 hg)
   exact .inl ⟨i,hi⟩
  ·exact hg.2.1⟩
 have aqz:aO w w (Av bF Z) (Av vd B):=⟨fun _ _ _=>rfl,fun g hl hg=>t3.Av.2 (Rs.wr g hl hg)⟩
 have aio:uf=false→aO w w (Pk bF S1.length) (Av vd B):=fun hn=>⟨fun _ _ _=>rfl,fun g _ hg=>by
  rcases hg with hg |hg
  ·exact I4 g ((ue g).1 hg)
  ·have h1:=hg.1;rw[hn] at h1;cases h1⟩
 have r3:=fun hf:uf=true=>mA t1 as ts l t4 HT (by rw[hf] at Cd;exact(Bool.and_eq_true _ _▸Cd.symm).2)
 have fh:In Γ B H w vd (args++cs.map .tv) (as.map a.eval++xy):=by
  refine⟨by simp[r1,ain.1],fun g i hg=>?_,fun g hg=>⟨?_,?_⟩,fun g o hg=>⟨?_,?_⟩,fun j r hj=>?_⟩
  ·obtain⟨q1,q2⟩:=(ve g i).1 hg
   have:=(t5 g q1).2
   obtain⟨k,_,hk⟩:=t3.MZ g q1
   exact⟨by simp only[List.length_append];omega,h.lt g k hk⟩
  ·cases hc:vd g with
   |none=>rfl
   |some i=>exact absurd ((ve g i).1 hc).1 hg.2.2
  ·rcases hg.2.1 with⟨i,hi⟩ |hz
   ·exact h.lt g i hi
   ·have:=(h.old g hz).2;have:=h.fr.size;omega
  ·cases hc:vd g with
   |none=>rfl
   |some i=>
    obtain⟨k,_,hk⟩:=t3.MZ g ((ve g i).1 hc).1
    obtain⟨e1,e2⟩:=hO.env g o hg
    rcases h.new g k hk with hx |hx
    ·have:=a8 e2;omega
    ·exact absurd hx e1
  ·obtain⟨e1,e2⟩:=hO.env g o hg
   rw[h.fr.block g (a8 e2) e1,e2]
  ·rcases Nat.lt_or_ge j args.length with rU |rU
   ·rw[List.getElem?_append_left rU] at hj
    rw[List.getElem?_append_left (by simp only[List.length_map];omega),List.getElem?_map]
    rcases r2 j r hj with⟨b,hb,rfl⟩ |⟨x,hx,iR⟩
    ·obtain⟨x,c,q1,q2,q3⟩:=t7 j b hb
     rw[q1]
     exact⟨_,rfl,c,q2,aH Rs _ (fun _ _ _=>rfl) (fun g hg _=>(ve g j).2 ⟨hg.1,by rw[hg.2];omega⟩) (fun _ h=>h) q3⟩
    ·have fin:∀ {A0:Nat→Prop},aO w w A0 (Av vd B)→Cc w A0 H r (a.eval x) (fun _=>False)→Cc w (Av vd B) H r (a.eval x) (fun g=>vd g=some j):=fun bO iR=>by
      cases r with
      |tv b=>
       obtain⟨c,c1,c2⟩:=iR
       exact⟨c,c1,aH bO _ (fun _ _ _=>rfl) (fun _ hg _=>hg.elim) (fun _ h=>h) c2⟩
      |fn f' cq=>
       obtain⟨vs,c1,c2,c3⟩:=iR
       exact⟨vs,c1,c2,fun k c hk=>by obtain⟨u,u1,u2⟩:=c3 k c hk;exact⟨u,u1,bP bO _ u2⟩⟩
     cases Nf:uf with
     |false=>
      rw[hx]
      exact⟨_,rfl,fin (aio Nf) (iR H)⟩
     |true=>
      rcases r3 Nf j r hj with⟨b,hb,rfl⟩ |⟨x',xf,aqA⟩
      ·obtain⟨x,c,q1,q2,q3⟩:=t7 j b hb
       rw[q1]
       exact⟨_,rfl,c,q2,aH Rs _ (fun _ _ _=>rfl) (fun g hg _=>(ve g j).2 ⟨hg.1,by rw[hg.2];omega⟩) (fun _ h=>h) q3⟩
      ·rw[hx] at xf
       injection xf with xf
       subst xf
       rw[hx]
       exact⟨_,rfl,fin aqz (aqA H)⟩
   ·rw[List.getElem?_append_right rU,List.getElem?_map] at hj
    cases hc:cs[j - args.length]? with
    |none=>rw[hc] at hj;cases hj
    |some c=>
     rw[hc] at hj
     injection hj with hj
     subst hj
     obtain⟨u0,u,u1,u2⟩:=ain.2 _ c hc
     refine⟨u,?_,?_⟩
     ·rw[List.getElem?_append_right (by simp only[List.length_map];omega)]
      simpa[r1] using u1
     ·have Nf:uf=false:=by
       cases hf:uf with
       |false=>rfl
       |true=>
        rw[hf] at Cd
        cases cs with
        |nil=>simp at hc
        |cons _ _=>simp at Cd
      have hK:=bP (aio Nf) _ u2
      obtain⟨ct,cm,cx⟩:=c
      unfold UW at u0
      split at u0
      ·rename_i t ht
       simp only at ht u0 hK
       subst ht
       exact⟨[u],by simp[an,isAgg],nX u0 hK⟩
      ·cases u0
 refine((hO.sd f).1 _ _ ret w vd _ H B e fh).mono fun v w' hv=>?_
 obtain⟨rt,B',Ha⟩:=hv
 split at B'
 case h_2=>cases B'
 cases abY:(rt.res.all (fun d=>fK d.t d.m)||(cs.isEmpty&&jg S1 as l args)) with
 |false=>rw[abY] at B';cases B'
 |true=>
 rw[abY] at B'
 simp only[cond_true] at B'
 rw[←Cd,Bool.or_eq_true] at abY
 refine⟨_,B',?_,fun fI g hg=>Ha.fr.block g hg (fun hx=>t6 fI g ((ue g).1 hx))⟩
 -- behind the call
 obtain⟨dq,vs,q1,q2,q3,q4,_⟩:=Ha.res
 let n:=S1.length
 let si:Nat→Option Nat:=fun g=>match dq g with
  |some i=>some (S1.length+i)
  |none=>open Classical in if ow g then none else bF g
 have Hb:∀ g i,si g=some i→(∃ k,dq g=some k∧i=S1.length+k)∨(dq g=none∧ ¬ow g∧bF g=some i):=fun g i hg=>by
  simp only[si] at hg
  split at hg
  ·rename_i k hk
   injection hg with hg
   exact .inl ⟨k,hk,hg.symm⟩
  ·rename_i hk
   split at hg
   ·cases hg
   ·exact .inr ⟨hk,by assumption,hg⟩
 have HU:∀ g k,dq g=some k→si g=some (S1.length+k):=fun g k hk=>by simp only[si,hk]
 have Vm:∀ g i,dq g=none→¬ow g→bF g=some i→si g=some i:=fun g i h1 h2 h3=>by simp only[si,h1,if_neg h2,h3]
 have Ce:∀ g,g<w.heap.size→¬ow g→w'.heap[g]?=w.heap[g]?:=fun g hg hn=>Ha.fr.block g hg (fun hx=>hn ((ue g).1 hx))
 have EB:∀ g,g<w.heap.size→∀ k,dq g=some k→ow g:=fun g hg k hk=>by
  rcases(q3 g k hk).1 with hx |hx
  ·omega
  ·exact(ue g).1 hx
 have bO:aO w w' (Av bF Z) (Av si Z):=⟨fun g hn hg=>Ce g hg (fun hx=>hn (by obtain⟨i,_,hi⟩:=I4 g hx;exact .inl ⟨i,hi⟩)),fun g hg hx=>by
  rcases hx with⟨i,hx⟩ |hx
  ·rcases Hb g i hx with⟨k,hk,_⟩ |⟨_,_,hk⟩
   ·obtain⟨i,_,hi⟩:=I4 g (EB g hg k hk)
    exact .inl ⟨i,hi⟩
   ·exact .inl ⟨i,hk⟩
  ·exact .inr hx⟩
 have Ah:∀ g,ow g→∀ i,bF g=some i→S1.length≤i:=fun g hg i hi=>by
  obtain⟨j,hj,pg⟩:=I4 g hg
  rw[hi] at pg
  injection pg with pg
  omega
 have hR:aW si w0 W0 Z H S1 a w':=by
  refine⟨t1.len,t1.defers,t1.fr.trans Ha.fr (fun g hg hl=>?_),fun g i hg=>?_,fun g i hg=>?_,fun g hg=>⟨?_,(t1.old g hg).2⟩,fun i=>?_⟩
  ·obtain⟨i,_,hi⟩:=I4 g ((ue g).1 hg)
   rcases t1.new g i hi with hx |hx
   ·omega
   ·exact hx
  ·rcases Hb g i hg with⟨k,hk,_⟩ |⟨_,_,hk⟩
   ·rcases(q3 g k hk).1 with hx |hx
    ·have:=t1.fr.size;exact .inl (by omega)
    ·obtain⟨i,_,hi⟩:=I4 g ((ue g).1 hx)
     exact t1.new g i hi
   ·exact t1.new g i hk
  ·rcases Hb g i hg with⟨k,hk,_⟩ |⟨_,_,hk⟩
   ·exact(q3 g k hk).2
   ·have:=t1.lt g i hk;have:=Ha.fr.size;omega
  ·obtain⟨z1,z2⟩:=t1.old g hg
   have ud: ¬ow g:=fun hx=>by obtain⟨i,_,hi⟩:=I4 g hx;rw[z1] at hi;cases hi
   have:dq g=none:=by
    cases hk:dq g with
    |none=>rfl
    |some k=>exact absurd (EB g (by have:=t1.fr.size;omega) k hk) ud
   simp only[si,this,if_neg ud,z1]
  ·by_cases Hv:i<S1.length
   ·refine(t1.holds i).kept bO (fun g hg hl=>?_) (fun s hs=>?_)
    ·have ud: ¬ow g:=fun hx=>by have:=Ah g hx i hg;omega
     refine⟨Ce g hl ud,Vm g i ?_ ud hg⟩
     cases hk:dq g with
     |none=>rfl
     |some k=>exact absurd (EB g hl k hk) ud
    ·by_cases GZ:s<S1.length
     ·exact⟨fun _ _ h=>h,rfl,_,t1.holds s,fun g hg hl=>Ce g hl (fun hx=>by have:=Ah g hx s hg;omega)⟩
     ·have hd:S1.at s=.dead:=Classical.byContradiction fun hx=>GZ (eA hx)
      exact⟨fun _ _ h=>h,rfl,fun _=>False,by rw[hd];trivial,fun _ h=>h.elim⟩
   ·have hd:S1.at i=.dead:=Classical.byContradiction fun hx=>Hv (eA hx)
    rw[hd]
    trivial
 refine⟨_,hR.Ve (ow:=fun g=>∃ k,dq g=some k) (Nat.le_refl _) (fun _ _ _=>rfl) hR.fr (fun g ⟨k,hk⟩=>⟨(q3 g k hk).2,.inl ⟨S1.length+k,by omega,HU g k hk⟩⟩) fun d _ g1 g2=>?_⟩
 -- the results
 have aqB:uf=true→aO w' w' (Av dq B) (Av (gz si o.dst fun g=>∃ k,dq g=some k) Z):=fun Nf=>⟨fun _ _ _=>rfl,fun g _ hg=>by
  rcases g2 g hg with (⟨i,hi⟩ |hz) |hx
  ·rcases Hb g i hi with⟨k,hk,_⟩ |⟨_,ud,hk⟩
   ·exact .inl ⟨k,hk⟩
   ·exact .inr ⟨Nf,t3.Av.1 (.inl ⟨i,hk⟩),ud⟩
  ·refine .inr ⟨Nf,.inr hz,fun hx=>?_⟩
   obtain⟨i,_,hi⟩:=I4 g hx
   rw[(t1.old g hz).1] at hi
   cases hi
  ·exact .inl hx⟩
 have Et:∀ (i:Nat) (b:TV),rt.res[i]?=some b→∃ u cs,vs[i]?=some u∧an b.t u cs∧M w' (Av (gz si o.dst fun g=>∃ k,dq g=some k) Z) H b.t b.m b.x cs (fun g=>dq g=some i) []:=fun i b hb=>by
  obtain⟨u,c,u1,u2,u3⟩:=q4 i b hb
  refine⟨u,c,u1,u2,?_⟩
  rcases abY with hs |Nf
  ·exact jv _ (List.all_eq_true.1 hs b (List.mem_of_getElem? hb)) u3
  ·exact aH (aqB Nf) _ (fun _ _ _=>rfl) (fun _ h _=>h) (fun _ h=>h) u3
 have abZ:∀ l:List TV,l=rt.res→Holds w' (Av (gz si o.dst fun g=>∃ k,dq g=some k) Z) H (bR (a.put o.dst v)) (S1.put o.dst (.ua (l.map some))) (fun g=>gz si o.dst (fun g=>∃ k,dq g=some k) g=some d) (.ua (l.map some)) (.tuple vs.toArray):=fun l hl=>by
  subst hl
  refine⟨vs,fun g=>(dq g).getD 0,rfl,by simp[q2],fun j b hj=>?_⟩
  rw[List.getElem?_map] at hj
  cases hb:rt.res[j]? with
  |none=>rw[hb] at hj;cases hj
  |some b'=>
   rw[hb] at hj
   simp only[Option.map_some,Option.some.injEq] at hj
   subst hj
   obtain⟨u,c,u1,u2,u3⟩:=Et j b' hb
   exact⟨u,c,u1,u2,aH (aO.refl _ _) _ (fun _ _ _=>rfl) (fun g hg _=>⟨g1 g ⟨j,hg⟩,by show(dq g).getD 0=j;rw[hg];rfl⟩) (fun _ h=>h) u3⟩
 subst q1
 match EC:rt.res,q2 with
 |[b],q2=>
  match vs,q2 with
  |[u],_=>
   obtain⟨u',c,u1,u2,u3⟩:=Et 0 b (by rw[EC];rfl)
   simp only[List.getElem?_cons_zero,Option.some.injEq] at u1
   subst u1
   exact⟨c,u2,aH (aO.refl _ _) _ (fun _ _ _=>rfl) (fun g hg _=>g1 g ⟨0,hg⟩) (fun _ h=>h) u3⟩
 |[],q2=>
  match vs,q2 with
  |[],_=>exact abZ [] EC.symm
 |b::b'::r,q2=>
  match vs,q2 with
  |u::u'::vr,_=>exact abZ (b::b'::r) EC.symm
end Go.Pv
namespace Go.Pv
set_option linter.unusedVariables false
set_option linter.unusedSimpArgs false
variable {P:Program} {w w':World} {A A' Wr:Nat→Prop} {H H':Nat→Value} {tm rC:Nat→Value} {S S' S1:St} {σ bF dS:Nat→Option Nat} {w0:World} {W0 Z:Nat→Prop} {a:Act} {own:Nat→Prop} {v:Value} {Θ:da} {dst:Option Nat} {O:jf} {hh:Hint} {Γ:Gl}
theorem uv (cur:List Value) (off n:Nat) (h:off+n≤cur.length):putCells cur off ((cur.drop off).take n)=cur:=by
 have hl:((cur.drop off).take n).length=n:=by rw[List.length_take,List.length_drop];omega
 apply List.ext_getElem?
 intro k
 rw[iu _ _ _ _ (by omega),hl]
 by_cases h1:k<off
 ·rw[if_pos h1]
 ·rw[if_neg h1]
  by_cases h2:k<off+n
  ·rw[if_pos h2,List.getElem?_take,if_pos (by omega),List.getElem?_drop]
   congr 1;omega
  ·rw[if_neg h2]
theorem Rt {ow:Nat→Prop} {vd dq:Nat→Option Nat} (t1:aW bF w0 W0 Z H S1 a w) (I4:∀ g,ow g→Pk bF S1.length g) (ue:∀ g,Own vd g↔ow g) (qW:Fr w (Own vd) w')
  (q3:∀ g i,dq g=some i→(w.heap.size≤g∨Own vd g)∧g<w'.heap.size):
  ∃ si,aW si w0 W0 Z H S1 a w'∧(∀ g k,dq g=some k→si g=some (S1.length+k))∧aO w w' (Av bF Z) (Av si Z)∧
   (∀ g i,i<S1.length→si g=some i→bF g=some i)∧(∀ g i,i<S1.length→bF g=some i→w'.heap[g]?=w.heap[g]?)∧(∀ g i,si g=some i→(∃ k,dq g=some k)∨(¬ow g∧bF g=some i)):=by
 let si:Nat→Option Nat:=fun g=>match dq g with
  |some i=>some (S1.length+i)
  |none=>open Classical in if ow g then none else bF g
 have Hb:∀ g i,si g=some i→(∃ k,dq g=some k∧i=S1.length+k)∨(dq g=none∧ ¬ow g∧bF g=some i):=fun g i hg=>by
  simp only[si] at hg
  split at hg
  ·rename_i k hk
   injection hg with hg
   exact .inl ⟨k,hk,hg.symm⟩
  ·rename_i hk
   split at hg
   ·cases hg
   ·exact .inr ⟨hk,by assumption,hg⟩
 have HU:∀ g k,dq g=some k→si g=some (S1.length+k):=fun g k hk=>by simp only[si,hk]
 have Vm:∀ g i,dq g=none→¬ow g→bF g=some i→si g=some i:=fun g i h1 h2 h3=>by simp only[si,h1,if_neg h2,h3]
 have Ce:∀ g,g<w.heap.size→¬ow g→w'.heap[g]?=w.heap[g]?:=fun g hg hn=>qW.block g hg (fun hx=>hn ((ue g).1 hx))
 have EB:∀ g,g<w.heap.size→∀ k,dq g=some k→ow g:=fun g hg k hk=>by
  rcases(q3 g k hk).1 with hx |hx
  ·omega
  ·exact(ue g).1 hx
 have bO:aO w w' (Av bF Z) (Av si Z):=⟨fun g hn hg=>Ce g hg (fun hx=>hn (by obtain⟨i,_,hi⟩:=I4 g hx;exact .inl ⟨i,hi⟩)),fun g hg hx=>by
  rcases hx with⟨i,hx⟩ |hx
  ·rcases Hb g i hx with⟨k,hk,_⟩ |⟨_,_,hk⟩
   ·obtain⟨i,_,hi⟩:=I4 g (EB g hg k hk)
    exact .inl ⟨i,hi⟩
   ·exact .inl ⟨i,hk⟩
  ·exact .inr hx⟩
 have Ah:∀ g,ow g→∀ i,bF g=some i→S1.length≤i:=fun g hg i hi=>by
  obtain⟨j,hj,pg⟩:=I4 g hg
  rw[hi] at pg
  injection pg with pg
  omega
 refine⟨si,?_,HU,bO,fun g i hi hg=>?_,fun g i hi hg=>Ce g (t1.lt g i hg) (fun hx=>by have:=Ah g hx i hg;omega),fun g i hg=>by
  rcases Hb g i hg with⟨k,hk,_⟩ |⟨_,h1,h2⟩
  ·exact .inl ⟨k,hk⟩
  ·exact .inr ⟨h1,h2⟩⟩
 rotate_left
 ·rcases Hb g i hg with⟨k,_,hk⟩ |⟨_,_,hk⟩
  ·omega
  ·exact hk
 refine⟨t1.len,t1.defers,t1.fr.trans qW (fun g hg hl=>?_),fun g i hg=>?_,fun g i hg=>?_,fun g hg=>⟨?_,(t1.old g hg).2⟩,fun i=>?_⟩
 ·obtain⟨i,_,hi⟩:=I4 g ((ue g).1 hg)
  rcases t1.new g i hi with hx |hx
  ·omega
  ·exact hx
 ·rcases Hb g i hg with⟨k,hk,_⟩ |⟨_,_,hk⟩
  ·rcases(q3 g k hk).1 with hx |hx
   ·have:=t1.fr.size;exact .inl (by omega)
   ·obtain⟨i,_,hi⟩:=I4 g ((ue g).1 hx)
    exact t1.new g i hi
  ·exact t1.new g i hk
 ·rcases Hb g i hg with⟨k,hk,_⟩ |⟨_,_,hk⟩
  ·exact(q3 g k hk).2
  ·have:=t1.lt g i hk;have:=qW.size;omega
 ·obtain⟨z1,z2⟩:=t1.old g hg
  have ud: ¬ow g:=fun hx=>by obtain⟨i,_,hi⟩:=I4 g hx;rw[z1] at hi;cases hi
  have:dq g=none:=by
   cases hk:dq g with
   |none=>rfl
   |some k=>exact absurd (EB g (by have:=t1.fr.size;omega) k hk) ud
  simp only[si,this,if_neg ud,z1]
 ·by_cases Hv:i<S1.length
  ·refine(t1.holds i).kept bO (fun g hg hl=>?_) (fun s hs=>?_)
   ·have ud: ¬ow g:=fun hx=>by have:=Ah g hx i hg;omega
    refine⟨Ce g hl ud,Vm g i ?_ ud hg⟩
    cases hk:dq g with
    |none=>rfl
    |some k=>exact absurd (EB g hl k hk) ud
   ·by_cases GZ:s<S1.length
    ·exact⟨fun _ _ h=>h,rfl,_,t1.holds s,fun g hg hl=>Ce g hl (fun hx=>by have:=Ah g hx s hg;omega)⟩
    ·have hd:S1.at s=.dead:=Classical.byContradiction fun hx=>GZ (eA hx)
     exact⟨fun _ _ h=>h,rfl,fun _=>False,by rw[hd];trivial,fun _ h=>h.elim⟩
  ·have hd:S1.at i=.dead:=Classical.byContradiction fun hx=>Hv (eA hx)
   rw[hd]
   trivial
theorem Ru (h:aW σ w0 W0 Z H S a w) {T:TypeId} {x:Operand} {av:AV} {b:TV} {s:Nat} {p:Path} {cs:List Value} (ho:S.dR Θ T x=some av) (hl:j9 x av=some (s,p)) (e:S.dI x av=some (b,S1)) (hk:b.m.bH=false) (hm:an b.t (a.eval x) cs):
  (p=[]∧s<S.length∧an b.t (bR a s) cs)∨∃ r ex cL,p≠[]∧S1.at s=.v r (ex++[p])∧an r.t (bR a s) cL∧aN w p r.t cL=some cs∧valid p r.t r.x∧aY p r.t r.m r.x=some b∧∀ q∈ex,gp q p=false:=by
 have hh:=bu h ho
 cases av with
 |v a0 ex=>
  cases x with
  |tmp i=>
   simp only[j9,Option.some.injEq,Prod.mk.injEq] at hl
   obtain⟨rfl,rfl⟩:=hl
   exact .inl ⟨rfl,eA (by simp only[St.dR,Option.some.injEq] at ho;rw[ho];exact fun e=>by cases e),hm⟩
  |const c=>simp[j9] at hl
  |func f=>simp[j9] at hl
  |global g=>simp[j9] at hl
 |al t s' p'=>
  simp only[j9,Option.some.injEq,Prod.mk.injEq] at hl
  obtain⟨rfl,rfl⟩:=hl
  obtain⟨r,cL,cs1,hr,hc,hm1⟩:=hh
  simp only[St.dI] at e
  split at e
  case h_2=>cases e
  rename_i b' hb
  cases fo:b'.m.bH with
  |true=>
   rw[fo] at e
   simp only[cond_true,Option.some.injEq,Prod.mk.injEq] at e
   obtain⟨rfl,rfl⟩:=e
   rw[hk] at fo;cases fo
  |false=>
   rw[fo] at e
   simp only[cond_false] at e
   have YI:=c6 h hr hc hb
   obtain⟨zP,_⟩:=YI
   cases hp:p' with
   |nil=>
    subst hp
    simp only[Option.some.injEq,Prod.mk.injEq] at e
    obtain⟨rfl,rfl⟩:=e
    simp only[aN,Option.some.injEq] at hc
    subst hc
    obtain⟨b2,g1,g2⟩:=hr.get
    simp only[aY,Option.some.injEq] at g1
    subst g1
    have B':r.t=b'.t:=by rw[zP];exact g2
    refine .inl ⟨rfl,eA (by obtain⟨ex0,Vd,_⟩:=hr.at_;rw[Vd];exact fun e=>by cases e),?_⟩
    rw[zP] at hm ⊢
    obtain rfl:=eL hm hm1
    have:=hr.mat
    rw[B',zP] at this
    exact this
   |cons GY pp=>
    rw[hp] at e
    obtain⟨ex,b2,cI,ow0,j1,j2,j3,j4,hM,j5,j6,j7⟩:=fS h hr
    rw[j1] at e
    simp only[Option.some.injEq,Prod.mk.injEq] at e
    rw[←hp] at e
    obtain⟨rfl,rfl⟩:=e
    obtain⟨r3,ex3,q1,q2,q3⟩:=pG hb
    rw[j1] at q1
    injection q1 with q1 Eh
    subst q1 Eh
    rw[j3] at q3
    injection q3 with q3
    subst q3
    rw[zP] at hm
    obtain rfl:=eL hm hm1
    have hlen:((S.weaken s').cover s' p').length=S.length:=by simp[St.weaken,St.cover]
    have GZ:s'<S.length:=eA (by rw[j1];exact fun e=>by cases e)
    have Af:St.at (((S.weaken s').cover s' p').set s' (.v r (ex++[p']))) s'=.v r (ex++[p']):=by rw[cN,if_pos ⟨rfl,by rw[hlen];exact GZ⟩]
    exact .inr ⟨r,ex,cL,by simp,by rw[←hp];exact Af,hr.mat,by rw[←hp];exact hc,by rw[←hp];exact hr.val,by rw[←hp];exact j3,by rw[←hp];exact q2⟩
 |_=>simp[j9] at hl
theorem Cf {b:TV} {s:Nat} {p:Path} {r:TV} {ex:List Path} {cL cs:List Value} {pH:Nat→Prop} {b0:TV} {m:Md} {z:r.t.I} (h:aW σ w0 W0 Z H S a w) (og:∀ g,pH g→∃ i,S.length≤i∧σ g=some i)
  (dx:S.at s=.v r (ex++[p])) (Rv:an r.t (bR a s) cL) (hc:aN w p r.t cL=some cs) (jk:valid p r.t r.x) (eS:aY p r.t r.m r.x=some b0) (iY:∀ q∈ex,gp q p=false)
  (nR:gn b p r.t r.m r.x=some (m,z)) (hM:M w (Av σ Z) H b.t b.m b.x cs pH []):∃ dS,aW dS w0 W0 Z H (S.put (some s) (.v ⟨r.t,m,z⟩ ex)) a w∧∀ g i,S.length≤i→¬pH g→σ g=some i→dS g=some i:=by
 have hh:=h.holds s
 rw[dx] at hh
 obtain⟨auL,YE,MD⟩:=hh
 obtain rfl:=eL Rv YE
 have xt:open_ p (ex++[p]):=by
  intro q hq s' r' e
  rcases List.mem_append.1 hq with hq |hq
  ·exact um iY q hq s' r' e
  ·rw[List.mem_singleton.1 hq] at e
   have:=congrArg List.length e
   simp at this
 obtain⟨cI,cA,c1,c2,c3,kQ⟩:=zO p MD xt jk eS
 rw[hc] at c1
 injection c1 with c1
 subst c1
 have fw:b.t=b0.t:=tq p nR eS
 obtain⟨py,kQ⟩:=kQ b (m,z) fw nR
 have hlen:cs.length=b.t.size:=(eH _ hM).1
 let dS:Nat→Option Nat:=fun g'=>open Classical in if pH g' then some s else σ g'
 have M3:∀ g' i,dS g'=some i→(pH g'∧i=s)∨(¬pH g'∧σ g'=some i):=fun g' i bd=>by
  simp only[dS] at bd
  split at bd
  ·injection bd with bd;exact .inl ⟨by assumption,bd.symm⟩
  ·exact .inr ⟨by assumption,bd⟩
 have HP:∀ g' i,¬pH g'→σ g'=some i→dS g'=some i:=fun g' i hn bd=>by simp only[dS,if_neg hn,bd]
 have GZ:s<S.length:=eA (by rw[dx];exact fun e=>by cases e)
 have aii:∀ g',Av dS Z g'→Av σ Z g':=fun g' bd=>by
  rcases bd with⟨i,bd⟩ |bd
  ·rcases M3 g' i bd with⟨hx,_⟩ |⟨_,hx⟩
   ·obtain⟨j,_,hj⟩:=og g' hx
    exact .inl ⟨j,hj⟩
   ·exact .inl ⟨i,hx⟩
  ·exact .inr bd
 have ud:∀ g i,i<S.length→σ g=some i→¬pH g:=fun g i hi hg hx=>by
  obtain⟨j,hj,pg⟩:=og g hx
  rw[hg] at pg
  injection pg with pg
  omega
 have bO:aO w w (Av σ Z) (Av dS Z):=⟨fun _ _ _=>rfl,fun g _ hg=>aii g hg⟩
 have hl0:cL.length=r.t.size:=(eH _ MD).1
 have Et:=kQ w (Av dS Z) cs pH ex bO (by rw[hlen,fw]) (fun g eG rq _=>by
   unfold ll
   split
   ·rename_i q hq
    split
    ·rename_i hgq
     obtain⟨_,_,cur,T,hw,hb,gP⟩:=py q.1 q.2 hq
     subst hgq
     refine⟨cur,T,hw,?_⟩
     rw[gP,uv _ _ _ (by simpa using hb)]
     simpa using hw
    ·rfl
   ·rfl) (aH bO _ (fun _ _ _=>rfl) (fun g hg _=>hg) (fun _ hx=>by cases hx) hM) (fun g eG _ rq=>absurd eG (ud g s GZ rq)) (fun q hq1 HB=>by
   rcases List.mem_append.1 HB with HB |HB
   ·exact HB
   ·exact absurd (by rw[List.mem_singleton.1 HB];simp) (hq1 []))
 have awG:pw p r.t cL cs=cL:=by
  cases hp:aI p with
  |false=>exact jZ p hp
  |true=>
   have h1:=eI (w:=w) p hp eS hl0
   rw[hc] at h1
   injection h1 with h1
   rw[kP p hp eS hl0 (by rw[hlen,fw]),h1]
   exact uv _ _ _ (by rw[hl0];exact eo p hp eS)
 rw[awG] at Et
 refine⟨dS,?_,fun g i _ hn hg=>HP g i hn hg⟩
 have:=h.put (dst:=some s) (av:=.v ⟨r.t,m,z⟩ ex) (v:=bR a s) bO h.fr (fun g i hg=>?_) (fun g hg=>?_) (fun i g hi hd hg=>⟨rfl,HP g i (ud g i hi hg) hg⟩) (fun d hd G' _=>?_)
 ·rw[mw] at this
  exact this
 ·rcases M3 g i hg with⟨hx,_⟩ |⟨_,hx⟩
  ·obtain⟨j,_,hj⟩:=og g hx
   exact⟨h.new g j hj,h.lt g j hj⟩
  ·exact⟨h.new g i hx,h.lt g i hx⟩
 ·have h0:=(h.old g hg).1
  simp only[dS]
  split
  ·rename_i hx
   obtain⟨j,_,hj⟩:=og g hx
   rw[h0] at hj;cases hj
  ·exact h0
 ·injection hd with hd
  subst hd
  refine⟨cL,Rv,aH (aO.refl _ _) _ (fun _ _ _=>rfl) (fun g hg _=>?_) (fun _ h=>h) Et⟩
  rcases hg with⟨k1,_⟩ |k1
  ·exact HP g s (ud g s GZ k1) k1
  ·simp only[dS,if_pos k1]
theorem Ng {b:TV} {s:Nat} {cs:List Value} {pH:Nat→Prop} (h:aW σ w0 W0 Z H S a w) (og:∀ g,pH g→∃ i,S.length≤i∧σ g=some i)
  (hs:s<S.length) (Rv:an b.t (bR a s) cs) (hM:M w (Av σ Z) H b.t b.m b.x cs pH []):∃ dS,aW dS w0 W0 Z H (S.put (some s) (.v b [])) a w∧∀ g i,S.length≤i→¬pH g→σ g=some i→dS g=some i:=by
 refine⟨gz σ (some s) pH,?_,fun g i hi hn hg=>by
  unfold gz
  rw[if_neg hn]
  exact lG (fun e=>by injection e with e;omega) hg⟩
 have:=h.M0 (dst:=some s) (v:=bR a s) (ow:=pH) (A':=Av σ Z) (fun _ _=>rfl) h.fr (fun g hg=>by
  obtain⟨i,hi,mY⟩:=og g hg
  exact⟨h.lt g i mY,.inl ⟨i,hi,mY⟩⟩) (fun g _ hg=>by
  rcases hg with hg |hg
  ·exact hg
  ·obtain⟨i,hi,mY⟩:=og g hg
   exact .inl ⟨i,mY⟩) Rv hM
 rw[mw] at this
 exact this
theorem aip (hT:cM P hh.tab=true) (hO:qZ Γ P O w0 W0) (h:aW σ w0 W0 Z H S a w) {o:Oper} {f:FuncId} {j:Nat} {as:List Operand} {ts:List TypeId} {K:St→Option aa} {ret:aa}
  (e:rL hh O o f j as ts S K=some ret):Rr P f (as.map a.eval) w fun v w'=>∃ S',K S'=some ret∧Rel w0 W0 Z H S' (a.put o.dst v) w':=by
 unfold rL at e
 split at e
 case h_2=>cases e
 rename_i x T hx hT'
 split at e
 case h_2=>cases e
 rename_i av dG
 split at e
 case h_2=>cases e
 rename_i s p b S1 hlp htk
 cases Vn:(!b.m.bH&&eV b.t b.m) with
 |false=>rw[Vn] at e;cases e
 |true=>
 rw[Vn] at e
 simp only[cond_true] at e
 simp only[Bool.and_eq_true,Bool.not_eq_true'] at Vn
 obtain⟨hk,hlb⟩:=Vn
 split at e
 case h_2=>cases e
 rename_i args HT
 obtain⟨uf,Cd⟩:∃ uf,uf=jg S1 as ((List.replicate as.length none).set j (some ⟨b.t,jh b.t b.m 0,b.x⟩)) args:=⟨_,rfl⟩
 cases hls:(rK b.t b.m||jg S1 as ((List.replicate as.length none).set j (some ⟨b.t,jh b.t b.m 0,b.x⟩)) args) with
 |false=>rw[hls] at e;cases e
 |true=>
 rw[hls] at e
 simp only[cond_true] at e
 rw[←Cd,Bool.or_eq_true] at hls
 obtain⟨bF,cs,ow,t1,hm,hM,t3,t2⟩:=eN h dG htk
 have aqC:=Ru h dG hlp htk hk hm
 have rU:j<as.length:=(List.getElem?_eq_some_iff.1 hx).1
 obtain⟨r1,r2⟩:=kj t1 as ts _ (by simp) HT
 let H':Nat→Value:=fun n=>cs.getD n undef
 have hH':∀ (j:Nat) (u:Value),cs[j]?=some u→H' (0+j)=u:=fun j u hj=>by
  simp only[H',Nat.zero_add,List.getD_eq_getElem?_getD,hj,Option.getD_some]
 have hMt:=abX (H':=H') (n:=0) b.t hlb hM hH'
 let vd:Nat→Option Nat:=fun g=>open Classical in if ow g then some j else none
 have ve:∀ g i,vd g=some i↔ow g∧j=i:=fun g i=>by
  simp only[vd]
  split
  ·rename_i hx;exact⟨fun hg=>⟨hx,by injection hg⟩,fun hg=>by rw[hg.2]⟩
  ·rename_i hx;exact⟨fun hg=>(by cases hg),fun hg=>absurd hg.1 hx⟩
 have ue:∀ g,Own vd g↔ow g:=fun g=>⟨fun⟨i,hi⟩=>((ve g i).1 hi).1,fun hg=>⟨j,(ve g _).2 ⟨hg,rfl⟩⟩⟩
 have I4:∀ g,ow g→Pk bF S1.length g:=fun g hg=>by rw[t2];exact t3.now g hg
 let B:Nat→Prop:=fun g=>uf=true∧Av σ Z g∧ ¬ow g
 have Rs:aO w w (Av σ Z) (Av vd B):=⟨fun _ _ _=>rfl,fun g _ hg=>by
  rcases hg with hg |hg
  ·obtain⟨i,_,hi⟩:=t3.MZ g ((ue g).1 hg)
   exact .inl ⟨i,hi⟩
  ·exact hg.2.1⟩
 have aqz:aO w w (Av bF Z) (Av vd B):=⟨fun _ _ _=>rfl,fun g hl hg=>t3.Av.2 (Rs.wr g hl hg)⟩
 have aio:uf=false→aO w w (Pk bF S1.length) (Av vd B):=fun hn=>⟨fun _ _ _=>rfl,fun g _ hg=>by
  rcases hg with hg |hg
  ·exact I4 g ((ue g).1 hg)
  ·have h1:=hg.1;rw[hn] at h1;cases h1⟩
 have r3:=fun hf:uf=true=>mA t1 as ts _ (by simp) HT (Cd.symm.trans hf)
 have fh:In Γ B H' w vd args (as.map a.eval):=by
  refine⟨by simp[r1],fun g i hg=>?_,fun g hg=>⟨?_,?_⟩,fun g o hg=>⟨?_,?_⟩,fun k r fo=>?_⟩
  ·obtain⟨q1,q2⟩:=(ve g i).1 hg
   obtain⟨k,_,hk⟩:=t3.MZ g q1
   exact⟨by omega,h.lt g k hk⟩
  ·cases hc:vd g with
   |none=>rfl
   |some i=>exact absurd ((ve g i).1 hc).1 hg.2.2
  ·rcases hg.2.1 with⟨i,hi⟩ |hz
   ·exact h.lt g i hi
   ·have:=(h.old g hz).2;have:=h.fr.size;omega
  ·cases hc:vd g with
   |none=>rfl
   |some i=>
    obtain⟨k,_,hk⟩:=t3.MZ g ((ve g i).1 hc).1
    obtain⟨e1,e2⟩:=hO.env g o hg
    rcases h.new g k hk with hx |hx
    ·have:=a8 e2;omega
    ·exact absurd hx e1
  ·obtain⟨e1,e2⟩:=hO.env g o hg
   rw[h.fr.block g (a8 e2) e1,e2]
  ·rw[List.getElem?_map]
   rcases r2 k r fo with⟨b',I3,rfl⟩ |⟨x',xf,iR⟩
   ·rw[List.getElem?_set] at I3
    split at I3
    ·rename_i I1
     subst I1
     simp only[List.length_replicate,if_pos rU,Option.some.injEq] at I3
     subst I3
     rw[hx]
     exact⟨_,rfl,cs,hm,aH Rs _ (fun _ _ _=>rfl) (fun g hg _=>(ve g j).2 ⟨hg,rfl⟩) (fun _ h=>h) hMt⟩
    ·rw[List.getElem?_replicate] at I3
     split at I3<;>simp at I3
   ·have fin:∀ {A0:Nat→Prop},aO w w A0 (Av vd B)→Cc w A0 H' r (a.eval x') (fun _=>False)→Cc w (Av vd B) H' r (a.eval x') (fun g=>vd g=some k):=fun bO iR=>by
     cases r with
     |tv b=>
      obtain⟨c,c1,c2⟩:=iR
      exact⟨c,c1,aH bO _ (fun _ _ _=>rfl) (fun _ hg _=>hg.elim) (fun _ h=>h) c2⟩
     |fn f' cq=>
      obtain⟨vs,c1,c2,c3⟩:=iR
      exact⟨vs,c1,c2,fun k c hk=>by obtain⟨u,u1,u2⟩:=c3 k c hk;exact⟨u,u1,bP bO _ u2⟩⟩
    cases Nf:uf with
    |false=>
     rw[xf]
     exact⟨_,rfl,fin (aio Nf) (iR H')⟩
    |true=>
     rcases r3 Nf k r fo with⟨b',I3,rfl⟩ |⟨x2,wY,aqA⟩
     ·rw[List.getElem?_set] at I3
      split at I3
      ·rename_i I1
       subst I1
       simp only[List.length_replicate,if_pos rU,Option.some.injEq] at I3
       subst I3
       rw[hx]
       exact⟨_,rfl,cs,hm,aH Rs _ (fun _ _ _=>rfl) (fun g hg _=>(ve g j).2 ⟨hg,rfl⟩) (fun _ h=>h) hMt⟩
      ·rw[List.getElem?_replicate] at I3
       split at I3<;>simp at I3
     ·rw[xf] at wY
      injection wY with wY
      subst wY
      rw[xf]
      exact⟨_,rfl,fin aqz (aqA H')⟩
 refine((hO.sd f).1 _ _ ret w vd _ H' B e fh).mono fun v w' hv=>?_
 obtain⟨rt,B',Ha⟩:=hv
 split at B'
 case h_2=>cases B'
 rename_i c hrefs
 cases fI:rt.res.all (fun d=>fK d.t d.m&&qV d.m) with
 |false=>rw[fI] at B';cases B'
 |true=>
 rw[fI] at B'
 simp only[cond_true] at B'
 split at B'
 case isFalse=>cases B'
 rename_i hct
 split at B'
 case isFalse=>cases B'
 rename_i hcm
 split at B'
 case h_2=>cases B'
 rename_i S2 YJ
 obtain⟨dq,vs,q1,q2,q3,q4,q5⟩:=Ha.res
 obtain⟨cI,hMc⟩:=q5 c hrefs
 obtain⟨si,hR,HU,bO,Vm,kR,auV⟩:=Rt t1 I4 ue Ha.fr q3
 -- what comes back
 obtain⟨ct,cm,cx⟩:=c
 simp only at hct hcm hMc YJ
 subst hct
 subst hcm
 have aqw:aO w w' (Av σ Z) (Av si Z):=⟨fun g hn hl=>bO.same g (fun hx=>hn (t3.Av.1 hx)) hl,fun g hl hg=>t3.Av.1 (bO.wr g hl hg)⟩
 have aqB:rK b.t b.m=true∨aO w' w' (Av dq B) (Av si Z):=hls.imp id fun Nf=>⟨fun _ _ _=>rfl,fun g _ hg=>by
  rcases hg with⟨i,hi⟩ |hz
  ·rcases auV g i hi with⟨k,hk⟩ |⟨ud,hk⟩
   ·exact .inl ⟨k,hk⟩
   ·exact .inr ⟨Nf,t3.Av.1 (.inl ⟨i,hk⟩),ud⟩
  ·refine .inr ⟨Nf,.inr hz,fun hx=>?_⟩
   obtain⟨i,_,hi⟩:=I4 g hx
   rw[(t1.old g hz).1] at hi
   cases hi⟩
 have hMb:=xx (B:=Av dq B) (A':=Av si Z) aqw b.t hlb aqB hM hH' hMc
 have og:∀ g,dq g=some rt.res.length→∃ i,S1.length≤i∧si g=some i:=fun g hg=>⟨_,by omega,HU g _ hg⟩
 have hR2:∃ dS,aW dS w0 W0 Z H S2 a w'∧∀ g i,S1.length≤i→¬dq g=some rt.res.length→si g=some i→dS g=some i:=by
  rcases aqC with⟨rfl,abx,hmt⟩ |⟨r,ex,cL,hp,dx,hmt,iY,jk,eS,ab0⟩
  ·simp only[St.pA,Option.some.injEq] at YJ
   subst YJ
   exact Ng (b:=⟨b.t,b.m,_⟩) hR og (by rw[t2];exact abx) hmt hMb
  ·cases p with
   |nil=>exact absurd rfl hp
   |cons GY pp=>
   simp only[St.pA,dx] at YJ
   split at YJ
   case h_2=>cases YJ
   rename_i m z nR
   simp only[Option.some.injEq,List.dropLast_concat] at YJ
   subst YJ
   have hh0:=t1.holds s
   rw[dx] at hh0
   obtain⟨auL,YE,MD⟩:=hh0
   obtain rfl:=eL hmt YE
   have xt:open_ (GY::pp) (ex++[GY::pp]):=by
    intro q hq s' r' e
    rcases List.mem_append.1 hq with hq |hq
    ·exact um ab0 q hq s' r' e
    ·rw[List.mem_singleton.1 hq] at e
     have:=congrArg List.length e
     simp at this
   have GZ:s<S1.length:=eA (by rw[dx];exact fun e=>by cases e)
   have ail:=(eK bO (GY::pp) none MD (fun g hg _=>kR g s GZ hg) xt jk).1
   exact Cf (b:=⟨b.t,b.m,_⟩) hR og dx hmt (ail.trans iY) jk eS ab0 nR hMb
 refine⟨_,B',?_⟩
 obtain⟨σ3,hR3,hR4⟩:=hR2
 have axh:S2.length=S1.length:=by have:=hR3.len;have:=t1.len;omega
 obtain⟨n,hn⟩:∃ n,n=rt.res.length:=⟨_,rfl⟩
 have awH:∀ g k,k<n→dq g=some k→σ3 g=some (S1.length+k):=fun g k hk hg=>hR4 g _ (by omega) (fun e=>by rw[hg] at e;injection e with e;omega) (HU g k hg)
 refine⟨_,hR3.Ve (ow:=fun g=>∃ k,k<n∧dq g=some k) (Nat.le_refl _) (fun _ _ _=>rfl) hR3.fr (fun g ⟨k,QN,hk⟩=>⟨(q3 g k hk).2,.inl ⟨S1.length+k,by omega,awH g k QN hk⟩⟩) fun d _ g1 g2=>?_⟩
 have Et:∀ (i:Nat) (b:TV),rt.res[i]?=some b→∃ u cs,vs[i]?=some u∧an b.t u cs∧M w' (Av (gz σ3 o.dst fun g=>∃ k,k<n∧dq g=some k) Z) H b.t b.m b.x cs (fun g=>i<n∧dq g=some i) []:=fun i b hb=>by
  obtain⟨u,c,u1,u2,u3⟩:=q4 i b hb
  have Hv:i<n:=by rw[hn];exact(List.getElem?_eq_some_iff.1 hb).1
  have hsb:=List.all_eq_true.1 fI b (List.mem_of_getElem? hb)
  simp only[Bool.and_eq_true] at hsb
  exact⟨u,c,u1,u2,aH (aO.refl _ _) _ (fun _ _ _=>rfl) (fun g hg _=>⟨Hv,hg⟩) (fun _ h=>h) (mB _ hsb.2 (jv _ hsb.1 u3))⟩
 have abZ:∀ l:List TV,l=rt.res→Holds w' (Av (gz σ3 o.dst fun g=>∃ k,k<n∧dq g=some k) Z) H (bR (a.put o.dst v)) (S2.put o.dst (.ua (l.map some))) (fun g=>gz σ3 o.dst (fun g=>∃ k,k<n∧dq g=some k) g=some d) (.ua (l.map some)) (.tuple vs.toArray):=fun l hl=>by
  subst hl
  refine⟨vs,fun g=>(dq g).getD 0,rfl,by simp[q2],fun j b hj=>?_⟩
  rw[List.getElem?_map] at hj
  cases hb:rt.res[j]? with
  |none=>rw[hb] at hj;cases hj
  |some b'=>
   rw[hb] at hj
   simp only[Option.map_some,Option.some.injEq] at hj
   subst hj
   obtain⟨u,c,u1,u2,u3⟩:=Et j b' hb
   exact⟨u,c,u1,u2,aH (aO.refl _ _) _ (fun _ _ _=>rfl) (fun g hg _=>⟨g1 g ⟨j,hg⟩,by show(dq g).getD 0=j;rw[hg.2];rfl⟩) (fun _ h=>h) u3⟩
 subst q1
 match EC:rt.res,q2 with
 |[b],q2=>
  match vs,q2 with
  |[u],_=>
   obtain⟨u',c,u1,u2,u3⟩:=Et 0 b (by rw[EC];rfl)
   simp only[List.getElem?_cons_zero,Option.some.injEq] at u1
   subst u1
   exact⟨c,u2,aH (aO.refl _ _) _ (fun _ _ _=>rfl) (fun g hg _=>g1 g ⟨0,hg⟩) (fun _ h=>h) u3⟩
 |[],q2=>
  match vs,q2 with
  |[],_=>exact abZ [] EC.symm
 |b::b'::r,q2=>
  match vs,q2 with
  |u::u'::vr,_=>exact abZ (b::b'::r) EC.symm
end Go.Pv
namespace Go.Pv
set_option linter.unusedVariables false
set_option linter.unusedSimpArgs false
variable {P:Program} {w w':World} {A A' Wr:Nat→Prop} {H:Nat→Value} {tm rC:Nat→Value} {S S' S1:St} {σ bF dS:Nat→Option Nat} {w0:World} {W0 Z:Nat→Prop} {a:Act} {own:Nat→Prop} {v:Value} {Θ:da} {dst:Option Nat}
theorem aW.drop (h:aW σ w0 W0 Z H S a w) (ow:Nat→Prop) (rB:∀ g,ow g→∀ i,σ g=some i→S.length≤i):
  ∃ dS,aW dS w0 W0 Z H S a w∧(∀ g,Av dS Z g→Av σ Z g∧ ¬ow g∨Z g):=by
 let dS:Nat→Option Nat:=fun g=>open Classical in if ow g then none else σ g
 have h2:∀ g i,dS g=some i→¬ow g∧σ g=some i:=fun g i hg=>by
  simp only[dS] at hg
  split at hg
  ·cases hg
  ·exact⟨by assumption,hg⟩
 have h3:∀ g i,¬ow g→σ g=some i→dS g=some i:=fun g i hn hg=>by simp only[dS,if_neg hn,hg]
 have bO:aO w w (Av σ Z) (Av dS Z):=⟨fun _ _ _=>rfl,fun g _ hg=>by
  rcases hg with⟨i,hi⟩ |hz
  ·exact .inl ⟨i,(h2 g i hi).2⟩
  ·exact .inr hz⟩
 refine⟨dS,⟨h.len,h.defers,h.fr,fun g i hg=>h.new g i (h2 g i hg).2,fun g i hg=>h.lt g i (h2 g i hg).2,fun g hg=>⟨?_,(h.old g hg).2⟩,fun i=>?_⟩,fun g hg=>?_⟩
 ·simp only[dS]
  split
  ·rfl
  ·exact(h.old g hg).1
 ·by_cases Hv:i<S.length
  ·refine(h.holds i).kept bO (fun g hg _=>⟨rfl,h3 g i (fun hx=>?_) hg⟩) (fun s hs=>⟨fun _ _ h=>h,rfl,_,h.holds s,fun _ _ _=>rfl⟩)
   have:=rB g hx i hg
   omega
  ·have hd:S.at i=.dead:=Classical.byContradiction fun hx=>Hv (eA hx)
   rw[hd];trivial
 ·rcases hg with⟨i,hi⟩ |hz
  ·exact .inl ⟨.inl ⟨i,(h2 g i hi).2⟩,(h2 g i hi).1⟩
  ·exact .inr hz
theorem nf:∀ (p:Path) {t:Ty} {m:Md} {x:t.I} {b:TV},ME p=true→aY p t m x=some b→valid p t x
 |[],_,_,_,_,_,_=>trivial
 | .idx _::_,_,_,_,_,h,_=>by simp[ME] at h
 | .deref::p,t,m,x,b,h,e=>by
  cases t<;>simp only[aY] at e<;>first |cases e |exact nf p h e
 | .fst::p,t,m,x,b,h,e=>by
  cases t<;>simp only[aY] at e<;>first |cases e |exact nf p h e
 | .snd::p,t,m,x,b,h,e=>by
  cases t<;>simp only[aY] at e<;>first |cases e |exact nf p h e
theorem aW.freeze (h:aW σ w0 W0 Z H S a w) {d:Nat} {r:TV} (dx:S.at d=.v r []):Rel w0 W0 Z H (S.put (some d) (.v (QR r) [])) a w:=by
 have hh:=h.holds d
 rw[dx] at hh
 obtain⟨cs,hm,hM⟩:=hh
 have h0:∀ g,σ g=some d→¬Av (release σ (some d)) Z g:=fun g hg hx=>by
  rcases hx with⟨i,hi⟩ |hz
  ·obtain⟨h1,h2⟩:=fv hi
   rw[hg] at h1
   exact h2 h1
  ·rw[(h.old g hz).1] at hg;cases hg
 have bO:aO w w (Av σ Z) (Av (release σ (some d)) Z):=⟨fun _ _ _=>rfl,fun g _ hg=>uV hg⟩
 refine⟨release σ (some d),?_⟩
 have:=h.put (dst:=some d) (av:=.v (QR r) []) (v:=bR a d) bO h.fr (fun g i hg=>⟨h.new g i (fv hg).1,h.lt g i (fv hg).1⟩) (fun g hg=>by
  unfold release
  split
  ·rfl
  ·exact(h.old g hg).1) (fun i g _ hd hg=>⟨rfl,lG hd hg⟩) (fun d' U6 _ _=>by
  injection U6 with U6
  subst U6
  refine⟨cs,hm,nX (t:=r.t) rfl (M_K (fun g _ hx=>uV hx) r.t rfl h0 hM)⟩)
 rw[mw] at this
 exact this
theorem YK (h:Rel w0 W0 Z H S a w) {d:Nat} (e:UY S d=some (true,S')):Rel w0 W0 Z H S' a w:=by
 obtain⟨σ,h⟩:=h
 unfold UY at e
 split at e
 case h_2=>cases e
 rename_i t s st pp dx
 split at e
 case h_2=>cases e
 rename_i r ex hs
 split at e
 case h_2=>cases e
 rename_i b eS
 cases hk:b.m.bH with
 |true=>rw[hk] at e;cases e
 |false=>
 rw[hk] at e
 simp only[cond_false,Option.some.injEq,Prod.mk.injEq] at e
 obtain⟨iY,rfl⟩:=e
 have hal:=h.holds d
 rw[dx] at hal
 obtain⟨bF,cs2,ow,t1,hm,hM,QN,hn⟩:=r9 (vv:=bR a d) h (by simp) hal hs eS hk (fun q hq=>by simpa using List.all_eq_true.1 iY q hq)
 have:=t1.M0 (dst:=some d) (v:=bR a d) (ow:=ow) (A':=Av bF Z) (fun _ _=>rfl) t1.fr (fun g hg=>by
  obtain⟨i,hi,mY⟩:=QN.now g hg
  exact⟨t1.lt g i mY,.inl ⟨i,by omega,mY⟩⟩) (fun g _ hg=>by
  rcases hg with hg |hg
  ·exact hg
  ·obtain⟨i,hi,mY⟩:=QN.now g hg
   exact .inl ⟨i,mY⟩) hm hM
 rw[mw] at this
 exact⟨_,this⟩
theorem ab1 (h:Rel w0 W0 Z H S a w) (q:Nat×Path):Rel w0 W0 Z H (S.aqd q) a w:=by
 obtain⟨σ,h⟩:=h
 obtain⟨s,p⟩:=q
 unfold St.aqd
 simp only
 split
 case h_2=>exact⟨σ,h⟩
 rename_i r dx
 split
 case h_2=>exact⟨σ,h⟩
 rename_i b eS
 cases hc:(b.m.bH|| !ME p) with
 |true=>exact⟨σ,h⟩
 |false=>
 simp only[cond_false]
 simp only[Bool.or_eq_false_iff,Bool.not_eq_false'] at hc
 obtain⟨hk,hni⟩:=hc
 split
 ·exact h.freeze dx
 rename_i hp
 split
 case h_2=>exact⟨σ,h⟩
 rename_i m z nR
 have hh:=h.holds s
 rw[dx] at hh
 obtain⟨cL,Rv,MD⟩:=hh
 have jk:=nf p hni eS
 have xt:open_ p []:=fun _ hq=>by cases hq
 obtain⟨cs,cA,k1,k2,k3⟩:=focus p MD xt jk eS
 have hal:∃ t vv,Holds w (Av σ Z) H (bR a) S (fun _=>False) (.al t s p) vv∧t=b.t∧an t vv cs:=by
  obtain⟨vv,hvv⟩:∃ vv,an b.t vv cs:=by
   unfold an
   cases hg:isAgg b.t with
   |true=>exact⟨_,by rw[if_pos rfl]⟩
   |false=>
    have hl:=(eH _ k3).1
    have h1:=HM hg
    rw[h1] at hl
    obtain⟨u,rfl⟩:=List.length_eq_one_iff.1 hl
    exact⟨u,by simp⟩
  exact⟨b.t,vv,⟨r,cL,cs,⟨⟨[],dx,xt⟩,jk,⟨b,eS,rfl⟩,Rv⟩,k1,hvv⟩,rfl,hvv⟩
 obtain⟨t,vv,hal,rfl,hvv⟩:=hal
 obtain⟨bF,cs2,ow,t1,hm,hM,QN,hn⟩:=r9 (vv:=vv) h hp hal dx eS hk (fun _ hq=>by cases hq)
 obtain rfl:=eL hvv hm
 obtain⟨dS,d1,d2⟩:=t1.drop ow (fun g hg i hi=>by
  obtain⟨j,hj,pg⟩:=QN.now g hg
  rw[hi] at pg
  injection pg with pg
  omega)
 have hK:K w (Av dS Z) b.t b.x cs:=M_K (fun g _ hx=>by
  rcases d2 g hx with hx |hx
  ·exact hx.1
  ·exact .inr hx) b.t rfl (fun g hg hx=>by
  rcases d2 g hx with hx |hx
  ·exact hx.2 hg
  ·obtain⟨j,_,hj⟩:=QN.now g hg
   rw[(t1.old g hx).1] at hj;cases hj) hM
 have awI:St.at (((S.weaken s).cover s p).set s (.v r [p])) s=.v r ([]++[p]):=by
  rw[cN,if_pos ⟨rfl,by simp only[St.weaken,St.cover,List.length_map];exact eA (by rw[dx];exact fun e=>by cases e)⟩]
  rfl
 obtain⟨σ3,h3,_⟩:=Cf (b:=QR b) (pH:=fun _=>False) (ex:=[]) d1 (fun _ h=>h.elim) awI Rv k1 jk eS (fun _ hq=>by cases hq) nR (nX (t:=b.t) rfl hK)
 exact⟨σ3,h3⟩
theorem Nh:∀ (l:List (Nat×List (Nat×Path))) {id:Nat},Rel w0 W0 Z H S a w→Rel w0 W0 Z H (Ye l id S) a w
 |[],_,h=>h
 |q::r,id,h=>by
  unfold Ye
  cases Nat.beq q.1 id with
  |true=>
   simp only[cond_true]
   generalize q.2=l
   induction l generalizing S with
   |nil=>exact h
   |cons x l ih=>exact ih (ab1 h x)
  |false=>exact Nh r h
end Go.Pv
namespace Go.Pv
set_option linter.unusedVariables false
set_option linter.unusedSimpArgs false
variable {Γ:Gl} {P:Program} {w w':World} {A A' Wr:Nat→Prop} {H:Nat→Value} {tm rC:Nat→Value} {S S' S1:St} {σ bF dS:Nat→Option Nat} {w0:World} {W0 Z:Nat→Prop} {a:Act} {own:Nat→Prop} {v:Value} {Θ:da} {dst:Option Nat} {O:jf} {hh:Hint} {Q:Exit→Act→World→Prop} {K:St→Option aa} {ret:aa}
def I5 (w0:World) (W0 Z:Nat→Prop) (H:Nat→Value) (K:St→Option aa) (ret:aa) (a:Act) (w:World):Prop:=∃ S,K S=some ret∧Rel w0 W0 Z H S a w
theorem I6 {o:Oper} {c:Call} {f:FuncId} {xy:List Value} (ho:o.op=.call c) (hc:∃ x,c.callee=.value x∧a.eval x=.func (.func f) #[] xy.toArray) {R:Value→World→Prop} (hd:Rr P f (c.args.toList.map a.eval++xy) w R)
  {N:Act→World→Prop} (hN:∀ v w',R v w'→N (a.put o.dst v) w'):o.wp P a w N Q:=by
 obtain⟨x,hx,hv⟩:=hc
 have b7:(execOp a.eval o).run P w=(callFunc f (c.args.toList.map a.eval++xy).toArray).run P w:=by
  simp only[execOp,ho,resolve,hx,Deferred.ofValue,hv,Sem.run_bind,Sem.run_pure,Result.andThen_ok,invoke]
  congr 2
  apply Array.toList_inj.1
  simp
 unfold Oper.wp
 rw[b7]
 rcases hd with⟨h1,h2⟩ |⟨v,w',h1,h2⟩
 ·rw[h1,Oper.upon_enter]
  refine h2.mono fun e w' he=>?_
  cases e with
  |returned v=>exact hN _ _ he
  |panicked c=>exact he.elim
  |outgrown=>exact he.elim
 ·rw[h1,Oper.upon_value]
  exact hN _ _ h2
theorem HV {f:FuncId} {c:Call} (hc:c.callee=.value (.func f)) (h:Dc O (.call c)=true):∀ p∈O.sig f,p=.val:=by
 obtain⟨callee,args,ats⟩:=c
 simp only at hc
 subst hc
 simp only[Dc,List.all_eq_true] at h
 intro p hp
 have:=h p hp
 cases p<;>first |rfl |cases this
theorem Rw {op:Op} (h:quiet op=true):Nc op=true:=by
 unfold Nc
 split<;>first |rfl |exact h
theorem ED:∀ (l:List Pass) (n:Nat) {j:Nat},uT l n=some j→¬ ∀ p∈l,p=.val
 |[],n,j,h,_=>by cases h
 | .kT::r,n,j,h,hv=>by have:=hv .kT (by simp);cases this
 | .val::r,n,j,h,hv=>ED r (n+1) (by simpa[uT] using h) (fun p hp=>hv p (by simp[hp]))
 | .take::r,n,j,h,hv=>by have:=hv .take (by simp);cases this
theorem ab2 (hT:cM P hh.tab=true) (h:aW σ w0 W0 Z H S a w) {T:TypeId} {x:Operand} {eq:Bool} {dst:Option Nat} (e:UX hh dst T eq x S K=some ret):
  (∃ A n c,a.eval x=.slice A n c)∧∃ q,(binOp (bif eq then .eql else .neq) T (a.eval x) (.slice none 0 0)).run P w=.ok (.bool q) w∧∃ S',K S'=some ret∧Rel w0 W0 Z H S' (a.put dst (.bool q)) w:=by
 unfold UX at e
 split at e
 case h_2=>cases e
 rename_i t m xs hx
 cases zK:hh.tab.is T (.sl t) with
 |false=>rw[zK] at e;cases e
 |true=>
 rw[zK] at e
 simp only[cond_true] at e
 obtain⟨cs,h1,h2,_⟩:=iz h hx
 simp only[Go.Pv.K] at h2
 obtain⟨A,c,rfl,hc,Dd⟩:=h2
 have hv:a.eval x=.slice A (List.length xs) c:=by simpa[an,isAgg] using h1.symm
 obtain⟨i,hi,fw⟩:=dQ zK
 obtain⟨_,hu,hTT⟩:=cO hT hi
 obtain⟨u1,_,_⟩:=lr hu fw
 rw[hTT] at u1
 have fh:∀ d,(Op.equalIn (d+1) T (.slice A (List.length xs) c) (.slice none 0 0)).run P w=.ok A.isNone w:=fun d=>by
  simp only[Op.equalIn,Sem.run_bind,run_underlying u1,Result.andThen_ok]
  cases A<;>simp
 have b7:(Op.equal T (a.eval x) (.slice none 0 0)).run P w=.ok A.isNone w:=by
  rw[hv]
  exact fh 9999
 have hq:(binOp (bif eq then .eql else .neq) T (a.eval x) (.slice none 0 0)).run P w=.ok (.bool (bif eq then A.isNone else !A.isNone)) w:=by
  cases eq<;>simp[binOp,b7]
 refine⟨⟨A,_,c,hv⟩,_,hq,?_⟩
 have put:∀ q:Bool,Rel w0 W0 Z H (S.put dst (.v ⟨.bool,.k,q⟩ [])) (a.put dst (.bool q)) w:=fun q=>⟨_,h.pure (cC q)⟩
 cases aqD:List.isEmpty xs with
 |true=>
  rw[aqD] at e
  simp only[cond_true] at e
  obtain⟨e1,e2⟩:=Yf e
  cases hb:(bif eq then A.isNone else !A.isNone) with
  |true=>exact⟨_,e1,put true⟩
  |false=>exact⟨_,e2,put false⟩
 |false=>
  rw[aqD] at e
  simp only[cond_false] at e
  have hp:0<List.length xs:=by
   cases xs with
   |nil=>simp at aqD
   |cons _ _=>simp
  obtain⟨g,off,cur,T',fr,rfl,_⟩:=Dd hp
  cases eq with
  |true=>exact⟨_,e,put false⟩
  |false=>exact⟨_,e,put true⟩
theorem auW (hT:cM P hh.tab=true) (hO:qZ Γ P O w0 W0) (h:aW σ w0 W0 Z H S a w) {o:Oper} (e:gO hh O o S K=some ret):
  o.wp P a w (fun a' w'=>I5 w0 W0 Z H K ret a' w'∧(Dc O o.op=true→Ext w w')) Q:=by
 unfold gO at e
 split at e
 ·rename_i f as ts ho
  split at e
  ·rename_i j hj
   have hd:=aip hT hO h e
   rw[←List.append_nil (as.toList.map a.eval)] at hd
   refine I6 ho (xy:=[]) ⟨_,rfl,by simp[Act.eval]⟩ hd ?_
   intro v w' ⟨S',h1,h2⟩
   exact⟨⟨S',h1,h2⟩,fun hx=>absurd (HV rfl (by rw[ho] at hx;exact hx)) (ED _ _ hj)⟩
  refine I6 ho (xy:=[]) ⟨_,rfl,by simp[Act.eval]⟩ (Vl hT hO h (.inl ⟨rfl,rfl⟩) e) ?_
  intro v w' ⟨S',h1,h2,h3⟩
  exact⟨⟨S',h1,h2⟩,fun hx=>h3 (HV rfl (by rw[ho] at hx;exact hx))⟩
 ·rename_i i as ts ho
  split at e
  case h_2=>cases e
  rename_i f cq dx
  have hold:=h.holds i
  rw[dx] at hold
  obtain⟨vs,v1,v2,v3⟩:=hold
  refine I6 ho (xy:=vs) ⟨_,rfl,v1⟩ (Vl hT hO h (.inr ⟨i,rfl,v1⟩) e) ?_
  intro v w' ⟨S',h1,h2,h3⟩
  refine⟨⟨S',h1,h2⟩,fun hx=>?_⟩
  rw[ho] at hx
  cases hx
 ·rename_i T x T' ho
  obtain⟨⟨A,n,c,hv⟩,q,hq,S',hS,hR⟩:=ab2 hT h (eq:=true) e
  unfold Oper.wp
  have hr:(execOp a.eval o).run P w=.ok (.value (.bool q)) w:=by
   have rv:(binOp .eql T (a.eval x) (a.eval (.const (.slice none 0 0)))).run P w=.ok (.bool q) w:=hq
   have hg:(eqGuard .eql T x (.const (.slice none 0 0)) (a.eval x) (a.eval (.const (.slice none 0 0)))).run P w=.ok () w:=by
    rw[hv]
    simp[eqGuard,Act.eval]
   simp only[execOp,ho,Sem.run_bind]
   rw[hg]
   simp only[Result.andThen_ok]
   rw[rv]
   rfl
  rw[hr,Oper.upon_value]
  exact⟨⟨S',hS,hR⟩,fun _=>Ext.refl w⟩
 ·rename_i T x T' ho
  obtain⟨⟨A,n,c,hv⟩,q,hq,S',hS,hR⟩:=ab2 hT h (eq:=false) e
  unfold Oper.wp
  have hr:(execOp a.eval o).run P w=.ok (.value (.bool q)) w:=by
   have rv:(binOp .neq T (a.eval x) (a.eval (.const (.slice none 0 0)))).run P w=.ok (.bool q) w:=hq
   have hg:(eqGuard .neq T x (.const (.slice none 0 0)) (a.eval x) (a.eval (.const (.slice none 0 0)))).run P w=.ok () w:=by
    rw[hv]
    simp[eqGuard,Act.eval]
   simp only[execOp,ho,Sem.run_bind]
   rw[hg]
   simp only[Result.andThen_ok]
   rw[rv]
   rfl
  rw[hr,Oper.upon_value]
  exact⟨⟨S',hS,hR⟩,fun _=>Ext.refl w⟩
 ·rename_i n1 n2 n3 n4
  split at e
  case h_2=>cases e
  rename_i g S1 GW
  cases g with
  |false=>cases e
  |true=>
  simp only[cond_true] at e
  by_cases auX:Nc o.op=true
  ·obtain⟨w',v,r1,r2,r3⟩:=abS hT h auX GW
   unfold Oper.wp
   rw[r1,Oper.upon_value]
   exact⟨⟨S1,e,r3⟩,fun _=>r2⟩
  ·obtain⟨w',v,r1,r3⟩:=auU hT h GW
   have hna: ¬Dc O o.op=true:=fun hx=>by
    apply auX
    revert hx n1
    generalize o.op=op
    intro n1 hx
    unfold Dc at hx
    split at hx<;>first |rfl |(exact absurd rfl (n1 _ _ _)) |exact Rw hx
   unfold Oper.wp
   rcases r1 with r1 |⟨rfl,r1⟩
   ·rw[r1,Oper.upon_value]
    exact⟨⟨S1,e,r3⟩,fun hx=>absurd hx hna⟩
   ·rw[r1,Oper.upon_skip]
    exact⟨⟨S1,e,r3⟩,fun hx=>absurd hx hna⟩
end Go.Pv
namespace Go.Pv
set_option linter.unusedVariables false
set_option linter.unusedSimpArgs false
variable {Γ:Gl} {P:Program} {w w':World} {A A' Wr:Nat→Prop} {H:Nat→Value} {tm rC:Nat→Value} {S S' S1:St} {σ bF dS:Nat→Option Nat} {w0:World} {W0 Z:Nat→Prop} {a:Act} {own:Nat→Prop} {v:Value} {Θ:da} {dst:Option Nat} {O:jf} {hh:Hint} {Q:Exit→Act→World→Prop} {K:St→Option aa} {ret:aa} {ops:Array Oper}
theorem ab3 {i:Nat} (h:aW σ w0 W0 Z H S a w) (hi:i<S.length):a.tmps[i]?=some (bR a i):=by
 have hl:i<a.tmps.size:=by rw[←h.len];exact hi
 unfold bR
 rw[Array.getD_eq_getD_getElem?,Array.getElem?_eq_getElem hl]
 rfl
theorem Rx (h:aW σ w0 W0 Z H S a w) {j d:Nat} {m:Md} {q:Bool} {ex:List Path} (hd:(ops[j]?).bind (·.dst)=some d) (dx:S.at d=.v ⟨.bool,m,q⟩ ex):yielded ops a.tmps j=some q∧bR a d=.bool q:=by
 have hl:=eA (S:=S) (i:=d) (by rw[dx];exact fun e=>by cases e)
 have hh:=h.holds d
 rw[dx] at hh
 obtain⟨cs,h1,h2⟩:=hh
 simp only[M] at h2
 have hv:=c8 h1 h2.2
 refine⟨?_,hv⟩
 unfold yielded
 rw[hd,Option.bind_some,ab3 h hl,hv]
theorem Ni (h:aW σ w0 W0 Z H S a w) {j d:Nat} (hd:(ops[j]?).bind (·.dst)=some d) (dx:S.at d=.undef):yielded ops a.tmps j=none:=by
 have hl:=eA (S:=S) (i:=d) (by rw[dx];exact fun e=>by cases e)
 have hh:=h.holds d
 rw[dx] at hh
 have hv:bR a d=undef:=hh
 unfold yielded
 rw[hd,Option.bind_some,ab3 h hl,hv]
 rfl
theorem Rel.undef (h:aW σ w0 W0 Z H S a w) (dst:Option Nat):Rel w0 W0 Z H (S.put dst .undef) (a.put dst Go.undef) w:=⟨_,h.pure (av:=.undef) (v:=Go.undef) rfl⟩
theorem ab4 {S:St} {d:Nat} {a:AV} (h:S.at d=a) (hd:a≠ .dead):S.set d a=S:=by
 unfold St.at at h
 rw[List.getD_eq_getElem?_getD] at h
 by_cases hl:d<S.length
 ·rw[List.getElem?_eq_getElem hl] at h
  simp only[Option.getD_some] at h
  subst h
  simp
 ·rw[List.getElem?_eq_none (by omega)] at h
  exact absurd h.symm hd
theorem vf (h:aW σ w0 W0 Z H S a w) {i:Nat} {o:Oper} (ho:ops[i]?=some o) (e:aS hh O ops i S K=some ret):
  (Region.wanted o (yielded ops a.tmps)=true∧∃ dq S',aW dq w0 W0 Z H S' a w∧gO hh O o S' K=some ret)∨
  (Region.wanted o (yielded ops a.tmps)=false∧I5 w0 W0 Z H K ret (a.put o.dst undef) w):=by
 unfold aS at e
 rw[ho] at e
 simp only at e
 split at e
 ·rename_i hg
  exact .inl ⟨by simp[Region.wanted,hg],σ,S,h,e⟩
 ·rename_i j want hg
  split at e
  case h_2=>cases e
  rename_i d hd
  split at e
  ·rename_i m q ex dx
   obtain⟨hy,hv⟩:=Rx h hd dx
   have hw:Region.wanted o (yielded ops a.tmps)=(q==want):=by
    unfold Region.wanted
    rw[hg]
    simp only[hy]
    cases q<;>cases want<;>rfl
   have Nj:=ab4 dx (fun e=>by cases e)
   cases q with
   |true=>
    simp only[cond_true,Nj] at e
    cases want with
    |true=>exact .inl ⟨hw,σ,_,h,e⟩
    |false=>exact .inr ⟨hw,_,e,Rel.undef h o.dst⟩
   |false=>
    simp only[cond_false,Nj] at e
    cases want with
    |true=>exact .inr ⟨hw,_,e,Rel.undef h o.dst⟩
    |false=>exact .inl ⟨hw,σ,_,h,e⟩
  ·rename_i dx
   have hy:=Ni h hd dx
   refine .inr ⟨?_,_,e,Rel.undef h o.dst⟩
   unfold Region.wanted
   rw[hg]
   simp only[hy]
   rfl
  ·cases e
theorem Dk (hT:cM P hh.tab=true) (hO:qZ Γ P O w0 W0) (h:aW σ w0 W0 Z H S a w) {i:Nat} (e:aS hh O ops i S K=some ret):
  wpOp P ops Q i (fun a' w'=>I5 w0 W0 Z H K ret a' w'∧(∀ o,ops[i]?=some o→Dc O o.op=true→Ext w w')) a w:=by
 unfold wpOp
 cases ho:ops[i]? with
 |none=>unfold aS at e;rw[ho] at e;cases e
 |some o=>
  simp only
  rcases vf h ho e with⟨hw,dq,S',h',e'⟩ |⟨hw,Nk⟩
  ·rw[if_pos hw]
   refine .inl (Oper.wp_mono (fun a' w' h=>⟨h.1,fun o' G1=>?_⟩) (auW hT hO h' e'))
   injection G1 with G1
   subst G1
   exact h.2
  ·rw[if_neg (by rw[hw];exact Bool.false_ne_true)]
   exact⟨Nk,fun _ _ _=>Ext.refl w⟩
theorem ab5 (hT:cM P hh.tab=true) (hO:qZ Γ P O w0 W0) (hQ:∀ a w,I5 w0 W0 Z H K ret a w→Q .normal a w):∀ (l:List Nat) {S:St} {a:Act} {w:World},m9 hh O ops l S K=some ret→Rel w0 W0 Z H S a w→wpOps P ops Q l a w
 |[],S,a,w,e,h=>hQ a w ⟨S,e,h⟩
 |i::l,S,a,w,e,⟨σ,h⟩=>by
  rw[wpOps_cons]
  simp only[m9] at e
  refine wpOp_mono (fun a' w' h'=>?_) (Dk hT hO h e)
  obtain⟨⟨S',h1,h2⟩,_⟩:=h'
  exact ab5 hT hO hQ l h1 h2
theorem Ext.trans {w1 w2 w3:World} (h:Ext w1 w2) (h':Ext w2 w3):Ext w1 w3:=fun g hg=>by
 have h1:=h g hg
 have:g<w2.heap.size:=by
  rw[Array.getElem?_eq_getElem hg] at h1
  exact a8 h1
 rw[h' g this,h1]
def wpE (P:Program) (ops:Array Oper) (Q:Exit→Act→World→Prop) (ad:Nat→Bool):Nat→Array Bool→Act→World→Prop
 |0,a7,a,w=>Region.ready .any ops a7=[]∧Q .normal a w
 |n+1,a7,a,w=>(Region.ready .any ops a7=[]→Q .normal a w)∧
  ∀ i∈Region.ready .any ops a7,wpOp P ops Q i (fun a' w'=>(ad i=true→Ext w w')∧wpE P ops Q ad n (a7.setIfInBounds i true) a' w') a w
theorem Vo {ad:Nat→Bool}:∀ (n:Nat) {a7:Array Bool} {a:Act} {w:World},wpE P ops Q ad n a7 a w→wpAny P .any ops Q n a7 a w
 |0,_,_,_,h=>h
 |n+1,_,_,_,h=>⟨h.1,fun i hi=>wpOp_mono (fun _ _ h'=>Vo n h'.2) (h.2 i hi)⟩
theorem YL {ad:Nat→Bool} {i:Nat} {oi:Oper} {v:Value} (hi:ops[i]?=some oi) (EE:∀ (j:Nat) (o:Oper) cs b,ops[j]?=some o→o.op≠ .select cs b)
  (hQ:∀ c a w,Q (.panic c) (a.put oi.dst v) w→Q (.panic c) a w) {D:Nat→Bool} (hDi:D i=true)
  (hD:∀ j oj,ops[j]?=some oj→D j=true→j≠i→∃ e∈oj.after,Region.binds .any e=true∧D e.on=true):
  ∀ (fuel:Nat) (a7:Array Bool) (a:Act) (w:World),(∀ j,D j=true→a7.getD j true=false)→
   (∀ j oj,ops[j]?=some oj→D j=false→a7.getD j true=false→oi.apart ops oj=true∧ad j=true)→
   i∈Region.ready .any ops a7→YieldsIf P ops (Ext w) oi v a→wpE P ops Q ad fuel (a7.setIfInBounds i true) (a.put oi.dst v) w→wpE P ops Q ad (fuel+1) a7 a w:=by
 intro fuel
 induction fuel with
 |zero=>
  intro a7 a w _ _ hr hy HH
  refine⟨fun h=>(by rw[h] at hr;cases hr),fun j hj=>?_⟩
  by_cases kS:j=i
  ·subst kS;exact hy.wpOp hi (Ext.refl w) ⟨fun _=>Ext.refl w,HH⟩
  ·have:=ready_mono hj kS
   rw[HH.1] at this
   cases this
 |succ fuel ih=>
  intro a7 a w G7 Nl hr hy HH
  refine⟨fun h=>(by rw[h] at hr;cases hr),fun j hj=>?_⟩
  by_cases kS:j=i
  ·subst kS;exact hy.wpOp hi (Ext.refl w) ⟨fun _=>Ext.refl w,HH⟩
  ·have h1:=HH.2 j (ready_mono hj kS)
   obtain⟨ab6,oj,nW,fI⟩:=mem_ready.1 hj
   have hDj:D j=false:=by
    cases hd:D j with
    |false=>rfl
    |true=>
     obtain⟨e,he,hb,hde⟩:=hD j oj nW hd kS
     have h2:=fI e he hb
     have h3:=G7 e.on hde
     rcases Nat.lt_or_ge e.on a7.size with hl |hl
     ·simp[hl] at h2 h3;rw[h3] at h2;cases h2
     ·simp[Array.getElem?_eq_none hl] at h2
   obtain⟨Rk,had⟩:=Nl j oj nW hDj ab6
   have h2:=wpOp_putIf nW Rk (fun cs b=>EE i oi cs b hi) (fun cs b=>EE j oj cs b nW) hQ hy h1
   refine wpOp_mono (fun a' w' h3=>⟨fun _=>h3.2.1 had,?_⟩) h2
   have awJ:=h3.2.1 had
   refine ih (a7.setIfInBounds j true) a' w' (fun k hk=>?_) (fun k ok hk hdk ab7=>Nl k ok hk hdk ?_) (ready_mono hr (Ne.symm kS)) ?_ ?_
   ·have I1:j≠k:=fun e=>by subst e;rw[hDj] at hk;cases hk
    rw[getD_set_ne true I1]
    exact G7 k hk
   ·by_cases I1:j=k
    ·subst I1;exact ab6
    ·rw[getD_set_ne true I1] at ab7;exact ab7
   ·exact h3.1.imp (fun⟨q1,q2⟩=>⟨q1,fun w2 rH=>q2 w2 (awJ.trans rH)⟩) id
   ·rw[Array.setIfInBounds_comm _ _ kS]
    exact h3.2.2
theorem EF {ad:Nat→Bool} {i:Nat} {oi:Oper} {v:Value} (hi:ops[i]?=some oi) (EE:∀ (j:Nat) (o:Oper) cs b,ops[j]?=some o→o.op≠ .select cs b)
  (hQ:∀ c a w,Q (.panic c) (a.put oi.dst v) w→Q (.panic c) a w) {D:Nat→Bool} (hDi:D i=true)
  (hD:∀ j oj,ops[j]?=some oj→D j=true→j≠i→∃ e∈oj.after,Region.binds .any e=true∧D e.on=true):
  ∀ (fuel:Nat) (a7:Array Bool) (a:Act) (w:World),(∀ j,D j=true→a7.getD j true=false)→
   (∀ j oj,ops[j]?=some oj→D j=false→a7.getD j true=false→oi.apart ops oj=true)→
   i∈Region.ready .any ops a7→YieldsIf P ops (fun _=>True) oi v a→wpE P ops Q ad fuel (a7.setIfInBounds i true) (a.put oi.dst v) w→wpE P ops Q ad (fuel+1) a7 a w:=by
 intro fuel
 induction fuel with
 |zero=>
  intro a7 a w _ _ hr hy HH
  refine⟨fun h=>(by rw[h] at hr;cases hr),fun j hj=>?_⟩
  by_cases kS:j=i
  ·subst kS;exact hy.wpOp hi trivial ⟨fun _=>Ext.refl w,HH⟩
  ·have:=ready_mono hj kS
   rw[HH.1] at this
   cases this
 |succ fuel ih=>
  intro a7 a w G7 Nl hr hy HH
  refine⟨fun h=>(by rw[h] at hr;cases hr),fun j hj=>?_⟩
  by_cases kS:j=i
  ·subst kS;exact hy.wpOp hi trivial ⟨fun _=>Ext.refl w,HH⟩
  ·have h1:=HH.2 j (ready_mono hj kS)
   obtain⟨ab6,oj,nW,fI⟩:=mem_ready.1 hj
   have hDj:D j=false:=by
    cases hd:D j with
    |false=>rfl
    |true=>
     obtain⟨e,he,hb,hde⟩:=hD j oj nW hd kS
     have h2:=fI e he hb
     have h3:=G7 e.on hde
     rcases Nat.lt_or_ge e.on a7.size with hl |hl
     ·simp[hl] at h2 h3;rw[h3] at h2;cases h2
     ·simp[Array.getElem?_eq_none hl] at h2
   have Rk:=Nl j oj nW hDj ab6
   have h2:=wpOp_putIf nW Rk (fun cs b=>EE i oi cs b hi) (fun cs b=>EE j oj cs b nW) hQ hy h1
   refine wpOp_mono (fun a' w' h3=>⟨h3.2.1,?_⟩) h2
   refine ih (a7.setIfInBounds j true) a' w' (fun k hk=>?_) (fun k ok hk hdk ab7=>Nl k ok hk hdk ?_) (ready_mono hr (Ne.symm kS)) ?_ ?_
   ·have I1:j≠k:=fun e=>by subst e;rw[hDj] at hk;cases hk
    rw[getD_set_ne true I1]
    exact G7 k hk
   ·by_cases I1:j=k
    ·subst I1;exact ab6
    ·rw[getD_set_ne true I1] at ab7;exact ab7
   ·exact h3.1
   ·rw[Array.setIfInBounds_comm _ _ kS]
    exact h3.2.2
theorem gF (j k:Nat):Nat.testBit (2^j) k=decide (j=k):=Nat.testBit_two_pow
theorem Cg {o:Oper} {k:Nat} (h:Nat.testBit (a6 o) k=true):∃ e∈o.after,Region.binds .any e=true∧e.on=k:=by
 have key:∀ (l:List Edge),Nat.testBit (l.foldr (fun e m=>bif Region.binds .any e then m|||2^e.on else m) 0) k=true→∃ e∈l,Region.binds .any e=true∧e.on=k:=by
  intro l
  induction l with
  |nil=>intro h;simp at h
  |cons e r ih=>
   intro h
   simp only[List.foldr_cons] at h
   cases hb:Region.binds .any e with
   |false=>
    rw[hb] at h
    obtain⟨e',h1,h2⟩:=ih h
    exact⟨e',List.mem_cons_of_mem _ h1,h2⟩
   |true=>
    rw[hb] at h
    simp only[cond_true,Nat.testBit_or,Bool.or_eq_true,gF,decide_eq_true_eq] at h
    rcases h with h |h
    ·obtain⟨e',h1,h2⟩:=ih h
     exact⟨e',List.mem_cons_of_mem _ h1,h2⟩
    ·exact⟨e,List.mem_cons_self ..,hb,h⟩
 obtain⟨e,h1,h2⟩:=key _ h
 exact⟨e,by simpa using h1,h2⟩
theorem Ry {o:Oper} {e:Edge} (he:e∈o.after) (hb:Region.binds .any e=true):Nat.testBit (a6 o) e.on=true:=by
 have key:∀ (l:List Edge),e∈l→Nat.testBit (l.foldr (fun e m=>bif Region.binds .any e then m|||2^e.on else m) 0) e.on=true:=by
  intro l
  induction l with
  |nil=>intro h;cases h
  |cons e' r ih=>
   intro h
   simp only[List.foldr_cons]
   rcases List.mem_cons.1 h with rfl |h
   ·rw[hb]
    simp[Nat.testBit_or,gF]
   ·cases Region.binds .any e'<;>simp[Nat.testBit_or,ih h]
 exact key _ (by simpa using he)
theorem vg (i:Nat):∀ (r:List Nat) (j acc k:Nat),Nat.testBit acc k=true→Nat.testBit (aX i r j acc) k=true
 |[],_,_,_,h=>h
 |m::r,j,acc,k,h=>by
  simp only[aX]
  refine vg i r _ _ k ?_
  cases (Nat.beq j i|| !(Nat.beq (m&&&acc) 0))<;>simp[Nat.testBit_or,h]
theorem EG (i:Nat):∀ (r:List Nat) (j acc:Nat),j≤i→i<j+r.length→Nat.testBit (aX i r j acc) i=true
 |[],_,_,h1,h2=>by simp at h2;omega
 |m::r,j,acc,h1,h2=>by
  simp only[aX]
  by_cases hj:j=i
  ·subst hj
   refine vg _ r _ _ _ ?_
   simp[Nat.testBit_or,gF]
  ·exact EG i r _ _ (by omega) (by simp only[List.length_cons] at h2;omega)
theorem vh (i:Nat):∀ (r:List Nat) (j acc k:Nat),Nat.testBit (aX i r j acc) k=true→
  Nat.testBit acc k=true∨∃ q m,k=j+q∧r[q]?=some m∧(k=i∨∃ t,Nat.testBit m t=true∧Nat.testBit (aX i r j acc) t=true)
 |[],_,_,_,h=>.inl h
 |m::r,j,acc,k,h=>by
  simp only[aX] at h ⊢
  rcases vh i r _ _ k h with h1 |⟨q,m',h1,h2,h3⟩
  ·cases hc:(Nat.beq j i|| !(Nat.beq (m&&&acc) 0)) with
   |false=>rw[hc] at h1;exact .inl h1
   |true=>
    rw[hc] at h1
    simp only[cond_true,Nat.testBit_or,Bool.or_eq_true,gF,decide_eq_true_eq] at h1
    rcases h1 with h1 |rfl
    ·exact .inl h1
    ·refine .inr ⟨0,m,by omega,rfl,?_⟩
     rw[Bool.or_eq_true] at hc
     rcases hc with hc |hc
     ·exact .inl (Nat.eq_of_beq_eq_true hc)
     ·right
      have nM:m&&&acc≠0:=fun e=>by rw[e] at hc;cases hc
      obtain⟨t,ht⟩:=Nat.exists_testBit_of_ne_zero nM
      rw[Nat.testBit_and,Bool.and_eq_true] at ht
      refine⟨t,ht.1,vg i r _ _ t ?_⟩
      simp[Nat.testBit_or,ht.2]
  ·exact .inr ⟨q+1,m',by omega,by simpa using h2,h3⟩
theorem uw {oi:Oper} {rest:Nat}:∀ (r:List Oper) (j:Nat),w8 O ops oi rest r j=true→∀ (q:Nat) (oj:Oper),r[q]?=some oj→Nat.testBit rest (j+q)=true→oi.apart ops oj=true∧Dc O oj.op=true
 |[],_,_,q,oj,h,_=>by simp at h
 |o::r,j,h,q,oj,hq,ht=>by
  simp only[w8,Bool.and_eq_true] at h
  cases q with
  |zero=>
   simp only[List.getElem?_cons_zero,Option.some.injEq] at hq
   subst hq
   rw[Nat.add_zero] at ht
   rw[ht] at h
   simpa using h.1
  |succ q=>exact uw r (j+1) h.2 q oj (by simpa using hq) (by rw[←ht];congr 1;omega)
theorem ab8 (hT:cM P hh.tab=true) (h:aW σ w0 W0 Z H S a w) {i:Nat} {o:Oper} (ho:ops[i]?=some o) (hq:quiet o.op=true) (hn:pB o.op=false) (e:aS hh O ops i S K=some ret):
  ∃ v,YieldsIf P ops (Ext w) o v a∧I5 w0 W0 Z H K ret (a.put o.dst v) w:=by
 rcases vf h ho e with⟨hw,dq,S',h',e'⟩ |⟨hw,Nk⟩
 ·unfold gO at e'
  split at e'
  ·rename_i f as ts bK;rw[bK] at hq;cases hq
  ·rename_i i' as ts bK;rw[bK] at hq;cases hq
  ·rename_i bK;rw[bK] at hn;cases hn
  ·rename_i bK;rw[bK] at hn;cases hn
  ·split at e'
   case h_2=>cases e'
   rename_i g S1 GW
   cases g with
   |false=>cases e'
   |true=>
    obtain⟨v,h1,h2⟩:=abR hT h' hq GW
    exact⟨v,.inl ⟨hw,h1⟩,S1,e',h2⟩
 ·exact⟨undef,.inr ⟨hw,rfl⟩,Nk⟩
theorem jw {oi:Oper} {rest:Nat}:∀ (r:List Oper) (j:Nat),ka ops oi rest r j=true→∀ (q:Nat) (oj:Oper),r[q]?=some oj→Nat.testBit rest (j+q)=true→oi.apart ops oj=true
 |[],_,_,q,oj,h,_=>by simp at h
 |o::r,j,h,q,oj,hq,ht=>by
  simp only[ka,Bool.and_eq_true] at h
  cases q with
  |zero=>
   simp only[List.getElem?_cons_zero,Option.some.injEq] at hq
   subst hq
   rw[Nat.add_zero] at ht
   rw[ht] at h
   simpa using h.1
  |succ q=>exact jw r (j+1) h.2 q oj (by simpa using hq) (by rw[←ht];congr 1;omega)
theorem xz {oi:Oper} {rest:Nat}:∀ (r:List Oper) (j:Nat),(∀ (q:Nat) (oj:Oper),r[q]?=some oj→Nat.testBit rest (j+q)=true→oi.apart ops oj=true)→ka ops oi rest r j=true
 |[],_,_=>rfl
 |o::r,j,h=>by
  unfold ka
  rw[Bool.and_eq_true]
  refine⟨?_,xz r (j+1) fun q oj hq ht=>h (q+1) oj (by simpa using hq) (by rw[←ht];congr 1;omega)⟩
  cases hb:Nat.testBit rest j with
  |false=>rfl
  |true=>exact h 0 o rfl (by rw[Nat.add_zero];exact hb)
theorem Nn (hT:cM P hh.tab=true) (h:aW σ w0 W0 Z H S a w) {i:Nat} {o:Oper} (ho:ops[i]?=some o) (hqT:zQ hh.tab o.op=true) (e:aS hh O ops i S K=some ret):
  ∃ v,YieldsIf P ops (fun _=>True) o v a∧I5 w0 W0 Z H K ret (a.put o.dst v) w:=by
 have hq:still o.op=true:=by unfold zQ at hqT;simp only[Bool.and_eq_true] at hqT;exact hqT.1.1
 have hnn:pB o.op=false:=by unfold zQ at hqT;simp only[Bool.and_eq_true,Bool.not_eq_true'] at hqT;exact hqT.1.2
 have rv:Rq o.op=true:=by
  unfold still at hq
  split at hq<;>first |(rename_i bK;rw[bK];rfl) |cases hq
 rcases vf h ho e with⟨hw,dq,S',h',e'⟩ |⟨hw,Nk⟩
 ·unfold gO at e'
  split at e'
  ·rename_i f as ts bK;rw[bK] at hq;cases hq
  ·rename_i i' as ts bK;rw[bK] at hq;cases hq
  ·rename_i bK;rw[bK] at hnn;simp[pB] at hnn
  ·rename_i bK;rw[bK] at hnn;simp[pB] at hnn
  ·split at e'
   case h_2=>cases e'
   rename_i g S1 GW
   cases g with
   |false=>cases e'
   |true=>
    obtain⟨v,h1,h2⟩:=aqx hT h' rv (by unfold zQ at hqT;simp only[Bool.and_eq_true] at hqT;exact hqT.2) GW
    exact⟨v,.inl ⟨hw,fun w _=>h1 w⟩,S1,e',h2⟩
 ·exact⟨undef,.inr ⟨hw,rfl⟩,Nk⟩
def Hc (ops:Array Oper) (a7:Array Bool) (L:Nat):Prop:=a7.size=ops.size∧∀ j,j<ops.size→a7[j]?=some (Nat.testBit L j)
theorem Hc.set {a7:Array Bool} {L i:Nat} (h:Hc ops a7 L) (hi:i<ops.size):Hc ops (a7.setIfInBounds i true) (L|||2^i):=by
 refine⟨by simp[h.1],fun j hj=>?_⟩
 rw[Array.getElem?_setIfInBounds]
 by_cases ru:i=j
 ·subst ru
  simp[h.1,hi,Nat.testBit_or,gF]
 ·rw[if_neg ru,h.2 j hj,Nat.testBit_or,gF]
  simp[ru]
theorem Hc.getD {a7:Array Bool} {L:Nat} (h:Hc ops a7 L) {j:Nat} (hj:j<ops.size) (d:Bool):a7.getD j d=Nat.testBit L j:=by
 rw[Array.getD_eq_getD_getElem?,h.2 j hj];rfl
theorem Hc.out {a7:Array Bool} {L:Nat} (h:Hc ops a7 L) {j:Nat} (hj: ¬j<ops.size) (d:Bool):a7.getD j d=d:=by
 rw[Array.getD_eq_getD_getElem?,Array.getElem?_eq_none (by rw[h.1];omega)];rfl
def aqE (ops:Array Oper) (as:List Nat) (i j:Nat):Prop:=∃ m oi oj,as[j]?=some m∧ops[i]?=some oi∧ops[j]?=some oj∧i≠j∧(Nat.testBit m i=true∨Hs ops oi oj=true)
theorem vi {as:List Nat}:∀ {l:List Nat},DW ops as l=true↔l.Pairwise (aqE ops as)
 |[]=>by simp[DW]
 |i::r=>by
  simp only[DW,Bool.and_eq_true,List.all_eq_true,List.pairwise_cons,vi (l:=r)]
  refine and_congr (forall_congr' fun j=>forall_congr' fun hj=>?_) Iff.rfl
  constructor
  ·intro h
   split at h
   case h_2=>cases h
   rename_i m oi oj h1 h2 h3
   simp only[Bool.and_eq_true,Bool.not_eq_true',Bool.or_eq_true] at h
   exact⟨m,oi,oj,h1,h2,h3,fun e=>by(subst e;rw[Nat.beq_refl] at h;cases h.1),h.2⟩
  ·rintro⟨m,oi,oj,h1,h2,h3,h4,h5⟩
   rw[h1,h2,h3]
   simp only[Bool.and_eq_true,Bool.not_eq_true',Bool.or_eq_true]
   refine⟨?_,h5⟩
   cases hb:Nat.beq i j with
   |false=>rfl
   |true=>exact absurd (Nat.eq_of_beq_eq_true hb) h4
theorem HW {as:List Nat}:∀ (l:List Nat) {L L':Nat},(∀ k,Nat.testBit L k=true→Nat.testBit L' k=true)→mm as L l=true→mm as L' l=true
 |[],_,_,_,_=>rfl
 |i::r,L,L',hL,h=>by
  simp only[mm,Bool.and_eq_true] at h ⊢
  refine⟨?_,HW r (fun k hk=>?_) h.2⟩
  ·have h1:=h.1
   split at h1
   case h_2=>cases h1
   rename_i m hm
   have h2:=Nat.eq_of_beq_eq_true h1
   have:m&&&L'=m:=Nat.eq_of_testBit_eq fun k=>by
    rw[Nat.testBit_and]
    cases hk:Nat.testBit m k with
    |false=>rfl
    |true=>
     have h3:Nat.testBit (m&&&L) k=true:=by rw[h2];exact hk
     rw[Nat.testBit_and,hk] at h3
     rw[hL k (by simpa using h3)]
     rfl
   rw[this]
   exact Nat.beq_refl m
  ·rw[Nat.testBit_or,Bool.or_eq_true] at hk ⊢
   exact hk.imp (hL k) id
theorem EH {as:List Nat} {j:Nat}:∀ (p r:List Nat) {L:Nat},mm as L (p++j::r)=true→mm as (L|||2^j) (p++r)=true
 |[],r,L,h=>by
  simp only[List.nil_append,mm,Bool.and_eq_true] at h
  exact h.2
 |x::p,r,L,h=>by
  simp only[List.cons_append,mm,Bool.and_eq_true] at h ⊢
  have h0:mm as (L|||2^j) [x]=true:=HW [x] (L:=L) (fun k hk=>by rw[Nat.testBit_or,hk];rfl) (by simp only[mm,Bool.and_eq_true];exact⟨h.1,trivial⟩)
  simp only[mm,Bool.and_eq_true] at h0
  refine⟨h0.1,?_⟩
  have:=EH p r h.2
  rwa [Nat.or_assoc,Nat.or_comm (2^x),←Nat.or_assoc] at this
theorem iH:∀ (l:List Nat) (k:Nat),Nat.testBit (dX l) k=decide (k∈l)
 |[],k=>by simp[dX]
 |i::r,k=>by
  have h:dX (i::r)=dX r|||2^i:=rfl
  rw[h,Nat.testBit_or,iH r k,gF]
  by_cases h1:k∈r<;>by_cases h2:i=k<;>simp[h1,h2,eq_comm]
def OT.bare:OT→Prop
 | .own _ _=>False
 |_=>True
theorem Ai:∀ (l:OT) {S:St} {a:Act} {w:World},fu hh O ops l S K=some ret→Rel w0 W0 Z H S a w→
  ∃ (l':OT) (S':St),l'.bare∧fu hh O ops l' S' K=some ret∧Rel w0 W0 Z H S' a w∧l'.len=l.len∧∀ (Θ:da) (as:List Nat) (full L:Nat),fL Θ O ops as full L l=true→fL Θ O ops as full L l'=true
 | .own d t,S,a,w,e,h=>by
  simp only[fu] at e
  split at e
  case h_2=>cases e
  rename_i g S1 hg
  cases g with
  |false=>cases e
  |true=>
   obtain⟨l',S',h1,h2,h3,h4,h5⟩:=Ai t e (YK h hg)
   exact⟨l',S',h1,h2,h3,by simp only[OT.len];exact h4,fun Θ as full L ho=>h5 Θ as full L (by simpa only[fL] using ho)⟩
 | .done,S,a,w,e,h=>⟨.done,S,trivial,e,h,rfl,fun _ _ _ _ h=>h⟩
 | .one i t,S,a,w,e,h=>⟨.one i t,S,trivial,e,h,rfl,fun _ _ _ _ h=>h⟩
 | .any q t,S,a,w,e,h=>⟨.any q t,S,trivial,e,h,rfl,fun _ _ _ _ h=>h⟩
 | .par q ds t,S,a,w,e,h=>⟨.par q ds t,S,trivial,e,h,rfl,fun _ _ _ _ h=>h⟩
theorem ab9 (hT:cM P hh.tab=true) (hO:qZ Γ P O w0 W0) (hQ:∀ a w,I5 w0 W0 Z H K ret a w→Q .normal a w) (Dl:∀ c a w,¬Q (.panic c) a w) (EE:Region.noSelect ops=true):
  ∀ (n:Nat) (L:Nat) (l:OT) {a7:Array Bool} {S:St} {a:Act} {w:World},fL hh.tab O ops (ops.toList.map a6) (2^ops.size - 1) L l=true→Hc ops a7 L→l.len≤n→fu hh O ops l S K=some ret→Rel w0 W0 Z H S a w→
   wpE P ops Q (fun j=>match ops[j]? with |some o=>Dc O o.op |none=>false) n a7 a w:=by
 have auY:∀ {a7:Array Bool} {L:Nat},Hc ops a7 L→L=2^ops.size - 1→Region.ready .any ops a7=[]:=by
  intro a7 L hb hL
  refine List.eq_nil_iff_forall_not_mem.2 fun j hj=>?_
  obtain⟨h1,oj,h2,_⟩:=mem_ready.1 hj
  have hj:=(Array.getElem?_eq_some_iff.1 h2).1
  rw[hb.getD hj,hL,Nat.testBit_two_pow_sub_one] at h1
  simp[hj] at h1
 intro n
 induction n with
 |zero=>
  intro L l a7 S a w ho hb hn e h
  obtain⟨l,S,ab',e,h,hlen,qU⟩:=Ai l e h
  replace ho:=qU _ _ _ _ ho
  rw[←hlen] at hn
  clear qU hlen
  cases l with
  |own _ _=>exact ab'.elim
  |one _ _=>simp[OT.len] at hn
  |any q _=>
   cases q with
   |nil=>simp[fL,ah4] at ho
   |cons _ _=>simp[OT.len] at hn
  |par q _ _=>
   cases q with
   |nil=>simp[fL,ah5] at ho
   |cons _ _=>simp[OT.len] at hn
  |done=>
   simp only[fL] at ho
   exact⟨auY hb (Nat.eq_of_beq_eq_true ho),hQ a w ⟨S,e,h⟩⟩
 |succ n ih=>
  intro L l a7 S a w ho hb hn e h
  obtain⟨l,S,ab',e,h,hlen,qU⟩:=Ai l e h
  replace ho:=qU _ _ _ _ ho
  rw[←hlen] at hn
  clear qU hlen
  have Rh:∀ (l:OT) (L:Nat),fL hh.tab O ops (ops.toList.map a6) (2^ops.size - 1) L l=true→L<2^ops.size:=by
   intro l
   induction l with
   |done=>
    intro L h
    have:=Nat.eq_of_beq_eq_true h
    have:=Nat.two_pow_pos ops.size
    omega
   |one i t ih=>
    intro L h
    simp only[fL,Bool.and_eq_true] at h
    exact Nat.lt_of_le_of_lt Nat.left_le_or (ih _ h.2)
   |any q t ih=>
    intro L h
    simp only[fL,Bool.and_eq_true] at h
    exact Nat.lt_of_le_of_lt Nat.left_le_or (ih _ h.2)
   |par q ds t ih=>
    intro L h
    simp only[fL,Bool.and_eq_true] at h
    exact Nat.lt_of_le_of_lt Nat.left_le_or (ih _ h.2)
   |own d t ih=>
    intro L h
    simp only[fL] at h
    exact ih _ h
  have hL2:=Rh l L ho
  have Rz:∀ (i:Nat) (oi:Oper),ops[i]?=some oi→aX i (ops.toList.map a6) 0 0&&&L=0→
    (∀ j,Nat.testBit (aX i (ops.toList.map a6) 0 0) j=true→Nat.testBit L j=false)∧Nat.testBit (aX i (ops.toList.map a6) 0 0) i=true∧
    (∀ j oj,ops[j]?=some oj→Nat.testBit (aX i (ops.toList.map a6) 0 0) j=true→j≠i→∃ e∈oj.after,Region.binds .any e=true∧Nat.testBit (aX i (ops.toList.map a6) 0 0) e.on=true)∧
    (∀ j,Nat.testBit (aX i (ops.toList.map a6) 0 0) j=true→j<ops.size):=by
   intro i oi HX c3
   have hi:i<ops.size:=(Array.getElem?_eq_some_iff.1 HX).1
   have hW3:∀ j,Nat.testBit (aX i (ops.toList.map a6) 0 0) j=true→Nat.testBit L j=false:=fun j hj=>by
    have:Nat.testBit (aX i (ops.toList.map a6) 0 0&&&L) j=false:=by rw[c3];simp
    rw[Nat.testBit_and,hj] at this
    simpa using this
   have hWi:Nat.testBit (aX i (ops.toList.map a6) 0 0) i=true:=EG i _ 0 0 (Nat.zero_le _) (by simpa using hi)
   have hWs:∀ j oj,ops[j]?=some oj→Nat.testBit (aX i (ops.toList.map a6) 0 0) j=true→j≠i→∃ e∈oj.after,Region.binds .any e=true∧Nat.testBit (aX i (ops.toList.map a6) 0 0) e.on=true:=fun j oj nW hj kS=>by
    rcases vh i _ _ _ j hj with hx |⟨q,m,hq,hm,hx⟩
    ·simp at hx
    ·rw[Nat.zero_add] at hq
     subst hq
     rw[List.getElem?_map,Array.getElem?_toList,nW] at hm
     simp only[Option.map_some,Option.some.injEq] at hm
     subst hm
     rcases hx with hx |⟨t,h1,h2⟩
     ·exact absurd hx kS
     ·obtain⟨e,he,hbd,rfl⟩:=Cg h1
      exact⟨e,he,hbd,h2⟩
   have I7:∀ j,Nat.testBit (aX i (ops.toList.map a6) 0 0) j=true→j<ops.size:=fun j hj=>by
    rcases vh i _ _ _ j hj with hx |⟨q,m,hq,hm,hx⟩
    ·simp at hx
    ·have:=(List.getElem?_eq_some_iff.1 hm).1
     simp at this
     omega
   exact⟨hW3,hWi,hWs,I7⟩
  have facts:∀ (i:Nat) (oi:Oper),ops[i]?=some oi→Nat.testBit L i=false→a6 oi&&&L=a6 oi→aX i (ops.toList.map a6) 0 0&&&L=0→
    (∀ j,Nat.testBit (aX i (ops.toList.map a6) 0 0) j=true→Nat.testBit L j=false)∧Nat.testBit (aX i (ops.toList.map a6) 0 0) i=true∧
    (∀ j oj,ops[j]?=some oj→Nat.testBit (aX i (ops.toList.map a6) 0 0) j=true→j≠i→∃ e∈oj.after,Region.binds .any e=true∧Nat.testBit (aX i (ops.toList.map a6) 0 0) e.on=true)∧
    (∀ j,Nat.testBit (aX i (ops.toList.map a6) 0 0) j=true→j<ops.size)∧i∈Region.ready .any ops a7:=by
   intro i oi HX c1 c2 c3
   have hi:i<ops.size:=(Array.getElem?_eq_some_iff.1 HX).1
   obtain⟨hW3,hWi,hWs,I7⟩:=Rz i oi HX c3
   refine⟨hW3,hWi,hWs,I7,mem_ready.2 ⟨by rw[hb.getD hi];exact c1,oi,HX,fun e he hbd=>?_⟩⟩
   have h1:=Ry he hbd
   have h2:Nat.testBit (a6 oi&&&L) e.on=true:=by rw[c2];exact h1
   rw[Nat.testBit_and,h1] at h2
   have h3:Nat.testBit L e.on=true:=by simpa using h2
   by_cases hl:e.on<ops.size
   ·rw[hb.getD hl];exact h3
   ·rw[Nat.testBit_lt_two_pow (Nat.lt_of_lt_of_le hL2 (Nat.pow_le_pow_right (by decide) (by omega)))] at h3
    cases h3
  cases l with
  |done=>
   simp only[fL] at ho
   have hr:=auY hb (Nat.eq_of_beq_eq_true ho)
   exact⟨fun _=>hQ a w ⟨S,e,h⟩,fun i hi=>by rw[hr] at hi;cases hi⟩
  |own _ _=>exact ab'.elim
  |any q t=>
   simp only[fL,Bool.and_eq_true] at ho
   obtain⟨hc,hot⟩:=ho
   have G0:=hc
   unfold ah4 at hc
   simp only[Bool.and_eq_true,Bool.not_eq_true',List.all_eq_true] at hc
   obtain⟨⟨⟨nM,lu⟩,RA⟩,EJ⟩:=hc
   have Vp:=vi.1 RA
   have get:∀ i∈q,∃ oi,ops[i]?=some oi∧i<ops.size:=fun i hi=>by
    have h1:i<ops.size:=Nat.lt_of_lt_of_le (Nat.lt_succ_self _) (Nat.le_of_ble_eq_true (lu i hi).1.1.1)
    exact⟨ops[i],Array.getElem?_eq_getElem h1,h1⟩
   have unl:∀ i∈q,Nat.testBit L i=false:=fun i hi=>(lu i hi).1.1.2
   -- the first is ready
   obtain⟨i0,q0,rfl⟩:∃ i0 q0,q=i0::q0:=by
    cases q with
    |nil=>simp at nM
    |cons i0 q0=>exact⟨i0,q0,rfl⟩
   obtain⟨oi0,Hd,I8⟩:=get i0 (by simp)
   have hd0:=EJ
   simp only[mm,Bool.and_eq_true] at hd0
   have hd1:=hd0.1
   rw[List.getElem?_map,Array.getElem?_toList,Hd] at hd1
   simp only[Option.map_some] at hd1
   obtain⟨_,_,_,_,hr0⟩:=facts i0 oi0 Hd (unl i0 (by simp)) (Nat.eq_of_beq_eq_true hd1) (Nat.eq_of_beq_eq_true (lu i0 (by simp)).1.2)
   refine⟨fun hx=>(by rw[hx] at hr0;cases hr0),fun j hj=>?_⟩
   obtain⟨j1,oj,nW,j3⟩:=mem_ready.1 hj
   have rU:=(Array.getElem?_eq_some_iff.1 nW).1
   have vj:∀ i∈i0::q0,j≠i→Nat.testBit (aX i (ops.toList.map a6) 0 0) j=false:=fun i hi kS=>by
    cases hw:Nat.testBit (aX i (ops.toList.map a6) 0 0) j with
    |false=>rfl
    |true=>
     exfalso
     obtain⟨oi,HX,Hv⟩:=get i hi
     obtain⟨w3,_,ws,wlt⟩:=Rz i oi HX (Nat.eq_of_beq_eq_true (lu i hi).1.2)
     obtain⟨e,he,hbd,h6⟩:=ws j oj nW hw kS
     have h7:=j3 e he hbd
     rw[hb.getD (wlt _ h6),w3 _ h6] at h7
     cases h7
   have hjq:j∈i0::q0:=by
    refine Classical.byContradiction fun hnj=>?_
    have hz:=Nat.eq_of_beq_eq_true (lu i0 (by simp)).2
    have h4:Nat.testBit (2^ops.size - 1^^^(aX i0 (ops.toList.map a6) 0 0|||L|||dX (i0::q0))) j=false:=by rw[hz];simp
    rw[Nat.testBit_xor,Nat.testBit_two_pow_sub_one,Nat.testBit_or,Nat.testBit_or,iH,vj i0 (by simp) (fun e=>hnj (by simp[e]))] at h4
    rw[hb.getD rU] at j1
    rw[j1] at h4
    simp[rU,hnj] at h4
   obtain⟨p,r,YI⟩:=List.append_of_mem hjq
   rw[YI] at G0 Vp EJ lu vj unl e hn
   clear hd0 hd1 hr0 hjq get
   have RB:∀ x∈p,∃ ox,ops[x]?=some ox∧Hs ops ox oj=true:=fun x hx=>by
    obtain⟨m,ox,oj',h1,h2,h3,h4,h5⟩:=(List.pairwise_append.1 Vp).2.2 x hx j (by simp)
    rw[nW] at h3
    injection h3 with h3
    subst h3
    refine⟨ox,h2,h5.resolve_left fun hm=>?_⟩
    rw[List.getElem?_map,Array.getElem?_toList,nW] at h1
    simp only[Option.map_some,Option.some.injEq] at h1
    subst h1
    obtain⟨e,he,hbd,rfl⟩:=Cg hm
    have h7:=j3 e he hbd
    have hxl:=(Array.getElem?_eq_some_iff.1 h2).1
    rw[hb.getD hxl,unl _ (by simp[hx])] at h7
    cases h7
   simp only[fu] at e
   have e2:=HD hO.det nW p r RB e
   unfold na at e2
   rw[nW] at e2
   simp only at e2
   cases gj:jV O ops S oj with
   |false=>rw[gj] at e2;cases e2
   |true=>
   rw[gj] at e2
   simp only[cond_true] at e2
   obtain⟨σ,h⟩:=h
   refine wpOp_mono (fun a' w' h'=>?_) (Dk hT hO h e2)
   obtain⟨⟨S',k1,k2⟩,k3⟩:=h'
   have hjn:j∉p++r:=fun hx=>by
    rw[List.pairwise_append,List.pairwise_cons] at Vp
    rcases List.mem_append.1 hx with hx |hx
    ·obtain⟨_,_,_,_,_,_,h4,_⟩:=Vp.2.2 j hx j (by simp);exact h4 rfl
    ·obtain⟨_,_,_,_,_,_,h4,_⟩:=Vp.2.1.1 j hx;exact h4 rfl
   have No:L|||dX (p++j::r)=L|||2^j|||dX (p++r):=Nat.eq_of_testBit_eq fun k=>by
    rw[Nat.testBit_or,Nat.testBit_or,Nat.testBit_or,iH,iH,gF]
    have hm:decide (k∈p++j::r)=(decide (j=k)||decide (k∈p++r)):=by
     rw[←Bool.decide_or]
     apply decide_eq_decide.2
     simp only[List.mem_append,List.mem_cons]
     constructor
     ·rintro(h |h |h)
      ·exact .inr (.inl h)
      ·exact .inl h.symm
      ·exact .inr (.inr h)
     ·rintro(h |h |h)
      ·exact .inr (.inl h.symm)
      ·exact .inl h
      ·exact .inr (.inr h)
    rw[hm,Bool.or_assoc]
   refine⟨fun had=>?_,?_⟩
   ·simp only[nW] at had
    exact k3 oj nW had
   ·have RC:fL hh.tab O ops (ops.toList.map a6) (2^ops.size - 1) (L|||2^j|||dX (p++r)) t=true:=by rw[←No,←YI];exact hot
    cases hpe:p++r with
    |nil=>
     rw[hpe] at k1 RC
     simp only[na] at k1
     refine ih _ t (by simpa[dX] using RC) (hb.set rU) ?_ k1 k2
     simp only[OT.len,List.length_append,List.length_cons] at hn
     omega
    |cons z zs=>
     refine ih (L|||2^j) (.any (p++r) t) ?_ (hb.set rU) ?_ k1 k2
     ·simp only[fL,Bool.and_eq_true]
      refine⟨?_,RC⟩
      unfold ah4
      simp only[Bool.and_eq_true,Bool.not_eq_true',List.all_eq_true]
      refine⟨⟨⟨by rw[hpe];rfl,fun i hi=>?_⟩,vi.2 (Vp.sublist (by simp))⟩,EH p r EJ⟩
      have Hw:i∈p++j::r:=by simp only[List.mem_append,List.mem_cons] at hi ⊢;exact hi.imp id .inr
      have ru:j≠i:=fun e=>hjn (by rw[e];exact hi)
      obtain⟨⟨⟨m1,m2⟩,m3⟩,m4⟩:=lu i Hw
      refine⟨⟨⟨m1,?_⟩,?_⟩,?_⟩
      ·rw[Nat.testBit_or,m2,gF];simp[ru]
      ·have hz:aX i (ops.toList.map a6) 0 0&&&(L|||2^j)=0:=Nat.eq_of_testBit_eq fun k=>by
        have hk:Nat.testBit (aX i (ops.toList.map a6) 0 0&&&L) k=false:=by rw[Nat.eq_of_beq_eq_true m3];simp
        rw[Nat.testBit_and] at hk
        rw[Nat.testBit_and,Nat.testBit_or,gF,Nat.zero_testBit]
        by_cases hkj:j=k
        ·subst hkj
         rw[vj i Hw ru]
         rfl
        ·simp only[hkj,decide_false,Bool.or_false]
         exact hk
       rw[hz];rfl
      ·have hz:=Nat.eq_of_beq_eq_true m4
       have:aX i (ops.toList.map a6) 0 0|||(L|||2^j)|||dX (p++r)=aX i (ops.toList.map a6) 0 0|||L|||dX (p++j::r):=by rw[Nat.or_assoc,←No,Nat.or_assoc]
       rw[this]
       exact m4
     ·simp only[OT.len,List.length_append,List.length_cons] at hn ⊢
      omega
  |par q ds t=>
   simp only[fL,Bool.and_eq_true] at ho
   obtain⟨hc,hot⟩:=ho
   have G0:=hc
   unfold ah5 at hc
   simp only[Bool.and_eq_true,Bool.not_eq_true',List.all_eq_true] at hc
   obtain⟨⟨⟨⟨nM,lu⟩,RA⟩,EJ⟩,RD⟩:=hc
   have Vp:=nS.1 RA
   have get:∀ i∈q,∃ oi,ops[i]?=some oi∧i<ops.size:=fun i hi=>by
    have h1:i<ops.size:=Nat.lt_of_lt_of_le (Nat.lt_succ_self _) (Nat.le_of_ble_eq_true (lu i hi).1.1.1)
    exact⟨ops[i],Array.getElem?_eq_getElem h1,h1⟩
   have unl:∀ i∈q,Nat.testBit L i=false:=fun i hi=>(lu i hi).1.1.2
   -- the first is ready
   obtain⟨i0,q0,rfl⟩:∃ i0 q0,q=i0::q0:=by
    cases q with
    |nil=>simp at nM
    |cons i0 q0=>exact⟨i0,q0,rfl⟩
   obtain⟨oi0,Hd,I8⟩:=get i0 (by simp)
   have hd0:=EJ
   simp only[mm,Bool.and_eq_true] at hd0
   have hd1:=hd0.1
   rw[List.getElem?_map,Array.getElem?_toList,Hd] at hd1
   simp only[Option.map_some] at hd1
   obtain⟨hW3,hWi,hWs,I7,hr0⟩:=facts i0 oi0 Hd (unl i0 (by simp)) (Nat.eq_of_beq_eq_true hd1) (Nat.eq_of_beq_eq_true (lu i0 (by simp)).1.2)
   have side:∀ x∈i0::q0,∀ ox,ops[x]?=some ox→DV ds ox=true∧pB ox.op=false:=fun x hx ox hox=>by
    have:=RD x hx
    rw[hox] at this
    simpa only[Bool.and_eq_true,Bool.not_eq_true'] using this
   -- those that wait for none that is ready
   have vj:∀ j,j∈Region.ready .any ops a7→∀ i∈i0::q0,j≠i→Nat.testBit (aX i (ops.toList.map a6) 0 0) j=false:=fun j hj i hi kS=>by
    obtain⟨j1,oj,nW,j3⟩:=mem_ready.1 hj
    cases hw:Nat.testBit (aX i (ops.toList.map a6) 0 0) j with
    |false=>rfl
    |true=>
     exfalso
     obtain⟨oi,HX,Hv⟩:=get i hi
     obtain⟨w3,_,ws,wlt⟩:=Rz i oi HX (Nat.eq_of_beq_eq_true (lu i hi).1.2)
     obtain⟨e,he,hbd,h6⟩:=ws j oj nW hw kS
     have h7:=j3 e he hbd
     rw[hb.getD (wlt _ h6),w3 _ h6] at h7
     cases h7
   -- when one of them is done
   have tail:∀ (p r:List Nat) (j:Nat),i0::q0=p++j::r→j∈Region.ready .any ops a7→∀ {S':St} {a':Act} {w':World},(bif lp ds S' then m9 hh O ops (p++r) S' (fun S1=>fu hh O ops t S1 K) else none)=some ret→Rel w0 W0 Z H S' a' w'→
     wpE P ops Q (fun j=>match ops[j]? with |some o=>Dc O o.op |none=>false) n (a7.setIfInBounds j true) a' w':=by
    intro p r j YI hjr S' a' w' k1 k2
    have rU:j<ops.size:=by
     obtain⟨_,oj,nW,_⟩:=mem_ready.1 hjr
     exact(Array.getElem?_eq_some_iff.1 nW).1
    have hnw:=vj j hjr
    rw[YI] at Vp EJ lu RD hn hnw
    have hjn:j∉p++r:=fun hx=>by
     rw[List.pairwise_append,List.pairwise_cons] at Vp
     rcases List.mem_append.1 hx with hx |hx
     ·obtain⟨_,_,_,_,h4,_⟩:=Vp.2.2 j hx j (by simp);exact h4 rfl
     ·obtain⟨_,_,_,_,h4,_⟩:=Vp.2.1.1 j hx;exact h4 rfl
    have No:L|||dX (p++j::r)=L|||2^j|||dX (p++r):=Nat.eq_of_testBit_eq fun k=>by
     rw[Nat.testBit_or,Nat.testBit_or,Nat.testBit_or,iH,iH,gF]
     have hm:decide (k∈p++j::r)=(decide (j=k)||decide (k∈p++r)):=by
      rw[←Bool.decide_or]
      apply decide_eq_decide.2
      simp only[List.mem_append,List.mem_cons]
      constructor
      ·rintro(h |h |h)
       ·exact .inr (.inl h)
       ·exact .inl h.symm
       ·exact .inr (.inr h)
      ·rintro(h |h |h)
       ·exact .inr (.inl h.symm)
       ·exact .inl h
       ·exact .inr (.inr h)
     rw[hm,Bool.or_assoc]
    have RC:fL hh.tab O ops (ops.toList.map a6) (2^ops.size - 1) (L|||2^j|||dX (p++r)) t=true:=by rw[←No,←YI];exact hot
    cases hpe:p++r with
    |nil=>
     rw[hpe] at k1 RC
     simp only[m9] at k1
     cases hw1:lp ds S' with
     |false=>rw[hw1] at k1;cases k1
     |true=>
     rw[hw1] at k1
     simp only[cond_true] at k1
     refine ih _ t (by simpa[dX] using RC) (hb.set rU) ?_ k1 k2
     simp only[OT.len,List.length_append,List.length_cons] at hn
     omega
    |cons z zs=>
     refine ih (L|||2^j) (.par (p++r) ds t) ?_ (hb.set rU) ?_ k1 k2
     ·simp only[fL,Bool.and_eq_true]
      refine⟨?_,RC⟩
      unfold ah5
      simp only[Bool.and_eq_true,Bool.not_eq_true',List.all_eq_true]
      refine⟨⟨⟨⟨by rw[hpe];rfl,fun i hi=>?_⟩,nS.2 (Vp.sublist (by simp))⟩,EH p r EJ⟩,fun i hi=>RD i (by simp only[List.mem_append,List.mem_cons] at hi ⊢;exact hi.imp id .inr)⟩
      have Hw:i∈p++j::r:=by simp only[List.mem_append,List.mem_cons] at hi ⊢;exact hi.imp id .inr
      have ru:j≠i:=fun e=>hjn (by rw[e];exact hi)
      obtain⟨⟨⟨m1,m2⟩,m3⟩,m4⟩:=lu i Hw
      refine⟨⟨⟨m1,?_⟩,?_⟩,?_⟩
      ·rw[Nat.testBit_or,m2,gF];simp[ru]
      ·have hz:aX i (ops.toList.map a6) 0 0&&&(L|||2^j)=0:=Nat.eq_of_testBit_eq fun k=>by
        have hk:Nat.testBit (aX i (ops.toList.map a6) 0 0&&&L) k=false:=by rw[Nat.eq_of_beq_eq_true m3];simp
        rw[Nat.testBit_and] at hk
        rw[Nat.testBit_and,Nat.testBit_or,gF,Nat.zero_testBit]
        by_cases hkj:j=k
        ·subst hkj
         rw[hnw i Hw ru]
         rfl
        ·simp only[hkj,decide_false,Bool.or_false]
         exact hk
       rw[hz];rfl
      ·rw[Bool.or_eq_true] at m4 ⊢
       refine m4.imp (fun m4=>?_) fun m4=>?_
       ·have:aX i (ops.toList.map a6) 0 0|||(L|||2^j)|||dX (p++r)=aX i (ops.toList.map a6) 0 0|||L|||dX (p++j::r):=by rw[Nat.or_assoc,←No,Nat.or_assoc]
        rw[this]
        exact m4
       ·unfold aa7 at m4 ⊢
        split at m4
        case h_2=>cases m4
        rename_i oi HX
        rw[Bool.and_eq_true] at m4 ⊢
        refine⟨m4.1,xz _ _ fun k ok hk aqF=>jw _ _ m4.2 k ok hk ?_⟩
        rw[Nat.testBit_xor,Nat.testBit_and,Nat.testBit_or,Nat.testBit_or] at aqF ⊢
        rw[Nat.testBit_or] at aqF
        revert aqF
        cases Nat.testBit (2^ops.size - 1) (0+k)<;>cases Nat.testBit (aX i (ops.toList.map a6) 0 0) (0+k)<;>cases Nat.testBit L (0+k)<;>cases Nat.testBit (a6 oi) (0+k)<;>simp
     ·simp only[OT.len,List.length_append,List.length_cons] at hn ⊢
      omega
   simp only[fu] at e
   cases hwh:lp ds S with
   |false=>rw[hwh] at e;cases e
   |true=>
   rw[hwh] at e
   simp only[cond_true] at e
   rcases(Bool.or_eq_true _ _).mp (lu i0 (by simp)).2 with hz |hz
   rotate_left
   ·-- the first may always go first
    unfold aa7 at hz
    rw[Hd] at hz
    simp only[Bool.and_eq_true] at hz
    obtain⟨hq,Rk⟩:=hz
    obtain⟨s1,s2⟩:=side i0 (by simp) oi0 Hd
    have e2:aS hh O ops i0 S (fun S1=>bif lp ds S1 then m9 hh O ops ([]++q0) S1 (fun S1=>fu hh O ops t S1 K) else none)=some ret:=by
     simp only[m9] at e
     obtain⟨X,x1,x2,x3⟩:=u5 hO.det hwh Hd s1 s2 e
     rw[x1,x2]
     exact x3
    obtain⟨σ,h⟩:=h
    obtain⟨v,hy,S',k1,k2⟩:=Nn hT h Hd hq e2
    refine EF Hd (Region.noSelect_spec EE) (fun c a w hx=>absurd hx (Dl _ _ _)) (D:=fun j=>Nat.testBit (aX i0 (ops.toList.map a6) 0 0) j) hWi hWs n a7 a w (fun j hd=>?_) (fun j oj nW hd G7=>?_) hr0 hy (tail [] q0 i0 rfl hr0 k1 k2)
    ·rw[hb.getD (I7 j hd)];exact hW3 j hd
    ·have rU:=(Array.getElem?_eq_some_iff.1 nW).1
     refine jw ops.toList 0 Rk j oj (by rw[Array.getElem?_toList];exact nW) ?_
     rw[hb.getD rU] at G7
     try simp only at hd
     have haf:Nat.testBit (a6 oi0) j=false:=by
      cases hx:Nat.testBit (a6 oi0) j with
      |false=>rfl
      |true=>
       exfalso
       have h2:Nat.testBit (a6 oi0&&&L) j=true:=by rw[Nat.eq_of_beq_eq_true hd1];exact hx
       rw[Nat.testBit_and,hx,G7] at h2
       cases h2
     rw[Nat.zero_add,Nat.testBit_xor,Nat.testBit_and,Nat.testBit_two_pow_sub_one,Nat.testBit_or,Nat.testBit_or,hd,G7,haf]
     simp[rU]
   refine⟨fun hx=>(by rw[hx] at hr0;cases hr0),fun j hj=>?_⟩
   obtain⟨j1,oj,nW,j3⟩:=mem_ready.1 hj
   have rU:=(Array.getElem?_eq_some_iff.1 nW).1
   have hjq:j∈i0::q0:=by
    refine Classical.byContradiction fun hnj=>?_
    have hz:=Nat.eq_of_beq_eq_true hz
    have h4:Nat.testBit (2^ops.size - 1^^^(aX i0 (ops.toList.map a6) 0 0|||L|||dX (i0::q0))) j=false:=by rw[hz];simp
    rw[Nat.testBit_xor,Nat.testBit_two_pow_sub_one,Nat.testBit_or,Nat.testBit_or,iH,vj j hj i0 (by simp) (fun e=>hnj (by simp[e]))] at h4
    rw[hb.getD rU] at j1
    rw[j1] at h4
    simp[rU,hnj] at h4
   obtain⟨p,r,YI⟩:=List.append_of_mem hjq
   have RB:∀ x∈p,∃ ox,ops[x]?=some ox∧DV ds ox=true∧pB ox.op=false∧(Yh ds ox oj=true∨exB ox oj=true):=fun x hx=>by
    rw[YI] at Vp
    obtain⟨ox,oj',h2,h3,h4,h5⟩:=(List.pairwise_append.1 Vp).2.2 x hx j (by simp)
    rw[nW] at h3
    injection h3 with h3
    subst h3
    obtain⟨s1,s2⟩:=side x (by rw[YI];simp[hx]) ox h2
    refine⟨ox,h2,s1,s2,h5.resolve_left fun hm=>?_⟩
    rw[vj j hj x (by rw[YI];simp[hx]) (Ne.symm h4)] at hm
    cases hm
   have e':=e
   rw[YI] at e'
   have e3:=HK hO.det nW p r hwh RB e'
   obtain⟨sj1,sj2⟩:=side j hjq oj nW
   have e2:aS hh O ops j S (fun S1=>bif lp ds S1 then m9 hh O ops (p++r) S1 (fun S1=>fu hh O ops t S1 K) else none)=some ret:=by
    obtain⟨X,x1,x2,x3⟩:=u5 hO.det hwh nW sj1 sj2 e3
    rw[x1,x2]
    exact x3
   obtain⟨σ,h⟩:=h
   refine wpOp_mono (fun a' w' h'=>?_) (Dk hT hO h e2)
   obtain⟨⟨S',k1,k2⟩,k3⟩:=h'
   refine⟨fun had=>?_,tail p r j YI hj k1 k2⟩
   simp only[nW] at had
   exact k3 oj nW had
  |one i l=>
   simp only[fL,Bool.and_eq_true] at ho
   obtain⟨hc,ho⟩:=ho
   unfold aa6 at hc
   split at hc
   case h_2=>cases hc
   rename_i m oi hm HX
   have hi:i<ops.size:=(Array.getElem?_eq_some_iff.1 HX).1
   rw[List.getElem?_map,Array.getElem?_toList,HX] at hm
   simp only[Option.map_some,Option.some.injEq] at hm
   subst hm
   simp only[Bool.and_eq_true,Bool.not_eq_true'] at hc
   obtain⟨⟨⟨c1,c2⟩,c3⟩,c4⟩:=hc
   have c2:=Nat.eq_of_beq_eq_true c2
   have c3:=Nat.eq_of_beq_eq_true c3
   have YM:l.len≤n:=by simp only[OT.len] at hn;omega
   obtain⟨hW3,hWi,hWs,I7,I9⟩:=facts i oi HX c1 c2 c3
   rw[Bool.or_eq_true] at c4
   have MU:∀ j,j<ops.size→Nat.testBit (2^ops.size - 1^^^(aX i (ops.toList.map a6) 0 0|||L)) j=!(Nat.testBit (aX i (ops.toList.map a6) 0 0) j||Nat.testBit L j):=fun j hj=>by
    rw[Nat.testBit_xor,Nat.testBit_two_pow_sub_one,Nat.testBit_or]
    simp[hj]
   simp only[fu] at e
   obtain⟨σ,h⟩:=h
   by_cases c0:Nat.beq (2^ops.size - 1^^^(aX i (ops.toList.map a6) 0 0|||L)) 0=true
   ·have hz:=Nat.eq_of_beq_eq_true c0
    refine⟨fun hx=>(by rw[hx] at I9;cases I9),fun j hj=>?_⟩
    have kS:j=i:=by
     refine Classical.byContradiction fun kS=>?_
     obtain⟨h1,oj,h2,h3⟩:=mem_ready.1 hj
     have rU:=(Array.getElem?_eq_some_iff.1 h2).1
     have h4:=MU j rU
     rw[hz,Nat.zero_testBit] at h4
     rw[hb.getD rU] at h1
     rw[h1] at h4
     have h5:Nat.testBit (aX i (ops.toList.map a6) 0 0) j=true:=by
      cases hx:Nat.testBit (aX i (ops.toList.map a6) 0 0) j with
      |true=>rfl
      |false=>rw[hx] at h4;cases h4
     obtain⟨e,he,hbd,h6⟩:=hWs j oj h2 h5 kS
     have h7:=h3 e he hbd
     rw[hb.getD (I7 _ h6),hW3 _ h6] at h7
     cases h7
    subst kS
    refine wpOp_mono (fun a' w' h'=>?_) (Dk hT hO h e)
    obtain⟨⟨S',k1,k2⟩,k3⟩:=h'
    refine⟨fun had=>?_,ih _ l ho (hb.set hi) YM k1 k2⟩
    simp only[HX] at had
    exact k3 oi HX had
   ·rw[Bool.or_eq_true] at c4
    rcases c4 with c4 |c4
    rotate_left
    ·rw[Bool.and_eq_true] at c4
     obtain⟨hq,Rk⟩:=c4
     obtain⟨v,hy,S',k1,k2⟩:=Nn hT h HX hq e
     refine EF HX (Region.noSelect_spec EE) (fun c a w hx=>absurd hx (Dl _ _ _)) (D:=fun j=>Nat.testBit (aX i (ops.toList.map a6) 0 0) j) hWi hWs n a7 a w (fun j hd=>?_) (fun j oj nW hd G7=>?_) I9 hy (ih _ l ho (hb.set hi) YM k1 k2)
     ·rw[hb.getD (I7 j hd)];exact hW3 j hd
     ·have rU:=(Array.getElem?_eq_some_iff.1 nW).1
      have h4:=MU j rU
      rw[hb.getD rU] at G7
      try simp only at hd
      rw[hd,G7] at h4
      exact jw ops.toList 0 Rk j oj (by rw[Array.getElem?_toList];exact nW) (by rw[Nat.zero_add];exact h4)
    have c4:=c4.resolve_left c0
    rw[Bool.and_eq_true,Bool.and_eq_true,Bool.not_eq_true'] at c4
    obtain⟨hq,hn0,Rk⟩:=c4
    obtain⟨v,hy,S',k1,k2⟩:=ab8 hT h HX hq hn0 e
    refine YL HX (Region.noSelect_spec EE) (fun c a w hx=>absurd hx (Dl _ _ _)) (D:=fun j=>Nat.testBit (aX i (ops.toList.map a6) 0 0) j) hWi hWs n a7 a w (fun j hd=>?_) (fun j oj nW hd G7=>?_) I9 hy (ih _ l ho (hb.set hi) YM k1 k2)
    ·rw[hb.getD (I7 j hd)];exact hW3 j hd
    ·have rU:=(Array.getElem?_eq_some_iff.1 nW).1
     have h4:=MU j rU
     rw[hb.getD rU] at G7
     try simp only at hd
     rw[hd,G7] at h4
     have:=uw ops.toList 0 Rk j oj (by rw[Array.getElem?_toList];exact nW) (by rw[Nat.zero_add];exact h4)
     simp only[nW]
     exact this
theorem aiq (hT:cM P hh.tab=true) (hO:qZ Γ P O w0 W0) (hQ:∀ a w,I5 w0 W0 Z H K ret a w→Q .normal a w) (Dl:∀ c a w,¬Q (.panic c) a w) {l:OT} (hl:aqe hh.tab O ops l=true) {S:St} {a:Act} {w:World} (e:fu hh O ops l S K=some ret) (h:Rel w0 W0 Z H S a w):
  wpAny P .any ops Q ops.size (Array.replicate ops.size false) a w:=by
 unfold aqe at hl
 rw[Bool.and_eq_true,Bool.and_eq_true] at hl
 obtain⟨⟨EE,hlen⟩,ho⟩:=hl
 have hb:Hc ops (Array.replicate ops.size false) 0:=⟨by simp,fun j hj=>by simp[hj]⟩
 exact Vo _ (ab9 hT hO hQ Dl EE ops.size 0 l ho hb (Nat.le_of_ble_eq_true hlen) e h)
end Go.Pv
