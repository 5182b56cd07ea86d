/- A verified evaluator of the program's form over pure values, part 3: what it tells of a function holds. -/
import Derived.Test.YtcpakhaogbempaaGreatPv2
import Derived.OrdersHeld
namespace Go.Pv
set_option linter.unusedVariables false
set_option linter.unusedSimpArgs false
variable {P:Program} {w w':World} {A A' Wr:Nat→Prop} {H:Nat→Value} {tm sx:Nat→Value} {S S' S1:St} {σ cv e9:Nat→Option Nat} {w0:World} {W0 Z:Nat→Prop} {a:Act} {own:Nat→Prop} {v:Value} {Θ:ee} {dst:Option Nat}
theorem bI.setAt (h:bI σ w0 W0 Z H S a w) {i:Nat} {av:AV} (u9:∀ j,j≠i→(S.at j).refs i=false) (hv:Holds w (Av σ Z) H (cG a) (S.set i av) (fun g=>σ g=some i) av (cG a i)):
  bI σ w0 W0 Z H (S.set i av) a w:=by
 refine⟨by rw[List.length_set];exact h.len,h.defers,h.fr,h.new,h.lt,h.old,fun j=>?_⟩
 rw[dA]
 by_cases hj:j=i∧i<S.length
 ·rw[if_pos hj,hj.1]
  exact hv
 ·rw[if_neg hj]
  by_cases mn:j=i
  ·have:S.at j=.dead:=Classical.byContradiction fun hx=>hj ⟨mn,by rw[←mn];exact fk hx⟩
   rw[this]
   trivial
  ·refine(h.holds j).kept (bA.refl _ _) (fun g hg _=>⟨rfl,hg⟩) (fun s hs=>?_)
   have hsi:s≠i:=fun e=>by subst e;rw[u9 j mn] at hs;cases hs
   exact⟨fun r ex hr=>by rw[dA,if_neg (fun e=>hsi e.1)];exact hr,rfl,_,h.holds s,fun _ _ _=>rfl⟩
theorem bI.part (h:bI σ w0 W0 Z H S a w) {i:Nat} (hi:∀ r ex,S.at i≠ .v r ex) (hl:i<S.length) {Q:Nat→Prop} {av:AV} (hv:Holds w (Av σ Z) H (cG a) (S.set i av) (fun g=>σ g=some i∧ ¬Q g) av (cG a i)):
  ∃ cv,bI cv w0 W0 Z H (S.set i av) a w∧iw σ cv S.length (fun g=>σ g=some i∧Q g):=by
 let cv:Nat→Option Nat:=fun g=>open Classical in if σ g=some i∧Q g then some S.length else σ g
 have hs:∀ g j,cv g=some j→∃ k,σ g=some k:=fun g j hg=>by
  simp only[cv] at hg
  split at hg
  ·rename_i hx;exact⟨i,hx.1⟩
  ·exact⟨j,hg⟩
 have pf:∀ g j,σ g=some j→¬(σ g=some i∧Q g)→cv g=some j:=fun g j hg hn=>by simp only[cv,if_neg hn,hg]
 have cD:bA w w (Av σ Z) (Av cv Z):=⟨fun _ _ _=>rfl,fun g _ hg=>by
  rcases hg with⟨j,hg⟩ |hg
  ·exact .inl (hs g j hg)
  ·exact .inr hg⟩
 refine⟨cv,⟨by rw[List.length_set];exact h.len,h.defers,h.fr,fun g j hg=>(hs g j hg).elim fun k hk=>h.new g k hk,fun g j hg=>(hs g j hg).elim fun k hk=>h.lt g k hk,fun g hg=>⟨?_,(h.old g hg).2⟩,fun j=>?_⟩,?_⟩
 ·simp only[cv]
  rw[if_neg (fun hx=>by rw[(h.old g hg).1] at hx;cases hx.1)]
  exact(h.old g hg).1
 ·rw[dA]
  by_cases hj:j=i
  ·rw[if_pos ⟨hj,hl⟩,hj]
   exact hv.kept cD (fun g hg _=>⟨rfl,pf g i hg.1 (fun hx=>hg.2 hx.2)⟩) (fun s _=>⟨fun _ _ h=>h,rfl,by
    by_cases hsi:s=i
    ·subst hsi
     rw[dA,if_pos ⟨rfl,hl⟩]
     exact⟨_,hv,fun _ _ _=>rfl⟩
    ·rw[dA,if_neg (fun e=>hsi e.1)]
     refine⟨_,(h.holds s).kept (bA.refl _ _) (fun g hg _=>⟨rfl,hg⟩) (fun s1 hs1=>⟨fun r ex hr=>?_,rfl,_,h.holds s1,fun _ _ _=>rfl⟩),fun _ _ _=>rfl⟩
     by_cases au0:s1=i
     ·subst au0;exact absurd hr (hi r ex)
     ·rw[dA,if_neg (fun e=>au0 e.1)];exact hr⟩)
  ·rw[if_neg (fun e=>hj e.1)]
   refine(h.holds j).kept cD (fun g hg _=>⟨rfl,pf g j hg (fun hx=>hj (by rw[hx.1] at hg;injection hg with hg;exact hg.symm))⟩) (fun s hs1=>⟨fun r ex hr=>?_,rfl,_,h.holds s,fun _ _ _=>rfl⟩)
   by_cases hsi:s=i
   ·subst hsi;exact absurd hr (hi r ex)
   ·rw[dA,if_neg (fun e=>hsi e.1)];exact hr
 ·refine⟨fun g hg=>⟨i,hl,hg.1⟩,fun g hg=>⟨_,Nat.le_refl _,by simp only[cv,if_pos hg]⟩,fun g j hg hj=>?_,fun g=>⟨fun⟨j,hg⟩=>hs g j hg,fun⟨j,hg⟩=>?_⟩,fun g j hg hj=>pf g j hg (fun hx=>?_)⟩
  ·simp only[cv] at hg
   split at hg
   ·injection hg with hg;omega
   ·exact hg
  ·simp only[cv]
   split
   ·exact⟨_,rfl⟩
   ·exact⟨j,hg⟩
  ·rw[hx.1] at hg
   injection hg with hg
   omega
theorem jg.still {s:Sem Next} (hr:∀ w2,s.run P w2=.ok (.value v) w2) (h:jg P w0 W0 Z H S' a dst w s):ns P w0 W0 Z H S' a dst w s:=by
 obtain⟨v',h1,h2⟩:=h
 have:=(h1 w (Ext.refl w)).symm.trans (hr w)
 injection this with this
 injection this with this
 subst this
 exact⟨_,hr,h2⟩
theorem Ff (h:bI σ w0 W0 Z H S a w) {o:Oper} {x:Operand} {j:Nat} (ho:o.op=.extract x j) (e:gW S o.dst x j=some (true,S')):ns P w0 W0 Z H S' a o.dst w (execOp a.eval o):=by
 unfold gW at e
 split at e
 case h_2=>cases e
 rename_i i
 split at e
 case h_2=>cases e
 rename_i l hl
 split at e
 case h_2=>cases e
 rename_i b hb
 have hh:=h.holds i
 rw[hl] at hh
 obtain⟨vs,τ,hv,hlen,vX⟩:=hh
 have hbj:l[j]?=some (some b):=by
  rw[List.getD_eq_getElem?_getD] at hb
  cases hq:l[j]? with
  |none=>rw[hq] at hb;cases hb
  |some q=>rw[hq] at hb;simp only[Option.getD_some] at hb;rw[hb]
 obtain⟨u,cs,hu,hm,hM⟩:=vX j b hbj
 have cQ:∀ w2,(execOp a.eval o).run P w2=.ok (.value u) w2:=fun w2=>by
  have:a.eval (.tmp i)=.tuple vs.toArray:=hv
  simp[execOp,ho,this,Instr.extract,hu]
 cases hk:b.m.cy with
 |true=>
  rw[hk] at e
  simp only[cond_true,Option.some.injEq,Prod.mk.injEq,true_and] at e
  subst e
  exact cP h cQ ⟨cs,hm,ph hk (gR _ hk hM)⟩
 |false=>
  rw[hk] at e
  simp only[cond_false] at e
  split at e
  case h_2=>cases e
  rename_i d hd
  cases R5:Nat.beq d i with
  |true=>rw[R5] at e;cases e
  |false=>
  rw[R5] at e
  simp only[cond_false,Option.some.injEq,Prod.mk.injEq,true_and] at e
  subst e
  rw[←hd]
  have H2:i<S.length:=fk (by rw[hl];exact fun e=>by cases e)
  obtain⟨cv,h1,RK⟩:=h.part (i:=i) (fun r ex=>by rw[hl];exact fun e=>by cases e) H2 (Q:=fun g=>τ g=j) (av:=.u5 (l.set j none)) ⟨vs,τ,hv,by rw[List.length_set];exact hlen,fun k b' gA=>by
   rw[List.getElem?_set] at gA
   split at gA
   ·split at gA<;>cases gA
   ·rename_i Ju
    obtain⟨u',du,c1,c2,c3⟩:=vX k b' gA
    exact⟨u',du,c1,c2,bj (bA.refl _ _) _ (fun _ _ _=>rfl) (fun g hg _=>⟨⟨hg.1,fun hx=>Ju (by rw[←hx,hg.2])⟩,hg.2⟩) (fun _ h=>h) c3⟩⟩
  exact jg.still (v:=u) cQ (pE (n:=S.length) h1 RK (List.length_set) (fun w2 _=>cQ w2) hm (bj (bA.refl _ _) _ (fun _ _ _=>rfl) (fun g hg _=>hg) (fun _ h=>h) hM))
theorem acM (S:St) (d:Nat) (b:TV) (ex:List Path) (i:Nat) (hi:∀ j,(S.at j).refs i=false) (j:Nat):((S.put (some d) (.v b ex)).at j).refs i=false:=by
 rw[eU]
 split
 ·simp[AV.refs]
 ·cases hr:(S.at j).refs d&&(S.at d).AN with
  |true=>simp[AV.refs]
  |false=>exact hi j
theorem Zf (S:St) (i:Nat) (hv:(S.at i).AN=true) (j:Nat):((S.put (some i) .dead).at j).refs i=false:=by
 rw[eU]
 split
 ·simp[AV.refs]
 ·rw[hv,Bool.and_true]
  cases hr:(S.at j).refs i with
  |true=>simp[AV.refs]
  |false=>exact hr
theorem Zg (h:bI σ w0 W0 Z H S a w) {o:Oper} {x:Operand} (ho:o.op=.assign x) (e:Ev Θ S o.dst o.type x=some (true,S')):jg P w0 W0 Z H S' a o.dst w (execOp a.eval o):=by
 have cQ:∀ w2,Ext w w2→(execOp a.eval o).run P w2=.ok (.value (a.eval x)) w2:=fun w2 _=>by simp only[execOp,ho];rfl
 unfold Ev at e
 split at e
 case h_2=>
  split at e
  ·injection e with e
   injection e with _ e
   subst e
   exact c7 h cQ trivial
  ·cases e
 rename_i av eQ
 have hh:=cf h eQ
 split at e
 ·-- a value of a temporary
  rename_i d i b ex hd
  cases hk:b.m.cy with
  |true=>
   rw[hk] at e
   simp only[cond_true,Option.some.injEq,Prod.mk.injEq,true_and] at e
   subst e
   obtain⟨cs,h1,h2⟩:=hh
   exact c7 h cQ ⟨cs,h1,ph hk (gR _ hk h2)⟩
  |false=>
   rw[hk] at e
   simp only[cond_false] at e
   split at e
   case h_2=>cases e
   cases R5:(Nat.beq d i|| !Nat.blt d S.length) with
   |true=>rw[R5] at e;cases e
   |false=>
   rw[R5] at e
   simp only[cond_false,Option.some.injEq,Prod.mk.injEq,true_and] at e
   subst e
   simp only[Bool.or_eq_false_iff,Bool.not_eq_false'] at R5
   have au1:d≠i:=fun e=>by rw[e,Nat.beq_refl] at R5;cases R5.1
   have HG:d<S.length:=Nat.lt_of_succ_le (Nat.le_of_ble_eq_true R5.2)
   obtain⟨cs,h1,h2⟩:=hh
   simp only[St.fb,Option.some.injEq] at eQ
   have H2:i<S.length:=fk (by rw[eQ];exact fun e=>by cases e)
   have hp:=h.kY i
   have hk:iw σ (kY σ S.length i) S.length (api σ (.tmp i)):=iw.kY σ H2 (fun g hg=>by obtain⟨j,hj,hg⟩:=hg;injection hj with hj;subst hj;exact hg)
   obtain⟨v2,hr2,e9,h3⟩:=pE (P:=P) (dst:=some d) (n:=S.length) hp hk (cJ _ _ _) cQ h1 h2
   have Nk:=hr2 w (Ext.refl w)
   rw[cQ w (Ext.refl w)] at Nk
   injection Nk with e1 e2
   injection e1 with e1
   subst e1
   refine⟨a.eval (.tmp i),cQ,e9,?_⟩
   rw[hd]
   refine h3.setAt (fun j _=>acM _ d b [] i (Zf S i (by rw[eQ];rfl)) j) ?_
   have htm:cG (a.put (some d) (a.eval (.tmp i))) i=cG a i:=by rw[AX,if_neg (fun e=>au1 e.1.symm)]
   have htd:cG (a.put (some d) (a.eval (.tmp i))) d=cG a i:=by rw[AX,if_pos ⟨rfl,by rw[←h.len];exact HG⟩];rfl
   refine⟨b,cs,cs,⟨⟨[],?_,fun q hq=>by simp at hq⟩,trivial,⟨b,rfl,rfl⟩,by rw[htd];exact h1⟩,rfl,by rw[htm];exact h1⟩
   rw[dA,if_neg (fun e=>au1 e.1),eU,if_pos ⟨rfl,by rw[cJ];exact HG⟩]
   rfl
 ·-- another value
  rename_i b ex pj
  cases hk:b.m.cy with
  |true=>
   rw[hk] at e
   simp only[cond_true,Option.some.injEq,Prod.mk.injEq,true_and] at e
   subst e
   obtain⟨cs,h1,h2⟩:=hh
   exact c7 h cQ ⟨cs,h1,ph hk (gR _ hk h2)⟩
  |false=>
   rw[hk] at e
   simp only[cond_false] at e
   split at e
   case h_2=>cases e
   simp only[Option.some.injEq,Prod.mk.injEq,true_and] at e
   subst e
   obtain⟨cs,h1,h2⟩:=hh
   exact c7 h cQ ⟨cs,h1,bj (bA.refl _ _) _ (fun _ _ _=>rfl) (fun g hg _=>by obtain⟨i,hi,_⟩:=hg;cases hi) (fun _ h=>h) h2⟩
 ·rename_i d t s hd
  cases AY:Nat.beq s d with
  |true=>rw[AY] at e;cases e
  |false=>
   rw[AY] at e
   simp only[cond_false,Option.some.injEq,Prod.mk.injEq,true_and] at e
   subst e
   exact c7 h cQ hh
 ·rename_i d f c hd
  cases AY:AV.refs d (.mg f c) with
  |true=>rw[AY] at e;cases e
  |false=>
   rw[AY] at e
   simp only[cond_false,Option.some.injEq,Prod.mk.injEq,true_and] at e
   subst e
   exact c7 h cQ hh
 ·simp only[Option.some.injEq,Prod.mk.injEq,true_and] at e
  subst e
  exact c7 h cQ hh
 ·split at e
  case h_2=>cases e
  rename_i b S1 hb
  simp only[Option.some.injEq,Prod.mk.injEq,true_and] at e
  subst e
  obtain⟨cv,cs,ow,h1,hm,hM,hk,hn⟩:=fP h eQ hb
  exact pE h1 hk hn cQ hm hM
end Go.Pv
namespace Go.Pv
set_option linter.unusedVariables false
set_option linter.unusedSimpArgs false
variable {P:Program} {w w':World} {A A' Wr:Nat→Prop} {H:Nat→Value} {tm sx:Nat→Value} {S S' S1:St} {σ cv e9:Nat→Option Nat} {w0:World} {W0 Z:Nat→Prop} {a:Act} {own:Nat→Prop} {v:Value} {Θ:ee} {dst:Option Nat}
theorem acN {t:Ty} (h:isAgg t=false):t.size=1:=by cases t<;>simp[isAgg] at h<;>rfl
theorem acO (hT:dv P Θ=true) (h:bI σ w0 W0 Z H S a w) {o:Oper} {T:TypeId} {x:Operand} {f:Nat} (ho:o.op=.field T x f) (e:I9 Θ S o.dst T x f=some (true,S')):jg P w0 W0 Z H S' a o.dst w (execOp a.eval o):=by
 unfold I9 at e
 split at e
 case h_2=>cases e
 rename_i b ex i eQ hi
 cases hc:(Nat.blt f i.fs.length&&decide (i.ty=b.t)) with
 |false=>rw[hc] at e;cases e
 |true=>
 rw[hc] at e
 simp only[cond_true] at e
 simp only[Bool.and_eq_true,decide_eq_true_eq] at hc
 obtain⟨cZ,gG⟩:=hc
 have cZ:f<i.fs.length:=Nat.lt_of_succ_le (Nat.le_of_ble_eq_true cZ)
 split at e
 case h_2=>cases e
 rename_i j
 split at e
 case h_2=>cases e
 rename_i c hg
 simp only[St.fb,Option.some.injEq] at eQ
 have hh:=h.holds j
 rw[eQ] at hh
 obtain⟨cs,hm,hM⟩:=hh
 obtain⟨_,hu,hT0⟩:=dB hT hi
 have hp:=jW f i.fs.length
 obtain⟨pa,pb,hpp⟩:=yb (acs cZ) hp hg
 obtain⟨fs,f1,f2,f3,_⟩:=nr hu (gG.trans hpp)
 rw[hT0] at f1
 have CS:fs.toList.length=i.fs.length:=by rw[←f2,List.length_map]
 have Y9:fs.size=i.fs.length:=by rw[←CS,Array.length_toList]
 obtain⟨fd,hfd⟩:∃ fd,fs[f]?=some fd:=⟨_,Array.getElem?_eq_getElem (by omega)⟩
 obtain⟨t,t1,t2,t3,_⟩:=jU f3 f fd (by rw[Array.getElem?_toList];exact hfd)
 rw[Nat.zero_add,Y9,gG] at t1 t3
 have hct:c.t=t:=by
  have:=qC _ hp hg
  rw[t1] at this
  injection this with this
  exact this.symm
 subst hct
 obtain⟨hlen,aie⟩:=fI _ hM
 have xQ:=fi _ hp hg
 have Jv:bu w (nY f i.fs.length) b.t cs=some ((cs.drop (bp (nY f i.fs.length) b.t)).take c.t.size):=fJ _ hp hg hlen
 obtain⟨v,hv,cQ⟩:∃ v,aE c.t v ((cs.drop (bp (nY f i.fs.length) b.t)).take c.t.size)∧∀ w2,Ext w w2→(execOp a.eval o).run P w2=.ok (.value v) w2:=by
  have kr:a.eval (.tmp j)=.agg cs.toArray:=by
   unfold aE at hm
   rw[if_pos (by rw[hpp];rfl)] at hm
   exact hm
  have R2:=Sd hT t2
  obtain⟨inf,s1,s2,_⟩:=jA hT t2
  have hso:∀ w2,(sizeOf fd.type).run P w2=.ok c.t.size w2:=fun w2=>by simp[sizeOf,typeInfo,s1,s2]
  cases hca:isAgg c.t with
  |true=>
   refine⟨.agg (cs.toArray.extract (bp (nY f i.fs.length) b.t) (bp (nY f i.fs.length) b.t+c.t.size)),?_,fun w2 _=>?_⟩
   ·unfold aE
    rw[if_pos hca]
    congr 1
    apply Array.toList_inj.1
    rw[Array.toList_extract,List.toList_toArray,List.toList_toArray,List.extract_eq_drop_take']
    rw[List.drop_take,Nat.add_sub_cancel_left]
   ·rw[hca] at R2
    have acP:(part fd.type cs.toArray fd.offset).run P w2=.ok (.agg (cs.toArray.extract (bp (nY f i.fs.length) b.t) (bp (nY f i.fs.length) b.t+c.t.size))) w2:=by
     unfold part
     simp only[Sem.run_bind,R2,Result.andThen_ok,if_true,hso,t3]
     rfl
    simp only[execOp,ho,kr,Instr.field,Sem.run_bind,run_underlying f1,Result.andThen_ok,hfd,asAgg,Sem.run_pure,acP]
  |false=>
   have h1:=acN hca
   have Se:bp (nY f i.fs.length) b.t<cs.length:=by omega
   refine⟨cs[bp (nY f i.fs.length) b.t],?_,fun w2 _=>?_⟩
   ·unfold aE
    rw[if_neg (by rw[hca];exact Bool.false_ne_true),h1,List.drop_eq_getElem_cons Se,List.take_succ_cons,List.take_zero]
   ·rw[hca] at R2
    have acP:(part fd.type cs.toArray fd.offset).run P w2=.ok (cs[bp (nY f i.fs.length) b.t]) w2:=by
     unfold part
     simp only[Sem.run_bind,R2,Result.andThen_ok,if_neg Bool.false_ne_true,t3]
     rw[List.getElem?_toArray,List.getElem?_eq_getElem Se]
     rfl
    simp only[execOp,ho,kr,Instr.field,Sem.run_bind,run_underlying f1,Result.andThen_ok,hfd,asAgg,Sem.run_pure,acP]
 have hvalid:=jh _ hp hg
 cases hk:c.m.cy with
 |true=>
  rw[hk] at e
  simp only[cond_true] at e
  split at e
  case h_2=>cases e
  simp only[Option.some.injEq,Prod.mk.injEq,true_and] at e
  subst e
  obtain⟨du,de,k1,k2,k3⟩:=focus _ hM (fun q hq=>by simp at hq) hvalid hg
  rw[Jv] at k1
  injection k1 with k1
  subst k1
  exact c7 h cQ ⟨_,hv,ib _ (gR _ hk k3)⟩
 |false=>
  rw[hk] at e
  simp only[cond_false] at e
  split at e
  case h_2=>cases e
  rename_i c' CR
  simp only[Option.some.injEq,Prod.mk.injEq,true_and] at e
  subst e
  obtain⟨r,DO,q1,q2,q3⟩:=eV CR
  rw[eQ] at q1
  injection q1 with q1 EY
  subst q1 EY
  exact c7 h cQ ⟨b,cs,_,⟨⟨ex,eQ,fO q2⟩,hvalid,⟨c,hg,rfl⟩,hm⟩,Jv,hv⟩
theorem CX (h:bI σ w0 W0 Z H S a w):∀ {xs:List Operand} {l:List I8},Ey S xs=some l→xs.length=l.length∧∀ (j:Nat) (c:I8),l[j]?=some c→∃ u,(xs.map a.eval)[j]?=some u∧nm w (Av σ Z) (cG a) S c u
 |[],l,e=>by
  simp only[Ey,Option.some.injEq] at e
  subst e
  exact⟨rfl,fun j c hj=>by simp at hj⟩
 |x::xs,l,e=>by
  simp only[Ey] at e
  split at e
  case h_2=>cases e
  rename_i c l2 hc hl
  simp only[Option.some.injEq] at e
  subst e
  obtain⟨h1,h2⟩:=CX h hl
  refine⟨by simp[h1],fun j c' hj=>?_⟩
  cases j with
  |succ j=>simpa using h2 j c' (by simpa using hj)
  |zero=>
   simp only[List.getElem?_cons_zero,Option.some.injEq] at hj
   subst hj
   refine⟨a.eval x,rfl,?_⟩
   unfold apd at hc
   split at hc
   case h_2=>cases hc
   rename_i i
   have hh:=h.holds i
   split at hc
   ·rename_i t T tag me y ex eJ
    injection hc with hc
    subst hc
    rw[eJ] at hh
    obtain⟨cs,h1,h2⟩:=hh
    exact⟨_,cs,cs,⟨⟨ex,eJ,fun q _ s r e=>by cases q<;>simp at e⟩,trivial,⟨_,rfl,rfl⟩,h1⟩,rfl,h1⟩
   ·rename_i t y ex eJ
    injection hc with hc
    subst hc
    rw[eJ] at hh
    obtain⟨cs,h1,h2⟩:=hh
    have h1':cs=[cG a i]:=by simpa[aE,isAgg] using h1
    subst h1'
    simp only[M] at h2
    rcases h2 with⟨_,hx,_⟩ |⟨_,h2⟩ |⟨T,tag,me,g,cur,hx,_⟩
    ·simp[Md.cy] at hx
    ·exact h2
    ·cases hx
   ·rename_i t s p eJ
    injection hc with hc
    subst hc
    rw[eJ] at hh
    exact hh
   ·cases hc
theorem NY (h:bI σ w0 W0 Z H S a w) {o:Oper} {f:FuncId} {first c8:Array Operand} (ho:o.op=.makeFunc (.func f) first c8) (e:vO S o.dst f first.toList c8.toList=some (true,S')):jg P w0 W0 Z H S' a o.dst w (execOp a.eval o):=by
 unfold vO at e
 split at e
 case h_2=>cases e
 rename_i l hf hl
 split at e
 case h_2=>cases e
 rename_i d hd
 cases hr:AV.refs d (.mg f l) with
 |true=>rw[hr] at e;cases e
 |false=>
 rw[hr] at e
 simp only[cond_false,Option.some.injEq,Prod.mk.injEq,true_and] at e
 subst e
 obtain⟨h1,h2⟩:=CX h hl
 have hfe:first=#[]:=by
  apply Array.toList_inj.1
  rw[hf]
 refine c7 (v:=.func (.func f) #[] (c8.map a.eval)) h (fun w2 _=>by simp[execOp,ho,Instr.makeFunc,hfe]) ⟨c8.toList.map a.eval,?_,by rw[List.length_map,h1],h2⟩
 congr 1
 apply Array.toList_inj.1
 simp
theorem NZ (h:bI σ w0 W0 Z H S a w) {o:Oper} {x:Operand} (ho:o.op=.move x) (e:qm Θ S o.dst o.type x=some (true,S')):ns P w0 W0 Z H S' a o.dst w (execOp a.eval o):=by
 by_cases hnt:∃ l,S.fb Θ o.type x=some (.u5 l)
 rotate_left
 ·exact ah' h ho (fun l hl=>hnt ⟨l,hl⟩) e
 obtain⟨l,hl⟩:=hnt
 unfold qm at e
 rw[hl] at e
 simp only at e
 split at e
 case h_2=>cases e
 rename_i d i hd
 cases hc:(Nat.beq d i|| !Nat.blt d S.length) with
 |true=>rw[hc] at e;cases e
 |false=>
  rw[hc] at e
  simp only[cond_false,Option.some.injEq,Prod.mk.injEq,true_and] at e
  subst e
  have eJ:S.at i=.u5 l:=by simpa[St.fb] using hl
  have hh:=h.holds i
  rw[eJ] at hh
  obtain⟨vs,τ,h1,h2,h3⟩:=hh
  refine⟨cG a i,fun w2=>by simp only[execOp,ho];rfl,?_⟩
  rw[hd]
  have hp:=h.kY i
  have hgo:=hp.V8 (dst:=some d) (v:=cG a i) (av:=.u5 l) (ow:=fun g=>σ g=some i) (w':=w) (Nat.le_refl _) (fun _ _ _=>rfl) h.fr (fun g hg=>⟨h.lt g i hg,.inl ⟨S.length,by rw[cJ];exact Nat.le_refl _,by unfold kY;rw[if_pos hg]⟩⟩) (fun d' VZ q1 q2=>?_)
  ·exact⟨_,hgo⟩
  ·refine⟨vs,τ,h1,h2,fun j b hb=>?_⟩
   obtain⟨u,cs,u1,u2,u3⟩:=h3 j b hb
   refine⟨u,cs,u1,u2,bj ⟨fun _ _ _=>rfl,fun g hg hx=>?_⟩ _ (fun _ _ _=>rfl) (fun g hg _=>⟨q1 g hg.1,hg.2⟩) (fun _ h=>h) u3⟩
   rcases q2 g hx with q |q
   ·exact V6.1 q
   ·exact .inl ⟨i,q⟩
theorem acQ (hT:dv P Θ=true) (h:bI σ w0 W0 Z H S a w) {hn:Hn} {o:Oper} (hq:quiet o.op=true) (e:ev Θ hn S o=some (true,S')):jg P w0 W0 Z H S' a o.dst w (execOp a.eval o):=by
 unfold ev at e
 split at e
 case h_1 x ho=>exact(NZ h ho e).q
 case h_2 x ho=>exact Zg h ho e
 case h_3 c x y ho=>exact aia h ho e
 case h_4 T ho=>rw[ho] at hq;cases hq
 case h_5 T x ho=>rw[ho] at hq;cases hq
 case h_6 T ps ho=>exact acE hT h ho e
 case h_7 T n ps ho=>rw[ho] at hq;cases hq
 case h_8 T x ho=>exact aib hT h ho e
 case h_9 T x y ho=>rw[ho] at hq;cases hq
 case h_10 x ho=>exact NK h ho e
 case h_11 T x f ho=>exact(yc hT h ho e).q
 case h_12 T x f ho=>exact acO hT h ho e
 case h_13 T x ix ho=>exact(yd hT h ho e).q
 case h_14 T x ix ho=>exact aco hT h ho e
 case h_15 x j ho=>exact(Ff h ho e).q
 case h_16 T x lo hi mx ho=>exact(NM hT h ho e).q
 case h_17 T T' x ho=>exact NG hT h ho e
 case h_18 op T x y p ho=>exact(acn hT h ho e).q
 case h_19 op T x ho=>exact auO h ho e
 case h_20 T l c ho=>rw[ho] at hq;cases hq
 case h_21 f first c8 ho=>exact NY h ho e
 case h_22 as ts ho=>exact(acp hT h ho e).q
 case h_23 as ts ho=>rw[ho] at hq;cases hq
 case h_24=>cases e
def Sn:Op→Bool
 | .extract ..=>true | .indexAddr ..=>true | .binOp ..=>true | .slice ..=>true | .move _=>true | .convert ..=>true | .fieldAddr ..=>true | .call { callee:=.builtin .len,.. }=>true |_=>false
theorem aq3 (hT:dv P Θ=true) (h:bI σ w0 W0 Z H S a w) {hn:Hn} {o:Oper} (hq:Sn o.op=true) (H6:(match o.op with
 | .convert _ T' _=>(match Θ.find T' with
  |some i=>(match i.ty with
   | .int _=>true
   |_=>false)
  |none=>false)
 |_=>true)=true) (e:ev Θ hn S o=some (true,S')):ns P w0 W0 Z H S' a o.dst w (execOp a.eval o):=by
 unfold Sn at hq
 split at hq
 ·rename_i x j ho
  unfold ev at e
  rw[ho] at e
  exact Ff h ho e
 ·rename_i T x ix ho
  unfold ev at e
  rw[ho] at e
  exact yd hT h ho e
 ·rename_i op T x y T' ho
  unfold ev at e
  rw[ho] at e
  exact acn hT h ho e
 ·rename_i T x lo hi mx ho
  unfold ev at e
  rw[ho] at e
  exact NM hT h ho e
 ·rename_i x ho
  unfold ev at e
  rw[ho] at e
  exact NZ h ho e
 ·rename_i T T' x ho
  unfold ev at e
  rw[ho] at e
  rw[ho] at H6
  exact EW hT h ho H6 e
 ·rename_i T x f ho
  unfold ev at e
  rw[ho] at e
  exact yc hT h ho e
 ·rename_i as ts ho
  unfold ev at e
  rw[ho] at e
  exact acp hT h ho e
 ·cases hq
def N0:Op→Bool
 | .alloc _=>true | .box ..=>true | .buildSlice ..=>true | .makeSlice ..=>true |o=>quiet o
theorem acR (hT:dv P Θ=true) (h:bI σ w0 W0 Z H S a w) {hn:Hn} {o:Oper} (hq:N0 o.op=true) (e:ev Θ hn S o=some (true,S')):CU P w0 W0 Z H S' a o.dst w (execOp a.eval o):=by
 cases hqq:quiet o.op with
 |true=>exact(acQ hT h hqq e).DG
 |false=>
 unfold ev at e
 split at e
 case h_4 T ho=>exact acy hT h ho e
 case h_5 T x ho=>exact aqV hT h ho e
 case h_7 T n ps ho=>exact HF hT h ho e
 case h_20 T l c ho=>exact Jq hT h ho e
 case h_24=>cases e
 case h_9 T x y ho=>rw[ho] at hq;cases hq
 case h_23 as ts ho=>rw[ho] at hq;cases hq
 all_goals (rename_i ho;rw[ho] at hqq;cases hqq)
theorem N1 (h:bI σ w0 W0 Z H S a w) {S1:St} {T:TypeId} {y:Operand} {s:Sem Next} {dst:Option Nat} (g:Jk P w0 W0 Z H S1 a dst w s) (hd:dst=none):Jk P w0 W0 Z H (qo Θ S S1 T y) a dst w s:=by
 subst hd
 unfold qo
 split
 case h_2=>exact g
 rename_i t0 s0 _
 split
 case h_2=>exact g
 rename_i t m xs hs hs1
 cases hk:m.cy with
 |true=>exact g
 |false=>
 simp only[cond_false]
 obtain⟨w',v,h1,eE,h2⟩:=g
 refine⟨w',v,h1,?_⟩
 have hh:=h.holds s0
 rw[hs] at hh
 obtain⟨cs,hm,hM⟩:=hh
 have iY:∃ A c,cs=[.slice A xs.length c]:=by
  simp only[M] at hM
  rcases hM with⟨hn,_⟩ |⟨gA,_⟩ |⟨T',tag,me,A,c,_,rfl,_⟩
  ·simp at hn
  ·rw[hk] at gA;cases gA
  ·exact⟨A,c,rfl⟩
 have ha:a.put none v=a:=rfl
 rw[ha] at h2 ⊢
 have h3:=h2.pure (dst:=some s0) (av:=.v ⟨.sl t,m,xs⟩ [[]]) (v:=cG a s0) ⟨cs,hm,by
  simp only[M]
  exact .inl ⟨by simp,hk,iY⟩⟩
 rw[nt] at h3
 have he:S1.put (some s0) (.v ⟨.sl t,m,xs⟩ [[]])=S1.set s0 (.v ⟨.sl t,m,xs⟩ [[]]):=by
  simp only[St.put,hs1]
  rfl
 rw[he] at h3
 exact⟨_,h3⟩
theorem au2 (hT:dv P Θ=true) (h:bI σ w0 W0 Z H S a w) {hn:Hn} {o:Oper} (e:ev Θ hn S o=some (true,S')):Jk P w0 W0 Z H S' a o.dst w (execOp a.eval o):=by
 cases hq:N0 o.op with
 |true=>exact(acR hT h hq e).auN
 |false=>
 unfold ev at e
 split at e
 case h_9 T x y ho=>
  split at e
  ·rename_i hd
   split at e
   ·rename_i g S1 he
    injection e with e
    injection e with e1 e2
    subst e1 e2
    exact N1 h (acA hT h ho hd he) hd
   ·cases e
  ·cases e
 case h_23 as ts ho=>
  split at e
  ·rename_i r hr
   injection e with e
   subst e
   exact Ze hT h ho hr
  ·exact Sm hT h ho e
 case h_24=>cases e
 all_goals (rename_i ho;rw[ho] at hq;cases hq)
end Go.Pv
namespace Go.Pv
set_option linter.unusedVariables false
set_option linter.unusedSimpArgs false
variable {P:Program} {w w':World} {A A' Wr:Nat→Prop} {H:Nat→Value} {tm sx:Nat→Value} {S S' S1:St} {σ cv e9:Nat→Option Nat} {w0:World} {W0 Z:Nat→Prop} {a:Act} {own:Nat→Prop} {v:Value} {Θ:ee} {dst:Option Nat}
def Own (σ:Nat→Option Nat) (g:Nat):Prop:=∃ i,σ g=some i
def CY (w:World) (A:Nat→Prop) (H:Nat→Value):Arg→Value→(Nat→Prop)→Prop
 | .tv b,v,own=>∃ cs,aE b.t v cs∧M w A H b.t b.m b.x cs own []
 | .fn f c8,v,_=>∃ vs:List Value,v=.func (.func f) #[] vs.toArray∧vs.length=c8.length∧∀ (j:Nat) (c:TV),c8[j]?=some c→∃ u,vs[j]?=some u∧K w A c.t c.x [u]
abbrev Gl:=Nat→Option Obj
structure In (Γ:Gl) (B:Nat→Prop) (H:Nat→Value) (w:World) (σ:Nat→Option Nat) (args:List Arg) (cW:List Value):Prop where
 len:cW.length=args.length
 lt:∀ g i,σ g=some i→i<args.length∧g<w.heap.size
 old:∀ g,B g→σ g=none∧g<w.heap.size
 env:∀ g o,Γ g=some o→σ g=none∧w.heap[g]?=some o
 ok:∀ (j:Nat) (a:Arg),args[j]?=some a→∃ v,cW[j]?=some v∧CY w (Av σ B) H a v (fun g=>σ g=some j)
def acS:List Value→Value
 |[u]=>u
 |vs=>.tuple vs.toArray
structure Out (B:Nat→Prop) (H:Nat→Value) (w w':World) (σ:Nat→Option Nat) (rt:ab) (v:Value):Prop where
 fr:Fr w (Own σ) w'
 res:∃ (eE:Nat→Option Nat) (vs:List Value),v=acS vs∧vs.length=rt.res.length∧(∀ g i,eE g=some i→(w.heap.size≤g∨Own σ g)∧g<w'.heap.size)∧
  (∀ (i:Nat) (b:TV),rt.res[i]?=some b→∃ u cs,vs[i]?=some u∧aE b.t u cs∧M w' (Av eE B) H b.t b.m b.x cs (fun g=>eE g=some i) [])∧
  ∀ c,rt.refs=[c]→∃ cs,M w' (Av eE B) H c.t c.m c.x cs (fun g=>eE g=some rt.res.length) []
def Sp (P:Program) (f:FuncId) (cW:List Value) (w:World) (R:Value→World→Prop):Prop:=
 ((callFunc f cW.toArray).run P w=.ok (.enter f cW.toArray) w∧Calls P f cW.toArray w fun
  | .returned v,w'=>R v w'
  |_,_=>False)∨∃ v w',(callFunc f cW.toArray).run P w=.ok (.value v) w'∧R v w'
theorem Sp.mono {f:FuncId} {cW:List Value} {R R':Value→World→Prop} (h:Sp P f cW w R) (hr:∀ v w',R v w'→R' v w'):Sp P f cW w R':=by
 rcases h with⟨h1,h2⟩ |⟨v,w',h1,h2⟩
 ·refine .inl ⟨h1,h2.mono fun e w' he=>?_⟩
  cases e<;>first |exact hr _ _ he |exact he
 ·exact .inr ⟨v,w',h1,hr _ _ h2⟩
def Wc (Γ:Gl) (P:Program) (f:FuncId) (run:List Arg→(ab→Option ab)→Option ab):Prop:=
 ∀ (args:List Arg) (kf:ab→Option ab) (ret:ab) (w:World) (σ:Nat→Option Nat) (cW:List Value) (H:Nat→Value) (B:Nat→Prop),run args kf=some ret→In Γ B H w σ args cW→
  Sp P f cW w fun v w'=>∃ rt,kf rt=some ret∧Out B H w w' σ rt v
def Sound (Γ:Gl) (P:Program) (f:FuncId) (run:List Arg→(ab→Option ab)→Option ab):Prop:=Wc Γ P f run∧∀ as,dp (run as)
def aq4 (Γ:Gl) (P:Program) (O:jS):Prop:=∀ f,Sound Γ P f (O.run f)
structure pJ (Γ:Gl) (P:Program) (O:jS) (w0:World) (W0:Nat→Prop):Prop where
 sd:aq4 Γ P O
 env:∀ g o,Γ g=some o→¬W0 g∧w0.heap[g]?=some o
theorem pJ.det {Γ:Gl} {P:Program} {O:jS} {w0:World} {W0:Nat→Prop} (h:pJ Γ P O w0 W0):pq O:=fun f=>(h.sd f).2
variable {Γ:Gl}
theorem acT {l:List Entry} (h:∀ e∈l,Sound Γ P e.f e.run):aq4 Γ P (jS.of l):=by
 intro f
 have key:∀ (l:List Entry) (e:Entry),entry l f=some e→e∈l∧e.f=f:=by
  intro l
  induction l with
  |nil=>intro e h;cases h
  |cons e' r ih=>
   intro e h
   simp only[entry] at h
   cases hb:Nat.beq e'.f f with
   |true=>
    rw[hb] at h
    injection h with h
    subst h
    exact⟨by simp,Nat.eq_of_beq_eq_true hb⟩
   |false=>
    rw[hb] at h
    obtain⟨h1,h2⟩:=ih e h
    exact⟨by simp[h1],h2⟩
 simp only[jS.of]
 split
 ·rename_i e he
  obtain⟨h1,h2⟩:=key l e he
  rw[←h2]
  exact h e h1
 ·exact⟨fun args kf ret w σ cW H B hr=>(by cases hr),fun _=>dp.none⟩
theorem Fg:∀ (t:Ty) {x:t.I} {cs:List Value},jz t=true→K w A t x cs→K w' A' t x cs
 | .int _,_,_,_,h=>h
 | .bool,_,_,_,h=>h
 | .str,_,_,_,h=>h
 | .unit,_,_,_,h=>h
 | .pair a b,x,cs,hf,h=>by
  simp only[jz,Bool.and_eq_true] at hf
  simp only[K] at h ⊢
  obtain⟨c0,c1,rfl,h0,h1⟩:=h
  exact⟨c0,c1,rfl,Fg a hf.1 h0,Fg b hf.2 h1⟩
 | .arr n t,x,cs,hf,h=>by
  simp only[jz] at hf
  simp only[K] at h ⊢
  obtain⟨fZ,rfl,hl,hx,hj⟩:=h
  exact⟨fZ,rfl,hl,hx,fun j h1 h2=>Fg t hf (hj j h1 h2)⟩
theorem kF:∀ (t:Ty) {m:Md} {x:t.I} {cs:List Value} {ow:Nat→Prop},gS t m=true→M w A H t m x cs ow []→M w A' H t m x cs ow []
 | .sl t,.o T tag me,xs,cs,ow,hs,h=>by
  simp only[gS] at hs
  simp only[M] at h ⊢
  rcases h with⟨hn,_⟩ |⟨hk,_⟩ |⟨T,tag,me,X,c,e1,e2,hc,ht,h⟩
  ·simp at hn
  ·simp[Md.cy] at hk
  ·injection e1 with e1 Bg qF
   subst e1 Bg qF
   refine .inr (.inr ⟨_,_,_,X,c,rfl,e2,hc,ht,?_⟩)
   rcases h with h |⟨g,cur,τ,h1,h2,h3,h4,h5,h6⟩
   ·exact .inl h
   ·exact .inr ⟨g,cur,τ,h1,h2,h3,h4,h5,fun j hj=>kF t hs (h6 j hj)⟩
 | .ptr t,.o T tag me,x,cs,ow,hs,h=>by
  simp only[gS] at hs
  simp only[M] at h ⊢
  rcases h with⟨hn,_⟩ |⟨hk,_⟩ |⟨T,tag,me,g,cur,e1,e2,ht,hg,hw,h⟩
  ·simp at hn
  ·simp[Md.cy] at hk
  ·injection e1 with e1 Bg qF
   subst e1 Bg qF
   exact .inr (.inr ⟨_,_,_,g,cur,rfl,e2,ht,hg,hw,kF t hs h⟩)
 | .pair a b,.p ma mb,x,cs,ow,hs,h=>by
  simp only[gS,Bool.and_eq_true] at hs
  simp only[M] at h ⊢
  rcases h with⟨hn,_⟩ |⟨hk,h⟩ |⟨ma,mb,c0,c1,s,e1,e2,h0,h1⟩
  ·simp at hn
  ·simp only[K] at h
   simp only[Md.cy,Bool.and_eq_true] at hk
   obtain⟨c0,c1,e2,h0,h1⟩:=h
   refine .inr (.inr ⟨ma,mb,c0,c1,fun _=>True,rfl,e2,kF a hs.1 (ph hk.1 h0),kF b hs.2 (ph hk.2 h1)⟩)
  ·injection e1 with e1 Bg
   subst e1 Bg
   exact .inr (.inr ⟨_,_,c0,c1,s,rfl,e2,kF a hs.1 h0,kF b hs.2 h1⟩)
 | .sl t,.k,xs,cs,ow,hs,h=>by simp[gS,jz] at hs
 | .sl t,.p _ _,xs,cs,ow,hs,h=>by simp[gS,jz] at hs
 | .ptr t,.k,xs,cs,ow,hs,h=>by simp[gS,jz] at hs
 | .ptr t,.p _ _,xs,cs,ow,hs,h=>by simp[gS,jz] at hs
 | .pair a b,.k,xs,cs,ow,hs,h=>by
  simp only[gS,Bool.and_eq_true] at hs
  exact ph hs.1 (Fg _ hs.2 (gR _ hs.1 h))
 | .pair a b,.o ..,xs,cs,ow,hs,h=>by simp[gS,Md.cy] at hs
 | .int k,m,x,cs,ow,hs,h=>by simp only[M,K] at h ⊢;exact h
 | .bool,m,x,cs,ow,hs,h=>by simp only[M,K] at h ⊢;exact h
 | .str,m,x,cs,ow,hs,h=>by simp only[M,K] at h ⊢;exact h
 | .unit,m,x,cs,ow,hs,h=>by simp only[M,K] at h ⊢;exact h
 | .arr n t,m,x,cs,ow,hs,h=>by
  have hs:(m.cy&&jz (.arr n t))=true:=by cases m<;>exact hs
  simp only[Bool.and_eq_true] at hs
  exact ph hs.1 (Fg _ hs.2 (gR _ hs.1 h))
def Pk (σ:Nat→Option Nat) (n:Nat) (g:Nat):Prop:=∃ i,n≤i∧σ g=some i
theorem aik {t:Ty} {m:Md} {x:t.I} {cs:List Value} {s n:Nat} {ow:Nat→Prop} (hs:s<n) (ho:∀ g,ow g→σ g=some s) (h:M w (Av σ Z) H t m x cs ow []):K w (Pk σ n) t x cs:=
 M_K (fun g _ hg=>by obtain⟨i,_,hi⟩:=hg;exact .inl ⟨i,hi⟩) t rfl (fun g hg hx=>by
  obtain⟨i,hi,nV⟩:=hx
  rw[ho g hg] at nV
  injection nV with nV
  omega) h
theorem acU (h:bI σ w0 W0 Z H S a w) {T:TypeId} {x:Operand} {av:AV} {b:TV} (ho:S.fb Θ T x=some av) (e:S.uk av=some b):
  ∃ cs,aE b.t (a.eval x) cs∧K w (Pk σ S.length) b.t b.x cs:=by
 have hh:=cf h ho
 cases av with
 |v a0 ex=>
  cases ex with
  |cons _ _=>simp[St.uk] at e
  |nil=>
   simp only[St.uk,Option.some.injEq] at e
   subst e
   obtain⟨cs,h1,h2⟩:=hh
   cases x with
   |tmp i=>
    simp only[St.fb,Option.some.injEq] at ho
    exact⟨cs,h1,aik (s:=i) (fk (by rw[ho];exact fun e=>by cases e)) (fun g hg=>by obtain⟨j,hj,hg⟩:=hg;injection hj with hj;subst hj;exact hg) h2⟩
   |const c=>exact⟨cs,h1,M_K (fun g _ hg=>by obtain⟨i,_,hi⟩:=hg;exact .inl ⟨i,hi⟩) _ rfl (fun g hg=>by obtain⟨j,hj,_⟩:=hg;cases hj) h2⟩
   |func f=>exact⟨cs,h1,M_K (fun g _ hg=>by obtain⟨i,_,hi⟩:=hg;exact .inl ⟨i,hi⟩) _ rfl (fun g hg=>by obtain⟨j,hj,_⟩:=hg;cases hj) h2⟩
   |global f=>exact⟨cs,h1,M_K (fun g _ hg=>by obtain⟨i,_,hi⟩:=hg;exact .inl ⟨i,hi⟩) _ rfl (fun g hg=>by obtain⟨j,hj,_⟩:=hg;cases hj) h2⟩
 |al t s p=>
  simp only[St.uk] at e
  obtain⟨r,dy,cs,hr,hc,hm⟩:=hh
  obtain⟨rfl,de,k2,k3⟩:=dU h hr hc e
  obtain⟨ex0,V7,_⟩:=hr.at_
  exact⟨cs,hm,aik (s:=s) (fk (by rw[V7];exact fun e=>by cases e)) k2 k3⟩
 |cut t s p lo hi=>
  simp only[St.uk] at e
  obtain⟨r,dy,t',X,n,c,hr,rfl,hc,YW,EM,hv⟩:=hh
  cases hp:S.place s p with
  |none=>rw[hp] at e;cases e
  |some b'=>
   obtain⟨ht,de,k2,k3⟩:=dU h hr hc hp
   obtain⟨bt,bm,bx⟩:=b'
   simp only at ht
   subst ht
   rw[hp] at e
   simp only[Option.some.injEq] at e
   subst e
   obtain⟨ex0,V7,_⟩:=hr.at_
   have hK:=aik (s:=s) (n:=S.length) (fk (by rw[V7];exact fun e=>by cases e)) k2 k3
   have hn:n=List.length bx:=by
    simp only[K] at hK
    obtain⟨_,_,e,_⟩:=hK
    simp only[List.cons.injEq,Value.slice.injEq,and_true] at e
    exact e.2.1
   subst hn
   rw[hv]
   exact⟨_,by simp[aE,isAgg],VY hK YW EM⟩
 |_=>simp[St.uk] at e
theorem acV {n:Nat}:bA w w (Av σ Z) (Pk σ n):=⟨fun _ _ _=>rfl,fun g _ hg=>by obtain⟨i,_,hi⟩:=hg;exact .inl ⟨i,hi⟩⟩
theorem s7 (h:bI σ w0 W0 Z H S a w):∀ {c8:List I8} {l:List TV} {vs:List Value},qt S c8=some l→vs.length=c8.length→(∀ (j:Nat) (c:I8),c8[j]?=some c→∃ u,vs[j]?=some u∧nm w (Av σ Z) (cG a) S c u)→
  l.length=c8.length∧∀ (j:Nat) (c:TV),l[j]?=some c→∃ u,vs[j]?=some u∧K w (Pk σ S.length) c.t c.x [u]
 |[],l,vs,e,_,_=>by
  simp only[qt,Option.some.injEq] at e
  subst e
  exact⟨rfl,fun j c hj=>by simp at hj⟩
 |c::c8,l,vs,e,hl,hv=>by
  simp only[qt] at e
  split at e
  case h_2=>cases e
  rename_i b l2 hb hl2
  simp only[Option.some.injEq] at e
  subst e
  match vs,hl with
  |u::vs,hl=>
   obtain⟨h1,h2⟩:=s7 h (vs:=vs) hl2 (by simpa using hl) (fun j c hj=>by simpa using hv (j+1) c (by simpa using hj))
   refine⟨by simp[h1],fun j c' hj=>?_⟩
   cases j with
   |succ j=>simpa using h2 j c' (by simpa using hj)
   |zero=>
    simp only[List.getElem?_cons_zero,Option.some.injEq] at hj
    subst hj
    obtain⟨u',hu,hc⟩:=hv 0 c rfl
    simp only[List.getElem?_cons_zero,Option.some.injEq] at hu
    subst hu
    refine⟨u,rfl,?_⟩
    cases c with
    |kv b'=>
     simp only[HW,Option.some.injEq] at hb
     subst hb
     exact cE acV _ hc
    |pl t s p=>
     simp only[HW] at hb
     split at hb
     case h_2=>cases hb
     rename_i b' hp
     simp only[Option.some.injEq] at hb
     subst hb
     obtain⟨r,dy,cs,hr,j9,hm⟩:=hc
     obtain⟨AQ,de,k2,k3⟩:=dU h hr j9 hp
     obtain⟨ex0,V7,_⟩:=hr.at_
     have hK:=aik (s:=s) (n:=S.length) (fk (by rw[V7];exact fun e=>by cases e)) k2 k3
     have:cs=[u]:=by simpa[aE,isAgg] using hm
     rw[this] at hK
     exact hK
theorem v7:∀ (xs:List Operand) (Ts:List TypeId) (ps:List Pass) (j:Nat) {S S1:St} {σ:Nat→Option Nat} {l:List (Option TV)},bI σ w0 W0 Z H S a w→ij Θ S xs Ts ps=some (l,S1)→
  ∃ (cv:Nat→Option Nat) (ow:Nat→Prop) (τ:Nat→Nat),bI cv w0 W0 Z H S1 a w∧S1.length=S.length∧iw σ cv S.length ow∧l.length=xs.length∧(∀ g,ow g→j≤τ g∧τ g<j+l.length)∧
   ((∀ p∈ps,p=.val)→∀ g,¬ow g)∧
   ∀ (k:Nat) (b:TV),l[k]?=some (some b)→∃ x cs,xs[k]?=some x∧aE b.t (a.eval x) cs∧M w (Av σ Z) H b.t b.m b.x cs (fun g=>ow g∧τ g=j+k) []
 |[],Ts,ps,j,S,S1,σ,l,h,e=>by
  simp only[ij,Option.some.injEq,Prod.mk.injEq] at e
  obtain⟨rfl,rfl⟩:=e
  exact⟨σ,fun _=>False,fun _=>j,h,rfl,iw.none _ _,rfl,fun _ h=>h.elim,fun _ _ h=>h,fun k b hk=>by simp at hk⟩
 |x::xs,[],ps,j,S,S1,σ,l,h,e=>by simp[ij] at e
 |x::xs,T::Ts,[],j,S,S1,σ,l,h,e=>by simp[ij] at e
 |x::xs,T::Ts,p::ps,j,S,S1,σ,l,h,e=>by
  simp only[ij] at e
  split at e
  ·split at e
   case h_2=>cases e
   rename_i r hr
   simp only[Option.some.injEq,Prod.mk.injEq] at e
   obtain⟨rfl,rfl⟩:=e
   obtain⟨cv,ow,τ,k1,k2,k3,k4,k5,k6,k7⟩:=v7 xs Ts ps (j+1) h hr
   refine⟨cv,ow,τ,k1,k2,k3,by simp[k4],fun g hg=>by have:=k5 g hg;simp only[List.length_cons];omega,fun hp=>k6 (fun p hp'=>hp p (by simp[hp'])),fun k b hk=>?_⟩
   cases k with
   |zero=>simp at hk
   |succ k=>
    obtain⟨x',cs,q1,q2,q3⟩:=k7 k b (by simpa using hk)
    exact⟨x',cs,by simpa using q1,q2,by rw[show j+(k+1)=j+1+k from by omega];exact q3⟩
  rotate_left
  ·cases e
  ·unfold St.take at e
   split at e
   case h_2=>cases e
   rename_i b S2 hb
   split at hb
   case h_2=>cases hb
   rename_i av eQ
   split at e
   case h_2=>cases e
   rename_i r hr
   simp only[Option.some.injEq,Prod.mk.injEq] at e
   obtain⟨rfl,rfl⟩:=e
   obtain⟨cv,cs,ow,h1,hm,hM,hk,hn⟩:=fP h eQ hb
   obtain⟨e9,qB,τ,k1,k2,k3,k4,k5,k6,k7⟩:=v7 xs Ts ps (j+1) h1 hr
   rw[hn] at k3
   have Sh:∀ g,ow g→¬qB g:=fun g hg=>hk.apart k3 hg
   let V':Nat→Nat:=fun g=>open Classical in if ow g then j else τ g
   refine⟨e9,fun g=>ow g∨qB g,V',k1,by omega,hk.trans k3,by simp[k4],fun g hg=>?_,fun hp=>(fun hx:Pass.take=Pass.val=>nomatch hx) (hp .take (by simp)),fun k b' gA=>?_⟩
   ·simp only[V',List.length_cons]
    split
    ·omega
    ·rename_i hx
     have:=k5 g (hg.resolve_left hx)
     omega
   ·cases k with
    |zero=>
     simp only[List.getElem?_cons_zero,Option.some.injEq] at gA
     subst gA
     refine⟨x,cs,rfl,hm,bj (bA.refl _ _) _ (fun _ _ _=>rfl) (fun g hg _=>⟨.inl hg,by simp only[V',if_pos hg,Nat.add_zero]⟩) (fun _ h=>h) hM⟩
    |succ k=>
     obtain⟨x',du,q1,q2,q3⟩:=k7 k b' (by simpa using gA)
     refine⟨x',du,by simpa using q1,q2,bj ⟨fun _ _ _=>rfl,fun g _ hg=>hk.Av.2 hg⟩ _ (fun _ _ _=>rfl) (fun g hg _=>⟨.inr hg.1,?_⟩) (fun _ h=>h) q3⟩
     simp only[V']
     rw[if_neg (fun hx=>Sh g hx hg.1),hg.2]
     omega
theorem lx (h:bI σ w0 W0 Z H S a w):∀ (xs:List Operand) (Ts:List TypeId) (l:List (Option TV)) {as:List Arg},l.length=xs.length→reads Θ S xs Ts l=some as→
  as.length=xs.length∧∀ (k:Nat) (r:Arg),as[k]?=some r→(∃ b,l[k]?=some (some b)∧r=.tv b)∨∃ x,xs[k]?=some x∧∀ H,CY w (Pk σ S.length) H r (a.eval x) (fun _=>False)
 |[],Ts,l,as,_,e=>by
  simp only[reads,Option.some.injEq] at e
  subst e
  exact⟨rfl,fun k r hk=>by simp at hk⟩
 |x::xs,[],l,as,hl,e=>by simp[reads] at e
 |x::xs,T::Ts,[],as,hl,e=>by simp at hl
 |x::xs,T::Ts,p::ps,as,hl,e=>by
  have V5:ps.length=xs.length:=by simpa using hl
  simp only[reads] at e
  split at e
  ·rename_i b
   split at e
   case h_2=>cases e
   rename_i r hr
   simp only[Option.some.injEq] at e
   subst e
   obtain⟨h1,h2⟩:=lx h xs Ts ps V5 hr
   refine⟨by simp[h1],fun k r' hk=>?_⟩
   cases k with
   |zero=>
    simp only[List.getElem?_cons_zero,Option.some.injEq] at hk
    exact .inl ⟨b,rfl,hk.symm⟩
   |succ k=>simpa using h2 k r' (by simpa using hk)
  ·split at e
   ·rename_i f c8 eQ
    split at e
    case h_2=>cases e
    rename_i cs r iY hr
    simp only[Option.some.injEq] at e
    subst e
    obtain⟨h1,h2⟩:=lx h xs Ts ps V5 hr
    refine⟨by simp[h1],fun k r' hk=>?_⟩
    cases k with
    |zero=>
     simp only[List.getElem?_cons_zero,Option.some.injEq] at hk
     subst hk
     obtain⟨vs,v1,v2,v3⟩:=cf h eQ
     obtain⟨c1,c2⟩:=s7 h iY v2 v3
     exact .inr ⟨x,rfl,fun _=>⟨vs,v1,by omega,c2⟩⟩
    |succ k=>simpa using h2 k r' (by simpa using hk)
   ·rename_i av _ eQ
    split at e
    case h_2=>cases e
    rename_i b r hb hr
    simp only[Option.some.injEq] at e
    subst e
    obtain⟨h1,h2⟩:=lx h xs Ts ps V5 hr
    refine⟨by simp[h1],fun k r' hk=>?_⟩
    cases k with
    |zero=>
     simp only[List.getElem?_cons_zero,Option.some.injEq] at hk
     subst hk
     obtain⟨cs,c1,c2⟩:=acU h eQ hb
     exact .inr ⟨x,rfl,fun _=>⟨cs,c1,ib _ c2⟩⟩
    |succ k=>simpa using h2 k r' (by simpa using hk)
   ·cases e
theorem nw (h:bI σ w0 W0 Z H S a w):∀ (xs:List Operand) (Ts:List TypeId) (l:List (Option TV)) {as:List Arg},l.length=xs.length→reads Θ S xs Ts l=some as→km S xs l as=true→
  ∀ (k:Nat) (r:Arg),as[k]?=some r→(∃ b,l[k]?=some (some b)∧r=.tv b)∨∃ x,xs[k]?=some x∧∀ H,CY w (Av σ Z) H r (a.eval x) (fun _=>False)
 |[],Ts,l,as,_,e,_=>by
  simp only[reads,Option.some.injEq] at e
  subst e
  exact fun k r hk=>by simp at hk
 |x::xs,[],l,as,hl,e,_=>by simp[reads] at e
 |x::xs,T::Ts,[],as,hl,e,_=>by simp at hl
 |x::xs,T::Ts,p::ps,as,hl,e,hf=>by
  have V5:ps.length=xs.length:=by simpa using hl
  have gQ:=(lx h (x::xs) (T::Ts) (p::ps) hl e).2
  simp only[reads] at e
  split at e
  ·rename_i b
   split at e
   case h_2=>cases e
   rename_i r hr
   simp only[Option.some.injEq] at e
   subst e
   simp only[km,Bool.true_or,Bool.true_and] at hf
   have h2:=nw h xs Ts ps V5 hr hf
   intro k r' hk
   cases k with
   |zero=>
    simp only[List.getElem?_cons_zero,Option.some.injEq] at hk
    exact .inl ⟨b,rfl,hk.symm⟩
   |succ k=>simpa using h2 k r' (by simpa using hk)
  ·split at e
   ·rename_i f c8 eQ
    split at e
    case h_2=>cases e
    rename_i cs r iY hr
    simp only[Option.some.injEq] at e
    subst e
    simp only[km,Bool.false_or,Bool.and_eq_true,List.isEmpty_iff] at hf
    obtain⟨hf1,hf2⟩:=hf
    have h2:=nw h xs Ts ps V5 hr hf2
    intro k r' hk
    cases k with
    |succ k=>simpa using h2 k r' (by simpa using hk)
    |zero=>
     simp only[List.getElem?_cons_zero,Option.some.injEq] at hk
     subst hk
     rcases gQ 0 _ rfl with⟨b',Jw,_⟩ |⟨x',xY,jV⟩
     ·simp at Jw
     ·simp only[List.getElem?_cons_zero,Option.some.injEq] at xY
      subst xY
      refine .inr ⟨x,rfl,fun H'=>?_⟩
      obtain⟨vs,v1,v2,v3⟩:=jV H'
      exact⟨vs,v1,v2,fun j c hj=>by rw[hf1] at hj;simp at hj⟩
   ·rename_i av _ eQ
    split at e
    case h_2=>cases e
    rename_i b r hb hr
    simp only[Option.some.injEq] at e
    subst e
    simp only[km,Bool.false_or,Bool.and_eq_true,Bool.or_eq_true] at hf
    obtain⟨hf1,hf2⟩:=hf
    have h2:=nw h xs Ts ps V5 hr hf2
    intro k r' hk
    cases k with
    |succ k=>simpa using h2 k r' (by simpa using hk)
    |zero=>
     simp only[List.getElem?_cons_zero,Option.some.injEq] at hk
     subst hk
     rcases hf1 with hs |hs
     ·rcases gQ 0 _ rfl with⟨b',Jw,_⟩ |⟨x',xY,jV⟩
      ·simp at Jw
      ·simp only[List.getElem?_cons_zero,Option.some.injEq] at xY
       subst xY
       refine .inr ⟨x,rfl,fun H'=>?_⟩
       obtain⟨cs,c1,c2⟩:=jV H'
       exact⟨cs,c1,kF _ hs c2⟩
     ·refine .inr ⟨x,rfl,fun H'=>?_⟩
      have hh:=cf h eQ
      cases x with
      |func f=>simp[vh] at hs
      |global f=>simp[vh] at hs
      |tmp i=>
       simp only[St.fb,Option.some.injEq] at eQ
       subst eQ
       simp only[vh] at hs
       split at hs
       ·rename_i b0 hb0
        rw[hb0] at hh hb
        simp only[St.uk,Option.some.injEq] at hb
        subst hb
        obtain⟨cs,c1,c2⟩:=hh
        exact⟨cs,c1,ph rfl (gR _ hs c2)⟩
       ·cases hs
      |const c=>
       have hk:∀ a0,av=.v a0 []→∀ H',CY w (Av σ Z) H' (.tv (RQ b)) (a.eval (.const c)) fun _=>False:=fun a0 e H'=>by
        subst e
        simp only[St.uk,Option.some.injEq] at hb
        subst hb
        have hh:=cf h eQ
        obtain⟨cs,c1,c2⟩:=hh
        exact⟨cs,c1,ph rfl (M_K (fun g _ hg=>hg) _ rfl (fun g hg=>by obtain⟨j,hj,_⟩:=hg;cases hj) c2)⟩
       simp only[St.fb] at eQ
       cases hc:nX Θ T c with
       |none=>rw[hc] at eQ;cases eQ
       |some a0=>
        rw[hc] at eQ
        simp only[Option.map_some,Option.some.injEq] at eQ
        exact hk a0 eQ.symm H'
   ·cases e
end Go.Pv
namespace Go.Pv
set_option linter.unusedVariables false
set_option linter.unusedSimpArgs false
variable {P:Program} {w w':World} {A A' B Wr:Nat→Prop} {H H':Nat→Value}
theorem nx:∀ (t:Ty) {m:Md} {x:t.I} {cs:List Value} {ow:Nat→Prop} {hs:List Path},rZ m=true→M w A H t m x cs ow hs→M w A H' t m x cs ow hs
 | .int _,_,_,_,_,_,_,h=>by simp only[M] at h ⊢;exact h
 | .bool,_,_,_,_,_,_,h=>by simp only[M] at h ⊢;exact h
 | .str,_,_,_,_,_,_,h=>by simp only[M] at h ⊢;exact h
 | .unit,_,_,_,_,_,_,h=>by simp only[M] at h ⊢;exact h
 | .arr _ _,_,_,_,_,_,_,h=>by simp only[M] at h ⊢;exact h
 | .sl t,m,xs,cs,ow,hs,hb,h=>by
  simp only[M] at h ⊢
  rcases h with h |h |⟨T,tag,me,X,c,rfl,e2,hc,ht,h⟩
  ·exact .inl h
  ·exact .inr (.inl h)
  ·simp only[rZ,Bool.and_eq_true] at hb
   obtain⟨hb1,hb2⟩:=hb
   cases tag with
   |some _=>cases hb1
   |none=>
    refine .inr (.inr ⟨T,none,me,X,c,rfl,e2,hc,fun h hh=>(by cases hh),?_⟩)
    rcases h with h |⟨g,cur,τ,h1,h2,h3,h4,h5,h6⟩
    ·exact .inl h
    ·exact .inr ⟨g,cur,τ,h1,h2,h3,h4,h5,fun j hj=>nx t hb2 (h6 j hj)⟩
 | .ptr t,m,x,cs,ow,hs,hb,h=>by
  simp only[M] at h ⊢
  rcases h with h |h |⟨T,tag,me,g,cur,rfl,e2,ht,hg,hw,h⟩
  ·exact .inl h
  ·exact .inr (.inl h)
  ·simp only[rZ,Bool.and_eq_true] at hb
   obtain⟨hb1,hb2⟩:=hb
   cases tag with
   |some _=>cases hb1
   |none=>exact .inr (.inr ⟨T,none,me,g,cur,rfl,e2,fun h hh=>(by cases hh),hg,hw,nx t hb2 h⟩)
 | .pair a b,m,x,cs,ow,hs,hb,h=>by
  simp only[M] at h ⊢
  rcases h with h |h |⟨ma,mb,c0,c1,s,rfl,e2,h0,h1⟩
  ·exact .inl h
  ·exact .inr (.inl h)
  ·simp only[rZ,Bool.and_eq_true] at hb
   exact .inr (.inr ⟨ma,mb,c0,c1,s,rfl,e2,nx a hb.1 h0,nx b hb.2 h1⟩)
theorem s8:∀ (t:Ty) {m:Md} {n:Nat},m.cy=true→(kn t m n).cy=true
 | .int _,m,n,h=>by simpa[kn] using h
 | .bool,m,n,h=>by simpa[kn] using h
 | .str,m,n,h=>by simpa[kn] using h
 | .unit,m,n,h=>by simpa[kn] using h
 | .arr _ _,m,n,h=>by simpa[kn] using h
 | .sl t,m,n,h=>by cases m<;>simp_all [kn,Md.cy]
 | .ptr t,m,n,h=>by cases m<;>simp_all [kn,Md.cy]
 | .pair a b,m,n,h=>by
  cases m with
  |k=>simp[kn,Md.cy]
  |o=>simp[Md.cy] at h
  |p ma mb=>
   simp only[Md.cy,Bool.and_eq_true] at h
   simp only[kn,Md.cy,Bool.and_eq_true]
   exact⟨s8 a h.1,s8 b h.2⟩
theorem ny:∀ (t:Ty) {m:Md} {x y:t.I},m.cy=true→gE t m x y=x
 | .int _,m,x,y,h=>rfl
 | .bool,m,x,y,h=>rfl
 | .str,m,x,y,h=>rfl
 | .unit,m,x,y,h=>rfl
 | .arr _ _,m,x,y,h=>rfl
 | .sl t,m,x,y,h=>by cases m<;>simp_all [gE,Md.cy]
 | .ptr t,m,x,y,h=>by cases m<;>simp_all [gE,Md.cy]
 | .pair a b,m,x,y,h=>by
  cases m with
  |k=>simp[gE]
  |o=>simp[Md.cy] at h
  |p ma mb=>
   simp only[Md.cy,Bool.and_eq_true] at h
   simp only[gE]
   rw[ny a h.1,ny b h.2]
theorem acW:∀ (t:Ty) {m:Md} {x:t.I} {cs:List Value} {ow:Nat→Prop} {n:Nat},gb t m=true→M w A H t m x cs ow []→(∀ (j:Nat) (u:Value),cs[j]?=some u→H' (n+j)=u)→M w A H' t (kn t m n) x cs ow []
 | .int _,_,_,_,_,_,_,h,_=>by simp only[M,kn] at h ⊢;exact h
 | .bool,_,_,_,_,_,_,h,_=>by simp only[M,kn] at h ⊢;exact h
 | .str,_,_,_,_,_,_,h,_=>by simp only[M,kn] at h ⊢;exact h
 | .unit,_,_,_,_,_,_,h,_=>by simp only[M,kn] at h ⊢;exact h
 | .arr _ _,_,_,_,_,_,_,h,_=>by simp only[M,kn] at h ⊢;exact h
 | .sl t,m,xs,cs,ow,n,hl,h,hH=>by
  simp only[M] at h ⊢
  rcases h with⟨h,_⟩ |⟨hk,h⟩ |⟨T,tag,me,X,c,rfl,rfl,hc,ht,h⟩
  ·simp at h
  ·exact .inr (.inl ⟨s8 (.sl t) hk,h⟩)
  ·simp only[gb,Bool.and_eq_true] at hl
   refine .inr (.inr ⟨T,some n,me,X,c,rfl,rfl,hc,fun h hh=>?_,?_⟩)
   ·injection hh with hh
    subst hh
    exact hH 0 _ rfl
   ·rcases h with h |⟨g,cur,τ,h1,h2,h3,h4,h5,h6⟩
    ·exact .inl h
    ·exact .inr ⟨g,cur,τ,h1,h2,h3,h4,h5,fun j hj=>nx t hl (h6 j hj)⟩
 | .ptr t,m,x,cs,ow,n,hl,h,hH=>by
  simp only[M] at h ⊢
  rcases h with⟨h,_⟩ |⟨hk,h⟩ |⟨T,tag,me,g,cur,rfl,rfl,ht,hg,hw,h⟩
  ·simp at h
  ·exact .inr (.inl ⟨s8 (.ptr t) hk,h⟩)
  ·simp only[gb,Bool.and_eq_true] at hl
   refine .inr (.inr ⟨T,some n,me,g,cur,rfl,rfl,fun h hh=>?_,hg,hw,nx t hl h⟩)
   injection hh with hh
   subst hh
   exact hH 0 _ rfl
 | .pair a b,m,x,cs,ow,n,hl,h,hH=>by
  simp only[M] at h ⊢
  rcases h with⟨h,_⟩ |⟨hk,h⟩ |⟨ma,mb,c0,c1,s,rfl,rfl,h0,h1⟩
  ·simp at h
  ·exact .inr (.inl ⟨s8 (.pair a b) hk,h⟩)
  ·simp only[gb,Bool.and_eq_true] at hl
   have hl0:=(fI a h0).1
   refine .inr (.inr ⟨_,_,c0,c1,s,rfl,rfl,acW a hl.1 h0 (fun j u hj=>hH j u ?_),acW b hl.2 h1 (fun j u hj=>?_)⟩)
   ·rw[List.getElem?_append_left (List.getElem?_eq_some_iff.1 hj).1];exact hj
   ·rw[Nat.add_assoc]
    refine hH (a.size+j) u ?_
    rw[List.getElem?_append_right (by omega),hl0,Nat.add_sub_cancel_left]
    exact hj
theorem yk (cD:bA w w' A A'):∀ (t:Ty) {m:Md} {x y:t.I} {cs du:List Value} {ow de:Nat→Prop} {n:Nat},gb t m=true→(sK t m=true∨bA w' w' B A')→M w A H t m x cs ow []→(∀ (j:Nat) (u:Value),cs[j]?=some u→H' (n+j)=u)→
  M w' B H' t (kn t m n) y du de []→M w' A' H t m (gE t m x y) cs de []
 | .int _,_,_,_,_,_,_,_,_,_,_,h,_,_=>by simp only[M,gE] at h ⊢;exact⟨h.1,cE cD _ h.2⟩
 | .bool,_,_,_,_,_,_,_,_,_,_,h,_,_=>by simp only[M,gE] at h ⊢;exact⟨h.1,cE cD _ h.2⟩
 | .str,_,_,_,_,_,_,_,_,_,_,h,_,_=>by simp only[M,gE] at h ⊢;exact⟨h.1,cE cD _ h.2⟩
 | .unit,_,_,_,_,_,_,_,_,_,_,h,_,_=>by simp only[M,gE] at h ⊢;exact⟨h.1,cE cD _ h.2⟩
 | .arr _ _,_,_,_,_,_,_,_,_,_,_,h,_,_=>by simp only[M,gE] at h ⊢;exact⟨h.1,cE cD _ h.2⟩
 | .sl t,m,xs,ys,cs,du,ow,de,n,hl,hB,h,hH,h'=>by
  simp only[M] at h
  rcases h with⟨h,_⟩ |⟨hk,h⟩ |⟨T,tag,me,X,c,rfl,rfl,hc,ht,h⟩
  ·simp at h
  ·rw[ny _ hk]
   exact ph hk (cE cD _ h)
  ·simp only[gb,Bool.and_eq_true] at hl
   simp only[kn,M] at h'
   rcases h' with⟨h',_⟩ |⟨hk,_⟩ |⟨T2,Za,me2,X2,c2,e1,e2,um,ht2,h'⟩
   ·simp at h'
   ·simp[Md.cy] at hk
   ·injection e1 with e1 Bg qF
    subst e1 Bg qF
    have q1:=ht2 n rfl
    rw[show H' n=.slice X xs.length c from hH 0 _ rfl] at q1
    injection q1 with q1 q2 q3
    subst q1 q3
    simp only[M,gE]
    refine .inr (.inr ⟨T,tag,me,X,c,rfl,by rw[q2],um,fun h hh=>by rw[ht h hh,q2],?_⟩)
    rcases h' with h' |⟨g,cur,τ,k1,k2,k3,k4,k5,k6⟩
    ·exact .inl h'
    ·exact .inr ⟨g,cur,τ,k1,k2,k3,k4,k5,fun j hj=>hB.elim (fun hs=>kF t hs (nx t hl (k6 j hj))) fun cD=>bj cD t (fun _ _ _=>rfl) (fun _ h _=>h) (fun _ h=>h) (nx t hl (k6 j hj))⟩
 | .ptr t,m,x,y,cs,du,ow,de,n,hl,hB,h,hH,h'=>by
  simp only[M] at h
  rcases h with⟨h,_⟩ |⟨hk,h⟩ |⟨T,tag,me,g,cur,rfl,rfl,ht,hg,hw,h⟩
  ·simp at h
  ·rw[ny _ hk]
   exact ph hk (cE cD _ h)
  ·simp only[gb,Bool.and_eq_true] at hl
   simp only[kn,M] at h'
   rcases h' with⟨h',_⟩ |⟨hk,_⟩ |⟨T2,Za,me2,g2,iu,e1,e2,ht2,sv,sH,h'⟩
   ·simp at h'
   ·simp[Md.cy] at hk
   ·injection e1 with e1 Bg qF
    subst e1 Bg qF
    have q1:=ht2 n rfl
    rw[show H' n=.pointer (some ⟨g,0,none⟩) from hH 0 _ rfl] at q1
    injection q1 with q1
    injection q1 with q1
    injection q1 with q1
    subst q1
    simp only[M,gE]
    exact .inr (.inr ⟨T,tag,me,g,iu,rfl,rfl,ht,sv,sH,hB.elim (fun hs=>kF t hs (nx t hl h')) fun cD=>bj cD t (fun _ _ _=>rfl) (fun _ h _=>h) (fun _ h=>h) (nx t hl h')⟩)
 | .pair a b,m,x,y,cs,du,ow,de,n,hl,hB,h,hH,h'=>by
  simp only[M] at h
  rcases h with⟨h,_⟩ |⟨hk,h⟩ |⟨ma,mb,c0,c1,s,rfl,rfl,h0,h1⟩
  ·simp at h
  ·rw[ny _ hk]
   exact ph hk (cE cD _ h)
  ·simp only[gb,Bool.and_eq_true] at hl
   have hBa:sK a ma=true∨bA w' w' B A':=hB.imp (fun h=>by simp only[sK,Bool.and_eq_true] at h;exact h.1) id
   have hBb:sK b mb=true∨bA w' w' B A':=hB.imp (fun h=>by simp only[sK,Bool.and_eq_true] at h;exact h.2) id
   have hl0:=(fI a h0).1
   have hH0:∀ (j:Nat) (u:Value),c0[j]?=some u→H' (n+j)=u:=fun j u hj=>hH j u (by rw[List.getElem?_append_left (List.getElem?_eq_some_iff.1 hj).1];exact hj)
   have hH1:∀ (j:Nat) (u:Value),c1[j]?=some u→H' (n+a.size+j)=u:=fun j u hj=>by
    rw[Nat.add_assoc]
    refine hH (a.size+j) u ?_
    rw[List.getElem?_append_right (by omega),hl0,Nat.add_sub_cancel_left]
    exact hj
   simp only[kn,M] at h'
   simp only[M,gE]
   rcases h' with⟨h',_⟩ |⟨hk,h'⟩ |⟨ma2,mb2,d0,d1,s2,e1,e2,k0,k1⟩
   ·simp at h'
   ·simp only[Md.cy,Bool.and_eq_true] at hk
    simp only[K] at h'
    obtain⟨d0,d1,e2,k0,k1⟩:=h'
    exact .inr (.inr ⟨ma,mb,c0,c1,fun _=>True,rfl,rfl,yk cD a hl.1 hBa h0 hH0 (ph hk.1 k0),yk cD b hl.2 hBb h1 hH1 (ph hk.2 k1)⟩)
   ·injection e1 with e1 Bg
    subst e1 Bg
    exact .inr (.inr ⟨ma,mb,c0,c1,s2,rfl,rfl,yk cD a hl.1 hBa h0 hH0 k0,yk cD b hl.2 hBb h1 hH1 k1⟩)
end Go.Pv
namespace Go.Pv
set_option linter.unusedVariables false
set_option linter.unusedSimpArgs false
variable {P:Program} {w w':World} {A A' Wr:Nat→Prop} {H:Nat→Value} {tm sx:Nat→Value} {S S' S1:St} {σ cv e9:Nat→Option Nat} {w0:World} {W0 Z:Nat→Prop} {a:Act} {own:Nat→Prop} {v:Value} {Θ:ee} {dst:Option Nat} {O:jS} {hh:Hint} {Γ:Gl}
theorem Fr.trans {W1:Nat→Prop} (h:Fr w0 W0 w) (h1:Fr w W1 w') (hw:∀ g,W1 g→g<w0.heap.size→W0 g):Fr w0 W0 w':=by
 refine⟨h1.os.trans h.os,h1.tape.trans h.tape,h1.output.trans h.output,Nat.le_trans h.size h1.size,fun g hg hn=>?_⟩
 rw[h1.block g (by have:=h.size;omega) (fun hx=>hn (hw g hx hg))]
 exact h.block g hg hn
theorem Wd (hT:dv P hh.tab=true) (hO:pJ Γ P O w0 W0) (h:bI σ w0 W0 Z H S a w) {o:Oper} {f:FuncId} {cal:Option Nat} {as:List Operand} {ts:List TypeId} {K:St→Option ab} {ret:ab} {yl:List Value}
  (awS:(cal=none∧yl=[])∨∃ i,cal=some i∧cG a i=.func (.func f) #[] yl.toArray) (e:iW hh O o f cal as ts S K=some ret):
  Sp P f (as.map a.eval++yl) w fun v w'=>∃ S',K S'=some ret∧Rel w0 W0 Z H S' (a.put o.dst v) w'∧((∀ p∈O.sig f,p=.val)→Ext w w'):=by
 unfold iW at e
 split at e
 case h_2=>cases e
 rename_i l S1 hl
 split at e
 case h_2=>cases e
 rename_i args cs Iq iY
 obtain⟨cv,ow,τ,t1,t2,t3,t4,t5,t6,t7⟩:=v7 as ts (O.sig f) 0 h hl
 obtain⟨r1,r2⟩:=lx t1 as ts l t4 Iq
 -- the captured values
 have ail:cs.length=yl.length∧∀ (j:Nat) (c:TV),cs[j]?=some c→VP c=true∧∃ u,yl[j]?=some u∧Go.Pv.K w (Pk cv S1.length) c.t c.x [u]:=by
  rcases awS with⟨rfl,rfl⟩ |⟨i,rfl,hv⟩
  ·simp only[sJ,Option.some.injEq] at iY
   subst iY
   exact⟨rfl,fun j c hj=>by simp at hj⟩
  ·simp only[sJ] at iY
   split at iY
   case h_2=>cases iY
   rename_i f' c8 eJ
   cases hb:Nat.beq f' f with
   |false=>rw[hb] at iY;cases iY
   |true=>
    rw[hb] at iY
    simp only[cond_true] at iY
    have hold:=t1.holds i
    rw[eJ] at hold
    obtain⟨vs,v1,v2,v3⟩:=hold
    rw[hv] at v1
    injection v1 with _ _ v1
    have hvs:yl=vs:=by
     have:=congrArg Array.toList v1
     simpa using this
    subst hvs
    split at iY
    case h_2=>cases iY
    rename_i l' V5
    cases hp:l'.all VP with
    |false=>rw[hp] at iY;cases iY
    |true=>
     rw[hp] at iY
     simp only[cond_true,Option.some.injEq] at iY
     subst iY
     obtain⟨c1,c2⟩:=s7 t1 V5 v2 v3
     exact⟨by omega,fun j c hj=>⟨List.all_eq_true.1 hp c (List.mem_of_getElem? hj),c2 j c hj⟩⟩
 -- the callee's arguments
 let v8:Nat→Option Nat:=fun g=>open Classical in if ow g then some (τ g) else none
 have wa:∀ g i,v8 g=some i↔ow g∧τ g=i:=fun g i=>by
  simp only[v8]
  split
  ·rename_i hx;exact⟨fun hg=>⟨hx,by injection hg⟩,fun hg=>by rw[hg.2]⟩
  ·rename_i hx;exact⟨fun hg=>(by cases hg),fun hg=>absurd hg.1 hx⟩
 have va:∀ g,Own v8 g↔ow g:=fun g=>⟨fun⟨i,hi⟩=>((wa g i).1 hi).1,fun hg=>⟨τ g,(wa g _).2 ⟨hg,rfl⟩⟩⟩
 have Jx:∀ g,ow g→Pk cv S1.length g:=fun g hg=>by rw[t2];exact t3.now g hg
 obtain⟨vd,CZ⟩:∃ vd,vd=(cs.isEmpty&&km S1 as l args):=⟨_,rfl⟩
 let B:Nat→Prop:=fun g=>vd=true∧Av σ Z g∧ ¬ow g
 have Sq:bA w w (Av σ Z) (Av v8 B):=⟨fun _ _ _=>rfl,fun g _ hg=>by
  rcases hg with hg |hg
  ·obtain⟨i,_,hi⟩:=t3.NN g ((va g).1 hg)
   exact .inl ⟨i,hi⟩
  ·exact hg.2.1⟩
 have aq5:bA w w (Av cv Z) (Av v8 B):=⟨fun _ _ _=>rfl,fun g hl hg=>t3.Av.2 (Sq.wr g hl hg)⟩
 have aim:vd=false→bA w w (Pk cv S1.length) (Av v8 B):=fun hn=>⟨fun _ _ _=>rfl,fun g _ hg=>by
  rcases hg with hg |hg
  ·exact Jx g ((va g).1 hg)
  ·have h1:=hg.1;rw[hn] at h1;cases h1⟩
 have r3:=fun hf:vd=true=>nw t1 as ts l t4 Iq (by rw[hf] at CZ;exact(Bool.and_eq_true _ _▸CZ.symm).2)
 have fT:In Γ B H w v8 (args++cs.map .tv) (as.map a.eval++yl):=by
  refine⟨by simp[r1,ail.1],fun g i hg=>?_,fun g hg=>⟨?_,?_⟩,fun g o hg=>⟨?_,?_⟩,fun j r hj=>?_⟩
  ·obtain⟨q1,q2⟩:=(wa g i).1 hg
   have:=(t5 g q1).2
   obtain⟨k,_,hk⟩:=t3.NN g q1
   exact⟨by simp only[List.length_append];omega,h.lt g k hk⟩
  ·cases hc:v8 g with
   |none=>rfl
   |some i=>exact absurd ((wa g i).1 hc).1 hg.2.2
  ·rcases hg.2.1 with⟨i,hi⟩ |hz
   ·exact h.lt g i hi
   ·have:=(h.old g hz).2;have:=h.fr.size;omega
  ·cases hc:v8 g with
   |none=>rfl
   |some i=>
    obtain⟨k,_,hk⟩:=t3.NN g ((wa g i).1 hc).1
    obtain⟨e1,e2⟩:=hO.env g o hg
    rcases h.new g k hk with hx |hx
    ·have:=bT e2;omega
    ·exact absurd hx e1
  ·obtain⟨e1,e2⟩:=hO.env g o hg
   rw[h.fr.block g (bT e2) e1,e2]
  ·rcases Nat.lt_or_ge j args.length with ur |ur
   ·rw[List.getElem?_append_left ur] at hj
    rw[List.getElem?_append_left (by simp only[List.length_map];omega),List.getElem?_map]
    rcases r2 j r hj with⟨b,hb,rfl⟩ |⟨x,hx,jV⟩
    ·obtain⟨x,c,q1,q2,q3⟩:=t7 j b hb
     rw[q1]
     exact⟨_,rfl,c,q2,bj Sq _ (fun _ _ _=>rfl) (fun g hg _=>(wa g j).2 ⟨hg.1,by rw[hg.2];omega⟩) (fun _ h=>h) q3⟩
    ·have fin:∀ {A0:Nat→Prop},bA w w A0 (Av v8 B)→CY w A0 H r (a.eval x) (fun _=>False)→CY w (Av v8 B) H r (a.eval x) (fun g=>v8 g=some j):=fun cD jV=>by
      cases r with
      |tv b=>
       obtain⟨c,c1,c2⟩:=jV
       exact⟨c,c1,bj cD _ (fun _ _ _=>rfl) (fun _ hg _=>hg.elim) (fun _ h=>h) c2⟩
      |fn f' c8=>
       obtain⟨vs,c1,c2,c3⟩:=jV
       exact⟨vs,c1,c2,fun k c hk=>by obtain⟨u,u1,u2⟩:=c3 k c hk;exact⟨u,u1,cE cD _ u2⟩⟩
     cases N3:vd with
     |false=>
      rw[hx]
      exact⟨_,rfl,fin (aim N3) (jV H)⟩
     |true=>
      rcases r3 N3 j r hj with⟨b,hb,rfl⟩ |⟨x',xY,aq6⟩
      ·obtain⟨x,c,q1,q2,q3⟩:=t7 j b hb
       rw[q1]
       exact⟨_,rfl,c,q2,bj Sq _ (fun _ _ _=>rfl) (fun g hg _=>(wa g j).2 ⟨hg.1,by rw[hg.2];omega⟩) (fun _ h=>h) q3⟩
      ·rw[hx] at xY
       injection xY with xY
       subst xY
       rw[hx]
       exact⟨_,rfl,fin aq5 (aq6 H)⟩
   ·rw[List.getElem?_append_right ur,List.getElem?_map] at hj
    cases hc:cs[j - args.length]? with
    |none=>rw[hc] at hj;cases hj
    |some c=>
     rw[hc] at hj
     injection hj with hj
     subst hj
     obtain⟨u0,u,u1,u2⟩:=ail.2 _ c hc
     refine⟨u,?_,?_⟩
     ·rw[List.getElem?_append_right (by simp only[List.length_map];omega)]
      simpa[r1] using u1
     ·have N3:vd=false:=by
       cases hf:vd with
       |false=>rfl
       |true=>
        rw[hf] at CZ
        cases cs with
        |nil=>simp at hc
        |cons _ _=>simp at CZ
      have hK:=cE (aim N3) _ u2
      obtain⟨ct,cm,cx⟩:=c
      unfold VP at u0
      split at u0
      ·rename_i t ht
       simp only at ht u0 hK
       subst ht
       exact⟨[u],by simp[aE,isAgg],ph u0 hK⟩
      ·cases u0
 refine((hO.sd f).1 _ _ ret w v8 _ H B e fT).mono fun v w' hv=>?_
 obtain⟨rt,CV,HI⟩:=hv
 split at CV
 case h_2=>cases CV
 cases acX:(rt.res.all (fun d=>gS d.t d.m)||(cs.isEmpty&&km S1 as l args)) with
 |false=>rw[acX] at CV;cases CV
 |true=>
 rw[acX] at CV
 simp only[cond_true] at CV
 rw[←CZ,Bool.or_eq_true] at acX
 refine⟨_,CV,?_,fun gQ g hg=>HI.fr.block g hg (fun hx=>t6 gQ g ((va g).1 hx))⟩
 -- behind the call
 obtain⟨eE,vs,q1,q2,q3,q4,_⟩:=HI.res
 let n:=S1.length
 let s9:Nat→Option Nat:=fun g=>match eE g with
  |some i=>some (S1.length+i)
  |none=>open Classical in if ow g then none else cv g
 have HJ:∀ g i,s9 g=some i→(∃ k,eE g=some k∧i=S1.length+k)∨(eE g=none∧ ¬ow g∧cv g=some i):=fun g i hg=>by
  simp only[s9] at hg
  split at hg
  ·rename_i k hk
   injection hg with hg
   exact .inl ⟨k,hk,hg.symm⟩
  ·rename_i hk
   split at hg
   ·cases hg
   ·exact .inr ⟨hk,by assumption,hg⟩
 have Ir:∀ g k,eE g=some k→s9 g=some (S1.length+k):=fun g k hk=>by simp only[s9,hk]
 have We:∀ g i,eE g=none→¬ow g→cv g=some i→s9 g=some i:=fun g i h1 h2 h3=>by simp only[s9,h1,if_neg h2,h3]
 have C0:∀ g,g<w.heap.size→¬ow g→w'.heap[g]?=w.heap[g]?:=fun g hg hn=>HI.fr.block g hg (fun hx=>hn ((va g).1 hx))
 have Fh:∀ g,g<w.heap.size→∀ k,eE g=some k→ow g:=fun g hg k hk=>by
  rcases(q3 g k hk).1 with hx |hx
  ·omega
  ·exact(va g).1 hx
 have cD:bA w w' (Av cv Z) (Av s9 Z):=⟨fun g hn hg=>C0 g hg (fun hx=>hn (by obtain⟨i,_,hi⟩:=Jx g hx;exact .inl ⟨i,hi⟩)),fun g hg hx=>by
  rcases hx with⟨i,hx⟩ |hx
  ·rcases HJ g i hx with⟨k,hk,_⟩ |⟨_,_,hk⟩
   ·obtain⟨i,_,hi⟩:=Jx g (Fh g hg k hk)
    exact .inl ⟨i,hi⟩
   ·exact .inl ⟨i,hk⟩
  ·exact .inr hx⟩
 have Bj:∀ g,ow g→∀ i,cv g=some i→S1.length≤i:=fun g hg i hi=>by
  obtain⟨j,hj,qj⟩:=Jx g hg
  rw[hi] at qj
  injection qj with qj
  omega
 have hR:bI s9 w0 W0 Z H S1 a w':=by
  refine⟨t1.len,t1.defers,t1.fr.trans HI.fr (fun g hg hl=>?_),fun g i hg=>?_,fun g i hg=>?_,fun g hg=>⟨?_,(t1.old g hg).2⟩,fun i=>?_⟩
  ·obtain⟨i,_,hi⟩:=Jx g ((va g).1 hg)
   rcases t1.new g i hi with hx |hx
   ·omega
   ·exact hx
  ·rcases HJ g i hg with⟨k,hk,_⟩ |⟨_,_,hk⟩
   ·rcases(q3 g k hk).1 with hx |hx
    ·have:=t1.fr.size;exact .inl (by omega)
    ·obtain⟨i,_,hi⟩:=Jx g ((va g).1 hx)
     exact t1.new g i hi
   ·exact t1.new g i hk
  ·rcases HJ g i hg with⟨k,hk,_⟩ |⟨_,_,hk⟩
   ·exact(q3 g k hk).2
   ·have:=t1.lt g i hk;have:=HI.fr.size;omega
  ·obtain⟨z1,z2⟩:=t1.old g hg
   have u9: ¬ow g:=fun hx=>by obtain⟨i,_,hi⟩:=Jx g hx;rw[z1] at hi;cases hi
   have:eE g=none:=by
    cases hk:eE g with
    |none=>rfl
    |some k=>exact absurd (Fh g (by have:=t1.fr.size;omega) k hk) u9
   simp only[s9,this,if_neg u9,z1]
  ·by_cases H2:i<S1.length
   ·refine(t1.holds i).kept cD (fun g hg hl=>?_) (fun s hs=>?_)
    ·have u9: ¬ow g:=fun hx=>by have:=Bj g hx i hg;omega
     refine⟨C0 g hl u9,We g i ?_ u9 hg⟩
     cases hk:eE g with
     |none=>rfl
     |some k=>exact absurd (Fh g hl k hk) u9
    ·by_cases Hv:s<S1.length
     ·exact⟨fun _ _ h=>h,rfl,_,t1.holds s,fun g hg hl=>C0 g hl (fun hx=>by have:=Bj g hx s hg;omega)⟩
     ·have hd:S1.at s=.dead:=Classical.byContradiction fun hx=>Hv (fk hx)
      exact⟨fun _ _ h=>h,rfl,fun _=>False,by rw[hd];trivial,fun _ h=>h.elim⟩
   ·have hd:S1.at i=.dead:=Classical.byContradiction fun hx=>H2 (fk hx)
    rw[hd]
    trivial
 refine⟨_,hR.V8 (ow:=fun g=>∃ k,eE g=some k) (Nat.le_refl _) (fun _ _ _=>rfl) hR.fr (fun g ⟨k,hk⟩=>⟨(q3 g k hk).2,.inl ⟨S1.length+k,by omega,Ir g k hk⟩⟩) fun d _ g1 g2=>?_⟩
 -- the results
 have aq7:vd=true→bA w' w' (Av eE B) (Av (iH s9 o.dst fun g=>∃ k,eE g=some k) Z):=fun N3=>⟨fun _ _ _=>rfl,fun g _ hg=>by
  rcases g2 g hg with (⟨i,hi⟩ |hz) |hx
  ·rcases HJ g i hi with⟨k,hk,_⟩ |⟨_,u9,hk⟩
   ·exact .inl ⟨k,hk⟩
   ·exact .inr ⟨N3,t3.Av.1 (.inl ⟨i,hk⟩),u9⟩
  ·refine .inr ⟨N3,.inr hz,fun hx=>?_⟩
   obtain⟨i,_,hi⟩:=Jx g hx
   rw[(t1.old g hz).1] at hi
   cases hi
  ·exact .inl hx⟩
 have E8:∀ (i:Nat) (b:TV),rt.res[i]?=some b→∃ u cs,vs[i]?=some u∧aE b.t u cs∧M w' (Av (iH s9 o.dst fun g=>∃ k,eE g=some k) Z) H b.t b.m b.x cs (fun g=>eE g=some i) []:=fun i b hb=>by
  obtain⟨u,c,u1,u2,u3⟩:=q4 i b hb
  refine⟨u,c,u1,u2,?_⟩
  rcases acX with hs |N3
  ·exact kF _ (List.all_eq_true.1 hs b (List.mem_of_getElem? hb)) u3
  ·exact bj (aq7 N3) _ (fun _ _ _=>rfl) (fun _ h _=>h) (fun _ h=>h) u3
 have acY:∀ l:List TV,l=rt.res→Holds w' (Av (iH s9 o.dst fun g=>∃ k,eE g=some k) Z) H (cG (a.put o.dst v)) (S1.put o.dst (.u5 (l.map some))) (fun g=>iH s9 o.dst (fun g=>∃ k,eE g=some k) g=some d) (.u5 (l.map some)) (.tuple vs.toArray):=fun l hl=>by
  subst hl
  refine⟨vs,fun g=>(eE g).getD 0,rfl,by simp[q2],fun j b hj=>?_⟩
  rw[List.getElem?_map] at hj
  cases hb:rt.res[j]? with
  |none=>rw[hb] at hj;cases hj
  |some b'=>
   rw[hb] at hj
   simp only[Option.map_some,Option.some.injEq] at hj
   subst hj
   obtain⟨u,c,u1,u2,u3⟩:=E8 j b' hb
   exact⟨u,c,u1,u2,bj (bA.refl _ _) _ (fun _ _ _=>rfl) (fun g hg _=>⟨g1 g ⟨j,hg⟩,by show(eE g).getD 0=j;rw[hg];rfl⟩) (fun _ h=>h) u3⟩
 subst q1
 match Fi:rt.res,q2 with
 |[b],q2=>
  match vs,q2 with
  |[u],_=>
   obtain⟨u',c,u1,u2,u3⟩:=E8 0 b (by rw[Fi];rfl)
   simp only[List.getElem?_cons_zero,Option.some.injEq] at u1
   subst u1
   exact⟨c,u2,bj (bA.refl _ _) _ (fun _ _ _=>rfl) (fun g hg _=>g1 g ⟨0,hg⟩) (fun _ h=>h) u3⟩
 |[],q2=>
  match vs,q2 with
  |[],_=>exact acY [] Fi.symm
 |b::b'::r,q2=>
  match vs,q2 with
  |u::u'::vr,_=>exact acY (b::b'::r) Fi.symm
end Go.Pv
namespace Go.Pv
set_option linter.unusedVariables false
set_option linter.unusedSimpArgs false
variable {P:Program} {w w':World} {A A' Wr:Nat→Prop} {H H':Nat→Value} {tm sx:Nat→Value} {S S' S1:St} {σ cv e9:Nat→Option Nat} {w0:World} {W0 Z:Nat→Prop} {a:Act} {own:Nat→Prop} {v:Value} {Θ:ee} {dst:Option Nat} {O:jS} {hh:Hint} {Γ:Gl}
theorem vn (cur:List Value) (off n:Nat) (h:off+n≤cur.length):putCells cur off ((cur.drop off).take n)=cur:=by
 have hl:((cur.drop off).take n).length=n:=by rw[List.length_take,List.length_drop];omega
 apply List.ext_getElem?
 intro k
 rw[jx _ _ _ _ (by omega),hl]
 by_cases h1:k<off
 ·rw[if_pos h1]
 ·rw[if_neg h1]
  by_cases h2:k<off+n
  ·rw[if_pos h2,List.getElem?_take,if_pos (by omega),List.getElem?_drop]
   congr 1;omega
  ·rw[if_neg h2]
theorem Sr {ow:Nat→Prop} {v8 eE:Nat→Option Nat} (t1:bI cv w0 W0 Z H S1 a w) (Jx:∀ g,ow g→Pk cv S1.length g) (va:∀ g,Own v8 g↔ow g) (r9:Fr w (Own v8) w')
  (q3:∀ g i,eE g=some i→(w.heap.size≤g∨Own v8 g)∧g<w'.heap.size):
  ∃ s9,bI s9 w0 W0 Z H S1 a w'∧(∀ g k,eE g=some k→s9 g=some (S1.length+k))∧bA w w' (Av cv Z) (Av s9 Z)∧
   (∀ g i,i<S1.length→s9 g=some i→cv g=some i)∧(∀ g i,i<S1.length→cv g=some i→w'.heap[g]?=w.heap[g]?)∧(∀ g i,s9 g=some i→(∃ k,eE g=some k)∨(¬ow g∧cv g=some i)):=by
 let s9:Nat→Option Nat:=fun g=>match eE g with
  |some i=>some (S1.length+i)
  |none=>open Classical in if ow g then none else cv g
 have HJ:∀ g i,s9 g=some i→(∃ k,eE g=some k∧i=S1.length+k)∨(eE g=none∧ ¬ow g∧cv g=some i):=fun g i hg=>by
  simp only[s9] at hg
  split at hg
  ·rename_i k hk
   injection hg with hg
   exact .inl ⟨k,hk,hg.symm⟩
  ·rename_i hk
   split at hg
   ·cases hg
   ·exact .inr ⟨hk,by assumption,hg⟩
 have Ir:∀ g k,eE g=some k→s9 g=some (S1.length+k):=fun g k hk=>by simp only[s9,hk]
 have We:∀ g i,eE g=none→¬ow g→cv g=some i→s9 g=some i:=fun g i h1 h2 h3=>by simp only[s9,h1,if_neg h2,h3]
 have C0:∀ g,g<w.heap.size→¬ow g→w'.heap[g]?=w.heap[g]?:=fun g hg hn=>r9.block g hg (fun hx=>hn ((va g).1 hx))
 have Fh:∀ g,g<w.heap.size→∀ k,eE g=some k→ow g:=fun g hg k hk=>by
  rcases(q3 g k hk).1 with hx |hx
  ·omega
  ·exact(va g).1 hx
 have cD:bA w w' (Av cv Z) (Av s9 Z):=⟨fun g hn hg=>C0 g hg (fun hx=>hn (by obtain⟨i,_,hi⟩:=Jx g hx;exact .inl ⟨i,hi⟩)),fun g hg hx=>by
  rcases hx with⟨i,hx⟩ |hx
  ·rcases HJ g i hx with⟨k,hk,_⟩ |⟨_,_,hk⟩
   ·obtain⟨i,_,hi⟩:=Jx g (Fh g hg k hk)
    exact .inl ⟨i,hi⟩
   ·exact .inl ⟨i,hk⟩
  ·exact .inr hx⟩
 have Bj:∀ g,ow g→∀ i,cv g=some i→S1.length≤i:=fun g hg i hi=>by
  obtain⟨j,hj,qj⟩:=Jx g hg
  rw[hi] at qj
  injection qj with qj
  omega
 refine⟨s9,?_,Ir,cD,fun g i hi hg=>?_,fun g i hi hg=>C0 g (t1.lt g i hg) (fun hx=>by have:=Bj g hx i hg;omega),fun g i hg=>by
  rcases HJ g i hg with⟨k,hk,_⟩ |⟨_,h1,h2⟩
  ·exact .inl ⟨k,hk⟩
  ·exact .inr ⟨h1,h2⟩⟩
 rotate_left
 ·rcases HJ g i hg with⟨k,_,hk⟩ |⟨_,_,hk⟩
  ·omega
  ·exact hk
 refine⟨t1.len,t1.defers,t1.fr.trans r9 (fun g hg hl=>?_),fun g i hg=>?_,fun g i hg=>?_,fun g hg=>⟨?_,(t1.old g hg).2⟩,fun i=>?_⟩
 ·obtain⟨i,_,hi⟩:=Jx g ((va g).1 hg)
  rcases t1.new g i hi with hx |hx
  ·omega
  ·exact hx
 ·rcases HJ g i hg with⟨k,hk,_⟩ |⟨_,_,hk⟩
  ·rcases(q3 g k hk).1 with hx |hx
   ·have:=t1.fr.size;exact .inl (by omega)
   ·obtain⟨i,_,hi⟩:=Jx g ((va g).1 hx)
    exact t1.new g i hi
  ·exact t1.new g i hk
 ·rcases HJ g i hg with⟨k,hk,_⟩ |⟨_,_,hk⟩
  ·exact(q3 g k hk).2
  ·have:=t1.lt g i hk;have:=r9.size;omega
 ·obtain⟨z1,z2⟩:=t1.old g hg
  have u9: ¬ow g:=fun hx=>by obtain⟨i,_,hi⟩:=Jx g hx;rw[z1] at hi;cases hi
  have:eE g=none:=by
   cases hk:eE g with
   |none=>rfl
   |some k=>exact absurd (Fh g (by have:=t1.fr.size;omega) k hk) u9
  simp only[s9,this,if_neg u9,z1]
 ·by_cases H2:i<S1.length
  ·refine(t1.holds i).kept cD (fun g hg hl=>?_) (fun s hs=>?_)
   ·have u9: ¬ow g:=fun hx=>by have:=Bj g hx i hg;omega
    refine⟨C0 g hl u9,We g i ?_ u9 hg⟩
    cases hk:eE g with
    |none=>rfl
    |some k=>exact absurd (Fh g hl k hk) u9
   ·by_cases Hv:s<S1.length
    ·exact⟨fun _ _ h=>h,rfl,_,t1.holds s,fun g hg hl=>C0 g hl (fun hx=>by have:=Bj g hx s hg;omega)⟩
    ·have hd:S1.at s=.dead:=Classical.byContradiction fun hx=>Hv (fk hx)
     exact⟨fun _ _ h=>h,rfl,fun _=>False,by rw[hd];trivial,fun _ h=>h.elim⟩
  ·have hd:S1.at i=.dead:=Classical.byContradiction fun hx=>H2 (fk hx)
   rw[hd]
   trivial
theorem Ss (h:bI σ w0 W0 Z H S a w) {T:TypeId} {x:Operand} {av:AV} {b:TV} {s:Nat} {p:Path} {cs:List Value} (ho:S.fb Θ T x=some av) (hl:ln x av=some (s,p)) (e:S.eS x av=some (b,S1)) (hk:b.m.cy=false) (hm:aE b.t (a.eval x) cs):
  (p=[]∧s<S.length∧aE b.t (cG a s) cs)∨∃ r ex dy,p≠[]∧S1.at s=.v r (ex++[p])∧aE r.t (cG a s) dy∧bu w p r.t dy=some cs∧valid p r.t r.x∧bQ p r.t r.m r.x=some b∧∀ q∈ex,iB q p=false:=by
 have hh:=cf h ho
 cases av with
 |v a0 ex=>
  cases x with
  |tmp i=>
   simp only[ln,Option.some.injEq,Prod.mk.injEq] at hl
   obtain⟨rfl,rfl⟩:=hl
   exact .inl ⟨rfl,fk (by simp only[St.fb,Option.some.injEq] at ho;rw[ho];exact fun e=>by cases e),hm⟩
  |const c=>simp[ln] at hl
  |func f=>simp[ln] at hl
  |global g=>simp[ln] at hl
 |al t s' p'=>
  simp only[ln,Option.some.injEq,Prod.mk.injEq] at hl
  obtain⟨rfl,rfl⟩:=hl
  obtain⟨r,dy,cs1,hr,hc,hm1⟩:=hh
  simp only[St.eS] at e
  split at e
  case h_2=>cases e
  rename_i b' hb
  cases gA:b'.m.cy with
  |true=>
   rw[gA] at e
   simp only[cond_true,Option.some.injEq,Prod.mk.injEq] at e
   obtain⟨rfl,rfl⟩:=e
   rw[hk] at gA;cases gA
  |false=>
   rw[gA] at e
   simp only[cond_false] at e
   have Zh:=dU h hr hc hb
   obtain⟨AQ,_⟩:=Zh
   cases hp:p' with
   |nil=>
    subst hp
    simp only[Option.some.injEq,Prod.mk.injEq] at e
    obtain⟨rfl,rfl⟩:=e
    simp only[bu,Option.some.injEq] at hc
    subst hc
    obtain⟨b2,g1,g2⟩:=hr.get
    simp only[bQ,Option.some.injEq] at g1
    subst g1
    have CV:r.t=b'.t:=by rw[AQ];exact g2
    refine .inl ⟨rfl,fk (by obtain⟨ex0,V7,_⟩:=hr.at_;rw[V7];exact fun e=>by cases e),?_⟩
    rw[AQ] at hm ⊢
    obtain rfl:=fN hm hm1
    have:=hr.mat
    rw[CV,AQ] at this
    exact this
   |cons Ji pp=>
    rw[hp] at e
    obtain⟨ex,b2,du,ow0,j1,j2,j3,j4,hM,j5,j6,j7⟩:=gY h hr
    rw[j1] at e
    simp only[Option.some.injEq,Prod.mk.injEq] at e
    rw[←hp] at e
    obtain⟨rfl,rfl⟩:=e
    obtain⟨r3,ex3,q1,q2,q3⟩:=qA hb
    rw[j1] at q1
    injection q1 with q1 EY
    subst q1 EY
    rw[j3] at q3
    injection q3 with q3
    subst q3
    rw[AQ] at hm
    obtain rfl:=fN hm hm1
    have hlen:((S.weaken s').cover s' p').length=S.length:=by simp[St.weaken,St.cover]
    have Hv:s'<S.length:=fk (by rw[j1];exact fun e=>by cases e)
    have Bh:St.at (((S.weaken s').cover s' p').set s' (.v r (ex++[p']))) s'=.v r (ex++[p']):=by rw[dA,if_pos ⟨rfl,by rw[hlen];exact Hv⟩]
    exact .inr ⟨r,ex,dy,by simp,by rw[←hp];exact Bh,hr.mat,by rw[←hp];exact hc,by rw[←hp];exact hr.val,by rw[←hp];exact j3,by rw[←hp];exact q2⟩
 |_=>simp[ln] at hl
theorem C1 {b:TV} {s:Nat} {p:Path} {r:TV} {ex:List Path} {dy cs:List Value} {qB:Nat→Prop} {b0:TV} {m:Md} {z:r.t.I} (h:bI σ w0 W0 Z H S a w) (pD:∀ g,qB g→∃ i,S.length≤i∧σ g=some i)
  (eJ:S.at s=.v r (ex++[p])) (Su:aE r.t (cG a s) dy) (hc:bu w p r.t dy=some cs) (kr:valid p r.t r.x) (fU:bQ p r.t r.m r.x=some b0) (j9:∀ q∈ex,iB q p=false)
  (oX:iA b p r.t r.m r.x=some (m,z)) (hM:M w (Av σ Z) H b.t b.m b.x cs qB []):∃ e9,bI e9 w0 W0 Z H (S.put (some s) (.v ⟨r.t,m,z⟩ ex)) a w∧∀ g i,S.length≤i→¬qB g→σ g=some i→e9 g=some i:=by
 have hh:=h.holds s
 rw[eJ] at hh
 obtain⟨auT,Zd,Nq⟩:=hh
 obtain rfl:=fN Su Zd
 have yg:open_ p (ex++[p]):=by
  intro q hq s' r' e
  rcases List.mem_append.1 hq with hq |hq
  ·exact vi j9 q hq s' r' e
  ·rw[List.mem_singleton.1 hq] at e
   have:=congrArg List.length e
   simp at this
 obtain⟨du,de,c1,c2,c3,lU⟩:=AP p Nq yg kr fU
 rw[hc] at c1
 injection c1 with c1
 subst c1
 have gG:b.t=b0.t:=uw p oX fU
 obtain⟨qs,lU⟩:=lU b (m,z) gG oX
 have hlen:cs.length=b.t.size:=(fI _ hM).1
 let e9:Nat→Option Nat:=fun g'=>open Classical in if qB g' then some s else σ g'
 have NQ:∀ g' i,e9 g'=some i→(qB g'∧i=s)∨(¬qB g'∧σ g'=some i):=fun g' i bW=>by
  simp only[e9] at bW
  split at bW
  ·injection bW with bW;exact .inl ⟨by assumption,bW.symm⟩
  ·exact .inr ⟨by assumption,bW⟩
 have Il:∀ g' i,¬qB g'→σ g'=some i→e9 g'=some i:=fun g' i hn bW=>by simp only[e9,if_neg hn,bW]
 have Hv:s<S.length:=fk (by rw[eJ];exact fun e=>by cases e)
 have aif:∀ g',Av e9 Z g'→Av σ Z g':=fun g' bW=>by
  rcases bW with⟨i,bW⟩ |bW
  ·rcases NQ g' i bW with⟨hx,_⟩ |⟨_,hx⟩
   ·obtain⟨j,_,hj⟩:=pD g' hx
    exact .inl ⟨j,hj⟩
   ·exact .inl ⟨i,hx⟩
  ·exact .inr bW
 have u9:∀ g i,i<S.length→σ g=some i→¬qB g:=fun g i hi hg hx=>by
  obtain⟨j,hj,qj⟩:=pD g hx
  rw[hg] at qj
  injection qj with qj
  omega
 have cD:bA w w (Av σ Z) (Av e9 Z):=⟨fun _ _ _=>rfl,fun g _ hg=>aif g hg⟩
 have hl0:dy.length=r.t.size:=(fI _ Nq).1
 have E8:=lU w (Av e9 Z) cs qB ex cD (by rw[hlen,gG]) (fun g fH sv _=>by
   unfold mj
   split
   ·rename_i q hq
    split
    ·rename_i hgq
     obtain⟨_,_,cur,T,hw,hb,iY⟩:=qs q.1 q.2 hq
     subst hgq
     refine⟨cur,T,hw,?_⟩
     rw[iY,vn _ _ _ (by simpa using hb)]
     simpa using hw
    ·rfl
   ·rfl) (bj cD _ (fun _ _ _=>rfl) (fun g hg _=>hg) (fun _ hx=>by cases hx) hM) (fun g fH _ sv=>absurd fH (u9 g s Hv sv)) (fun q hq1 H6=>by
   rcases List.mem_append.1 H6 with H6 |H6
   ·exact H6
   ·exact absurd (by rw[List.mem_singleton.1 H6];simp) (hq1 []))
 have awT:qq p r.t dy cs=dy:=by
  cases hp:bo p with
  |false=>exact lg p hp
  |true=>
   have h1:=fJ (w:=w) p hp fU hl0
   rw[hc] at h1
   injection h1 with h1
   rw[lT p hp fU hl0 (by rw[hlen,gG]),h1]
   exact vn _ _ _ (by rw[hl0];exact fi p hp fU)
 rw[awT] at E8
 refine⟨e9,?_,fun g i _ hn hg=>Il g i hn hg⟩
 have:=h.put (dst:=some s) (av:=.v ⟨r.t,m,z⟩ ex) (v:=cG a s) cD h.fr (fun g i hg=>?_) (fun g hg=>?_) (fun i g hi hd hg=>⟨rfl,Il g i (u9 g i hi hg) hg⟩) (fun d hd HG _=>?_)
 ·rw[nt] at this
  exact this
 ·rcases NQ g i hg with⟨hx,_⟩ |⟨_,hx⟩
  ·obtain⟨j,_,hj⟩:=pD g hx
   exact⟨h.new g j hj,h.lt g j hj⟩
  ·exact⟨h.new g i hx,h.lt g i hx⟩
 ·have h0:=(h.old g hg).1
  simp only[e9]
  split
  ·rename_i hx
   obtain⟨j,_,hj⟩:=pD g hx
   rw[h0] at hj;cases hj
  ·exact h0
 ·injection hd with hd
  subst hd
  refine⟨dy,Su,bj (bA.refl _ _) _ (fun _ _ _=>rfl) (fun g hg _=>?_) (fun _ h=>h) E8⟩
  rcases hg with⟨k1,_⟩ |k1
  ·exact Il g s (u9 g s Hv k1) k1
  ·simp only[e9,if_pos k1]
theorem N4 {b:TV} {s:Nat} {cs:List Value} {qB:Nat→Prop} (h:bI σ w0 W0 Z H S a w) (pD:∀ g,qB g→∃ i,S.length≤i∧σ g=some i)
  (hs:s<S.length) (Su:aE b.t (cG a s) cs) (hM:M w (Av σ Z) H b.t b.m b.x cs qB []):∃ e9,bI e9 w0 W0 Z H (S.put (some s) (.v b [])) a w∧∀ g i,S.length≤i→¬qB g→σ g=some i→e9 g=some i:=by
 refine⟨iH σ (some s) qB,?_,fun g i hi hn hg=>by
  unfold iH
  rw[if_neg hn]
  exact mJ (fun e=>by injection e with e;omega) hg⟩
 have:=h.NO (dst:=some s) (v:=cG a s) (ow:=qB) (A':=Av σ Z) (fun _ _=>rfl) h.fr (fun g hg=>by
  obtain⟨i,hi,nV⟩:=pD g hg
  exact⟨h.lt g i nV,.inl ⟨i,hi,nV⟩⟩) (fun g _ hg=>by
  rcases hg with hg |hg
  ·exact hg
  ·obtain⟨i,hi,nV⟩:=pD g hg
   exact .inl ⟨i,nV⟩) Su hM
 rw[nt] at this
 exact this
theorem ain (hT:dv P hh.tab=true) (hO:pJ Γ P O w0 W0) (h:bI σ w0 W0 Z H S a w) {o:Oper} {f:FuncId} {j:Nat} {as:List Operand} {ts:List TypeId} {K:St→Option ab} {ret:ab}
  (e:sL hh O o f j as ts S K=some ret):Sp P f (as.map a.eval) w fun v w'=>∃ S',K S'=some ret∧Rel w0 W0 Z H S' (a.put o.dst v) w':=by
 unfold sL at e
 split at e
 case h_2=>cases e
 rename_i x T hx hT'
 split at e
 case h_2=>cases e
 rename_i av eQ
 split at e
 case h_2=>cases e
 rename_i s p b S1 hlp htk
 cases Wf:(!b.m.cy&&gb b.t b.m) with
 |false=>rw[Wf] at e;cases e
 |true=>
 rw[Wf] at e
 simp only[cond_true] at e
 simp only[Bool.and_eq_true,Bool.not_eq_true'] at Wf
 obtain⟨hk,hlb⟩:=Wf
 split at e
 case h_2=>cases e
 rename_i args Iq
 obtain⟨vd,CZ⟩:∃ vd,vd=km S1 as ((List.replicate as.length none).set j (some ⟨b.t,kn b.t b.m 0,b.x⟩)) args:=⟨_,rfl⟩
 cases hls:(sK b.t b.m||km S1 as ((List.replicate as.length none).set j (some ⟨b.t,kn b.t b.m 0,b.x⟩)) args) with
 |false=>rw[hls] at e;cases e
 |true=>
 rw[hls] at e
 simp only[cond_true] at e
 rw[←CZ,Bool.or_eq_true] at hls
 obtain⟨cv,cs,ow,t1,hm,hM,t3,t2⟩:=fP h eQ htk
 have aq8:=Ss h eQ hlp htk hk hm
 have ur:j<as.length:=(List.getElem?_eq_some_iff.1 hx).1
 obtain⟨r1,r2⟩:=lx t1 as ts _ (by simp) Iq
 let H':Nat→Value:=fun n=>cs.getD n undef
 have hH':∀ (j:Nat) (u:Value),cs[j]?=some u→H' (0+j)=u:=fun j u hj=>by
  simp only[H',Nat.zero_add,List.getD_eq_getElem?_getD,hj,Option.getD_some]
 have hMt:=acW (H':=H') (n:=0) b.t hlb hM hH'
 let v8:Nat→Option Nat:=fun g=>open Classical in if ow g then some j else none
 have wa:∀ g i,v8 g=some i↔ow g∧j=i:=fun g i=>by
  simp only[v8]
  split
  ·rename_i hx;exact⟨fun hg=>⟨hx,by injection hg⟩,fun hg=>by rw[hg.2]⟩
  ·rename_i hx;exact⟨fun hg=>(by cases hg),fun hg=>absurd hg.1 hx⟩
 have va:∀ g,Own v8 g↔ow g:=fun g=>⟨fun⟨i,hi⟩=>((wa g i).1 hi).1,fun hg=>⟨j,(wa g _).2 ⟨hg,rfl⟩⟩⟩
 have Jx:∀ g,ow g→Pk cv S1.length g:=fun g hg=>by rw[t2];exact t3.now g hg
 let B:Nat→Prop:=fun g=>vd=true∧Av σ Z g∧ ¬ow g
 have Sq:bA w w (Av σ Z) (Av v8 B):=⟨fun _ _ _=>rfl,fun g _ hg=>by
  rcases hg with hg |hg
  ·obtain⟨i,_,hi⟩:=t3.NN g ((va g).1 hg)
   exact .inl ⟨i,hi⟩
  ·exact hg.2.1⟩
 have aq5:bA w w (Av cv Z) (Av v8 B):=⟨fun _ _ _=>rfl,fun g hl hg=>t3.Av.2 (Sq.wr g hl hg)⟩
 have aim:vd=false→bA w w (Pk cv S1.length) (Av v8 B):=fun hn=>⟨fun _ _ _=>rfl,fun g _ hg=>by
  rcases hg with hg |hg
  ·exact Jx g ((va g).1 hg)
  ·have h1:=hg.1;rw[hn] at h1;cases h1⟩
 have r3:=fun hf:vd=true=>nw t1 as ts _ (by simp) Iq (CZ.symm.trans hf)
 have fT:In Γ B H' w v8 args (as.map a.eval):=by
  refine⟨by simp[r1],fun g i hg=>?_,fun g hg=>⟨?_,?_⟩,fun g o hg=>⟨?_,?_⟩,fun k r gA=>?_⟩
  ·obtain⟨q1,q2⟩:=(wa g i).1 hg
   obtain⟨k,_,hk⟩:=t3.NN g q1
   exact⟨by omega,h.lt g k hk⟩
  ·cases hc:v8 g with
   |none=>rfl
   |some i=>exact absurd ((wa g i).1 hc).1 hg.2.2
  ·rcases hg.2.1 with⟨i,hi⟩ |hz
   ·exact h.lt g i hi
   ·have:=(h.old g hz).2;have:=h.fr.size;omega
  ·cases hc:v8 g with
   |none=>rfl
   |some i=>
    obtain⟨k,_,hk⟩:=t3.NN g ((wa g i).1 hc).1
    obtain⟨e1,e2⟩:=hO.env g o hg
    rcases h.new g k hk with hx |hx
    ·have:=bT e2;omega
    ·exact absurd hx e1
  ·obtain⟨e1,e2⟩:=hO.env g o hg
   rw[h.fr.block g (bT e2) e1,e2]
  ·rw[List.getElem?_map]
   rcases r2 k r gA with⟨b',Jw,rfl⟩ |⟨x',xY,jV⟩
   ·rw[List.getElem?_set] at Jw
    split at Jw
    ·rename_i Ju
     subst Ju
     simp only[List.length_replicate,if_pos ur,Option.some.injEq] at Jw
     subst Jw
     rw[hx]
     exact⟨_,rfl,cs,hm,bj Sq _ (fun _ _ _=>rfl) (fun g hg _=>(wa g j).2 ⟨hg,rfl⟩) (fun _ h=>h) hMt⟩
    ·rw[List.getElem?_replicate] at Jw
     split at Jw<;>simp at Jw
   ·have fin:∀ {A0:Nat→Prop},bA w w A0 (Av v8 B)→CY w A0 H' r (a.eval x') (fun _=>False)→CY w (Av v8 B) H' r (a.eval x') (fun g=>v8 g=some k):=fun cD jV=>by
     cases r with
     |tv b=>
      obtain⟨c,c1,c2⟩:=jV
      exact⟨c,c1,bj cD _ (fun _ _ _=>rfl) (fun _ hg _=>hg.elim) (fun _ h=>h) c2⟩
     |fn f' c8=>
      obtain⟨vs,c1,c2,c3⟩:=jV
      exact⟨vs,c1,c2,fun k c hk=>by obtain⟨u,u1,u2⟩:=c3 k c hk;exact⟨u,u1,cE cD _ u2⟩⟩
    cases N3:vd with
    |false=>
     rw[xY]
     exact⟨_,rfl,fin (aim N3) (jV H')⟩
    |true=>
     rcases r3 N3 k r gA with⟨b',Jw,rfl⟩ |⟨x2,nb,aq6⟩
     ·rw[List.getElem?_set] at Jw
      split at Jw
      ·rename_i Ju
       subst Ju
       simp only[List.length_replicate,if_pos ur,Option.some.injEq] at Jw
       subst Jw
       rw[hx]
       exact⟨_,rfl,cs,hm,bj Sq _ (fun _ _ _=>rfl) (fun g hg _=>(wa g j).2 ⟨hg,rfl⟩) (fun _ h=>h) hMt⟩
      ·rw[List.getElem?_replicate] at Jw
       split at Jw<;>simp at Jw
     ·rw[xY] at nb
      injection nb with nb
      subst nb
      rw[xY]
      exact⟨_,rfl,fin aq5 (aq6 H')⟩
 refine((hO.sd f).1 _ _ ret w v8 _ H' B e fT).mono fun v w' hv=>?_
 obtain⟨rt,CV,HI⟩:=hv
 split at CV
 case h_2=>cases CV
 rename_i c hrefs
 cases gQ:rt.res.all (fun d=>gS d.t d.m&&rZ d.m) with
 |false=>rw[gQ] at CV;cases CV
 |true=>
 rw[gQ] at CV
 simp only[cond_true] at CV
 split at CV
 case isFalse=>cases CV
 rename_i hct
 split at CV
 case isFalse=>cases CV
 rename_i hcm
 split at CV
 case h_2=>cases CV
 rename_i S2 Zi
 obtain⟨eE,vs,q1,q2,q3,q4,q5⟩:=HI.res
 obtain⟨du,hMc⟩:=q5 c hrefs
 obtain⟨s9,hR,Ir,cD,We,lV,au3⟩:=Sr t1 Jx va HI.fr q3
 -- what comes back
 obtain⟨ct,cm,cx⟩:=c
 simp only at hct hcm hMc Zi
 subst hct
 subst hcm
 have aq2:bA w w' (Av σ Z) (Av s9 Z):=⟨fun g hn hl=>cD.same g (fun hx=>hn (t3.Av.1 hx)) hl,fun g hl hg=>t3.Av.1 (cD.wr g hl hg)⟩
 have aq7:sK b.t b.m=true∨bA w' w' (Av eE B) (Av s9 Z):=hls.imp id fun N3=>⟨fun _ _ _=>rfl,fun g _ hg=>by
  rcases hg with⟨i,hi⟩ |hz
  ·rcases au3 g i hi with⟨k,hk⟩ |⟨u9,hk⟩
   ·exact .inl ⟨k,hk⟩
   ·exact .inr ⟨N3,t3.Av.1 (.inl ⟨i,hk⟩),u9⟩
  ·refine .inr ⟨N3,.inr hz,fun hx=>?_⟩
   obtain⟨i,_,hi⟩:=Jx g hx
   rw[(t1.old g hz).1] at hi
   cases hi⟩
 have hMb:=yk (B:=Av eE B) (A':=Av s9 Z) aq2 b.t hlb aq7 hM hH' hMc
 have pD:∀ g,eE g=some rt.res.length→∃ i,S1.length≤i∧s9 g=some i:=fun g hg=>⟨_,by omega,Ir g _ hg⟩
 have hR2:∃ e9,bI e9 w0 W0 Z H S2 a w'∧∀ g i,S1.length≤i→¬eE g=some rt.res.length→s9 g=some i→e9 g=some i:=by
  rcases aq8 with⟨rfl,acw,hmt⟩ |⟨r,ex,dy,hp,eJ,hmt,j9,kr,fU,acZ⟩
  ·simp only[St.qu,Option.some.injEq] at Zi
   subst Zi
   exact N4 (b:=⟨b.t,b.m,_⟩) hR pD (by rw[t2];exact acw) hmt hMb
  ·cases p with
   |nil=>exact absurd rfl hp
   |cons Ji pp=>
   simp only[St.qu,eJ] at Zi
   split at Zi
   case h_2=>cases Zi
   rename_i m z oX
   simp only[Option.some.injEq,List.dropLast_concat] at Zi
   subst Zi
   have hh0:=t1.holds s
   rw[eJ] at hh0
   obtain⟨auT,Zd,Nq⟩:=hh0
   obtain rfl:=fN hmt Zd
   have yg:open_ (Ji::pp) (ex++[Ji::pp]):=by
    intro q hq s' r' e
    rcases List.mem_append.1 hq with hq |hq
    ·exact vi acZ q hq s' r' e
    ·rw[List.mem_singleton.1 hq] at e
     have:=congrArg List.length e
     simp at this
   have Hv:s<S1.length:=fk (by rw[eJ];exact fun e=>by cases e)
   have aij:=(fM cD (Ji::pp) none Nq (fun g hg _=>lV g s Hv hg) yg kr).1
   exact C1 (b:=⟨b.t,b.m,_⟩) hR pD eJ hmt (aij.trans j9) kr fU acZ oX hMb
 refine⟨_,CV,?_⟩
 obtain⟨σ3,hR3,hR4⟩:=hR2
 have axE:S2.length=S1.length:=by have:=hR3.len;have:=t1.len;omega
 obtain⟨n,hn⟩:∃ n,n=rt.res.length:=⟨_,rfl⟩
 have awU:∀ g k,k<n→eE g=some k→σ3 g=some (S1.length+k):=fun g k hk hg=>hR4 g _ (by omega) (fun e=>by rw[hg] at e;injection e with e;omega) (Ir g k hg)
 refine⟨_,hR3.V8 (ow:=fun g=>∃ k,k<n∧eE g=some k) (Nat.le_refl _) (fun _ _ _=>rfl) hR3.fr (fun g ⟨k,RK,hk⟩=>⟨(q3 g k hk).2,.inl ⟨S1.length+k,by omega,awU g k RK hk⟩⟩) fun d _ g1 g2=>?_⟩
 have E8:∀ (i:Nat) (b:TV),rt.res[i]?=some b→∃ u cs,vs[i]?=some u∧aE b.t u cs∧M w' (Av (iH σ3 o.dst fun g=>∃ k,k<n∧eE g=some k) Z) H b.t b.m b.x cs (fun g=>i<n∧eE g=some i) []:=fun i b hb=>by
  obtain⟨u,c,u1,u2,u3⟩:=q4 i b hb
  have H2:i<n:=by rw[hn];exact(List.getElem?_eq_some_iff.1 hb).1
  have hsb:=List.all_eq_true.1 gQ b (List.mem_of_getElem? hb)
  simp only[Bool.and_eq_true] at hsb
  exact⟨u,c,u1,u2,bj (bA.refl _ _) _ (fun _ _ _=>rfl) (fun g hg _=>⟨H2,hg⟩) (fun _ h=>h) (nx _ hsb.2 (kF _ hsb.1 u3))⟩
 have acY:∀ l:List TV,l=rt.res→Holds w' (Av (iH σ3 o.dst fun g=>∃ k,k<n∧eE g=some k) Z) H (cG (a.put o.dst v)) (S2.put o.dst (.u5 (l.map some))) (fun g=>iH σ3 o.dst (fun g=>∃ k,k<n∧eE g=some k) g=some d) (.u5 (l.map some)) (.tuple vs.toArray):=fun l hl=>by
  subst hl
  refine⟨vs,fun g=>(eE g).getD 0,rfl,by simp[q2],fun j b hj=>?_⟩
  rw[List.getElem?_map] at hj
  cases hb:rt.res[j]? with
  |none=>rw[hb] at hj;cases hj
  |some b'=>
   rw[hb] at hj
   simp only[Option.map_some,Option.some.injEq] at hj
   subst hj
   obtain⟨u,c,u1,u2,u3⟩:=E8 j b' hb
   exact⟨u,c,u1,u2,bj (bA.refl _ _) _ (fun _ _ _=>rfl) (fun g hg _=>⟨g1 g ⟨j,hg⟩,by show(eE g).getD 0=j;rw[hg.2];rfl⟩) (fun _ h=>h) u3⟩
 subst q1
 match Fi:rt.res,q2 with
 |[b],q2=>
  match vs,q2 with
  |[u],_=>
   obtain⟨u',c,u1,u2,u3⟩:=E8 0 b (by rw[Fi];rfl)
   simp only[List.getElem?_cons_zero,Option.some.injEq] at u1
   subst u1
   exact⟨c,u2,bj (bA.refl _ _) _ (fun _ _ _=>rfl) (fun g hg _=>g1 g ⟨0,hg⟩) (fun _ h=>h) u3⟩
 |[],q2=>
  match vs,q2 with
  |[],_=>exact acY [] Fi.symm
 |b::b'::r,q2=>
  match vs,q2 with
  |u::u'::vr,_=>exact acY (b::b'::r) Fi.symm
end Go.Pv
namespace Go.Pv
set_option linter.unusedVariables false
set_option linter.unusedSimpArgs false
variable {P:Program} {w w':World} {A A' Wr:Nat→Prop} {H:Nat→Value} {tm sx:Nat→Value} {S S' S1:St} {σ cv e9:Nat→Option Nat} {w0:World} {W0 Z:Nat→Prop} {a:Act} {own:Nat→Prop} {v:Value} {Θ:ee} {dst:Option Nat}
theorem bI.drop (h:bI σ w0 W0 Z H S a w) (ow:Nat→Prop) (sC:∀ g,ow g→∀ i,σ g=some i→S.length≤i):
  ∃ e9,bI e9 w0 W0 Z H S a w∧(∀ g,Av e9 Z g→Av σ Z g∧ ¬ow g∨Z g):=by
 let e9:Nat→Option Nat:=fun g=>open Classical in if ow g then none else σ g
 have h2:∀ g i,e9 g=some i→¬ow g∧σ g=some i:=fun g i hg=>by
  simp only[e9] at hg
  split at hg
  ·cases hg
  ·exact⟨by assumption,hg⟩
 have h3:∀ g i,¬ow g→σ g=some i→e9 g=some i:=fun g i hn hg=>by simp only[e9,if_neg hn,hg]
 have cD:bA w w (Av σ Z) (Av e9 Z):=⟨fun _ _ _=>rfl,fun g _ hg=>by
  rcases hg with⟨i,hi⟩ |hz
  ·exact .inl ⟨i,(h2 g i hi).2⟩
  ·exact .inr hz⟩
 refine⟨e9,⟨h.len,h.defers,h.fr,fun g i hg=>h.new g i (h2 g i hg).2,fun g i hg=>h.lt g i (h2 g i hg).2,fun g hg=>⟨?_,(h.old g hg).2⟩,fun i=>?_⟩,fun g hg=>?_⟩
 ·simp only[e9]
  split
  ·rfl
  ·exact(h.old g hg).1
 ·by_cases H2:i<S.length
  ·refine(h.holds i).kept cD (fun g hg _=>⟨rfl,h3 g i (fun hx=>?_) hg⟩) (fun s hs=>⟨fun _ _ h=>h,rfl,_,h.holds s,fun _ _ _=>rfl⟩)
   have:=sC g hx i hg
   omega
  ·have hd:S.at i=.dead:=Classical.byContradiction fun hx=>H2 (fk hx)
   rw[hd];trivial
 ·rcases hg with⟨i,hi⟩ |hz
  ·exact .inl ⟨.inl ⟨i,(h2 g i hi).2⟩,(h2 g i hi).1⟩
  ·exact .inr hz
theorem oa:∀ (p:Path) {t:Ty} {m:Md} {x:t.I} {b:TV},Nr p=true→bQ p t m x=some b→valid p t x
 |[],_,_,_,_,_,_=>trivial
 | .idx _::_,_,_,_,_,h,_=>by simp[Nr] at h
 | .deref::p,t,m,x,b,h,e=>by
  cases t<;>simp only[bQ] at e<;>first |cases e |exact oa p h e
 | .fst::p,t,m,x,b,h,e=>by
  cases t<;>simp only[bQ] at e<;>first |cases e |exact oa p h e
 | .snd::p,t,m,x,b,h,e=>by
  cases t<;>simp only[bQ] at e<;>first |cases e |exact oa p h e
theorem bI.freeze (h:bI σ w0 W0 Z H S a w) {d:Nat} {r:TV} (eJ:S.at d=.v r []):Rel w0 W0 Z H (S.put (some d) (.v (RQ r) [])) a w:=by
 have hh:=h.holds d
 rw[eJ] at hh
 obtain⟨cs,hm,hM⟩:=hh
 have h0:∀ g,σ g=some d→¬Av (release σ (some d)) Z g:=fun g hg hx=>by
  rcases hx with⟨i,hi⟩ |hz
  ·obtain⟨h1,h2⟩:=gF hi
   rw[hg] at h1
   exact h2 h1
  ·rw[(h.old g hz).1] at hg;cases hg
 have cD:bA w w (Av σ Z) (Av (release σ (some d)) Z):=⟨fun _ _ _=>rfl,fun g _ hg=>vR hg⟩
 refine⟨release σ (some d),?_⟩
 have:=h.put (dst:=some d) (av:=.v (RQ r) []) (v:=cG a d) cD h.fr (fun g i hg=>⟨h.new g i (gF hg).1,h.lt g i (gF hg).1⟩) (fun g hg=>by
  unfold release
  split
  ·rfl
  ·exact(h.old g hg).1) (fun i g _ hd hg=>⟨rfl,mJ hd hg⟩) (fun d' VZ _ _=>by
  injection VZ with VZ
  subst VZ
  refine⟨cs,hm,ph (t:=r.t) rfl (M_K (fun g _ hx=>vR hx) r.t rfl h0 hM)⟩)
 rw[nt] at this
 exact this
theorem Zj (h:Rel w0 W0 Z H S a w) {d:Nat} (e:VR S d=some (true,S')):Rel w0 W0 Z H S' a w:=by
 obtain⟨σ,h⟩:=h
 unfold VR at e
 split at e
 case h_2=>cases e
 rename_i t s st pp eJ
 split at e
 case h_2=>cases e
 rename_i r ex hs
 split at e
 case h_2=>cases e
 rename_i b fU
 cases hk:b.m.cy with
 |true=>rw[hk] at e;cases e
 |false=>
 rw[hk] at e
 simp only[cond_false,Option.some.injEq,Prod.mk.injEq] at e
 obtain⟨j9,rfl⟩:=e
 have hal:=h.holds d
 rw[eJ] at hal
 obtain⟨cv,cs2,ow,t1,hm,hM,RK,hn⟩:=s6 (vv:=cG a d) h (by simp) hal hs fU hk (fun q hq=>by simpa using List.all_eq_true.1 j9 q hq)
 have:=t1.NO (dst:=some d) (v:=cG a d) (ow:=ow) (A':=Av cv Z) (fun _ _=>rfl) t1.fr (fun g hg=>by
  obtain⟨i,hi,nV⟩:=RK.now g hg
  exact⟨t1.lt g i nV,.inl ⟨i,by omega,nV⟩⟩) (fun g _ hg=>by
  rcases hg with hg |hg
  ·exact hg
  ·obtain⟨i,hi,nV⟩:=RK.now g hg
   exact .inl ⟨i,nV⟩) hm hM
 rw[nt] at this
 exact⟨_,this⟩
theorem ac0 (h:Rel w0 W0 Z H S a w) (q:Nat×Path):Rel w0 W0 Z H (S.aqJ q) a w:=by
 obtain⟨σ,h⟩:=h
 obtain⟨s,p⟩:=q
 unfold St.aqJ
 simp only
 split
 case h_2=>exact⟨σ,h⟩
 rename_i r eJ
 split
 case h_2=>exact⟨σ,h⟩
 rename_i b fU
 cases hc:(b.m.cy|| !Nr p) with
 |true=>exact⟨σ,h⟩
 |false=>
 simp only[cond_false]
 simp only[Bool.or_eq_false_iff,Bool.not_eq_false'] at hc
 obtain⟨hk,hni⟩:=hc
 split
 ·exact h.freeze eJ
 rename_i hp
 split
 case h_2=>exact⟨σ,h⟩
 rename_i m z oX
 have hh:=h.holds s
 rw[eJ] at hh
 obtain⟨dy,Su,Nq⟩:=hh
 have kr:=oa p hni fU
 have yg:open_ p []:=fun _ hq=>by cases hq
 obtain⟨cs,de,k1,k2,k3⟩:=focus p Nq yg kr fU
 have hal:∃ t vv,Holds w (Av σ Z) H (cG a) S (fun _=>False) (.al t s p) vv∧t=b.t∧aE t vv cs:=by
  obtain⟨vv,hvv⟩:∃ vv,aE b.t vv cs:=by
   unfold aE
   cases hg:isAgg b.t with
   |true=>exact⟨_,by rw[if_pos rfl]⟩
   |false=>
    have hl:=(fI _ k3).1
    have h1:=Ii hg
    rw[h1] at hl
    obtain⟨u,rfl⟩:=List.length_eq_one_iff.1 hl
    exact⟨u,by simp⟩
  exact⟨b.t,vv,⟨r,dy,cs,⟨⟨[],eJ,yg⟩,kr,⟨b,fU,rfl⟩,Su⟩,k1,hvv⟩,rfl,hvv⟩
 obtain⟨t,vv,hal,rfl,hvv⟩:=hal
 obtain⟨cv,cs2,ow,t1,hm,hM,RK,hn⟩:=s6 (vv:=vv) h hp hal eJ fU hk (fun _ hq=>by cases hq)
 obtain rfl:=fN hvv hm
 obtain⟨e9,d1,d2⟩:=t1.drop ow (fun g hg i hi=>by
  obtain⟨j,hj,qj⟩:=RK.now g hg
  rw[hi] at qj
  injection qj with qj
  omega)
 have hK:K w (Av e9 Z) b.t b.x cs:=M_K (fun g _ hx=>by
  rcases d2 g hx with hx |hx
  ·exact hx.1
  ·exact .inr hx) b.t rfl (fun g hg hx=>by
  rcases d2 g hx with hx |hx
  ·exact hx.2 hg
  ·obtain⟨j,_,hj⟩:=RK.now g hg
   rw[(t1.old g hx).1] at hj;cases hj) hM
 have awV:St.at (((S.weaken s).cover s p).set s (.v r [p])) s=.v r ([]++[p]):=by
  rw[dA,if_pos ⟨rfl,by simp only[St.weaken,St.cover,List.length_map];exact fk (by rw[eJ];exact fun e=>by cases e)⟩]
  rfl
 obtain⟨σ3,h3,_⟩:=C1 (b:=RQ b) (qB:=fun _=>False) (ex:=[]) d1 (fun _ h=>h.elim) awV Su k1 kr fU (fun _ hq=>by cases hq) oX (ph (t:=b.t) rfl hK)
 exact⟨σ3,h3⟩
theorem N5:∀ (l:List (Nat×List (Nat×Path))) {id:Nat},Rel w0 W0 Z H S a w→Rel w0 W0 Z H (ka l id S) a w
 |[],_,h=>h
 |q::r,id,h=>by
  unfold ka
  cases Nat.beq q.1 id with
  |true=>
   simp only[cond_true]
   generalize q.2=l
   induction l generalizing S with
   |nil=>exact h
   |cons x l ih=>exact ih (ac0 h x)
  |false=>exact N5 r h
end Go.Pv
namespace Go.Pv
set_option linter.unusedVariables false
set_option linter.unusedSimpArgs false
variable {Γ:Gl} {P:Program} {w w':World} {A A' Wr:Nat→Prop} {H:Nat→Value} {tm sx:Nat→Value} {S S' S1:St} {σ cv e9:Nat→Option Nat} {w0:World} {W0 Z:Nat→Prop} {a:Act} {own:Nat→Prop} {v:Value} {Θ:ee} {dst:Option Nat} {O:jS} {hh:Hint} {Q:Exit→Act→World→Prop} {K:St→Option ab} {ret:ab}
def HK (w0:World) (W0 Z:Nat→Prop) (H:Nat→Value) (K:St→Option ab) (ret:ab) (a:Act) (w:World):Prop:=∃ S,K S=some ret∧Rel w0 W0 Z H S a w
theorem Jy {o:Oper} {c:Call} {f:FuncId} {yl:List Value} (ho:o.op=.call c) (hc:∃ x,c.callee=.value x∧a.eval x=.func (.func f) #[] yl.toArray) {R:Value→World→Prop} (hd:Sp P f (c.args.toList.map a.eval++yl) w R)
  {N:Act→World→Prop} (hN:∀ v w',R v w'→N (a.put o.dst v) w'):o.wp P a w N Q:=by
 obtain⟨x,hx,hv⟩:=hc
 have cQ:(execOp a.eval o).run P w=(callFunc f (c.args.toList.map a.eval++yl).toArray).run P w:=by
  simp only[execOp,ho,resolve,hx,Deferred.ofValue,hv,Sem.run_bind,Sem.run_pure,Result.andThen_ok,invoke]
  congr 2
  apply Array.toList_inj.1
  simp
 unfold Oper.wp
 rw[cQ]
 rcases hd with⟨h1,h2⟩ |⟨v,w',h1,h2⟩
 ·rw[h1,Oper.upon_enter]
  refine h2.mono fun e w' he=>?_
  cases e with
  |returned v=>exact hN _ _ he
  |panicked c=>exact he.elim
  |outgrown=>exact he.elim
 ·rw[h1,Oper.upon_value]
  exact hN _ _ h2
theorem Is {f:FuncId} {c:Call} (hc:c.callee=.value (.func f)) (h:DG O (.call c)=true):∀ p∈O.sig f,p=.val:=by
 obtain⟨callee,args,ats⟩:=c
 simp only at hc
 subst hc
 simp only[DG,List.all_eq_true] at h
 intro p hp
 have:=h p hp
 cases p<;>first |rfl |cases this
theorem Sv {op:Op} (h:quiet op=true):N0 op=true:=by
 unfold N0
 split<;>first |rfl |exact h
theorem Fj:∀ (l:List Pass) (n:Nat) {j:Nat},vP l n=some j→¬ ∀ p∈l,p=.val
 |[],n,j,h,_=>by cases h
 | .kj::r,n,j,h,hv=>by have:=hv .kj (by simp);cases this
 | .val::r,n,j,h,hv=>Fj r (n+1) (by simpa[vP] using h) (fun p hp=>hv p (by simp[hp]))
 | .take::r,n,j,h,hv=>by have:=hv .take (by simp);cases this
theorem ac1 (hT:dv P hh.tab=true) (h:bI σ w0 W0 Z H S a w) {T:TypeId} {x:Operand} {eq:Bool} {dst:Option Nat} (e:VQ hh dst T eq x S K=some ret):
  (∃ A n c,a.eval x=.slice A n c)∧∃ q,(binOp (bif eq then .eql else .neq) T (a.eval x) (.slice none 0 0)).run P w=.ok (.bool q) w∧∃ S',K S'=some ret∧Rel w0 W0 Z H S' (a.put dst (.bool q)) w:=by
 unfold VQ at e
 split at e
 case h_2=>cases e
 rename_i t m xs hx
 cases AL:hh.tab.is T (.sl t) with
 |false=>rw[AL] at e;cases e
 |true=>
 rw[AL] at e
 simp only[cond_true] at e
 obtain⟨cs,h1,h2,_⟩:=jB h hx
 simp only[Go.Pv.K] at h2
 obtain⟨A,c,rfl,hc,DH⟩:=h2
 have hv:a.eval x=.slice A (List.length xs) c:=by simpa[aE,isAgg] using h1.symm
 obtain⟨i,hi,gG⟩:=e8 AL
 obtain⟨_,hu,hTT⟩:=dB hT hi
 obtain⟨u1,_,_⟩:=mr hu gG
 rw[hTT] at u1
 have fT:∀ d,(Op.equalIn (d+1) T (.slice A (List.length xs) c) (.slice none 0 0)).run P w=.ok A.isNone w:=fun d=>by
  simp only[Op.equalIn,Sem.run_bind,run_underlying u1,Result.andThen_ok]
  cases A<;>simp
 have cQ:(Op.equal T (a.eval x) (.slice none 0 0)).run P w=.ok A.isNone w:=by
  rw[hv]
  exact fT 9999
 have hq:(binOp (bif eq then .eql else .neq) T (a.eval x) (.slice none 0 0)).run P w=.ok (.bool (bif eq then A.isNone else !A.isNone)) w:=by
  cases eq<;>simp[binOp,cQ]
 refine⟨⟨A,_,c,hv⟩,_,hq,?_⟩
 have put:∀ q:Bool,Rel w0 W0 Z H (S.put dst (.v ⟨.bool,.k,q⟩ [])) (a.put dst (.bool q)) w:=fun q=>⟨_,h.pure (dk q)⟩
 cases aq9:List.isEmpty xs with
 |true=>
  rw[aq9] at e
  simp only[cond_true] at e
  obtain⟨e1,e2⟩:=YO e
  cases hb:(bif eq then A.isNone else !A.isNone) with
  |true=>exact⟨_,e1,put true⟩
  |false=>exact⟨_,e2,put false⟩
 |false=>
  rw[aq9] at e
  simp only[cond_false] at e
  have hp:0<List.length xs:=by
   cases xs with
   |nil=>simp at aq9
   |cons _ _=>simp
  obtain⟨g,off,cur,T',fr,rfl,_⟩:=DH hp
  cases eq with
  |true=>exact⟨_,e,put false⟩
  |false=>exact⟨_,e,put true⟩
theorem au4 (hT:dv P hh.tab=true) (hO:pJ Γ P O w0 W0) (h:bI σ w0 W0 Z H S a w) {o:Oper} (e:iX hh O o S K=some ret):
  o.wp P a w (fun a' w'=>HK w0 W0 Z H K ret a' w'∧(DG O o.op=true→Ext w w')) Q:=by
 unfold iX at e
 split at e
 ·rename_i f as ts ho
  split at e
  ·rename_i j hj
   have hd:=ain hT hO h e
   rw[←List.append_nil (as.toList.map a.eval)] at hd
   refine Jy ho (yl:=[]) ⟨_,rfl,by simp[Act.eval]⟩ hd ?_
   intro v w' ⟨S',h1,h2⟩
   exact⟨⟨S',h1,h2⟩,fun hx=>absurd (Is rfl (by rw[ho] at hx;exact hx)) (Fj _ _ hj)⟩
  refine Jy ho (yl:=[]) ⟨_,rfl,by simp[Act.eval]⟩ (Wd hT hO h (.inl ⟨rfl,rfl⟩) e) ?_
  intro v w' ⟨S',h1,h2,h3⟩
  exact⟨⟨S',h1,h2⟩,fun hx=>h3 (Is rfl (by rw[ho] at hx;exact hx))⟩
 ·rename_i i as ts ho
  split at e
  case h_2=>cases e
  rename_i f c8 eJ
  have hold:=h.holds i
  rw[eJ] at hold
  obtain⟨vs,v1,v2,v3⟩:=hold
  refine Jy ho (yl:=vs) ⟨_,rfl,v1⟩ (Wd hT hO h (.inr ⟨i,rfl,v1⟩) e) ?_
  intro v w' ⟨S',h1,h2,h3⟩
  refine⟨⟨S',h1,h2⟩,fun hx=>?_⟩
  rw[ho] at hx
  cases hx
 ·rename_i T x T' ho
  obtain⟨⟨A,n,c,hv⟩,q,hq,S',hS,hR⟩:=ac1 hT h (eq:=true) e
  unfold Oper.wp
  have hr:(execOp a.eval o).run P w=.ok (.value (.bool q)) w:=by
   have sz:(binOp .eql T (a.eval x) (a.eval (.const (.slice none 0 0)))).run P w=.ok (.bool q) w:=hq
   have hg:(eqGuard .eql T x (.const (.slice none 0 0)) (a.eval x) (a.eval (.const (.slice none 0 0)))).run P w=.ok () w:=by
    rw[hv]
    simp[eqGuard,Act.eval]
   simp only[execOp,ho,Sem.run_bind]
   rw[hg]
   simp only[Result.andThen_ok]
   rw[sz]
   rfl
  rw[hr,Oper.upon_value]
  exact⟨⟨S',hS,hR⟩,fun _=>Ext.refl w⟩
 ·rename_i T x T' ho
  obtain⟨⟨A,n,c,hv⟩,q,hq,S',hS,hR⟩:=ac1 hT h (eq:=false) e
  unfold Oper.wp
  have hr:(execOp a.eval o).run P w=.ok (.value (.bool q)) w:=by
   have sz:(binOp .neq T (a.eval x) (a.eval (.const (.slice none 0 0)))).run P w=.ok (.bool q) w:=hq
   have hg:(eqGuard .neq T x (.const (.slice none 0 0)) (a.eval x) (a.eval (.const (.slice none 0 0)))).run P w=.ok () w:=by
    rw[hv]
    simp[eqGuard,Act.eval]
   simp only[execOp,ho,Sem.run_bind]
   rw[hg]
   simp only[Result.andThen_ok]
   rw[sz]
   rfl
  rw[hr,Oper.upon_value]
  exact⟨⟨S',hS,hR⟩,fun _=>Ext.refl w⟩
 ·rename_i n1 n2 n3 n4
  split at e
  case h_2=>cases e
  rename_i g S1 Ht
  cases g with
  |false=>cases e
  |true=>
  simp only[cond_true] at e
  by_cases au5:N0 o.op=true
  ·obtain⟨w',v,r1,r2,r3⟩:=acR hT h au5 Ht
   unfold Oper.wp
   rw[r1,Oper.upon_value]
   exact⟨⟨S1,e,r3⟩,fun _=>r2⟩
  ·obtain⟨w',v,r1,r3⟩:=au2 hT h Ht
   have hna: ¬DG O o.op=true:=fun hx=>by
    apply au5
    revert hx n1
    generalize o.op=op
    intro n1 hx
    unfold DG at hx
    split at hx<;>first |rfl |(exact absurd rfl (n1 _ _ _)) |exact Sv hx
   unfold Oper.wp
   rcases r1 with r1 |⟨rfl,r1⟩
   ·rw[r1,Oper.upon_value]
    exact⟨⟨S1,e,r3⟩,fun hx=>absurd hx hna⟩
   ·rw[r1,Oper.upon_skip]
    exact⟨⟨S1,e,r3⟩,fun hx=>absurd hx hna⟩
end Go.Pv
namespace Go.Pv
set_option linter.unusedVariables false
set_option linter.unusedSimpArgs false
variable {Γ:Gl} {P:Program} {w w':World} {A A' Wr:Nat→Prop} {H:Nat→Value} {tm sx:Nat→Value} {S S' S1:St} {σ cv e9:Nat→Option Nat} {w0:World} {W0 Z:Nat→Prop} {a:Act} {own:Nat→Prop} {v:Value} {Θ:ee} {dst:Option Nat} {O:jS} {hh:Hint} {Q:Exit→Act→World→Prop} {ret:ab} {ops:Array Oper}
theorem bI.less (h:bI σ w0 W0 Z H S a w) (hl:S'.length=S.length) (hs:∀ i,S'.at i=.dead∨(S'.at i=S.at i∧∀ s,(S.at i).refs s=true→S'.at s=S.at s)):bI σ w0 W0 Z H S' a w:=by
 refine⟨by rw[hl];exact h.len,h.defers,h.fr,h.new,h.lt,h.old,fun i=>?_⟩
 rcases hs i with hi |⟨hi,hr⟩
 ·rw[hi];trivial
 ·rw[hi]
  exact(h.holds i).kept (bA.refl _ _) (fun g hg _=>⟨rfl,hg⟩) (fun s hs=>⟨fun r ex he=>by rw[hr s hs];exact he,rfl,_,h.holds s,fun _ _ _=>rfl⟩)
theorem Zk (h:Rel w0 W0 Z H S a w):Rel w0 W0 Z H (eO S) a w:=by
 obtain⟨σ,h⟩:=h
 have eJ:∀ i,(eO S).at i=match S.at i with
  | .al t s []=>.al t s []
  | .al ..=>.dead
  | .ad ..=>.dead
  | .cut ..=>.dead
  |a=>a:=fun i=>EJ S _ rfl i
 have hv:∀ s r ex,S.at s=.v r ex→(eO S).at s=.v r ex:=fun s r ex he=>by rw[eJ s,he]
 refine⟨σ,⟨by unfold eO;rw[List.length_map];exact h.len,h.defers,h.fr,h.new,h.lt,h.old,fun i=>?_⟩⟩
 have hi:=(h.holds i).kept (S':=eO S) (bA.refl w (Av σ Z)) (fun g hg _=>⟨rfl,hg⟩) (fun s _=>⟨fun r ex he=>hv s r ex he,rfl,_,h.holds s,fun _ _ _=>rfl⟩)
 rw[eJ i]
 split<;>first |trivial |(rename_i he;rw[he] at hi;exact hi) |exact hi
theorem Fl:∀ (cs:List CK) (S:List I8) {x:EB cs},sI cs S=some x→ni cs x=S
 |[],[],x,_=>rfl
 |[],_::_,x,e=>by simp[sI] at e
 | .kv _::r,[],x,e=>by simp[sI] at e
 | .pl _ _ _::r,[],x,e=>by simp[sI] at e
 | .kv t::r,.pl _ _ _::S,x,e=>by simp[sI] at e
 | .pl _ _ _::r,.kv _::S,x,e=>by simp[sI] at e
 | .kv t::r,.kv b::S,x,e=>by
  obtain⟨bt,bm,bx⟩:=b
  simp only[sI] at e
  split at e
  case isFalse=>cases e
  rename_i ht
  subst ht
  split at e
  case isFalse=>cases e
  rename_i hm
  subst hm
  split at e
  case h_2=>cases e
  rename_i y hy
  injection e with e
  subst e
  simp[ni,Fl r S hy]
 | .pl t s p::r,.pl t' s' p'::S,x,e=>by
  simp only[sI] at e
  split at e
  case isFalse=>cases e
  rename_i ht
  subst ht
  cases hb:Nat.beq s' s with
  |false=>rw[hb] at e;cases e
  |true=>
   rw[hb] at e
   simp only[cond_true] at e
   have:=Nat.eq_of_beq_eq_true hb
   subst this
   split at e
   case isFalse=>cases e
   rename_i hp
   subst hp
   simp[ni,Fl r S e]
theorem ux:∀ (ks:List Kd) (S:St) {x:sw ks},proj ks S=some x→(shape ks x).length=S.length∧∀ i,(shape ks x).at i=.dead∨((shape ks x).at i=S.at i∧((∃ t m y,ks[i]?=some (.v t m)∧S.at i=.v ⟨t,m,y⟩ [])∨(∃ t s,ks[i]?=some (.al t s)∧S.at i=.al t s [])∨∃ f cs y,ks[i]?=some (.mg f cs)∧S.at i=.mg f (ni cs y)))
 |[],[],x,_=>⟨rfl,fun i=>.inl rfl⟩
 |[],_::_,x,e=>by simp[proj] at e
 | .dead::r,[],x,e=>by simp[proj] at e
 | .v _ _::r,[],x,e=>by simp[proj] at e
 | .al _ _::r,[],x,e=>by simp[proj] at e
 | .mg _ _::r,[],x,e=>by simp[proj] at e
 | .mg f cs::r,a::S,x,e=>by
  cases a with
  |mg f' c8=>
   simp only[proj] at e
   cases hb:Nat.beq f' f with
   |false=>rw[hb] at e;cases e
   |true=>
    rw[hb] at e
    simp only[cond_true] at e
    have:=Nat.eq_of_beq_eq_true hb
    subst this
    split at e
    case h_2=>cases e
    rename_i y z hy hz
    injection e with e
    subst e
    obtain⟨h1,h2⟩:=ux r S hz
    have hc:=Fl cs c8 hy
    refine⟨by simp[shape,h1],fun i=>?_⟩
    cases i with
    |zero=>exact .inr ⟨by simp[shape,St.at,hc],.inr (.inr ⟨_,_,y,rfl,by simp[St.at,hc]⟩)⟩
    |succ i=>exact h2 i
  |_=>simp[proj] at e
 | .dead::r,a::S,x,e=>by
  simp only[proj] at e
  obtain⟨h1,h2⟩:=ux r S e
  refine⟨by simp[shape,h1],fun i=>?_⟩
  cases i with
  |zero=>exact .inl rfl
  |succ i=>exact h2 i
 | .v t m::r,a::S,x,e=>by
  cases a with
  |v b ex=>
   cases ex with
   |cons _ _=>simp[proj] at e
   |nil=>
    obtain⟨bt,bm,bx⟩:=b
    simp only[proj] at e
    split at e
    case isFalse=>cases e
    rename_i ht
    subst ht
    split at e
    case isFalse=>cases e
    rename_i hm
    subst hm
    split at e
    case h_2=>cases e
    rename_i y hy
    injection e with e
    subst e
    obtain⟨h1,h2⟩:=ux r S hy
    refine⟨by simp[shape,h1],fun i=>?_⟩
    cases i with
    |zero=>exact .inr ⟨rfl,.inl ⟨_,_,_,rfl,rfl⟩⟩
    |succ i=>exact h2 i
  |_=>simp[proj] at e
 | .al t s::r,a::S,x,e=>by
  cases a with
  |al t' s' p=>
   cases p with
   |cons _ _=>simp[proj] at e
   |nil=>
    simp only[proj] at e
    split at e
    case isFalse=>cases e
    rename_i ht
    subst ht
    cases hb:Nat.beq s' s with
    |false=>rw[hb] at e;cases e
    |true=>
     rw[hb] at e
     simp only[cond_true] at e
     have:=Nat.eq_of_beq_eq_true hb
     subst this
     obtain⟨h1,h2⟩:=ux r S e
     refine⟨by simp[shape,h1],fun i=>?_⟩
     cases i with
     |zero=>exact .inr ⟨rfl,.inr (.inl ⟨_,_,rfl,rfl⟩)⟩
     |succ i=>exact h2 i
  |_=>simp[proj] at e
theorem Bk:∀ (ks:List Kd) (S:St) {x:sw ks},proj ks S=some x→∀ (i:Nat) (t:Ty) (m:Md),ks[i]?=some (Kd.v t m)→(shape ks x).at i=S.at i
 |[],_,x,_,i,t,m,hi=>by simp at hi
 | .dead::r,[],x,e,_,_,_,_=>by simp[proj] at e
 | .v _ _::r,[],x,e,_,_,_,_=>by simp[proj] at e
 | .al _ _::r,[],x,e,_,_,_,_=>by simp[proj] at e
 | .mg _ _::r,[],x,e,_,_,_,_=>by simp[proj] at e
 | .mg f cs::r,a::S,x,e,i,t,m,hi=>by
  cases i with
  |zero=>simp at hi
  |succ i=>
   cases a with
   |mg f' c8=>
    simp only[proj] at e
    cases hb:Nat.beq f' f with
    |false=>rw[hb] at e;cases e
    |true=>
     rw[hb] at e
     simp only[cond_true] at e
     split at e
     case h_2=>cases e
     rename_i y z hy hz
     injection e with e
     subst e
     exact Bk r S hz i t m (by simpa using hi)
   |_=>simp[proj] at e
 | .dead::r,a::S,x,e,i,t,m,hi=>by
  simp only[proj] at e
  cases i with
  |zero=>simp at hi
  |succ i=>exact Bk r S e i t m (by simpa using hi)
 | .v t0 m0::r,a::S,x,e,i,t,m,hi=>by
  cases i with
  |zero=>
   obtain⟨_,h2⟩:=ux _ _ e
   rcases h2 0 with h |h
   ·simp only[shape] at h
    cases h
   ·exact h.1
  |succ i=>
   cases a with
   |v b ex=>
    cases ex with
    |cons _ _=>simp[proj] at e
    |nil=>
     obtain⟨bt,bm,bx⟩:=b
     simp only[proj] at e
     split at e
     case isFalse=>cases e
     rename_i ht
     subst ht
     split at e
     case isFalse=>cases e
     split at e
     case h_2=>cases e
     rename_i y hy
     injection e with e
     subst e
     exact Bk r S hy i t m (by simpa using hi)
   |_=>simp[proj] at e
 | .al t0 s::r,a::S,x,e,i,t,m,hi=>by
  cases i with
  |zero=>simp at hi
  |succ i=>
   cases a with
   |al t' s' p=>
    cases p with
    |cons _ _=>simp[proj] at e
    |nil=>
     simp only[proj] at e
     split at e
     case isFalse=>cases e
     cases hb:Nat.beq s' s with
     |false=>rw[hb] at e;cases e
     |true=>
      rw[hb] at e
      exact Bk r S e i t m (by simpa using hi)
   |_=>simp[proj] at e
theorem N6:∀ (all ks:List Kd),iM all ks=true→∀ (i:Nat) (t:Ty) (s:Nat),ks[i]?=some (Kd.al t s)→∃ t' m',all[s]?=some (Kd.v t' m')
 |all,[],_,i,t,s,hi=>by simp at hi
 |all,k::r,h,i,t,s,hi=>by
  cases i with
  |zero=>
   simp only[List.getElem?_cons_zero,Option.some.injEq] at hi
   subst hi
   simp only[iM,Bool.and_eq_true] at h
   have:=h.1
   split at this
   ·rename_i t' m' h';exact⟨t',m',h'⟩
   ·cases this
  |succ i=>
   refine N6 all r ?_ i t s (by simpa using hi)
   cases k<;>simp only[iM,Bool.and_eq_true] at h<;>first |exact h |exact h.2
theorem It:∀ (all ks:List Kd),iM all ks=true→∀ (i:Nat) (f:FuncId) (cs:List CK),ks[i]?=some (Kd.mg f cs)→∀ t s p,CK.pl t s p∈cs→∃ t' m',all[s]?=some (Kd.v t' m')
 |all,[],_,i,f,cs,hi=>by simp at hi
 |all,k::r,h,i,f,cs,hi=>by
  cases i with
  |zero=>
   simp only[List.getElem?_cons_zero,Option.some.injEq] at hi
   subst hi
   simp only[iM,Bool.and_eq_true,List.all_eq_true] at h
   intro t s p hc
   have:=h.1 _ hc
   simp only at this
   split at this
   ·rename_i t' m' h';exact⟨t',m',h'⟩
   ·cases this
  |succ i=>
   refine It all r ?_ i f cs (by simpa using hi)
   cases k<;>simp only[iM,Bool.and_eq_true] at h<;>first |exact h |exact h.2
theorem ta:∀ (cs:List CK) (y:EB cs) (d:Nat),((ni cs y).any fun c=>match c with
  | .pl _ s _=>Nat.beq s d
  | .kv _=>false)=true→∃ t p,CK.pl t d p∈cs
 |[],y,d,h=>by simp[ni] at h
 | .kv t::r,y,d,h=>by
  simp only[ni,List.any_cons,Bool.false_or] at h
  obtain⟨t',p,hm⟩:=ta r y.2 d h
  exact⟨t',p,List.mem_cons_of_mem _ hm⟩
 | .pl t s p::r,y,d,h=>by
  simp only[ni,List.any_cons,Bool.or_eq_true] at h
  rcases h with h |h
  ·have:=Nat.eq_of_beq_eq_true h
   subst this
   exact⟨t,p,List.mem_cons_self ..⟩
  ·obtain⟨t',p',hm⟩:=ta r y d h
   exact⟨t',p',List.mem_cons_of_mem _ hm⟩
theorem ac2 (h:Rel w0 W0 Z H S a w) (i:Nat) (k:Kd):Rel w0 W0 Z H (ah0 S i k) a w:=by
 unfold ah0
 split
 case h_2=>exact h
 rename_i t m
 cases hk:m.cy with
 |true=>exact h
 |false=>
  simp only[cond_false]
  split
  case h_2=>exact h
  rename_i t' s eJ
  split
  case h_2=>exact h
  rename_i b S1 hb
  obtain⟨σ,h⟩:=h
  obtain⟨cv,cs,ow,h1,hm,hM,hkk,hn⟩:=fP (Θ:=[]) (T:=0) (x:=.tmp i) h (by simp only[St.fb];rw[eJ]) hb
  let P0:Program:=default
  obtain⟨v2,hr2,e9,h3⟩:=pE (P:=P0) (dst:=some i) (n:=S.length) (s:=(pure (Next.value (cG a i)):Sem Next)) h1 hkk hn (fun w2 _=>rfl) hm hM
  have Nk:=hr2 w (Ext.refl w)
  have e1:Next.value (cG a i)=Next.value v2:=by
   have:(Result.ok (Next.value (cG a i)) w:Result Next)=Result.ok (Next.value v2) w:=Nk
   injection this
  injection e1 with e1
  subst e1
  rw[nt] at h3
  exact⟨e9,h3⟩
theorem Fm:∀ (ks:List Kd) (i:Nat) {S:St},Rel w0 W0 Z H S a w→Rel w0 W0 Z H (RS ks i S) a w
 |[],_,_,h=>h
 |k::r,i,_,h=>Fm r (i+1) (ac2 h i k)
theorem ob (h:Rel w0 W0 Z H S a w) {ks:List Kd} (e:n0 ks S=some S1):Rel w0 W0 Z H S1 a w:=by
 obtain⟨σ,h⟩:=Fm ks 0 h
 unfold n0 at e
 cases hk:iM ks ks with
 |false=>rw[hk] at e;cases e
 |true=>
 rw[hk] at e
 simp only[cond_true] at e
 split at e
 case h_2=>cases e
 rename_i x xY
 injection e with e
 subst e
 obtain⟨h1,h2⟩:=ux ks _ xY
 refine⟨σ,h.less h1 fun i=>?_⟩
 rcases h2 i with hi |⟨hi,hx⟩
 ·exact .inl hi
 ·refine .inr ⟨hi,fun s hs=>?_⟩
  rcases hx with⟨t,m,y,_,h3⟩ |⟨t,s',RK,h3⟩ |⟨f,cs,y,RK,h3⟩
  ·rw[h3] at hs;cases hs
  ·rw[h3] at hs
   have:s'=s:=Nat.eq_of_beq_eq_true hs
   subst this
   obtain⟨t',m',h4⟩:=N6 ks ks hk i t s' RK
   exact Bk ks _ xY s' t' m' h4
  ·rw[h3] at hs
   obtain⟨t',p,h5⟩:=ta cs y s hs
   obtain⟨t',m',h4⟩:=It ks ks hk i f cs RK _ _ _ h5
   exact Bk ks _ xY s t' m' h4
end Go.Pv
namespace Go.Pv
set_option linter.unusedVariables false
set_option linter.unusedSimpArgs false
variable {Γ:Gl} {P:Program} {w w':World} {A A' Wr:Nat→Prop} {H:Nat→Value} {tm sx:Nat→Value} {S S' S1:St} {σ cv e9:Nat→Option Nat} {w0:World} {W0 Z:Nat→Prop} {a:Act} {own:Nat→Prop} {v:Value} {Θ:ee} {dst:Option Nat} {O:jS} {hh:Hint} {Q:Exit→Act→World→Prop} {K:St→Option ab} {ret:ab} {ops:Array Oper}
theorem ac3 {i:Nat} (h:bI σ w0 W0 Z H S a w) (hi:i<S.length):a.tmps[i]?=some (cG a i):=by
 have hl:i<a.tmps.size:=by rw[←h.len];exact hi
 unfold cG
 rw[Array.getD_eq_getD_getElem?,Array.getElem?_eq_getElem hl]
 rfl
theorem Sw (h:bI σ w0 W0 Z H S a w) {j d:Nat} {m:Md} {q:Bool} {ex:List Path} (hd:(ops[j]?).bind (·.dst)=some d) (eJ:S.at d=.v ⟨.bool,m,q⟩ ex):yielded ops a.tmps j=some q∧cG a d=.bool q:=by
 have hl:=fk (S:=S) (i:=d) (by rw[eJ];exact fun e=>by cases e)
 have hh:=h.holds d
 rw[eJ] at hh
 obtain⟨cs,h1,h2⟩:=hh
 simp only[M] at h2
 have hv:=dW h1 h2.2
 refine⟨?_,hv⟩
 unfold yielded
 rw[hd,Option.bind_some,ac3 h hl,hv]
theorem N7 (h:bI σ w0 W0 Z H S a w) {j d:Nat} (hd:(ops[j]?).bind (·.dst)=some d) (eJ:S.at d=.undef):yielded ops a.tmps j=none:=by
 have hl:=fk (S:=S) (i:=d) (by rw[eJ];exact fun e=>by cases e)
 have hh:=h.holds d
 rw[eJ] at hh
 have hv:cG a d=undef:=hh
 unfold yielded
 rw[hd,Option.bind_some,ac3 h hl,hv]
 rfl
theorem Rel.undef (h:bI σ w0 W0 Z H S a w) (dst:Option Nat):Rel w0 W0 Z H (S.put dst .undef) (a.put dst Go.undef) w:=⟨_,h.pure (av:=.undef) (v:=Go.undef) rfl⟩
theorem ac4 {S:St} {d:Nat} {a:AV} (h:S.at d=a) (hd:a≠ .dead):S.set d a=S:=by
 unfold St.at at h
 rw[List.getD_eq_getElem?_getD] at h
 by_cases hl:d<S.length
 ·rw[List.getElem?_eq_getElem hl] at h
  simp only[Option.getD_some] at h
  subst h
  simp
 ·rw[List.getElem?_eq_none (by omega)] at h
  exact absurd h.symm hd
theorem wb (h:bI σ w0 W0 Z H S a w) {i:Nat} {o:Oper} (ho:ops[i]?=some o) (e:bE hh O ops i S K=some ret):
  (Region.wanted o (yielded ops a.tmps)=true∧∃ eE S',bI eE w0 W0 Z H S' a w∧iX hh O o S' K=some ret)∨
  (Region.wanted o (yielded ops a.tmps)=false∧HK w0 W0 Z H K ret (a.put o.dst undef) w):=by
 unfold bE at e
 rw[ho] at e
 simp only at e
 split at e
 ·rename_i hg
  exact .inl ⟨by simp[Region.wanted,hg],σ,S,h,e⟩
 ·rename_i j want hg
  split at e
  case h_2=>cases e
  rename_i d hd
  split at e
  ·rename_i m q ex eJ
   obtain⟨hy,hv⟩:=Sw h hd eJ
   have hw:Region.wanted o (yielded ops a.tmps)=(q==want):=by
    unfold Region.wanted
    rw[hg]
    simp only[hy]
    cases q<;>cases want<;>rfl
   have N8:=ac4 eJ (fun e=>by cases e)
   cases q with
   |true=>
    simp only[cond_true,N8] at e
    cases want with
    |true=>exact .inl ⟨hw,σ,_,h,e⟩
    |false=>exact .inr ⟨hw,_,e,Rel.undef h o.dst⟩
   |false=>
    simp only[cond_false,N8] at e
    cases want with
    |true=>exact .inr ⟨hw,_,e,Rel.undef h o.dst⟩
    |false=>exact .inl ⟨hw,σ,_,h,e⟩
  ·rename_i eJ
   have hy:=N7 h hd eJ
   refine .inr ⟨?_,_,e,Rel.undef h o.dst⟩
   unfold Region.wanted
   rw[hg]
   simp only[hy]
   rfl
  ·cases e
theorem ym (hT:dv P hh.tab=true) (hO:pJ Γ P O w0 W0) (h:bI σ w0 W0 Z H S a w) {i:Nat} (e:bE hh O ops i S K=some ret):
  wpOp P ops Q i (fun a' w'=>HK w0 W0 Z H K ret a' w'∧(∀ o,ops[i]?=some o→DG O o.op=true→Ext w w')) a w:=by
 unfold wpOp
 cases ho:ops[i]? with
 |none=>unfold bE at e;rw[ho] at e;cases e
 |some o=>
  simp only
  rcases wb h ho e with⟨hw,eE,S',h',e'⟩ |⟨hw,N9⟩
  ·rw[if_pos hw]
   refine .inl (Oper.wp_mono (fun a' w' h=>⟨h.1,fun o' Hw=>?_⟩) (au4 hT hO h' e'))
   injection Hw with Hw
   subst Hw
   exact h.2
  ·rw[if_neg (by rw[hw];exact Bool.false_ne_true)]
   exact⟨N9,fun _ _ _=>Ext.refl w⟩
theorem ac5 (hT:dv P hh.tab=true) (hO:pJ Γ P O w0 W0) (hQ:∀ a w,HK w0 W0 Z H K ret a w→Q .normal a w):∀ (l:List Nat) {S:St} {a:Act} {w:World},n5 hh O ops l S K=some ret→Rel w0 W0 Z H S a w→wpOps P ops Q l a w
 |[],S,a,w,e,h=>hQ a w ⟨S,e,h⟩
 |i::l,S,a,w,e,⟨σ,h⟩=>by
  rw[wpOps_cons]
  simp only[n5] at e
  refine wpOp_mono (fun a' w' h'=>?_) (ym hT hO h e)
  obtain⟨⟨S',h1,h2⟩,_⟩:=h'
  exact ac5 hT hO hQ l h1 h2
theorem ac6:∀ (a b:List Nat),eqN a b=true→a=b
 |[],[],_=>rfl
 |x::r,y::s,h=>by
  simp only[eqN,Bool.and_eq_true] at h
  rw[Nat.eq_of_beq_eq_true h.1,ac6 r s h.2]
theorem Jz (hT:dv P hh.tab=true) (hO:pJ Γ P O w0 W0) (hQ:∀ a w,HK w0 W0 Z H K ret a w→Q .normal a w):∀ (l:OT) {q:List Nat} {S:St} {a:Act} {w:World},l.line=some q→bK hh O ops l S K=some ret→Rel w0 W0 Z H S a w→wpOps P ops Q q a w
 | .done,q,S,a,w,hq,e,h=>by
  simp only[OT.line,Option.some.injEq] at hq
  subst hq
  exact hQ a w ⟨S,e,h⟩
 | .one i t,q,S,a,w,hq,e,⟨σ,h⟩=>by
  simp only[OT.line,Option.map_eq_some_iff] at hq
  obtain⟨r,hr,rfl⟩:=hq
  rw[wpOps_cons]
  simp only[bK] at e
  refine wpOp_mono (fun a' w' h'=>?_) (ym hT hO h e)
  obtain⟨⟨S',h1,h2⟩,_⟩:=h'
  exact Jz hT hO hQ t hr h1 h2
 | .cut ks t,q,S,a,w,hq,e,h=>by
  simp only[OT.line] at hq
  simp only[bK] at e
  split at e
  case h_2=>cases e
  rename_i S1 hg
  exact Jz hT hO hQ t hq e (ob h hg)
 | .any _ _,q,S,a,w,hq,e,h=>by cases hq
 | .par _ _ _,q,S,a,w,hq,e,h=>by cases hq
 | .own _ _,q,S,a,w,hq,e,h=>by cases hq
theorem Ext.trans {w1 w2 w3:World} (h:Ext w1 w2) (h':Ext w2 w3):Ext w1 w3:=fun g hg=>by
 have h1:=h g hg
 have:g<w2.heap.size:=by
  rw[Array.getElem?_eq_getElem hg] at h1
  exact bT h1
 rw[h' g this,h1]
def wpE (P:Program) (ops:Array Oper) (Q:Exit→Act→World→Prop) (ad:Nat→Bool):Nat→Array Bool→Act→World→Prop
 |0,bS,a,w=>Region.ready .any ops bS=[]∧Q .normal a w
 |n+1,bS,a,w=>(Region.ready .any ops bS=[]→Q .normal a w)∧
  ∀ i∈Region.ready .any ops bS,wpOp P ops Q i (fun a' w'=>(ad i=true→Ext w w')∧wpE P ops Q ad n (bS.setIfInBounds i true) a' w') a w
theorem Wg {ad:Nat→Bool}:∀ (n:Nat) {bS:Array Bool} {a:Act} {w:World},wpE P ops Q ad n bS a w→wpAny P .any ops Q n bS a w
 |0,_,_,_,h=>h
 |n+1,_,_,_,h=>⟨h.1,fun i hi=>wpOp_mono (fun _ _ h'=>Wg n h'.2) (h.2 i hi)⟩
theorem Zl {ad:Nat→Bool} {i:Nat} {oi:Oper} {v:Value} (hi:ops[i]?=some oi) (Fo:∀ (j:Nat) (o:Oper) cs b,ops[j]?=some o→o.op≠ .select cs b)
  (hQ:∀ c a w,Q (.panic c) (a.put oi.dst v) w→Q (.panic c) a w) {D:Nat→Bool} (hDi:D i=true)
  (hD:∀ j oj,ops[j]?=some oj→D j=true→j≠i→∃ e∈oj.after,Region.binds .any e=true∧D e.on=true):
  ∀ (fuel:Nat) (bS:Array Bool) (a:Act) (w:World),(∀ j,D j=true→bS.getD j true=false)→
   (∀ j oj,ops[j]?=some oj→D j=false→bS.getD j true=false→oi.apart ops oj=true∧ad j=true)→
   i∈Region.ready .any ops bS→YieldsIf P ops (Ext w) oi v a→wpE P ops Q ad fuel (bS.setIfInBounds i true) (a.put oi.dst v) w→wpE P ops Q ad (fuel+1) bS a w:=by
 intro fuel
 induction fuel with
 |zero=>
  intro bS a w _ _ hr hy HH
  refine⟨fun h=>(by rw[h] at hr;cases hr),fun j hj=>?_⟩
  by_cases mn:j=i
  ·subst mn;exact hy.wpOp hi (Ext.refl w) ⟨fun _=>Ext.refl w,HH⟩
  ·have:=ready_mono hj mn
   rw[HH.1] at this
   cases this
 |succ fuel ih=>
  intro bS a w HD N' hr hy HH
  refine⟨fun h=>(by rw[h] at hr;cases hr),fun j hj=>?_⟩
  by_cases mn:j=i
  ·subst mn;exact hy.wpOp hi (Ext.refl w) ⟨fun _=>Ext.refl w,HH⟩
  ·have h1:=HH.2 j (ready_mono hj mn)
   obtain⟨ac7,oj,pg,gQ⟩:=mem_ready.1 hj
   have hDj:D j=false:=by
    cases hd:D j with
    |false=>rfl
    |true=>
     obtain⟨e,he,hb,hde⟩:=hD j oj pg hd mn
     have h2:=gQ e he hb
     have h3:=HD e.on hde
     rcases Nat.lt_or_ge e.on bS.size with hl |hl
     ·simp[hl] at h2 h3;rw[h3] at h2;cases h2
     ·simp[Array.getElem?_eq_none hl] at h2
   obtain⟨Sh,had⟩:=N' j oj pg hDj ac7
   have h2:=wpOp_putIf pg Sh (fun cs b=>Fo i oi cs b hi) (fun cs b=>Fo j oj cs b pg) hQ hy h1
   refine wpOp_mono (fun a' w' h3=>⟨fun _=>h3.2.1 had,?_⟩) h2
   have awW:=h3.2.1 had
   refine ih (bS.setIfInBounds j true) a' w' (fun k hk=>?_) (fun k ok hk hdk ac8=>N' k ok hk hdk ?_) (ready_mono hr (Ne.symm mn)) ?_ ?_
   ·have Ju:j≠k:=fun e=>by subst e;rw[hDj] at hk;cases hk
    rw[getD_set_ne true Ju]
    exact HD k hk
   ·by_cases Ju:j=k
    ·subst Ju;exact ac7
    ·rw[getD_set_ne true Ju] at ac8;exact ac8
   ·exact h3.1.imp (fun⟨q1,q2⟩=>⟨q1,fun w2 sH=>q2 w2 (awW.trans sH)⟩) id
   ·rw[Array.setIfInBounds_comm _ _ mn]
    exact h3.2.2
theorem Fp {ad:Nat→Bool} {i:Nat} {oi:Oper} {v:Value} (hi:ops[i]?=some oi) (Fo:∀ (j:Nat) (o:Oper) cs b,ops[j]?=some o→o.op≠ .select cs b)
  (hQ:∀ c a w,Q (.panic c) (a.put oi.dst v) w→Q (.panic c) a w) {D:Nat→Bool} (hDi:D i=true)
  (hD:∀ j oj,ops[j]?=some oj→D j=true→j≠i→∃ e∈oj.after,Region.binds .any e=true∧D e.on=true):
  ∀ (fuel:Nat) (bS:Array Bool) (a:Act) (w:World),(∀ j,D j=true→bS.getD j true=false)→
   (∀ j oj,ops[j]?=some oj→D j=false→bS.getD j true=false→oi.apart ops oj=true)→
   i∈Region.ready .any ops bS→YieldsIf P ops (fun _=>True) oi v a→wpE P ops Q ad fuel (bS.setIfInBounds i true) (a.put oi.dst v) w→wpE P ops Q ad (fuel+1) bS a w:=by
 intro fuel
 induction fuel with
 |zero=>
  intro bS a w _ _ hr hy HH
  refine⟨fun h=>(by rw[h] at hr;cases hr),fun j hj=>?_⟩
  by_cases mn:j=i
  ·subst mn;exact hy.wpOp hi trivial ⟨fun _=>Ext.refl w,HH⟩
  ·have:=ready_mono hj mn
   rw[HH.1] at this
   cases this
 |succ fuel ih=>
  intro bS a w HD N' hr hy HH
  refine⟨fun h=>(by rw[h] at hr;cases hr),fun j hj=>?_⟩
  by_cases mn:j=i
  ·subst mn;exact hy.wpOp hi trivial ⟨fun _=>Ext.refl w,HH⟩
  ·have h1:=HH.2 j (ready_mono hj mn)
   obtain⟨ac7,oj,pg,gQ⟩:=mem_ready.1 hj
   have hDj:D j=false:=by
    cases hd:D j with
    |false=>rfl
    |true=>
     obtain⟨e,he,hb,hde⟩:=hD j oj pg hd mn
     have h2:=gQ e he hb
     have h3:=HD e.on hde
     rcases Nat.lt_or_ge e.on bS.size with hl |hl
     ·simp[hl] at h2 h3;rw[h3] at h2;cases h2
     ·simp[Array.getElem?_eq_none hl] at h2
   have Sh:=N' j oj pg hDj ac7
   have h2:=wpOp_putIf pg Sh (fun cs b=>Fo i oi cs b hi) (fun cs b=>Fo j oj cs b pg) hQ hy h1
   refine wpOp_mono (fun a' w' h3=>⟨h3.2.1,?_⟩) h2
   refine ih (bS.setIfInBounds j true) a' w' (fun k hk=>?_) (fun k ok hk hdk ac8=>N' k ok hk hdk ?_) (ready_mono hr (Ne.symm mn)) ?_ ?_
   ·have Ju:j≠k:=fun e=>by subst e;rw[hDj] at hk;cases hk
    rw[getD_set_ne true Ju]
    exact HD k hk
   ·by_cases Ju:j=k
    ·subst Ju;exact ac7
    ·rw[getD_set_ne true Ju] at ac8;exact ac8
   ·exact h3.1
   ·rw[Array.setIfInBounds_comm _ _ mn]
    exact h3.2.2
theorem iN (j k:Nat):Nat.testBit (2^j) k=decide (j=k):=Nat.testBit_two_pow
theorem C2 {o:Oper} {k:Nat} (h:Nat.testBit (bR o) k=true):∃ e∈o.after,Region.binds .any e=true∧e.on=k:=by
 have key:∀ (l:List Edge),Nat.testBit (l.foldr (fun e m=>bif Region.binds .any e then m|||2^e.on else m) 0) k=true→∃ e∈l,Region.binds .any e=true∧e.on=k:=by
  intro l
  induction l with
  |nil=>intro h;simp at h
  |cons e r ih=>
   intro h
   simp only[List.foldr_cons] at h
   cases hb:Region.binds .any e with
   |false=>
    rw[hb] at h
    obtain⟨e',h1,h2⟩:=ih h
    exact⟨e',List.mem_cons_of_mem _ h1,h2⟩
   |true=>
    rw[hb] at h
    simp only[cond_true,Nat.testBit_or,Bool.or_eq_true,iN,decide_eq_true_eq] at h
    rcases h with h |h
    ·obtain⟨e',h1,h2⟩:=ih h
     exact⟨e',List.mem_cons_of_mem _ h1,h2⟩
    ·exact⟨e,List.mem_cons_self ..,hb,h⟩
 obtain⟨e,h1,h2⟩:=key _ h
 exact⟨e,by simpa using h1,h2⟩
theorem Sx {o:Oper} {e:Edge} (he:e∈o.after) (hb:Region.binds .any e=true):Nat.testBit (bR o) e.on=true:=by
 have key:∀ (l:List Edge),e∈l→Nat.testBit (l.foldr (fun e m=>bif Region.binds .any e then m|||2^e.on else m) 0) e.on=true:=by
  intro l
  induction l with
  |nil=>intro h;cases h
  |cons e' r ih=>
   intro h
   simp only[List.foldr_cons]
   rcases List.mem_cons.1 h with rfl |h
   ·rw[hb]
    simp[Nat.testBit_or,iN]
   ·cases Region.binds .any e'<;>simp[Nat.testBit_or,ih h]
 exact key _ (by simpa using he)
theorem wc (i:Nat):∀ (r:List Nat) (j acc k:Nat),Nat.testBit acc k=true→Nat.testBit (bz i r j acc) k=true
 |[],_,_,_,h=>h
 |m::r,j,acc,k,h=>by
  simp only[bz]
  refine wc i r _ _ k ?_
  cases (Nat.beq j i|| !(Nat.beq (m&&&acc) 0))<;>simp[Nat.testBit_or,h]
theorem Fq (i:Nat):∀ (r:List Nat) (j acc:Nat),j≤i→i<j+r.length→Nat.testBit (bz i r j acc) i=true
 |[],_,_,h1,h2=>by simp at h2;omega
 |m::r,j,acc,h1,h2=>by
  simp only[bz]
  by_cases hj:j=i
  ·subst hj
   refine wc _ r _ _ _ ?_
   simp[Nat.testBit_or,iN]
  ·exact Fq i r _ _ (by omega) (by simp only[List.length_cons] at h2;omega)
theorem we (i:Nat):∀ (r:List Nat) (j acc k:Nat),Nat.testBit (bz i r j acc) k=true→
  Nat.testBit acc k=true∨∃ q m,k=j+q∧r[q]?=some m∧(k=i∨∃ t,Nat.testBit m t=true∧Nat.testBit (bz i r j acc) t=true)
 |[],_,_,_,h=>.inl h
 |m::r,j,acc,k,h=>by
  simp only[bz] at h ⊢
  rcases we i r _ _ k h with h1 |⟨q,m',h1,h2,h3⟩
  ·cases hc:(Nat.beq j i|| !(Nat.beq (m&&&acc) 0)) with
   |false=>rw[hc] at h1;exact .inl h1
   |true=>
    rw[hc] at h1
    simp only[cond_true,Nat.testBit_or,Bool.or_eq_true,iN,decide_eq_true_eq] at h1
    rcases h1 with h1 |rfl
    ·exact .inl h1
    ·refine .inr ⟨0,m,by omega,rfl,?_⟩
     rw[Bool.or_eq_true] at hc
     rcases hc with hc |hc
     ·exact .inl (Nat.eq_of_beq_eq_true hc)
     ·right
      have pj:m&&&acc≠0:=fun e=>by rw[e] at hc;cases hc
      obtain⟨t,ht⟩:=Nat.exists_testBit_of_ne_zero pj
      rw[Nat.testBit_and,Bool.and_eq_true] at ht
      refine⟨t,ht.1,wc i r _ _ t ?_⟩
      simp[Nat.testBit_or,ht.2]
  ·exact .inr ⟨q+1,m',by omega,by simpa using h2,h3⟩
theorem vo {oi:Oper} {rest:Nat}:∀ (r:List Oper) (j:Nat),xR O ops oi rest r j=true→∀ (q:Nat) (oj:Oper),r[q]?=some oj→Nat.testBit rest (j+q)=true→oi.apart ops oj=true∧DG O oj.op=true
 |[],_,_,q,oj,h,_=>by simp at h
 |o::r,j,h,q,oj,hq,ht=>by
  simp only[xR,Bool.and_eq_true] at h
  cases q with
  |zero=>
   simp only[List.getElem?_cons_zero,Option.some.injEq] at hq
   subst hq
   rw[Nat.add_zero] at ht
   rw[ht] at h
   simpa using h.1
  |succ q=>exact vo r (j+1) h.2 q oj (by simpa using hq) (by rw[←ht];congr 1;omega)
theorem ac9 (hT:dv P hh.tab=true) (h:bI σ w0 W0 Z H S a w) {i:Nat} {o:Oper} (ho:ops[i]?=some o) (hq:quiet o.op=true) (hn:qv o.op=false) (e:bE hh O ops i S K=some ret):
  ∃ v,YieldsIf P ops (Ext w) o v a∧HK w0 W0 Z H K ret (a.put o.dst v) w:=by
 rcases wb h ho e with⟨hw,eE,S',h',e'⟩ |⟨hw,N9⟩
 ·unfold iX at e'
  split at e'
  ·rename_i f as ts cA;rw[cA] at hq;cases hq
  ·rename_i i' as ts cA;rw[cA] at hq;cases hq
  ·rename_i cA;rw[cA] at hn;cases hn
  ·rename_i cA;rw[cA] at hn;cases hn
  ·split at e'
   case h_2=>cases e'
   rename_i g S1 Ht
   cases g with
   |false=>cases e'
   |true=>
    obtain⟨v,h1,h2⟩:=acQ hT h' hq Ht
    exact⟨v,.inl ⟨hw,h1⟩,S1,e',h2⟩
 ·exact⟨undef,.inr ⟨hw,rfl⟩,N9⟩
theorem kG {oi:Oper} {rest:Nat}:∀ (r:List Oper) (j:Nat),lp ops oi rest r j=true→∀ (q:Nat) (oj:Oper),r[q]?=some oj→Nat.testBit rest (j+q)=true→oi.apart ops oj=true
 |[],_,_,q,oj,h,_=>by simp at h
 |o::r,j,h,q,oj,hq,ht=>by
  simp only[lp,Bool.and_eq_true] at h
  cases q with
  |zero=>
   simp only[List.getElem?_cons_zero,Option.some.injEq] at hq
   subst hq
   rw[Nat.add_zero] at ht
   rw[ht] at h
   simpa using h.1
  |succ q=>exact kG r (j+1) h.2 q oj (by simpa using hq) (by rw[←ht];congr 1;omega)
theorem yn {oi:Oper} {rest:Nat}:∀ (r:List Oper) (j:Nat),(∀ (q:Nat) (oj:Oper),r[q]?=some oj→Nat.testBit rest (j+q)=true→oi.apart ops oj=true)→lp ops oi rest r j=true
 |[],_,_=>rfl
 |o::r,j,h=>by
  unfold lp
  rw[Bool.and_eq_true]
  refine⟨?_,yn r (j+1) fun q oj hq ht=>h (q+1) oj (by simpa using hq) (by rw[←ht];congr 1;omega)⟩
  cases hb:Nat.testBit rest j with
  |false=>rfl
  |true=>exact h 0 o rfl (by rw[Nat.add_zero];exact hb)
theorem Oa (hT:dv P hh.tab=true) (h:bI σ w0 W0 Z H S a w) {i:Nat} {o:Oper} (ho:ops[i]?=some o) (hqT:AT hh.tab o.op=true) (e:bE hh O ops i S K=some ret):
  ∃ v,YieldsIf P ops (fun _=>True) o v a∧HK w0 W0 Z H K ret (a.put o.dst v) w:=by
 have hq:still o.op=true:=by unfold AT at hqT;simp only[Bool.and_eq_true] at hqT;exact hqT.1.1
 have hnn:qv o.op=false:=by unfold AT at hqT;simp only[Bool.and_eq_true,Bool.not_eq_true'] at hqT;exact hqT.1.2
 have sz:Sn o.op=true:=by
  unfold still at hq
  split at hq<;>first |(rename_i cA;rw[cA];rfl) |cases hq
 rcases wb h ho e with⟨hw,eE,S',h',e'⟩ |⟨hw,N9⟩
 ·unfold iX at e'
  split at e'
  ·rename_i f as ts cA;rw[cA] at hq;cases hq
  ·rename_i i' as ts cA;rw[cA] at hq;cases hq
  ·rename_i cA;rw[cA] at hnn;simp[qv] at hnn
  ·rename_i cA;rw[cA] at hnn;simp[qv] at hnn
  ·split at e'
   case h_2=>cases e'
   rename_i g S1 Ht
   cases g with
   |false=>cases e'
   |true=>
    obtain⟨v,h1,h2⟩:=aq3 hT h' sz (by unfold AT at hqT;simp only[Bool.and_eq_true] at hqT;exact hqT.2) Ht
    exact⟨v,.inl ⟨hw,fun w _=>h1 w⟩,S1,e',h2⟩
 ·exact⟨undef,.inr ⟨hw,rfl⟩,N9⟩
def HL (ops:Array Oper) (bS:Array Bool) (L:Nat):Prop:=bS.size=ops.size∧∀ j,j<ops.size→bS[j]?=some (Nat.testBit L j)
theorem HL.set {bS:Array Bool} {L i:Nat} (h:HL ops bS L) (hi:i<ops.size):HL ops (bS.setIfInBounds i true) (L|||2^i):=by
 refine⟨by simp[h.1],fun j hj=>?_⟩
 rw[Array.getElem?_setIfInBounds]
 by_cases sy:i=j
 ·subst sy
  simp[h.1,hi,Nat.testBit_or,iN]
 ·rw[if_neg sy,h.2 j hj,Nat.testBit_or,iN]
  simp[sy]
theorem HL.getD {bS:Array Bool} {L:Nat} (h:HL ops bS L) {j:Nat} (hj:j<ops.size) (d:Bool):bS.getD j d=Nat.testBit L j:=by
 rw[Array.getD_eq_getD_getElem?,h.2 j hj];rfl
theorem HL.out {bS:Array Bool} {L:Nat} (h:HL ops bS L) {j:Nat} (hj: ¬j<ops.size) (d:Bool):bS.getD j d=d:=by
 rw[Array.getD_eq_getD_getElem?,Array.getElem?_eq_none (by rw[h.1];omega)];rfl
def aq' (ops:Array Oper) (as:List Nat) (i j:Nat):Prop:=∃ m oi oj,as[j]?=some m∧ops[i]?=some oi∧ops[j]?=some oj∧i≠j∧(Nat.testBit m i=true∨HY ops oi oj=true)
theorem wg {as:List Nat}:∀ {l:List Nat},ED ops as l=true↔l.Pairwise (aq' ops as)
 |[]=>by simp[ED]
 |i::r=>by
  simp only[ED,Bool.and_eq_true,List.all_eq_true,List.pairwise_cons,wg (l:=r)]
  refine and_congr (forall_congr' fun j=>forall_congr' fun hj=>?_) Iff.rfl
  constructor
  ·intro h
   split at h
   case h_2=>cases h
   rename_i m oi oj h1 h2 h3
   simp only[Bool.and_eq_true,Bool.not_eq_true',Bool.or_eq_true] at h
   exact⟨m,oi,oj,h1,h2,h3,fun e=>by(subst e;rw[Nat.beq_refl] at h;cases h.1),h.2⟩
  ·rintro⟨m,oi,oj,h1,h2,h3,h4,h5⟩
   rw[h1,h2,h3]
   simp only[Bool.and_eq_true,Bool.not_eq_true',Bool.or_eq_true]
   refine⟨?_,h5⟩
   cases hb:Nat.beq i j with
   |false=>rfl
   |true=>exact absurd (Nat.eq_of_beq_eq_true hb) h4
theorem Iu {as:List Nat}:∀ (l:List Nat) {L L':Nat},(∀ k,Nat.testBit L k=true→Nat.testBit L' k=true)→nj as L l=true→nj as L' l=true
 |[],_,_,_,_=>rfl
 |i::r,L,L',hL,h=>by
  simp only[nj,Bool.and_eq_true] at h ⊢
  refine⟨?_,Iu r (fun k hk=>?_) h.2⟩
  ·have h1:=h.1
   split at h1
   case h_2=>cases h1
   rename_i m hm
   have h2:=Nat.eq_of_beq_eq_true h1
   have:m&&&L'=m:=Nat.eq_of_testBit_eq fun k=>by
    rw[Nat.testBit_and]
    cases hk:Nat.testBit m k with
    |false=>rfl
    |true=>
     have h3:Nat.testBit (m&&&L) k=true:=by rw[h2];exact hk
     rw[Nat.testBit_and,hk] at h3
     rw[hL k (by simpa using h3)]
     rfl
   rw[this]
   exact Nat.beq_refl m
  ·rw[Nat.testBit_or,Bool.or_eq_true] at hk ⊢
   exact hk.imp (hL k) id
theorem Fs {as:List Nat} {j:Nat}:∀ (p r:List Nat) {L:Nat},nj as L (p++j::r)=true→nj as (L|||2^j) (p++r)=true
 |[],r,L,h=>by
  simp only[List.nil_append,nj,Bool.and_eq_true] at h
  exact h.2
 |x::p,r,L,h=>by
  simp only[List.cons_append,nj,Bool.and_eq_true] at h ⊢
  have h0:nj as (L|||2^j) [x]=true:=Iu [x] (L:=L) (fun k hk=>by rw[Nat.testBit_or,hk];rfl) (by simp only[nj,Bool.and_eq_true];exact⟨h.1,trivial⟩)
  simp only[nj,Bool.and_eq_true] at h0
  refine⟨h0.1,?_⟩
  have:=Fs p r h.2
  rwa [Nat.or_assoc,Nat.or_comm (2^x),←Nat.or_assoc] at this
theorem jK:∀ (l:List Nat) (k:Nat),Nat.testBit (fc l) k=decide (k∈l)
 |[],k=>by simp[fc]
 |i::r,k=>by
  have h:fc (i::r)=fc r|||2^i:=rfl
  rw[h,Nat.testBit_or,jK r k,iN]
  by_cases h1:k∈r<;>by_cases h2:i=k<;>simp[h1,h2,eq_comm]
def OT.bare:OT→Prop
 | .own _ _=>False
 | .cut _ _=>False
 |_=>True
theorem uy:∀ (l:OT) {S:St} {a:Act} {w:World},bK hh O ops l S K=some ret→Rel w0 W0 Z H S a w→
  ∃ (l':OT) (S':St),l'.bare∧bK hh O ops l' S' K=some ret∧Rel w0 W0 Z H S' a w∧l'.len=l.len∧∀ (Θ:ee) (as:List Nat) (full L:Nat),fS Θ O ops as full L l=true→fS Θ O ops as full L l'=true
 | .own d t,S,a,w,e,h=>by
  simp only[bK] at e
  split at e
  case h_2=>cases e
  rename_i g S1 hg
  cases g with
  |false=>cases e
  |true=>
   obtain⟨l',S',h1,h2,h3,h4,h5⟩:=uy t e (Zj h hg)
   exact⟨l',S',h1,h2,h3,by simp only[OT.len];exact h4,fun Θ as full L ho=>h5 Θ as full L (by simpa only[fS] using ho)⟩
 | .cut ks t,S,a,w,e,h=>by
  simp only[bK] at e
  split at e
  case h_2=>cases e
  rename_i S1 hg
  obtain⟨l',S',h1,h2,h3,h4,h5⟩:=uy t e (ob h hg)
  exact⟨l',S',h1,h2,h3,by simp only[OT.len];exact h4,fun Θ as full L ho=>h5 Θ as full L (by simpa only[fS] using ho)⟩
 | .done,S,a,w,e,h=>⟨.done,S,trivial,e,h,rfl,fun _ _ _ _ h=>h⟩
 | .one i t,S,a,w,e,h=>⟨.one i t,S,trivial,e,h,rfl,fun _ _ _ _ h=>h⟩
 | .any q t,S,a,w,e,h=>⟨.any q t,S,trivial,e,h,rfl,fun _ _ _ _ h=>h⟩
 | .par q ds t,S,a,w,e,h=>⟨.par q ds t,S,trivial,e,h,rfl,fun _ _ _ _ h=>h⟩
theorem ac' (hT:dv P hh.tab=true) (hO:pJ Γ P O w0 W0) (hQ:∀ a w,HK w0 W0 Z H K ret a w→Q .normal a w) (DQ:∀ c a w,¬Q (.panic c) a w) (Fo:Region.noSelect ops=true):
  ∀ (n:Nat) (L:Nat) (l:OT) {bS:Array Bool} {S:St} {a:Act} {w:World},fS hh.tab O ops (ops.toList.map bR) (2^ops.size - 1) L l=true→HL ops bS L→l.len≤n→bK hh O ops l S K=some ret→Rel w0 W0 Z H S a w→
   wpE P ops Q (fun j=>match ops[j]? with |some o=>DG O o.op |none=>false) n bS a w:=by
 have au6:∀ {bS:Array Bool} {L:Nat},HL ops bS L→L=2^ops.size - 1→Region.ready .any ops bS=[]:=by
  intro bS L hb hL
  refine List.eq_nil_iff_forall_not_mem.2 fun j hj=>?_
  obtain⟨h1,oj,h2,_⟩:=mem_ready.1 hj
  have hj:=(Array.getElem?_eq_some_iff.1 h2).1
  rw[hb.getD hj,hL,Nat.testBit_two_pow_sub_one] at h1
  simp[hj] at h1
 intro n
 induction n with
 |zero=>
  intro L l bS S a w ho hb hn e h
  obtain⟨l,S,Ob,e,h,hlen,rY⟩:=uy l e h
  replace ho:=rY _ _ _ _ ho
  rw[←hlen] at hn
  clear rY hlen
  cases l with
  |own _ _=>exact Ob.elim
  |cut _ _=>exact Ob.elim
  |one _ _=>simp[OT.len] at hn
  |any q _=>
   cases q with
   |nil=>simp[fS,ah2] at ho
   |cons _ _=>simp[OT.len] at hn
  |par q _ _=>
   cases q with
   |nil=>simp[fS,ah3] at ho
   |cons _ _=>simp[OT.len] at hn
  |done=>
   simp only[fS] at ho
   exact⟨au6 hb (Nat.eq_of_beq_eq_true ho),hQ a w ⟨S,e,h⟩⟩
 |succ n ih=>
  intro L l bS S a w ho hb hn e h
  obtain⟨l,S,Ob,e,h,hlen,rY⟩:=uy l e h
  replace ho:=rY _ _ _ _ ho
  rw[←hlen] at hn
  clear rY hlen
  have Se:∀ (l:OT) (L:Nat),fS hh.tab O ops (ops.toList.map bR) (2^ops.size - 1) L l=true→L<2^ops.size:=by
   intro l
   induction l with
   |done=>
    intro L h
    have:=Nat.eq_of_beq_eq_true h
    have:=Nat.two_pow_pos ops.size
    omega
   |one i t ih=>
    intro L h
    simp only[fS,Bool.and_eq_true] at h
    exact Nat.lt_of_le_of_lt Nat.left_le_or (ih _ h.2)
   |any q t ih=>
    intro L h
    simp only[fS,Bool.and_eq_true] at h
    exact Nat.lt_of_le_of_lt Nat.left_le_or (ih _ h.2)
   |par q ds t ih=>
    intro L h
    simp only[fS,Bool.and_eq_true] at h
    exact Nat.lt_of_le_of_lt Nat.left_le_or (ih _ h.2)
   |own d t ih=>
    intro L h
    simp only[fS] at h
    exact ih _ h
   |cut ks t ih=>
    intro L h
    simp only[fS] at h
    exact ih _ h
  have hL2:=Se l L ho
  have Sy:∀ (i:Nat) (oi:Oper),ops[i]?=some oi→bz i (ops.toList.map bR) 0 0&&&L=0→
    (∀ j,Nat.testBit (bz i (ops.toList.map bR) 0 0) j=true→Nat.testBit L j=false)∧Nat.testBit (bz i (ops.toList.map bR) 0 0) i=true∧
    (∀ j oj,ops[j]?=some oj→Nat.testBit (bz i (ops.toList.map bR) 0 0) j=true→j≠i→∃ e∈oj.after,Region.binds .any e=true∧Nat.testBit (bz i (ops.toList.map bR) 0 0) e.on=true)∧
    (∀ j,Nat.testBit (bz i (ops.toList.map bR) 0 0) j=true→j<ops.size):=by
   intro i oi Iv c3
   have hi:i<ops.size:=(Array.getElem?_eq_some_iff.1 Iv).1
   have hW3:∀ j,Nat.testBit (bz i (ops.toList.map bR) 0 0) j=true→Nat.testBit L j=false:=fun j hj=>by
    have:Nat.testBit (bz i (ops.toList.map bR) 0 0&&&L) j=false:=by rw[c3];simp
    rw[Nat.testBit_and,hj] at this
    simpa using this
   have hWi:Nat.testBit (bz i (ops.toList.map bR) 0 0) i=true:=Fq i _ 0 0 (Nat.zero_le _) (by simpa using hi)
   have hWs:∀ j oj,ops[j]?=some oj→Nat.testBit (bz i (ops.toList.map bR) 0 0) j=true→j≠i→∃ e∈oj.after,Region.binds .any e=true∧Nat.testBit (bz i (ops.toList.map bR) 0 0) e.on=true:=fun j oj pg hj mn=>by
    rcases we i _ _ _ j hj with hx |⟨q,m,hq,hm,hx⟩
    ·simp at hx
    ·rw[Nat.zero_add] at hq
     subst hq
     rw[List.getElem?_map,Array.getElem?_toList,pg] at hm
     simp only[Option.map_some,Option.some.injEq] at hm
     subst hm
     rcases hx with hx |⟨t,h1,h2⟩
     ·exact absurd hx mn
     ·obtain⟨e,he,hbd,rfl⟩:=C2 h1
      exact⟨e,he,hbd,h2⟩
   have JA:∀ j,Nat.testBit (bz i (ops.toList.map bR) 0 0) j=true→j<ops.size:=fun j hj=>by
    rcases we i _ _ _ j hj with hx |⟨q,m,hq,hm,hx⟩
    ·simp at hx
    ·have:=(List.getElem?_eq_some_iff.1 hm).1
     simp at this
     omega
   exact⟨hW3,hWi,hWs,JA⟩
  have facts:∀ (i:Nat) (oi:Oper),ops[i]?=some oi→Nat.testBit L i=false→bR oi&&&L=bR oi→bz i (ops.toList.map bR) 0 0&&&L=0→
    (∀ j,Nat.testBit (bz i (ops.toList.map bR) 0 0) j=true→Nat.testBit L j=false)∧Nat.testBit (bz i (ops.toList.map bR) 0 0) i=true∧
    (∀ j oj,ops[j]?=some oj→Nat.testBit (bz i (ops.toList.map bR) 0 0) j=true→j≠i→∃ e∈oj.after,Region.binds .any e=true∧Nat.testBit (bz i (ops.toList.map bR) 0 0) e.on=true)∧
    (∀ j,Nat.testBit (bz i (ops.toList.map bR) 0 0) j=true→j<ops.size)∧i∈Region.ready .any ops bS:=by
   intro i oi Iv c1 c2 c3
   have hi:i<ops.size:=(Array.getElem?_eq_some_iff.1 Iv).1
   obtain⟨hW3,hWi,hWs,JA⟩:=Sy i oi Iv c3
   refine⟨hW3,hWi,hWs,JA,mem_ready.2 ⟨by rw[hb.getD hi];exact c1,oi,Iv,fun e he hbd=>?_⟩⟩
   have h1:=Sx he hbd
   have h2:Nat.testBit (bR oi&&&L) e.on=true:=by rw[c2];exact h1
   rw[Nat.testBit_and,h1] at h2
   have h3:Nat.testBit L e.on=true:=by simpa using h2
   by_cases hl:e.on<ops.size
   ·rw[hb.getD hl];exact h3
   ·rw[Nat.testBit_lt_two_pow (Nat.lt_of_lt_of_le hL2 (Nat.pow_le_pow_right (by decide) (by omega)))] at h3
    cases h3
  cases l with
  |done=>
   simp only[fS] at ho
   have hr:=au6 hb (Nat.eq_of_beq_eq_true ho)
   exact⟨fun _=>hQ a w ⟨S,e,h⟩,fun i hi=>by rw[hr] at hi;cases hi⟩
  |own _ _=>exact Ob.elim
  |cut _ _=>exact Ob.elim
  |any q t=>
   simp only[fS,Bool.and_eq_true] at ho
   obtain⟨hc,hot⟩:=ho
   have vp:=hc
   unfold ah2 at hc
   simp only[Bool.and_eq_true,Bool.not_eq_true',List.all_eq_true] at hc
   obtain⟨⟨⟨pj,mu⟩,Sz⟩,Ft⟩:=hc
   have Oc:=wg.1 Sz
   have get:∀ i∈q,∃ oi,ops[i]?=some oi∧i<ops.size:=fun i hi=>by
    have h1:i<ops.size:=Nat.lt_of_lt_of_le (Nat.lt_succ_self _) (Nat.le_of_ble_eq_true (mu i hi).1.1.1)
    exact⟨ops[i],Array.getElem?_eq_getElem h1,h1⟩
   have unl:∀ i∈q,Nat.testBit L i=false:=fun i hi=>(mu i hi).1.1.2
   -- the first is ready
   obtain⟨i0,q0,rfl⟩:∃ i0 q0,q=i0::q0:=by
    cases q with
    |nil=>simp at pj
    |cons i0 q0=>exact⟨i0,q0,rfl⟩
   obtain⟨oi0,HM,JB⟩:=get i0 (by simp)
   have hd0:=Ft
   simp only[nj,Bool.and_eq_true] at hd0
   have hd1:=hd0.1
   rw[List.getElem?_map,Array.getElem?_toList,HM] at hd1
   simp only[Option.map_some] at hd1
   obtain⟨_,_,_,_,hr0⟩:=facts i0 oi0 HM (unl i0 (by simp)) (Nat.eq_of_beq_eq_true hd1) (Nat.eq_of_beq_eq_true (mu i0 (by simp)).1.2)
   refine⟨fun hx=>(by rw[hx] at hr0;cases hr0),fun j hj=>?_⟩
   obtain⟨j1,oj,pg,j3⟩:=mem_ready.1 hj
   have ur:=(Array.getElem?_eq_some_iff.1 pg).1
   have wh:∀ i∈i0::q0,j≠i→Nat.testBit (bz i (ops.toList.map bR) 0 0) j=false:=fun i hi mn=>by
    cases hw:Nat.testBit (bz i (ops.toList.map bR) 0 0) j with
    |false=>rfl
    |true=>
     exfalso
     obtain⟨oi,Iv,H2⟩:=get i hi
     obtain⟨w3,_,ws,wlt⟩:=Sy i oi Iv (Nat.eq_of_beq_eq_true (mu i hi).1.2)
     obtain⟨e,he,hbd,h6⟩:=ws j oj pg hw mn
     have h7:=j3 e he hbd
     rw[hb.getD (wlt _ h6),w3 _ h6] at h7
     cases h7
   have hjq:j∈i0::q0:=by
    refine Classical.byContradiction fun hnj=>?_
    have hz:=Nat.eq_of_beq_eq_true (mu i0 (by simp)).2
    have h4:Nat.testBit (2^ops.size - 1^^^(bz i0 (ops.toList.map bR) 0 0|||L|||fc (i0::q0))) j=false:=by rw[hz];simp
    rw[Nat.testBit_xor,Nat.testBit_two_pow_sub_one,Nat.testBit_or,Nat.testBit_or,jK,wh i0 (by simp) (fun e=>hnj (by simp[e]))] at h4
    rw[hb.getD ur] at j1
    rw[j1] at h4
    simp[ur,hnj] at h4
   obtain⟨p,r,Zh⟩:=List.append_of_mem hjq
   rw[Zh] at vp Oc Ft mu wh unl e hn
   clear hd0 hd1 hr0 hjq get
   have SA:∀ x∈p,∃ ox,ops[x]?=some ox∧HY ops ox oj=true:=fun x hx=>by
    obtain⟨m,ox,oj',h1,h2,h3,h4,h5⟩:=(List.pairwise_append.1 Oc).2.2 x hx j (by simp)
    rw[pg] at h3
    injection h3 with h3
    subst h3
    refine⟨ox,h2,h5.resolve_left fun hm=>?_⟩
    rw[List.getElem?_map,Array.getElem?_toList,pg] at h1
    simp only[Option.map_some,Option.some.injEq] at h1
    subst h1
    obtain⟨e,he,hbd,rfl⟩:=C2 hm
    have h7:=j3 e he hbd
    have hxl:=(Array.getElem?_eq_some_iff.1 h2).1
    rw[hb.getD hxl,unl _ (by simp[hx])] at h7
    cases h7
   simp only[bK] at e
   have e2:=H8 hO.det pg p r SA e
   unfold n6 at e2
   rw[pg] at e2
   simp only at e2
   cases gj:k8 O ops S oj with
   |false=>rw[gj] at e2;cases e2
   |true=>
   rw[gj] at e2
   simp only[cond_true] at e2
   obtain⟨σ,h⟩:=h
   refine wpOp_mono (fun a' w' h'=>?_) (ym hT hO h e2)
   obtain⟨⟨S',k1,k2⟩,k3⟩:=h'
   have hjn:j∉p++r:=fun hx=>by
    rw[List.pairwise_append,List.pairwise_cons] at Oc
    rcases List.mem_append.1 hx with hx |hx
    ·obtain⟨_,_,_,_,_,_,h4,_⟩:=Oc.2.2 j hx j (by simp);exact h4 rfl
    ·obtain⟨_,_,_,_,_,_,h4,_⟩:=Oc.2.1.1 j hx;exact h4 rfl
   have Od:L|||fc (p++j::r)=L|||2^j|||fc (p++r):=Nat.eq_of_testBit_eq fun k=>by
    rw[Nat.testBit_or,Nat.testBit_or,Nat.testBit_or,jK,jK,iN]
    have hm:decide (k∈p++j::r)=(decide (j=k)||decide (k∈p++r)):=by
     rw[←Bool.decide_or]
     apply decide_eq_decide.2
     simp only[List.mem_append,List.mem_cons]
     constructor
     ·rintro(h |h |h)
      ·exact .inr (.inl h)
      ·exact .inl h.symm
      ·exact .inr (.inr h)
     ·rintro(h |h |h)
      ·exact .inr (.inl h.symm)
      ·exact .inl h
      ·exact .inr (.inr h)
    rw[hm,Bool.or_assoc]
   refine⟨fun had=>?_,?_⟩
   ·simp only[pg] at had
    exact k3 oj pg had
   ·have SB:fS hh.tab O ops (ops.toList.map bR) (2^ops.size - 1) (L|||2^j|||fc (p++r)) t=true:=by rw[←Od,←Zh];exact hot
    cases hpe:p++r with
    |nil=>
     rw[hpe] at k1 SB
     simp only[n6] at k1
     refine ih _ t (by simpa[fc] using SB) (hb.set ur) ?_ k1 k2
     simp only[OT.len,List.length_append,List.length_cons] at hn
     omega
    |cons z zs=>
     refine ih (L|||2^j) (.any (p++r) t) ?_ (hb.set ur) ?_ k1 k2
     ·simp only[fS,Bool.and_eq_true]
      refine⟨?_,SB⟩
      unfold ah2
      simp only[Bool.and_eq_true,Bool.not_eq_true',List.all_eq_true]
      refine⟨⟨⟨by rw[hpe];rfl,fun i hi=>?_⟩,wg.2 (Oc.sublist (by simp))⟩,Fs p r Ft⟩
      have sO:i∈p++j::r:=by simp only[List.mem_append,List.mem_cons] at hi ⊢;exact hi.imp id .inr
      have sy:j≠i:=fun e=>hjn (by rw[e];exact hi)
      obtain⟨⟨⟨m1,m2⟩,m3⟩,m4⟩:=mu i sO
      refine⟨⟨⟨m1,?_⟩,?_⟩,?_⟩
      ·rw[Nat.testBit_or,m2,iN];simp[sy]
      ·have hz:bz i (ops.toList.map bR) 0 0&&&(L|||2^j)=0:=Nat.eq_of_testBit_eq fun k=>by
        have hk:Nat.testBit (bz i (ops.toList.map bR) 0 0&&&L) k=false:=by rw[Nat.eq_of_beq_eq_true m3];simp
        rw[Nat.testBit_and] at hk
        rw[Nat.testBit_and,Nat.testBit_or,iN,Nat.zero_testBit]
        by_cases hkj:j=k
        ·subst hkj
         rw[wh i sO sy]
         rfl
        ·simp only[hkj,decide_false,Bool.or_false]
         exact hk
       rw[hz];rfl
      ·have hz:=Nat.eq_of_beq_eq_true m4
       have:bz i (ops.toList.map bR) 0 0|||(L|||2^j)|||fc (p++r)=bz i (ops.toList.map bR) 0 0|||L|||fc (p++j::r):=by rw[Nat.or_assoc,←Od,Nat.or_assoc]
       rw[this]
       exact m4
     ·simp only[OT.len,List.length_append,List.length_cons] at hn ⊢
      omega
  |par q ds t=>
   simp only[fS,Bool.and_eq_true] at ho
   obtain⟨hc,hot⟩:=ho
   have vp:=hc
   unfold ah3 at hc
   simp only[Bool.and_eq_true,Bool.not_eq_true',List.all_eq_true] at hc
   obtain⟨⟨⟨⟨pj,mu⟩,Sz⟩,Ft⟩,SC⟩:=hc
   have Oc:=oY.1 Sz
   have get:∀ i∈q,∃ oi,ops[i]?=some oi∧i<ops.size:=fun i hi=>by
    have h1:i<ops.size:=Nat.lt_of_lt_of_le (Nat.lt_succ_self _) (Nat.le_of_ble_eq_true (mu i hi).1.1.1)
    exact⟨ops[i],Array.getElem?_eq_getElem h1,h1⟩
   have unl:∀ i∈q,Nat.testBit L i=false:=fun i hi=>(mu i hi).1.1.2
   -- the first is ready
   obtain⟨i0,q0,rfl⟩:∃ i0 q0,q=i0::q0:=by
    cases q with
    |nil=>simp at pj
    |cons i0 q0=>exact⟨i0,q0,rfl⟩
   obtain⟨oi0,HM,JB⟩:=get i0 (by simp)
   have hd0:=Ft
   simp only[nj,Bool.and_eq_true] at hd0
   have hd1:=hd0.1
   rw[List.getElem?_map,Array.getElem?_toList,HM] at hd1
   simp only[Option.map_some] at hd1
   obtain⟨hW3,hWi,hWs,JA,hr0⟩:=facts i0 oi0 HM (unl i0 (by simp)) (Nat.eq_of_beq_eq_true hd1) (Nat.eq_of_beq_eq_true (mu i0 (by simp)).1.2)
   have side:∀ x∈i0::q0,∀ ox,ops[x]?=some ox→EC ds ox=true∧qv ox.op=false:=fun x hx ox hox=>by
    have:=SC x hx
    rw[hox] at this
    simpa only[Bool.and_eq_true,Bool.not_eq_true'] using this
   -- those that wait for none that is ready
   have wh:∀ j,j∈Region.ready .any ops bS→∀ i∈i0::q0,j≠i→Nat.testBit (bz i (ops.toList.map bR) 0 0) j=false:=fun j hj i hi mn=>by
    obtain⟨j1,oj,pg,j3⟩:=mem_ready.1 hj
    cases hw:Nat.testBit (bz i (ops.toList.map bR) 0 0) j with
    |false=>rfl
    |true=>
     exfalso
     obtain⟨oi,Iv,H2⟩:=get i hi
     obtain⟨w3,_,ws,wlt⟩:=Sy i oi Iv (Nat.eq_of_beq_eq_true (mu i hi).1.2)
     obtain⟨e,he,hbd,h6⟩:=ws j oj pg hw mn
     have h7:=j3 e he hbd
     rw[hb.getD (wlt _ h6),w3 _ h6] at h7
     cases h7
   -- when one of them is done
   have tail:∀ (p r:List Nat) (j:Nat),i0::q0=p++j::r→j∈Region.ready .any ops bS→∀ {S':St} {a':Act} {w':World},(bif mo ds S' then n5 hh O ops (p++r) S' (fun S1=>bK hh O ops t S1 K) else none)=some ret→Rel w0 W0 Z H S' a' w'→
     wpE P ops Q (fun j=>match ops[j]? with |some o=>DG O o.op |none=>false) n (bS.setIfInBounds j true) a' w':=by
    intro p r j Zh hjr S' a' w' k1 k2
    have ur:j<ops.size:=by
     obtain⟨_,oj,pg,_⟩:=mem_ready.1 hjr
     exact(Array.getElem?_eq_some_iff.1 pg).1
    have hnw:=wh j hjr
    rw[Zh] at Oc Ft mu SC hn hnw
    have hjn:j∉p++r:=fun hx=>by
     rw[List.pairwise_append,List.pairwise_cons] at Oc
     rcases List.mem_append.1 hx with hx |hx
     ·obtain⟨_,_,_,_,h4,_⟩:=Oc.2.2 j hx j (by simp);exact h4 rfl
     ·obtain⟨_,_,_,_,h4,_⟩:=Oc.2.1.1 j hx;exact h4 rfl
    have Od:L|||fc (p++j::r)=L|||2^j|||fc (p++r):=Nat.eq_of_testBit_eq fun k=>by
     rw[Nat.testBit_or,Nat.testBit_or,Nat.testBit_or,jK,jK,iN]
     have hm:decide (k∈p++j::r)=(decide (j=k)||decide (k∈p++r)):=by
      rw[←Bool.decide_or]
      apply decide_eq_decide.2
      simp only[List.mem_append,List.mem_cons]
      constructor
      ·rintro(h |h |h)
       ·exact .inr (.inl h)
       ·exact .inl h.symm
       ·exact .inr (.inr h)
      ·rintro(h |h |h)
       ·exact .inr (.inl h.symm)
       ·exact .inl h
       ·exact .inr (.inr h)
     rw[hm,Bool.or_assoc]
    have SB:fS hh.tab O ops (ops.toList.map bR) (2^ops.size - 1) (L|||2^j|||fc (p++r)) t=true:=by rw[←Od,←Zh];exact hot
    cases hpe:p++r with
    |nil=>
     rw[hpe] at k1 SB
     simp only[n5] at k1
     cases hw1:mo ds S' with
     |false=>rw[hw1] at k1;cases k1
     |true=>
     rw[hw1] at k1
     simp only[cond_true] at k1
     refine ih _ t (by simpa[fc] using SB) (hb.set ur) ?_ k1 k2
     simp only[OT.len,List.length_append,List.length_cons] at hn
     omega
    |cons z zs=>
     refine ih (L|||2^j) (.par (p++r) ds t) ?_ (hb.set ur) ?_ k1 k2
     ·simp only[fS,Bool.and_eq_true]
      refine⟨?_,SB⟩
      unfold ah3
      simp only[Bool.and_eq_true,Bool.not_eq_true',List.all_eq_true]
      refine⟨⟨⟨⟨by rw[hpe];rfl,fun i hi=>?_⟩,oY.2 (Oc.sublist (by simp))⟩,Fs p r Ft⟩,fun i hi=>SC i (by simp only[List.mem_append,List.mem_cons] at hi ⊢;exact hi.imp id .inr)⟩
      have sO:i∈p++j::r:=by simp only[List.mem_append,List.mem_cons] at hi ⊢;exact hi.imp id .inr
      have sy:j≠i:=fun e=>hjn (by rw[e];exact hi)
      obtain⟨⟨⟨m1,m2⟩,m3⟩,m4⟩:=mu i sO
      refine⟨⟨⟨m1,?_⟩,?_⟩,?_⟩
      ·rw[Nat.testBit_or,m2,iN];simp[sy]
      ·have hz:bz i (ops.toList.map bR) 0 0&&&(L|||2^j)=0:=Nat.eq_of_testBit_eq fun k=>by
        have hk:Nat.testBit (bz i (ops.toList.map bR) 0 0&&&L) k=false:=by rw[Nat.eq_of_beq_eq_true m3];simp
        rw[Nat.testBit_and] at hk
        rw[Nat.testBit_and,Nat.testBit_or,iN,Nat.zero_testBit]
        by_cases hkj:j=k
        ·subst hkj
         rw[hnw i sO sy]
         rfl
        ·simp only[hkj,decide_false,Bool.or_false]
         exact hk
       rw[hz];rfl
      ·rw[Bool.or_eq_true] at m4 ⊢
       refine m4.imp (fun m4=>?_) fun m4=>?_
       ·have:bz i (ops.toList.map bR) 0 0|||(L|||2^j)|||fc (p++r)=bz i (ops.toList.map bR) 0 0|||L|||fc (p++j::r):=by rw[Nat.or_assoc,←Od,Nat.or_assoc]
        rw[this]
        exact m4
       ·unfold ab5 at m4 ⊢
        split at m4
        case h_2=>cases m4
        rename_i oi Iv
        rw[Bool.and_eq_true] at m4 ⊢
        refine⟨m4.1,yn _ _ fun k ok hk ara=>kG _ _ m4.2 k ok hk ?_⟩
        rw[Nat.testBit_xor,Nat.testBit_and,Nat.testBit_or,Nat.testBit_or] at ara ⊢
        rw[Nat.testBit_or] at ara
        revert ara
        cases Nat.testBit (2^ops.size - 1) (0+k)<;>cases Nat.testBit (bz i (ops.toList.map bR) 0 0) (0+k)<;>cases Nat.testBit L (0+k)<;>cases Nat.testBit (bR oi) (0+k)<;>simp
     ·simp only[OT.len,List.length_append,List.length_cons] at hn ⊢
      omega
   simp only[bK] at e
   cases hwh:mo ds S with
   |false=>rw[hwh] at e;cases e
   |true=>
   rw[hwh] at e
   simp only[cond_true] at e
   rcases(Bool.or_eq_true _ _).mp (mu i0 (by simp)).2 with hz |hz
   rotate_left
   ·-- the first may always go first
    unfold ab5 at hz
    rw[HM] at hz
    simp only[Bool.and_eq_true] at hz
    obtain⟨hq,Sh⟩:=hz
    obtain⟨s1,s2⟩:=side i0 (by simp) oi0 HM
    have e2:bE hh O ops i0 S (fun S1=>bif mo ds S1 then n5 hh O ops ([]++q0) S1 (fun S1=>bK hh O ops t S1 K) else none)=some ret:=by
     simp only[n5] at e
     obtain⟨X,x1,x2,x3⟩:=vW hO.det hwh HM s1 s2 e
     rw[x1,x2]
     exact x3
    obtain⟨σ,h⟩:=h
    obtain⟨v,hy,S',k1,k2⟩:=Oa hT h HM hq e2
    refine Fp HM (Region.noSelect_spec Fo) (fun c a w hx=>absurd hx (DQ _ _ _)) (D:=fun j=>Nat.testBit (bz i0 (ops.toList.map bR) 0 0) j) hWi hWs n bS a w (fun j hd=>?_) (fun j oj pg hd HD=>?_) hr0 hy (tail [] q0 i0 rfl hr0 k1 k2)
    ·rw[hb.getD (JA j hd)];exact hW3 j hd
    ·have ur:=(Array.getElem?_eq_some_iff.1 pg).1
     refine kG ops.toList 0 Sh j oj (by rw[Array.getElem?_toList];exact pg) ?_
     rw[hb.getD ur] at HD
     try simp only at hd
     have haf:Nat.testBit (bR oi0) j=false:=by
      cases hx:Nat.testBit (bR oi0) j with
      |false=>rfl
      |true=>
       exfalso
       have h2:Nat.testBit (bR oi0&&&L) j=true:=by rw[Nat.eq_of_beq_eq_true hd1];exact hx
       rw[Nat.testBit_and,hx,HD] at h2
       cases h2
     rw[Nat.zero_add,Nat.testBit_xor,Nat.testBit_and,Nat.testBit_two_pow_sub_one,Nat.testBit_or,Nat.testBit_or,hd,HD,haf]
     simp[ur]
   refine⟨fun hx=>(by rw[hx] at hr0;cases hr0),fun j hj=>?_⟩
   obtain⟨j1,oj,pg,j3⟩:=mem_ready.1 hj
   have ur:=(Array.getElem?_eq_some_iff.1 pg).1
   have hjq:j∈i0::q0:=by
    refine Classical.byContradiction fun hnj=>?_
    have hz:=Nat.eq_of_beq_eq_true hz
    have h4:Nat.testBit (2^ops.size - 1^^^(bz i0 (ops.toList.map bR) 0 0|||L|||fc (i0::q0))) j=false:=by rw[hz];simp
    rw[Nat.testBit_xor,Nat.testBit_two_pow_sub_one,Nat.testBit_or,Nat.testBit_or,jK,wh j hj i0 (by simp) (fun e=>hnj (by simp[e]))] at h4
    rw[hb.getD ur] at j1
    rw[j1] at h4
    simp[ur,hnj] at h4
   obtain⟨p,r,Zh⟩:=List.append_of_mem hjq
   have SA:∀ x∈p,∃ ox,ops[x]?=some ox∧EC ds ox=true∧qv ox.op=false∧(YQ ds ox oj=true∨exB ox oj=true):=fun x hx=>by
    rw[Zh] at Oc
    obtain⟨ox,oj',h2,h3,h4,h5⟩:=(List.pairwise_append.1 Oc).2.2 x hx j (by simp)
    rw[pg] at h3
    injection h3 with h3
    subst h3
    obtain⟨s1,s2⟩:=side x (by rw[Zh];simp[hx]) ox h2
    refine⟨ox,h2,s1,s2,h5.resolve_left fun hm=>?_⟩
    rw[wh j hj x (by rw[Zh];simp[hx]) (Ne.symm h4)] at hm
    cases hm
   have e':=e
   rw[Zh] at e'
   have e3:=Ig hO.det pg p r hwh SA e'
   obtain⟨sj1,sj2⟩:=side j hjq oj pg
   have e2:bE hh O ops j S (fun S1=>bif mo ds S1 then n5 hh O ops (p++r) S1 (fun S1=>bK hh O ops t S1 K) else none)=some ret:=by
    obtain⟨X,x1,x2,x3⟩:=vW hO.det hwh pg sj1 sj2 e3
    rw[x1,x2]
    exact x3
   obtain⟨σ,h⟩:=h
   refine wpOp_mono (fun a' w' h'=>?_) (ym hT hO h e2)
   obtain⟨⟨S',k1,k2⟩,k3⟩:=h'
   refine⟨fun had=>?_,tail p r j Zh hj k1 k2⟩
   simp only[pg] at had
   exact k3 oj pg had
  |one i l=>
   simp only[fS,Bool.and_eq_true] at ho
   obtain⟨hc,ho⟩:=ho
   unfold ab4 at hc
   split at hc
   case h_2=>cases hc
   rename_i m oi hm Iv
   have hi:i<ops.size:=(Array.getElem?_eq_some_iff.1 Iv).1
   rw[List.getElem?_map,Array.getElem?_toList,Iv] at hm
   simp only[Option.map_some,Option.some.injEq] at hm
   subst hm
   simp only[Bool.and_eq_true,Bool.not_eq_true'] at hc
   obtain⟨⟨⟨c1,c2⟩,c3⟩,c4⟩:=hc
   have c2:=Nat.eq_of_beq_eq_true c2
   have c3:=Nat.eq_of_beq_eq_true c3
   have Zm:l.len≤n:=by simp only[OT.len] at hn;omega
   obtain⟨hW3,hWi,hWs,JA,JC⟩:=facts i oi Iv c1 c2 c3
   rw[Bool.or_eq_true] at c4
   have NI:∀ j,j<ops.size→Nat.testBit (2^ops.size - 1^^^(bz i (ops.toList.map bR) 0 0|||L)) j=!(Nat.testBit (bz i (ops.toList.map bR) 0 0) j||Nat.testBit L j):=fun j hj=>by
    rw[Nat.testBit_xor,Nat.testBit_two_pow_sub_one,Nat.testBit_or]
    simp[hj]
   simp only[bK] at e
   obtain⟨σ,h⟩:=h
   by_cases c0:Nat.beq (2^ops.size - 1^^^(bz i (ops.toList.map bR) 0 0|||L)) 0=true
   ·have hz:=Nat.eq_of_beq_eq_true c0
    refine⟨fun hx=>(by rw[hx] at JC;cases JC),fun j hj=>?_⟩
    have mn:j=i:=by
     refine Classical.byContradiction fun mn=>?_
     obtain⟨h1,oj,h2,h3⟩:=mem_ready.1 hj
     have ur:=(Array.getElem?_eq_some_iff.1 h2).1
     have h4:=NI j ur
     rw[hz,Nat.zero_testBit] at h4
     rw[hb.getD ur] at h1
     rw[h1] at h4
     have h5:Nat.testBit (bz i (ops.toList.map bR) 0 0) j=true:=by
      cases hx:Nat.testBit (bz i (ops.toList.map bR) 0 0) j with
      |true=>rfl
      |false=>rw[hx] at h4;cases h4
     obtain⟨e,he,hbd,h6⟩:=hWs j oj h2 h5 mn
     have h7:=h3 e he hbd
     rw[hb.getD (JA _ h6),hW3 _ h6] at h7
     cases h7
    subst mn
    refine wpOp_mono (fun a' w' h'=>?_) (ym hT hO h e)
    obtain⟨⟨S',k1,k2⟩,k3⟩:=h'
    refine⟨fun had=>?_,ih _ l ho (hb.set hi) Zm k1 k2⟩
    simp only[Iv] at had
    exact k3 oi Iv had
   ·rw[Bool.or_eq_true] at c4
    rcases c4 with c4 |c4
    rotate_left
    ·rw[Bool.and_eq_true] at c4
     obtain⟨hq,Sh⟩:=c4
     obtain⟨v,hy,S',k1,k2⟩:=Oa hT h Iv hq e
     refine Fp Iv (Region.noSelect_spec Fo) (fun c a w hx=>absurd hx (DQ _ _ _)) (D:=fun j=>Nat.testBit (bz i (ops.toList.map bR) 0 0) j) hWi hWs n bS a w (fun j hd=>?_) (fun j oj pg hd HD=>?_) JC hy (ih _ l ho (hb.set hi) Zm k1 k2)
     ·rw[hb.getD (JA j hd)];exact hW3 j hd
     ·have ur:=(Array.getElem?_eq_some_iff.1 pg).1
      have h4:=NI j ur
      rw[hb.getD ur] at HD
      try simp only at hd
      rw[hd,HD] at h4
      exact kG ops.toList 0 Sh j oj (by rw[Array.getElem?_toList];exact pg) (by rw[Nat.zero_add];exact h4)
    have c4:=c4.resolve_left c0
    rw[Bool.and_eq_true,Bool.and_eq_true,Bool.not_eq_true'] at c4
    obtain⟨hq,hn0,Sh⟩:=c4
    obtain⟨v,hy,S',k1,k2⟩:=ac9 hT h Iv hq hn0 e
    refine Zl Iv (Region.noSelect_spec Fo) (fun c a w hx=>absurd hx (DQ _ _ _)) (D:=fun j=>Nat.testBit (bz i (ops.toList.map bR) 0 0) j) hWi hWs n bS a w (fun j hd=>?_) (fun j oj pg hd HD=>?_) JC hy (ih _ l ho (hb.set hi) Zm k1 k2)
    ·rw[hb.getD (JA j hd)];exact hW3 j hd
    ·have ur:=(Array.getElem?_eq_some_iff.1 pg).1
     have h4:=NI j ur
     rw[hb.getD ur] at HD
     try simp only at hd
     rw[hd,HD] at h4
     have:=vo ops.toList 0 Sh j oj (by rw[Array.getElem?_toList];exact pg) (by rw[Nat.zero_add];exact h4)
     simp only[pg]
     exact this
theorem aio (hT:dv P hh.tab=true) (hO:pJ Γ P O w0 W0) (hQ:∀ a w,HK w0 W0 Z H K ret a w→Q .normal a w) (DQ:∀ c a w,¬Q (.panic c) a w) {l:OT} (hl:aqK hh.tab O ops l=true) {S:St} {a:Act} {w:World} (e:bK hh O ops l S K=some ret) (h:Rel w0 W0 Z H S a w):
  wpAny P .any ops Q ops.size (Array.replicate ops.size false) a w:=by
 unfold aqK at hl
 rw[Bool.and_eq_true,Bool.and_eq_true] at hl
 obtain⟨⟨Fo,hlen⟩,ho⟩:=hl
 have hb:HL ops (Array.replicate ops.size false) 0:=⟨by simp,fun j hj=>by simp[hj]⟩
 exact Wg _ (ac' hT hO hQ DQ Fo ops.size 0 l ho hb (Nat.le_of_ble_eq_true hlen) e h)
end Go.Pv
