/- A verified evaluator of the program's form over pure values, part 3: what it tells of a function holds. -/
import Derived.Test.YtcpakhaogbempaaGreatPv2
import Derived.OrdersHeld
namespace Go.Pv
set_option linter.unusedVariables false
set_option linter.unusedSimpArgs false
variable {P:Program} {w w':World} {A A' Wr:Nat→Prop} {H:Nat→Value} {tm qP:Nat→Value} {S S' S1:St} {σ bO dQ:Nat→Option Nat} {w0:World} {W0 Z:Nat→Prop} {a:Act} {own:Nat→Prop} {v:Value} {Θ:de} {dst:Option Nat}
theorem a7.setAt (h:a7 σ w0 W0 Z H S a w) {i:Nat} {av:AV} (uB:∀ j,j≠i→(S.at j).refs i=false) (hv:Holds w (Av σ Z) H (b9 a) (S.set i av) (fun g=>σ g=some i) av (b9 a i)):
  a7 σ w0 W0 Z H (S.set i av) a w:=by
 refine⟨by rw[List.length_set];exact h.len,h.defers,h.fr,h.new,h.lt,h.old,fun j=>?_⟩
 rw[cS]
 by_cases hj:j=i∧i<S.length
 ·rw[if_pos hj,hj.1]
  exact hv
 ·rw[if_neg hj]
  by_cases lg:j=i
  ·have:S.at j=.dead:=Classical.byContradiction fun hx=>hj ⟨lg,by rw[←lg];exact ee hx⟩
   rw[this]
   trivial
  ·refine(h.holds j).kept (aU.refl _ _) (fun g hg _=>⟨rfl,hg⟩) (fun s hs=>?_)
   have hsi:s≠i:=fun e=>by subst e;rw[uB j lg] at hs;cases hs
   exact⟨fun r ex hr=>by rw[cS,if_neg (fun e=>hsi e.1)];exact hr,rfl,_,h.holds s,fun _ _ _=>rfl⟩
theorem a7.part (h:a7 σ w0 W0 Z H S a w) {i:Nat} (hi:∀ r ex,S.at i≠ .v r ex) (hl:i<S.length) {Q:Nat→Prop} {av:AV} (hv:Holds w (Av σ Z) H (b9 a) (S.set i av) (fun g=>σ g=some i∧ ¬Q g) av (b9 a i)):
  ∃ bO,a7 bO w0 W0 Z H (S.set i av) a w∧fU σ bO S.length (fun g=>σ g=some i∧Q g):=by
 let bO:Nat→Option Nat:=fun g=>open Classical in if σ g=some i∧Q g then some S.length else σ g
 have hs:∀ g j,bO g=some j→∃ k,σ g=some k:=fun g j hg=>by
  simp only[bO] at hg
  split at hg
  ·rename_i hx;exact⟨i,hx.1⟩
  ·exact⟨j,hg⟩
 have nE:∀ g j,σ g=some j→¬(σ g=some i∧Q g)→bO g=some j:=fun g j hg hn=>by simp only[bO,if_neg hn,hg]
 have b5:aU w w (Av σ Z) (Av bO Z):=⟨fun _ _ _=>rfl,fun g _ hg=>by
  rcases hg with⟨j,hg⟩ |hg
  ·exact .inl (hs g j hg)
  ·exact .inr hg⟩
 refine⟨bO,⟨by rw[List.length_set];exact h.len,h.defers,h.fr,fun g j hg=>(hs g j hg).elim fun k hk=>h.new g k hk,fun g j hg=>(hs g j hg).elim fun k hk=>h.lt g k hk,fun g hg=>⟨?_,(h.old g hg).2⟩,fun j=>?_⟩,?_⟩
 ·simp only[bO]
  rw[if_neg (fun hx=>by rw[(h.old g hg).1] at hx;cases hx.1)]
  exact(h.old g hg).1
 ·rw[cS]
  by_cases hj:j=i
  ·rw[if_pos ⟨hj,hl⟩,hj]
   exact hv.kept b5 (fun g hg _=>⟨rfl,nE g i hg.1 (fun hx=>hg.2 hx.2)⟩) (fun s _=>⟨fun _ _ h=>h,rfl,by
    by_cases hsi:s=i
    ·subst hsi
     rw[cS,if_pos ⟨rfl,hl⟩]
     exact⟨_,hv,fun _ _ _=>rfl⟩
    ·rw[cS,if_neg (fun e=>hsi e.1)]
     refine⟨_,(h.holds s).kept (aU.refl _ _) (fun g hg _=>⟨rfl,hg⟩) (fun s1 hs1=>⟨fun r ex hr=>?_,rfl,_,h.holds s1,fun _ _ _=>rfl⟩),fun _ _ _=>rfl⟩
     by_cases azx:s1=i
     ·subst azx;exact absurd hr (hi r ex)
     ·rw[cS,if_neg (fun e=>azx e.1)];exact hr⟩)
  ·rw[if_neg (fun e=>hj e.1)]
   refine(h.holds j).kept b5 (fun g hg _=>⟨rfl,nE g j hg (fun hx=>hj (by rw[hx.1] at hg;injection hg with hg;exact hg.symm))⟩) (fun s hs1=>⟨fun r ex hr=>?_,rfl,_,h.holds s,fun _ _ _=>rfl⟩)
   by_cases hsi:s=i
   ·subst hsi;exact absurd hr (hi r ex)
   ·rw[cS,if_neg (fun e=>hsi e.1)];exact hr
 ·refine⟨fun g hg=>⟨i,hl,hg.1⟩,fun g hg=>⟨_,Nat.le_refl _,by simp only[bO,if_pos hg]⟩,fun g j hg hj=>?_,fun g=>⟨fun⟨j,hg⟩=>hs g j hg,fun⟨j,hg⟩=>?_⟩,fun g j hg hj=>nE g j hg (fun hx=>?_)⟩
  ·simp only[bO] at hg
   split at hg
   ·injection hg with hg;omega
   ·exact hg
  ·simp only[bO]
   split
   ·exact⟨_,rfl⟩
   ·exact⟨j,hg⟩
  ·rw[hx.1] at hg
   injection hg with hg
   omega
theorem gL.still {s:Sem Next} (hr:∀ w2,s.run P w2=.ok (.value v) w2) (h:gL P w0 W0 Z H S' a dst w s):lX P w0 W0 Z H S' a dst w s:=by
 obtain⟨v',h1,h2⟩:=h
 have:=(h1 w (Ext.refl w)).symm.trans (hr w)
 injection this with this
 injection this with this
 subst this
 exact⟨_,hr,h2⟩
theorem EV (h:a7 σ w0 W0 Z H S a w) {o:Oper} {x:Operand} {j:Nat} (ho:o.op=.extract x j) (e:fD S o.dst x j=some (true,S')):lX P w0 W0 Z H S' a o.dst w (execOp a.eval o):=by
 unfold fD at e
 split at e
 case h_2=>cases e
 rename_i i
 split at e
 case h_2=>cases e
 rename_i l hl
 split at e
 case h_2=>cases e
 rename_i b hb
 have hh:=h.holds i
 rw[hl] at hh
 obtain⟨vs,τ,hv,hlen,uy⟩:=hh
 have hbj:l[j]?=some (some b):=by
  rw[List.getD_eq_getElem?_getD] at hb
  cases hq:l[j]? with
  |none=>rw[hq] at hb;cases hb
  |some q=>rw[hq] at hb;simp only[Option.getD_some] at hb;rw[hb]
 obtain⟨u,cs,hu,hm,hM⟩:=uy j b hbj
 have cp:∀ w2,(execOp a.eval o).run P w2=.ok (.value u) w2:=fun w2=>by
  have:a.eval (.tmp i)=.tuple vs.toArray:=hv
  simp[execOp,ho,this,Instr.extract,hu]
 cases hk:b.m.bP with
 |true=>
  rw[hk] at e
  simp only[cond_true,Option.some.injEq,Prod.mk.injEq,true_and] at e
  subst e
  exact cn h cp ⟨cs,hm,nG hk (fv _ hk hM)⟩
 |false=>
  rw[hk] at e
  simp only[cond_false] at e
  split at e
  case h_2=>cases e
  rename_i d hd
  cases RV:Nat.beq d i with
  |true=>rw[RV] at e;cases e
  |false=>
  rw[RV] at e
  simp only[cond_false,Option.some.injEq,Prod.mk.injEq,true_and] at e
  subst e
  rw[←hd]
  have Hy:i<S.length:=ee (by rw[hl];exact fun e=>by cases e)
  obtain⟨bO,h1,RB⟩:=h.part (i:=i) (fun r ex=>by rw[hl];exact fun e=>by cases e) Hy (Q:=fun g=>τ g=j) (av:=.tz (l.set j none)) ⟨vs,τ,hv,by rw[List.length_set];exact hlen,fun k b' fW=>by
   rw[List.getElem?_set] at fW
   split at fW
   ·split at fW<;>cases fW
   ·rename_i Sd
    obtain⟨u',cM,c1,c2,c3⟩:=uy k b' fW
    exact⟨u',cM,c1,c2,aK (aU.refl _ _) _ (fun _ _ _=>rfl) (fun g hg _=>⟨⟨hg.1,fun hx=>Sd (by rw[←hx,hg.2])⟩,hg.2⟩) (fun _ h=>h) c3⟩⟩
  exact gL.still (v:=u) cp (nV (n:=S.length) h1 RB (List.length_set) (fun w2 _=>cp w2) hm (aK (aU.refl _ _) _ (fun _ _ _=>rfl) (fun g hg _=>hg) (fun _ h=>h) hM))
theorem adR (S:St) (d:Nat) (b:TV) (ex:List Path) (i:Nat) (hi:∀ j,(S.at j).refs i=false) (j:Nat):((S.put (some d) (.v b ex)).at j).refs i=false:=by
 rw[dF]
 split
 ·simp[AV.refs]
 ·cases hr:(S.at j).refs d&&(S.at d).z8 with
  |true=>simp[AV.refs]
  |false=>exact hi j
theorem aaq (S:St) (i:Nat) (hv:(S.at i).z8=true) (j:Nat):((S.put (some i) .dead).at j).refs i=false:=by
 rw[dF]
 split
 ·simp[AV.refs]
 ·rw[hv,Bool.and_true]
  cases hr:(S.at j).refs i with
  |true=>simp[AV.refs]
  |false=>exact hr
theorem aar (h:a7 σ w0 W0 Z H S a w) {o:Oper} {x:Operand} (ho:o.op=.assign x) (e:D8 Θ S o.dst o.type x=some (true,S')):gL P w0 W0 Z H S' a o.dst w (execOp a.eval o):=by
 have cp:∀ w2,Ext w w2→(execOp a.eval o).run P w2=.ok (.value (a.eval x)) w2:=fun w2 _=>by simp only[execOp,ho];rfl
 unfold D8 at e
 split at e
 case h_2=>
  split at e
  ·injection e with e
   injection e with _ e
   subst e
   exact cw h cp trivial
  ·cases e
 rename_i av dA
 have hh:=bD h dA
 split at e
 ·-- a value of a temporary
  rename_i d i b ex hd
  cases hk:b.m.bP with
  |true=>
   rw[hk] at e
   simp only[cond_true,Option.some.injEq,Prod.mk.injEq,true_and] at e
   subst e
   obtain⟨cs,h1,h2⟩:=hh
   exact cw h cp ⟨cs,h1,nG hk (fv _ hk h2)⟩
  |false=>
   rw[hk] at e
   simp only[cond_false] at e
   split at e
   case h_2=>cases e
   cases RV:(Nat.beq d i|| !Nat.blt d S.length) with
   |true=>rw[RV] at e;cases e
   |false=>
   rw[RV] at e
   simp only[cond_false,Option.some.injEq,Prod.mk.injEq,true_and] at e
   subst e
   simp only[Bool.or_eq_false_iff,Bool.not_eq_false'] at RV
   have azy:d≠i:=fun e=>by rw[e,Nat.beq_refl] at RV;cases RV.1
   have He:d<S.length:=Nat.lt_of_succ_le (Nat.le_of_ble_eq_true RV.2)
   obtain⟨cs,h1,h2⟩:=hh
   simp only[St.dP,Option.some.injEq] at dA
   have Hy:i<S.length:=ee (by rw[dA];exact fun e=>by cases e)
   have hp:=h.jt i
   have hk:fU σ (jt σ S.length i) S.length (asO σ (.tmp i)):=fU.jt σ Hy (fun g hg=>by obtain⟨j,hj,hg⟩:=hg;injection hj with hj;subst hj;exact hg)
   obtain⟨v2,hr2,dQ,h3⟩:=nV (P:=P) (dst:=some d) (n:=S.length) hp hk (cd _ _ _) cp h1 h2
   have MP:=hr2 w (Ext.refl w)
   rw[cp w (Ext.refl w)] at MP
   injection MP with e1 e2
   injection e1 with e1
   subst e1
   refine⟨a.eval (.tmp i),cp,dQ,?_⟩
   rw[hd]
   refine h3.setAt (fun j _=>adR _ d b [] i (aaq S i (by rw[dA];rfl)) j) ?_
   have htm:b9 (a.put (some d) (a.eval (.tmp i))) i=b9 a i:=by rw[Ae,if_neg (fun e=>azy e.1.symm)]
   have htd:b9 (a.put (some d) (a.eval (.tmp i))) d=b9 a i:=by rw[Ae,if_pos ⟨rfl,by rw[←h.len];exact He⟩];rfl
   refine⟨b,cs,cs,⟨⟨[],?_,fun q hq=>by simp at hq⟩,trivial,⟨b,rfl,rfl⟩,by rw[htd];exact h1⟩,rfl,by rw[htm];exact h1⟩
   rw[cS,if_neg (fun e=>azy e.1),dF,if_pos ⟨rfl,by rw[cd];exact He⟩]
   rfl
 ·-- another value
  rename_i b ex nH
  cases hk:b.m.bP with
  |true=>
   rw[hk] at e
   simp only[cond_true,Option.some.injEq,Prod.mk.injEq,true_and] at e
   subst e
   obtain⟨cs,h1,h2⟩:=hh
   exact cw h cp ⟨cs,h1,nG hk (fv _ hk h2)⟩
  |false=>
   rw[hk] at e
   simp only[cond_false] at e
   split at e
   case h_2=>cases e
   simp only[Option.some.injEq,Prod.mk.injEq,true_and] at e
   subst e
   obtain⟨cs,h1,h2⟩:=hh
   exact cw h cp ⟨cs,h1,aK (aU.refl _ _) _ (fun _ _ _=>rfl) (fun g hg _=>by obtain⟨i,hi,_⟩:=hg;cases hi) (fun _ h=>h) h2⟩
 ·rename_i d t s hd
  cases Af:Nat.beq s d with
  |true=>rw[Af] at e;cases e
  |false=>
   rw[Af] at e
   simp only[cond_false,Option.some.injEq,Prod.mk.injEq,true_and] at e
   subst e
   exact cw h cp hh
 ·rename_i d f c hd
  cases Af:AV.refs d (.ld f c) with
  |true=>rw[Af] at e;cases e
  |false=>
   rw[Af] at e
   simp only[cond_false,Option.some.injEq,Prod.mk.injEq,true_and] at e
   subst e
   exact cw h cp hh
 ·simp only[Option.some.injEq,Prod.mk.injEq,true_and] at e
  subst e
  exact cw h cp hh
 ·split at e
  case h_2=>cases e
  rename_i b S1 hb
  simp only[Option.some.injEq,Prod.mk.injEq,true_and] at e
  subst e
  obtain⟨bO,cs,ow,h1,hm,hM,hk,hn⟩:=eD h dA hb
  exact nV h1 hk hn cp hm hM
end Go.Pv
namespace Go.Pv
set_option linter.unusedVariables false
set_option linter.unusedSimpArgs false
variable {P:Program} {w w':World} {A A' Wr:Nat→Prop} {H:Nat→Value} {tm qP:Nat→Value} {S S' S1:St} {σ bO dQ:Nat→Option Nat} {w0:World} {W0 Z:Nat→Prop} {a:Act} {own:Nat→Prop} {v:Value} {Θ:de} {dst:Option Nat}
theorem adS {t:Ty} (h:isAgg t=false):t.size=1:=by cases t<;>simp[isAgg] at h<;>rfl
theorem adT (hT:cP P Θ=true) (h:a7 σ w0 W0 Z H S a w) {o:Oper} {T:TypeId} {x:Operand} {f:Nat} (ho:o.op=.field T x f) (e:IG Θ S o.dst T x f=some (true,S')):gL P w0 W0 Z H S' a o.dst w (execOp a.eval o):=by
 unfold IG at e
 split at e
 case h_2=>cases e
 rename_i b ex i dA hi
 cases hc:(Nat.blt f i.fs.length&&decide (i.ty=b.t)) with
 |false=>rw[hc] at e;cases e
 |true=>
 rw[hc] at e
 simp only[cond_true] at e
 simp only[Bool.and_eq_true,decide_eq_true_eq] at hc
 obtain⟨cR,fh⟩:=hc
 have cR:f<i.fs.length:=Nat.lt_of_succ_le (Nat.le_of_ble_eq_true cR)
 split at e
 case h_2=>cases e
 rename_i j
 split at e
 case h_2=>cases e
 rename_i c hg
 simp only[St.dP,Option.some.injEq] at dA
 have hh:=h.holds j
 rw[dA] at hh
 obtain⟨cs,hm,hM⟩:=hh
 obtain⟨_,hu,hT0⟩:=cT hT hi
 have hp:=iA f i.fs.length
 obtain⟨pa,pb,hpp⟩:=xi (ady cR) hp hg
 obtain⟨fs,f1,f2,f3,_⟩:=lW hu (fh.trans hpp)
 rw[hT0] at f1
 have Cs:fs.toList.length=i.fs.length:=by rw[←f2,List.length_map]
 have hfs:fs.size=i.fs.length:=by rw[←Cs,Array.length_toList]
 obtain⟨fd,hfd⟩:∃ fd,fs[f]?=some fd:=⟨_,Array.getElem?_eq_getElem (by omega)⟩
 obtain⟨t,t1,t2,t3,_⟩:=iy f3 f fd (by rw[Array.getElem?_toList];exact hfd)
 rw[Nat.zero_add,hfs,fh] at t1 t3
 have hct:c.t=t:=by
  have:=o6 _ hp hg
  rw[t1] at this
  injection this with this
  exact this.symm
 subst hct
 obtain⟨hlen,akr⟩:=er _ hM
 have wY:=dY _ hp hg
 have I2:aT w (mL f i.fs.length) b.t cs=some ((cs.drop (aQ (mL f i.fs.length) b.t)).take c.t.size):=ey _ hp hg hlen
 obtain⟨v,hv,cp⟩:∃ v,az c.t v ((cs.drop (aQ (mL f i.fs.length) b.t)).take c.t.size)∧∀ w2,Ext w w2→(execOp a.eval o).run P w2=.ok (.value v) w2:=by
  have iM:a.eval (.tmp j)=.agg cs.toArray:=by
   unfold az at hm
   rw[if_pos (by rw[hpp];rfl)] at hm
   exact hm
  have RS:=R3 hT t2
  obtain⟨inf,s1,s2,_⟩:=gY hT t2
  have hso:∀ w2,(sizeOf fd.type).run P w2=.ok c.t.size w2:=fun w2=>by simp[sizeOf,typeInfo,s1,s2]
  cases hca:isAgg c.t with
  |true=>
   refine⟨.agg (cs.toArray.extract (aQ (mL f i.fs.length) b.t) (aQ (mL f i.fs.length) b.t+c.t.size)),?_,fun w2 _=>?_⟩
   ·unfold az
    rw[if_pos hca]
    congr 1
    apply Array.toList_inj.1
    rw[Array.toList_extract,List.toList_toArray,List.toList_toArray,List.extract_eq_drop_take']
    rw[List.drop_take,Nat.add_sub_cancel_left]
   ·rw[hca] at RS
    have adU:(part fd.type cs.toArray fd.offset).run P w2=.ok (.agg (cs.toArray.extract (aQ (mL f i.fs.length) b.t) (aQ (mL f i.fs.length) b.t+c.t.size))) w2:=by
     unfold part
     simp only[Sem.run_bind,RS,Result.andThen_ok,if_true,hso,t3]
     rfl
    simp only[execOp,ho,iM,Instr.field,Sem.run_bind,run_underlying f1,Result.andThen_ok,hfd,asAgg,Sem.run_pure,adU]
  |false=>
   have h1:=adS hca
   have R4:aQ (mL f i.fs.length) b.t<cs.length:=by omega
   refine⟨cs[aQ (mL f i.fs.length) b.t],?_,fun w2 _=>?_⟩
   ·unfold az
    rw[if_neg (by rw[hca];exact Bool.false_ne_true),h1,List.drop_eq_getElem_cons R4,List.take_succ_cons,List.take_zero]
   ·rw[hca] at RS
    have adU:(part fd.type cs.toArray fd.offset).run P w2=.ok (cs[aQ (mL f i.fs.length) b.t]) w2:=by
     unfold part
     simp only[Sem.run_bind,RS,Result.andThen_ok,if_neg Bool.false_ne_true,t3]
     rw[List.getElem?_toArray,List.getElem?_eq_getElem R4]
     rfl
    simp only[execOp,ho,iM,Instr.field,Sem.run_bind,run_underlying f1,Result.andThen_ok,hfd,asAgg,Sem.run_pure,adU]
 have hvalid:=gM _ hp hg
 cases hk:c.m.bP with
 |true=>
  rw[hk] at e
  simp only[cond_true] at e
  split at e
  case h_2=>cases e
  simp only[Option.some.injEq,Prod.mk.injEq,true_and] at e
  subst e
  obtain⟨cM,cE,k1,k2,k3⟩:=focus _ hM (fun q hq=>by simp at hq) hvalid hg
  rw[I2] at k1
  injection k1 with k1
  subst k1
  exact cw h cp ⟨_,hv,fJ _ (fv _ hk k3)⟩
 |false=>
  rw[hk] at e
  simp only[cond_false] at e
  split at e
  case h_2=>cases e
  rename_i c' Cr
  simp only[Option.some.injEq,Prod.mk.injEq,true_and] at e
  subst e
  obtain⟨r,DB,q1,q2,q3⟩:=dG Cr
  rw[dA] at q1
  injection q1 with q1 EG
  subst q1 EG
  exact cw h cp ⟨b,cs,_,⟨⟨ex,dA,eC q2⟩,hvalid,⟨c,hg,rfl⟩,hm⟩,I2,hv⟩
theorem Cx (h:a7 σ w0 W0 Z H S a w):∀ {xs:List Operand} {l:List IF},D' S xs=some l→xs.length=l.length∧∀ (j:Nat) (c:IF),l[j]?=some c→∃ u,(xs.map a.eval)[j]?=some u∧lT w (Av σ Z) (b9 a) S c u
 |[],l,e=>by
  simp only[D',Option.some.injEq] at e
  subst e
  exact⟨rfl,fun j c hj=>by simp at hj⟩
 |x::xs,l,e=>by
  simp only[D'] at e
  split at e
  case h_2=>cases e
  rename_i c l2 hc hl
  simp only[Option.some.injEq] at e
  subst e
  obtain⟨h1,h2⟩:=Cx h hl
  refine⟨by simp[h1],fun j c' hj=>?_⟩
  cases j with
  |succ j=>simpa using h2 j c' (by simpa using hj)
  |zero=>
   simp only[List.getElem?_cons_zero,Option.some.injEq] at hj
   subst hj
   refine⟨a.eval x,rfl,?_⟩
   unfold asK at hc
   split at hc
   case h_2=>cases hc
   rename_i i
   have hh:=h.holds i
   split at hc
   ·rename_i t T tag me y ex du
    injection hc with hc
    subst hc
    rw[du] at hh
    obtain⟨cs,h1,h2⟩:=hh
    exact⟨_,cs,cs,⟨⟨ex,du,fun q _ s r e=>by cases q<;>simp at e⟩,trivial,⟨_,rfl,rfl⟩,h1⟩,rfl,h1⟩
   ·rename_i t y ex du
    injection hc with hc
    subst hc
    rw[du] at hh
    obtain⟨cs,h1,h2⟩:=hh
    have h1':cs=[b9 a i]:=by simpa[az,isAgg] using h1
    subst h1'
    simp only[M] at h2
    rcases h2 with⟨_,hx,_⟩ |⟨_,h2⟩ |⟨T,tag,me,g,cur,hx,_⟩
    ·simp[Md.bP] at hx
    ·exact h2
    ·cases hx
   ·rename_i t s p du
    injection hc with hc
    subst hc
    rw[du] at hh
    exact hh
   ·cases hc
theorem Nj (h:a7 σ w0 W0 Z H S a w) {o:Oper} {f:FuncId} {first cy:Array Operand} (ho:o.op=.makeFunc (.func f) first cy) (e:ui S o.dst f first.toList cy.toList=some (true,S')):gL P w0 W0 Z H S' a o.dst w (execOp a.eval o):=by
 unfold ui at e
 split at e
 case h_2=>cases e
 rename_i l hf hl
 split at e
 case h_2=>cases e
 rename_i d hd
 cases hr:AV.refs d (.ld f l) with
 |true=>rw[hr] at e;cases e
 |false=>
 rw[hr] at e
 simp only[cond_false,Option.some.injEq,Prod.mk.injEq,true_and] at e
 subst e
 obtain⟨h1,h2⟩:=Cx h hl
 have hfe:first=#[]:=by
  apply Array.toList_inj.1
  rw[hf]
 refine cw (v:=.func (.func f) #[] (cy.map a.eval)) h (fun w2 _=>by simp[execOp,ho,Instr.makeFunc,hfe]) ⟨cy.toList.map a.eval,?_,by rw[List.length_map,h1],h2⟩
 congr 1
 apply Array.toList_inj.1
 simp
theorem Nk (h:a7 σ w0 W0 Z H S a w) {o:Oper} {x:Operand} (ho:o.op=.move x) (e:oJ Θ S o.dst o.type x=some (true,S')):lX P w0 W0 Z H S' a o.dst w (execOp a.eval o):=by
 by_cases hnt:∃ l,S.dP Θ o.type x=some (.tz l)
 rotate_left
 ·exact akm h ho (fun l hl=>hnt ⟨l,hl⟩) e
 obtain⟨l,hl⟩:=hnt
 unfold oJ at e
 rw[hl] at e
 simp only at e
 split at e
 case h_2=>cases e
 rename_i d i hd
 cases hc:(Nat.beq d i|| !Nat.blt d S.length) with
 |true=>rw[hc] at e;cases e
 |false=>
  rw[hc] at e
  simp only[cond_false,Option.some.injEq,Prod.mk.injEq,true_and] at e
  subst e
  have du:S.at i=.tz l:=by simpa[St.dP] using hl
  have hh:=h.holds i
  rw[du] at hh
  obtain⟨vs,τ,h1,h2,h3⟩:=hh
  refine⟨b9 a i,fun w2=>by simp only[execOp,ho];rfl,?_⟩
  rw[hd]
  have hp:=h.jt i
  have hgo:=hp.WS (dst:=some d) (v:=b9 a i) (av:=.tz l) (ow:=fun g=>σ g=some i) (w':=w) (Nat.le_refl _) (fun _ _ _=>rfl) h.fr (fun g hg=>⟨h.lt g i hg,.inl ⟨S.length,by rw[cd];exact Nat.le_refl _,by unfold jt;rw[if_pos hg]⟩⟩) (fun d' WJ q1 q2=>?_)
  ·exact⟨_,hgo⟩
  ·refine⟨vs,τ,h1,h2,fun j b hb=>?_⟩
   obtain⟨u,cs,u1,u2,u3⟩:=h3 j b hb
   refine⟨u,cs,u1,u2,aK ⟨fun _ _ _=>rfl,fun g hg hx=>?_⟩ _ (fun _ _ _=>rfl) (fun g hg _=>⟨q1 g hg.1,hg.2⟩) (fun _ h=>h) u3⟩
   rcases q2 g hx with q |q
   ·exact WQ.1 q
   ·exact .inl ⟨i,q⟩
theorem adV (hT:cP P Θ=true) (h:a7 σ w0 W0 Z H S a w) {hn:Hn} {o:Oper} (hq:quiet o.op=true) (e:ev Θ hn S o=some (true,S')):gL P w0 W0 Z H S' a o.dst w (execOp a.eval o):=by
 unfold ev at e
 split at e
 case h_1 x ho=>exact(Nk h ho e).q
 case h_2 x ho=>exact aar h ho e
 case h_3 c x y ho=>exact akn h ho e
 case h_4 T ho=>rw[ho] at hq;cases hq
 case h_5 T x ho=>rw[ho] at hq;cases hq
 case h_6 T ps ho=>exact adJ hT h ho e
 case h_7 T n ps ho=>rw[ho] at hq;cases hq
 case h_8 T x ho=>exact ako hT h ho e
 case h_9 T x y ho=>rw[ho] at hq;cases hq
 case h_10 x ho=>exact M4 h ho e
 case h_11 T x f ho=>exact(xj hT h ho e).q
 case h_12 T x f ho=>exact adT hT h ho e
 case h_13 T x ix ho=>exact(xk hT h ho e).q
 case h_14 T x ix ho=>exact adu hT h ho e
 case h_15 x j ho=>exact(EV h ho e).q
 case h_16 T x lo hi mx ho=>exact(M6 hT h ho e).q
 case h_17 T T' x ho=>exact MZ hT h ho e
 case h_18 op T x y p ho=>exact(adt hT h ho e).q
 case h_19 op T x ho=>exact azl h ho e
 case h_20 T l c ho=>rw[ho] at hq;cases hq
 case h_21 f first cy ho=>exact Nj h ho e
 case h_22 as ts ho=>exact(adv hT h ho e).q
 case h_23 as ts ho=>rw[ho] at hq;cases hq
 case h_24=>cases e
def Se:Op→Bool
 | .extract ..=>true | .indexAddr ..=>true | .binOp ..=>true | .slice ..=>true | .move _=>true | .convert ..=>true | .fieldAddr ..=>true | .call { callee:=.builtin .len,.. }=>true |_=>false
theorem auG (hT:cP P Θ=true) (h:a7 σ w0 W0 Z H S a w) {hn:Hn} {o:Oper} (hq:Se o.op=true) (HC:(match o.op with
 | .convert _ T' _=>(match Θ.find T' with
  |some i=>(match i.ty with
   | .int _=>true
   |_=>false)
  |none=>false)
 |_=>true)=true) (e:ev Θ hn S o=some (true,S')):lX P w0 W0 Z H S' a o.dst w (execOp a.eval o):=by
 unfold Se at hq
 split at hq
 ·rename_i x j ho
  unfold ev at e
  rw[ho] at e
  exact EV h ho e
 ·rename_i T x ix ho
  unfold ev at e
  rw[ho] at e
  exact xk hT h ho e
 ·rename_i op T x y T' ho
  unfold ev at e
  rw[ho] at e
  exact adt hT h ho e
 ·rename_i T x lo hi mx ho
  unfold ev at e
  rw[ho] at e
  exact M6 hT h ho e
 ·rename_i x ho
  unfold ev at e
  rw[ho] at e
  exact Nk h ho e
 ·rename_i T T' x ho
  unfold ev at e
  rw[ho] at e
  rw[ho] at HC
  exact EE hT h ho HC e
 ·rename_i T x f ho
  unfold ev at e
  rw[ho] at e
  exact xj hT h ho e
 ·rename_i as ts ho
  unfold ev at e
  rw[ho] at e
  exact adv hT h ho e
 ·cases hq
def Nl:Op→Bool
 | .alloc _=>true | .box ..=>true | .buildSlice ..=>true | .makeSlice ..=>true |o=>quiet o
theorem adW (hT:cP P Θ=true) (h:a7 σ w0 W0 Z H S a w) {hn:Hn} {o:Oper} (hq:Nl o.op=true) (e:ev Θ hn S o=some (true,S')):Cu P w0 W0 Z H S' a o.dst w (execOp a.eval o):=by
 cases hqq:quiet o.op with
 |true=>exact(adV hT h hqq e).Du
 |false=>
 unfold ev at e
 split at e
 case h_4 T ho=>exact adD hT h ho e
 case h_5 T x ho=>exact auy hT h ho e
 case h_7 T n ps ho=>exact Hd hT h ho e
 case h_20 T l c ho=>exact IY hT h ho e
 case h_24=>cases e
 case h_9 T x y ho=>rw[ho] at hq;cases hq
 case h_23 as ts ho=>rw[ho] at hq;cases hq
 all_goals (rename_i ho;rw[ho] at hqq;cases hqq)
theorem Nn (h:a7 σ w0 W0 Z H S a w) {S1:St} {T:TypeId} {y:Operand} {s:Sem Next} {dst:Option Nat} (g:IT P w0 W0 Z H S1 a dst w s) (hd:dst=none):IT P w0 W0 Z H (oM Θ S S1 T y) a dst w s:=by
 subst hd
 unfold oM
 split
 case h_2=>exact g
 rename_i t0 s0 _
 split
 case h_2=>exact g
 rename_i t m xs hs hs1
 cases hk:m.bP with
 |true=>exact g
 |false=>
 simp only[cond_false]
 obtain⟨w',v,h1,dm,h2⟩:=g
 refine⟨w',v,h1,?_⟩
 have hh:=h.holds s0
 rw[hs] at hh
 obtain⟨cs,hm,hM⟩:=hh
 have gH:∃ A c,cs=[.slice A xs.length c]:=by
  simp only[M] at hM
  rcases hM with⟨hn,_⟩ |⟨fW,_⟩ |⟨T',tag,me,A,c,_,rfl,_⟩
  ·simp at hn
  ·rw[hk] at fW;cases fW
  ·exact⟨A,c,rfl⟩
 have ha:a.put none v=a:=rfl
 rw[ha] at h2 ⊢
 have h3:=h2.pure (dst:=some s0) (av:=.v ⟨.sl t,m,xs⟩ [[]]) (v:=b9 a s0) ⟨cs,hm,by
  simp only[M]
  exact .inl ⟨by simp,hk,gH⟩⟩
 rw[lY] at h3
 have he:S1.put (some s0) (.v ⟨.sl t,m,xs⟩ [[]])=S1.set s0 (.v ⟨.sl t,m,xs⟩ [[]]):=by
  simp only[St.put,hs1]
  rfl
 rw[he] at h3
 exact⟨_,h3⟩
theorem azz (hT:cP P Θ=true) (h:a7 σ w0 W0 Z H S a w) {hn:Hn} {o:Oper} (e:ev Θ hn S o=some (true,S')):IT P w0 W0 Z H S' a o.dst w (execOp a.eval o):=by
 cases hq:Nl o.op with
 |true=>exact(adW hT h hq e).azk
 |false=>
 unfold ev at e
 split at e
 case h_9 T x y ho=>
  split at e
  ·rename_i hd
   split at e
   ·rename_i g S1 he
    injection e with e
    injection e with e1 e2
    subst e1 e2
    exact Nn h (adF hT h ho hd he) hd
   ·cases e
  ·cases e
 case h_23 as ts ho=>
  split at e
  ·rename_i r hr
   injection e with e
   subst e
   exact aap hT h ho hr
  ·exact Sc hT h ho e
 case h_24=>cases e
 all_goals (rename_i ho;rw[ho] at hq;cases hq)
end Go.Pv
namespace Go.Pv
set_option linter.unusedVariables false
set_option linter.unusedSimpArgs false
variable {P:Program} {w w':World} {A A' Wr:Nat→Prop} {H:Nat→Value} {tm qP:Nat→Value} {S S' S1:St} {σ bO dQ:Nat→Option Nat} {w0:World} {W0 Z:Nat→Prop} {a:Act} {own:Nat→Prop} {v:Value} {Θ:de} {dst:Option Nat}
def Own (σ:Nat→Option Nat) (g:Nat):Prop:=∃ i,σ g=some i
def Cy (w:World) (A:Nat→Prop) (H:Nat→Value):Arg→Value→(Nat→Prop)→Prop
 | .tv b,v,own=>∃ cs,az b.t v cs∧M w A H b.t b.m b.x cs own []
 | .fn f cy,v,_=>∃ vs:List Value,v=.func (.func f) #[] vs.toArray∧vs.length=cy.length∧∀ (j:Nat) (c:TV),cy[j]?=some c→∃ u,vs[j]?=some u∧K w A c.t c.x [u]
abbrev Gl:=Nat→Option Obj
structure In (Γ:Gl) (B:Nat→Prop) (H:Nat→Value) (w:World) (σ:Nat→Option Nat) (args:List Arg) (cv:List Value):Prop where
 len:cv.length=args.length
 lt:∀ g i,σ g=some i→i<args.length∧g<w.heap.size
 old:∀ g,B g→σ g=none∧g<w.heap.size
 env:∀ g o,Γ g=some o→σ g=none∧w.heap[g]?=some o
 ok:∀ (j:Nat) (a:Arg),args[j]?=some a→∃ v,cv[j]?=some v∧Cy w (Av σ B) H a v (fun g=>σ g=some j)
def adX:List Value→Value
 |[u]=>u
 |vs=>.tuple vs.toArray
structure Out (B:Nat→Prop) (H:Nat→Value) (w w':World) (σ:Nat→Option Nat) (rt:aa) (v:Value):Prop where
 fr:Fr w (Own σ) w'
 res:∃ (dm:Nat→Option Nat) (vs:List Value),v=adX vs∧vs.length=rt.res.length∧(∀ g i,dm g=some i→(w.heap.size≤g∨Own σ g)∧g<w'.heap.size)∧
  (∀ (i:Nat) (b:TV),rt.res[i]?=some b→∃ u cs,vs[i]?=some u∧az b.t u cs∧M w' (Av dm B) H b.t b.m b.x cs (fun g=>dm g=some i) [])∧
  ∀ c,rt.refs=[c]→∃ cs,M w' (Av dm B) H c.t c.m c.x cs (fun g=>dm g=some rt.res.length) []
def Sf (P:Program) (f:FuncId) (cv:List Value) (w:World) (R:Value→World→Prop):Prop:=
 ((callFunc f cv.toArray).run P w=.ok (.enter f cv.toArray) w∧Calls P f cv.toArray w fun
  | .returned v,w'=>R v w'
  |_,_=>False)∨∃ v w',(callFunc f cv.toArray).run P w=.ok (.value v) w'∧R v w'
theorem Sf.mono {f:FuncId} {cv:List Value} {R R':Value→World→Prop} (h:Sf P f cv w R) (hr:∀ v w',R v w'→R' v w'):Sf P f cv w R':=by
 rcases h with⟨h1,h2⟩ |⟨v,w',h1,h2⟩
 ·refine .inl ⟨h1,h2.mono fun e w' he=>?_⟩
  cases e<;>first |exact hr _ _ he |exact he
 ·exact .inr ⟨v,w',h1,hr _ _ h2⟩
def WY (Γ:Gl) (P:Program) (f:FuncId) (run:List Arg→(aa→Option aa)→Option aa):Prop:=
 ∀ (args:List Arg) (kf:aa→Option aa) (ret:aa) (w:World) (σ:Nat→Option Nat) (cv:List Value) (H:Nat→Value) (B:Nat→Prop),run args kf=some ret→In Γ B H w σ args cv→
  Sf P f cv w fun v w'=>∃ rt,kf rt=some ret∧Out B H w w' σ rt v
def Sound (Γ:Gl) (P:Program) (f:FuncId) (run:List Arg→(aa→Option aa)→Option aa):Prop:=WY Γ P f run∧∀ as,cN (run as)
def auH (Γ:Gl) (P:Program) (O:jr):Prop:=∀ f,Sound Γ P f (O.run f)
structure qA (Γ:Gl) (P:Program) (O:jr) (w0:World) (W0:Nat→Prop):Prop where
 sd:auH Γ P O
 env:∀ g o,Γ g=some o→¬W0 g∧w0.heap[g]?=some o
theorem qA.det {Γ:Gl} {P:Program} {O:jr} {w0:World} {W0:Nat→Prop} (h:qA Γ P O w0 W0):nL O:=fun f=>(h.sd f).2
variable {Γ:Gl}
theorem adY {l:List Entry} (h:∀ e∈l,Sound Γ P e.f e.run):auH Γ P (jr.of l):=by
 intro f
 have key:∀ (l:List Entry) (e:Entry),entry l f=some e→e∈l∧e.f=f:=by
  intro l
  induction l with
  |nil=>intro e h;cases h
  |cons e' r ih=>
   intro e h
   simp only[entry] at h
   cases hb:Nat.beq e'.f f with
   |true=>
    rw[hb] at h
    injection h with h
    subst h
    exact⟨by simp,Nat.eq_of_beq_eq_true hb⟩
   |false=>
    rw[hb] at h
    obtain⟨h1,h2⟩:=ih e h
    exact⟨by simp[h1],h2⟩
 simp only[jr.of]
 split
 ·rename_i e he
  obtain⟨h1,h2⟩:=key l e he
  rw[←h2]
  exact h e h1
 ·exact⟨fun args kf ret w σ cv H B hr=>(by cases hr),fun _=>cN.none⟩
theorem EW:∀ (t:Ty) {x:t.I} {cs:List Value},gX t=true→K w A t x cs→K w' A' t x cs
 | .int _,_,_,_,h=>h
 | .bool,_,_,_,h=>h
 | .str,_,_,_,h=>h
 | .unit,_,_,_,h=>h
 | .pair a b,x,cs,hf,h=>by
  simp only[gX,Bool.and_eq_true] at hf
  simp only[K] at h ⊢
  obtain⟨c0,c1,rfl,h0,h1⟩:=h
  exact⟨c0,c1,rfl,EW a hf.1 h0,EW b hf.2 h1⟩
 | .arr n t,x,cs,hf,h=>by
  simp only[gX] at hf
  simp only[K] at h ⊢
  obtain⟨eK,rfl,hl,hx,hj⟩:=h
  exact⟨eK,rfl,hl,hx,fun j h1 h2=>EW t hf (hj j h1 h2)⟩
theorem iT:∀ (t:Ty) {m:Md} {x:t.I} {cs:List Value} {ow:Nat→Prop},fw t m=true→M w A H t m x cs ow []→M w A' H t m x cs ow []
 | .sl t,.o T tag me,xs,cs,ow,hs,h=>by
  simp only[fw] at hs
  simp only[M] at h ⊢
  rcases h with⟨hn,_⟩ |⟨hk,_⟩ |⟨T,tag,me,X,c,e1,e2,hc,ht,h⟩
  ·simp at hn
  ·simp[Md.bP] at hk
  ·injection e1 with e1 Aw o9
   subst e1 Aw o9
   refine .inr (.inr ⟨_,_,_,X,c,rfl,e2,hc,ht,?_⟩)
   rcases h with h |⟨g,cur,τ,h1,h2,h3,h4,h5,h6⟩
   ·exact .inl h
   ·exact .inr ⟨g,cur,τ,h1,h2,h3,h4,h5,fun j hj=>iT t hs (h6 j hj)⟩
 | .ptr t,.o T tag me,x,cs,ow,hs,h=>by
  simp only[fw] at hs
  simp only[M] at h ⊢
  rcases h with⟨hn,_⟩ |⟨hk,_⟩ |⟨T,tag,me,g,cur,e1,e2,ht,hg,hw,h⟩
  ·simp at hn
  ·simp[Md.bP] at hk
  ·injection e1 with e1 Aw o9
   subst e1 Aw o9
   exact .inr (.inr ⟨_,_,_,g,cur,rfl,e2,ht,hg,hw,iT t hs h⟩)
 | .pair a b,.p ma mb,x,cs,ow,hs,h=>by
  simp only[fw,Bool.and_eq_true] at hs
  simp only[M] at h ⊢
  rcases h with⟨hn,_⟩ |⟨hk,h⟩ |⟨ma,mb,c0,c1,s,e1,e2,h0,h1⟩
  ·simp at hn
  ·simp only[K] at h
   simp only[Md.bP,Bool.and_eq_true] at hk
   obtain⟨c0,c1,e2,h0,h1⟩:=h
   refine .inr (.inr ⟨ma,mb,c0,c1,fun _=>True,rfl,e2,iT a hs.1 (nG hk.1 h0),iT b hs.2 (nG hk.2 h1)⟩)
  ·injection e1 with e1 Aw
   subst e1 Aw
   exact .inr (.inr ⟨_,_,c0,c1,s,rfl,e2,iT a hs.1 h0,iT b hs.2 h1⟩)
 | .sl t,.k,xs,cs,ow,hs,h=>by simp[fw,gX] at hs
 | .sl t,.p _ _,xs,cs,ow,hs,h=>by simp[fw,gX] at hs
 | .ptr t,.k,xs,cs,ow,hs,h=>by simp[fw,gX] at hs
 | .ptr t,.p _ _,xs,cs,ow,hs,h=>by simp[fw,gX] at hs
 | .pair a b,.k,xs,cs,ow,hs,h=>by
  simp only[fw,Bool.and_eq_true] at hs
  exact nG hs.1 (EW _ hs.2 (fv _ hs.1 h))
 | .pair a b,.o ..,xs,cs,ow,hs,h=>by simp[fw,Md.bP] at hs
 | .int k,m,x,cs,ow,hs,h=>by simp only[M,K] at h ⊢;exact h
 | .bool,m,x,cs,ow,hs,h=>by simp only[M,K] at h ⊢;exact h
 | .str,m,x,cs,ow,hs,h=>by simp only[M,K] at h ⊢;exact h
 | .unit,m,x,cs,ow,hs,h=>by simp only[M,K] at h ⊢;exact h
 | .arr n t,m,x,cs,ow,hs,h=>by
  have hs:(m.bP&&gX (.arr n t))=true:=by cases m<;>exact hs
  simp only[Bool.and_eq_true] at hs
  exact nG hs.1 (EW _ hs.2 (fv _ hs.1 h))
def Pk (σ:Nat→Option Nat) (n:Nat) (g:Nat):Prop:=∃ i,n≤i∧σ g=some i
theorem akw {t:Ty} {m:Md} {x:t.I} {cs:List Value} {s n:Nat} {ow:Nat→Prop} (hs:s<n) (ho:∀ g,ow g→σ g=some s) (h:M w (Av σ Z) H t m x cs ow []):K w (Pk σ n) t x cs:=
 M_K (fun g _ hg=>by obtain⟨i,_,hi⟩:=hg;exact .inl ⟨i,hi⟩) t rfl (fun g hg hx=>by
  obtain⟨i,hi,mI⟩:=hx
  rw[ho g hg] at mI
  injection mI with mI
  omega) h
theorem adZ (h:a7 σ w0 W0 Z H S a w) {T:TypeId} {x:Operand} {av:AV} {b:TV} (ho:S.dP Θ T x=some av) (e:S.sy av=some b):
  ∃ cs,az b.t (a.eval x) cs∧K w (Pk σ S.length) b.t b.x cs:=by
 have hh:=bD h ho
 cases av with
 |v a0 ex=>
  cases ex with
  |cons _ _=>simp[St.sy] at e
  |nil=>
   simp only[St.sy,Option.some.injEq] at e
   subst e
   obtain⟨cs,h1,h2⟩:=hh
   cases x with
   |tmp i=>
    simp only[St.dP,Option.some.injEq] at ho
    exact⟨cs,h1,akw (s:=i) (ee (by rw[ho];exact fun e=>by cases e)) (fun g hg=>by obtain⟨j,hj,hg⟩:=hg;injection hj with hj;subst hj;exact hg) h2⟩
   |const c=>exact⟨cs,h1,M_K (fun g _ hg=>by obtain⟨i,_,hi⟩:=hg;exact .inl ⟨i,hi⟩) _ rfl (fun g hg=>by obtain⟨j,hj,_⟩:=hg;cases hj) h2⟩
   |func f=>exact⟨cs,h1,M_K (fun g _ hg=>by obtain⟨i,_,hi⟩:=hg;exact .inl ⟨i,hi⟩) _ rfl (fun g hg=>by obtain⟨j,hj,_⟩:=hg;cases hj) h2⟩
   |global f=>exact⟨cs,h1,M_K (fun g _ hg=>by obtain⟨i,_,hi⟩:=hg;exact .inl ⟨i,hi⟩) _ rfl (fun g hg=>by obtain⟨j,hj,_⟩:=hg;cases hj) h2⟩
 |al t s p=>
  simp only[St.sy] at e
  obtain⟨r,cO,cs,hr,hc,hm⟩:=hh
  obtain⟨rfl,cE,k2,k3⟩:=da h hr hc e
  obtain⟨ex0,WR,_⟩:=hr.at_
  exact⟨cs,hm,akw (s:=s) (ee (by rw[WR];exact fun e=>by cases e)) k2 k3⟩
 |cut t s p lo hi=>
  simp only[St.sy] at e
  obtain⟨r,cO,t',X,n,c,hr,rfl,hc,hlo,Et,hv⟩:=hh
  cases hp:S.place s p with
  |none=>rw[hp] at e;cases e
  |some b'=>
   obtain⟨ht,cE,k2,k3⟩:=da h hr hc hp
   obtain⟨bt,bm,bx⟩:=b'
   simp only at ht
   subst ht
   rw[hp] at e
   simp only[Option.some.injEq] at e
   subst e
   obtain⟨ex0,WR,_⟩:=hr.at_
   have hK:=akw (s:=s) (n:=S.length) (ee (by rw[WR];exact fun e=>by cases e)) k2 k3
   have hn:n=List.length bx:=by
    simp only[K] at hK
    obtain⟨_,_,e,_⟩:=hK
    simp only[List.cons.injEq,Value.slice.injEq,and_true] at e
    exact e.2.1
   subst hn
   rw[hv]
   exact⟨_,by simp[az,isAgg],WI hK hlo Et⟩
 |_=>simp[St.sy] at e
theorem ad0 {n:Nat}:aU w w (Av σ Z) (Pk σ n):=⟨fun _ _ _=>rfl,fun g _ hg=>by obtain⟨i,_,hi⟩:=hg;exact .inl ⟨i,hi⟩⟩
theorem rr (h:a7 σ w0 W0 Z H S a w):∀ {cy:List IF} {l:List TV} {vs:List Value},oQ S cy=some l→vs.length=cy.length→(∀ (j:Nat) (c:IF),cy[j]?=some c→∃ u,vs[j]?=some u∧lT w (Av σ Z) (b9 a) S c u)→
  l.length=cy.length∧∀ (j:Nat) (c:TV),l[j]?=some c→∃ u,vs[j]?=some u∧K w (Pk σ S.length) c.t c.x [u]
 |[],l,vs,e,_,_=>by
  simp only[oQ,Option.some.injEq] at e
  subst e
  exact⟨rfl,fun j c hj=>by simp at hj⟩
 |c::cy,l,vs,e,hl,hv=>by
  simp only[oQ] at e
  split at e
  case h_2=>cases e
  rename_i b l2 hb hl2
  simp only[Option.some.injEq] at e
  subst e
  match vs,hl with
  |u::vs,hl=>
   obtain⟨h1,h2⟩:=rr h (vs:=vs) hl2 (by simpa using hl) (fun j c hj=>by simpa using hv (j+1) c (by simpa using hj))
   refine⟨by simp[h1],fun j c' hj=>?_⟩
   cases j with
   |succ j=>simpa using h2 j c' (by simpa using hj)
   |zero=>
    simp only[List.getElem?_cons_zero,Option.some.injEq] at hj
    subst hj
    obtain⟨u',hu,hc⟩:=hv 0 c rfl
    simp only[List.getElem?_cons_zero,Option.some.injEq] at hu
    subst hu
    refine⟨u,rfl,?_⟩
    cases c with
    |kv b'=>
     simp only[Hs,Option.some.injEq] at hb
     subst hb
     exact b6 ad0 _ hc
    |pl t s p=>
     simp only[Hs] at hb
     split at hb
     case h_2=>cases hb
     rename_i b' hp
     simp only[Option.some.injEq] at hb
     subst hb
     obtain⟨r,cO,cs,hr,jq,hm⟩:=hc
     obtain⟨Ab,cE,k2,k3⟩:=da h hr jq hp
     obtain⟨ex0,WR,_⟩:=hr.at_
     have hK:=akw (s:=s) (n:=S.length) (ee (by rw[WR];exact fun e=>by cases e)) k2 k3
     have:cs=[u]:=by simpa[az,isAgg] using hm
     rw[this] at hK
     exact hK
theorem uC:∀ (xs:List Operand) (Ts:List TypeId) (ps:List Pass) (j:Nat) {S S1:St} {σ:Nat→Option Nat} {l:List (Option TV)},a7 σ w0 W0 Z H S a w→fM Θ S xs Ts ps=some (l,S1)→
  ∃ (bO:Nat→Option Nat) (ow:Nat→Prop) (τ:Nat→Nat),a7 bO w0 W0 Z H S1 a w∧S1.length=S.length∧fU σ bO S.length ow∧l.length=xs.length∧(∀ g,ow g→j≤τ g∧τ g<j+l.length)∧
   ((∀ p∈ps,p=.val)→∀ g,¬ow g)∧
   ∀ (k:Nat) (b:TV),l[k]?=some (some b)→∃ x cs,xs[k]?=some x∧az b.t (a.eval x) cs∧M w (Av σ Z) H b.t b.m b.x cs (fun g=>ow g∧τ g=j+k) []
 |[],Ts,ps,j,S,S1,σ,l,h,e=>by
  simp only[fM,Option.some.injEq,Prod.mk.injEq] at e
  obtain⟨rfl,rfl⟩:=e
  exact⟨σ,fun _=>False,fun _=>j,h,rfl,fU.none _ _,rfl,fun _ h=>h.elim,fun _ _ h=>h,fun k b hk=>by simp at hk⟩
 |x::xs,[],ps,j,S,S1,σ,l,h,e=>by simp[fM] at e
 |x::xs,T::Ts,[],j,S,S1,σ,l,h,e=>by simp[fM] at e
 |x::xs,T::Ts,p::ps,j,S,S1,σ,l,h,e=>by
  simp only[fM] at e
  split at e
  ·split at e
   case h_2=>cases e
   rename_i r hr
   simp only[Option.some.injEq,Prod.mk.injEq] at e
   obtain⟨rfl,rfl⟩:=e
   obtain⟨bO,ow,τ,k1,k2,k3,k4,k5,k6,k7⟩:=uC xs Ts ps (j+1) h hr
   refine⟨bO,ow,τ,k1,k2,k3,by simp[k4],fun g hg=>by have:=k5 g hg;simp only[List.length_cons];omega,fun hp=>k6 (fun p hp'=>hp p (by simp[hp'])),fun k b hk=>?_⟩
   cases k with
   |zero=>simp at hk
   |succ k=>
    obtain⟨x',cs,q1,q2,q3⟩:=k7 k b (by simpa using hk)
    exact⟨x',cs,by simpa using q1,q2,by rw[show j+(k+1)=j+1+k from by omega];exact q3⟩
  rotate_left
  ·cases e
  ·unfold St.take at e
   split at e
   case h_2=>cases e
   rename_i b S2 hb
   split at hb
   case h_2=>cases hb
   rename_i av dA
   split at e
   case h_2=>cases e
   rename_i r hr
   simp only[Option.some.injEq,Prod.mk.injEq] at e
   obtain⟨rfl,rfl⟩:=e
   obtain⟨bO,cs,ow,h1,hm,hM,hk,hn⟩:=eD h dA hb
   obtain⟨dQ,oZ,τ,k1,k2,k3,k4,k5,k6,k7⟩:=uC xs Ts ps (j+1) h1 hr
   rw[hn] at k3
   have R7:∀ g,ow g→¬oZ g:=fun g hg=>hk.apart k3 hg
   let WU:Nat→Nat:=fun g=>open Classical in if ow g then j else τ g
   refine⟨dQ,fun g=>ow g∨oZ g,WU,k1,by omega,hk.trans k3,by simp[k4],fun g hg=>?_,fun hp=>(fun hx:Pass.take=Pass.val=>nomatch hx) (hp .take (by simp)),fun k b' fW=>?_⟩
   ·simp only[WU,List.length_cons]
    split
    ·omega
    ·rename_i hx
     have:=k5 g (hg.resolve_left hx)
     omega
   ·cases k with
    |zero=>
     simp only[List.getElem?_cons_zero,Option.some.injEq] at fW
     subst fW
     refine⟨x,cs,rfl,hm,aK (aU.refl _ _) _ (fun _ _ _=>rfl) (fun g hg _=>⟨.inl hg,by simp only[WU,if_pos hg,Nat.add_zero]⟩) (fun _ h=>h) hM⟩
    |succ k=>
     obtain⟨x',cM,q1,q2,q3⟩:=k7 k b' (by simpa using fW)
     refine⟨x',cM,by simpa using q1,q2,aK ⟨fun _ _ _=>rfl,fun g _ hg=>hk.Av.2 hg⟩ _ (fun _ _ _=>rfl) (fun g hg _=>⟨.inr hg.1,?_⟩) (fun _ h=>h) q3⟩
     simp only[WU]
     rw[if_neg (fun hx=>R7 g hx hg.1),hg.2]
     omega
theorem jL (h:a7 σ w0 W0 Z H S a w):∀ (xs:List Operand) (Ts:List TypeId) (l:List (Option TV)) {as:List Arg},l.length=xs.length→reads Θ S xs Ts l=some as→
  as.length=xs.length∧∀ (k:Nat) (r:Arg),as[k]?=some r→(∃ b,l[k]?=some (some b)∧r=.tv b)∨∃ x,xs[k]?=some x∧∀ H,Cy w (Pk σ S.length) H r (a.eval x) (fun _=>False)
 |[],Ts,l,as,_,e=>by
  simp only[reads,Option.some.injEq] at e
  subst e
  exact⟨rfl,fun k r hk=>by simp at hk⟩
 |x::xs,[],l,as,hl,e=>by simp[reads] at e
 |x::xs,T::Ts,[],as,hl,e=>by simp at hl
 |x::xs,T::Ts,p::ps,as,hl,e=>by
  have WO:ps.length=xs.length:=by simpa using hl
  simp only[reads] at e
  split at e
  ·rename_i b
   split at e
   case h_2=>cases e
   rename_i r hr
   simp only[Option.some.injEq] at e
   subst e
   obtain⟨h1,h2⟩:=jL h xs Ts ps WO hr
   refine⟨by simp[h1],fun k r' hk=>?_⟩
   cases k with
   |zero=>
    simp only[List.getElem?_cons_zero,Option.some.injEq] at hk
    exact .inl ⟨b,rfl,hk.symm⟩
   |succ k=>simpa using h2 k r' (by simpa using hk)
  ·split at e
   ·rename_i f cy dA
    split at e
    case h_2=>cases e
    rename_i cs r gH hr
    simp only[Option.some.injEq] at e
    subst e
    obtain⟨h1,h2⟩:=jL h xs Ts ps WO hr
    refine⟨by simp[h1],fun k r' hk=>?_⟩
    cases k with
    |zero=>
     simp only[List.getElem?_cons_zero,Option.some.injEq] at hk
     subst hk
     obtain⟨vs,v1,v2,v3⟩:=bD h dA
     obtain⟨c1,c2⟩:=rr h gH v2 v3
     exact .inr ⟨x,rfl,fun _=>⟨vs,v1,by omega,c2⟩⟩
    |succ k=>simpa using h2 k r' (by simpa using hk)
   ·rename_i av _ dA
    split at e
    case h_2=>cases e
    rename_i b r hb hr
    simp only[Option.some.injEq] at e
    subst e
    obtain⟨h1,h2⟩:=jL h xs Ts ps WO hr
    refine⟨by simp[h1],fun k r' hk=>?_⟩
    cases k with
    |zero=>
     simp only[List.getElem?_cons_zero,Option.some.injEq] at hk
     subst hk
     obtain⟨cs,c1,c2⟩:=adZ h dA hb
     exact .inr ⟨x,rfl,fun _=>⟨cs,c1,fJ _ c2⟩⟩
    |succ k=>simpa using h2 k r' (by simpa using hk)
   ·cases e
theorem l4 (h:a7 σ w0 W0 Z H S a w):∀ (xs:List Operand) (Ts:List TypeId) (l:List (Option TV)) {as:List Arg},l.length=xs.length→reads Θ S xs Ts l=some as→iK S xs l as=true→
  ∀ (k:Nat) (r:Arg),as[k]?=some r→(∃ b,l[k]?=some (some b)∧r=.tv b)∨∃ x,xs[k]?=some x∧∀ H,Cy w (Av σ Z) H r (a.eval x) (fun _=>False)
 |[],Ts,l,as,_,e,_=>by
  simp only[reads,Option.some.injEq] at e
  subst e
  exact fun k r hk=>by simp at hk
 |x::xs,[],l,as,hl,e,_=>by simp[reads] at e
 |x::xs,T::Ts,[],as,hl,e,_=>by simp at hl
 |x::xs,T::Ts,p::ps,as,hl,e,hf=>by
  have WO:ps.length=xs.length:=by simpa using hl
  have gq:=(jL h (x::xs) (T::Ts) (p::ps) hl e).2
  simp only[reads] at e
  split at e
  ·rename_i b
   split at e
   case h_2=>cases e
   rename_i r hr
   simp only[Option.some.injEq] at e
   subst e
   simp only[iK,Bool.true_or,Bool.true_and] at hf
   have h2:=l4 h xs Ts ps WO hr hf
   intro k r' hk
   cases k with
   |zero=>
    simp only[List.getElem?_cons_zero,Option.some.injEq] at hk
    exact .inl ⟨b,rfl,hk.symm⟩
   |succ k=>simpa using h2 k r' (by simpa using hk)
  ·split at e
   ·rename_i f cy dA
    split at e
    case h_2=>cases e
    rename_i cs r gH hr
    simp only[Option.some.injEq] at e
    subst e
    simp only[iK,Bool.false_or,Bool.and_eq_true,List.isEmpty_iff] at hf
    obtain⟨hf1,hf2⟩:=hf
    have h2:=l4 h xs Ts ps WO hr hf2
    intro k r' hk
    cases k with
    |succ k=>simpa using h2 k r' (by simpa using hk)
    |zero=>
     simp only[List.getElem?_cons_zero,Option.some.injEq] at hk
     subst hk
     rcases gq 0 _ rfl with⟨b',I3,_⟩ |⟨x',xa,iz⟩
     ·simp at I3
     ·simp only[List.getElem?_cons_zero,Option.some.injEq] at xa
      subst xa
      refine .inr ⟨x,rfl,fun H'=>?_⟩
      obtain⟨vs,v1,v2,v3⟩:=iz H'
      exact⟨vs,v1,v2,fun j c hj=>by rw[hf1] at hj;simp at hj⟩
   ·rename_i av _ dA
    split at e
    case h_2=>cases e
    rename_i b r hb hr
    simp only[Option.some.injEq] at e
    subst e
    simp only[iK,Bool.false_or,Bool.and_eq_true,Bool.or_eq_true] at hf
    obtain⟨hf1,hf2⟩:=hf
    have h2:=l4 h xs Ts ps WO hr hf2
    intro k r' hk
    cases k with
    |succ k=>simpa using h2 k r' (by simpa using hk)
    |zero=>
     simp only[List.getElem?_cons_zero,Option.some.injEq] at hk
     subst hk
     rcases hf1 with hs |hs
     ·rcases gq 0 _ rfl with⟨b',I3,_⟩ |⟨x',xa,iz⟩
      ·simp at I3
      ·simp only[List.getElem?_cons_zero,Option.some.injEq] at xa
       subst xa
       refine .inr ⟨x,rfl,fun H'=>?_⟩
       obtain⟨cs,c1,c2⟩:=iz H'
       exact⟨cs,c1,iT _ hs c2⟩
     ·refine .inr ⟨x,rfl,fun H'=>?_⟩
      have hh:=bD h dA
      cases x with
      |func f=>simp[tJ] at hs
      |global f=>simp[tJ] at hs
      |tmp i=>
       simp only[St.dP,Option.some.injEq] at dA
       subst dA
       simp only[tJ] at hs
       split at hs
       ·rename_i b0 hb0
        rw[hb0] at hh hb
        simp only[St.sy,Option.some.injEq] at hb
        subst hb
        obtain⟨cs,c1,c2⟩:=hh
        exact⟨cs,c1,nG rfl (fv _ hs c2)⟩
       ·cases hs
      |const c=>
       have hk:∀ a0,av=.v a0 []→∀ H',Cy w (Av σ Z) H' (.tv (RG b)) (a.eval (.const c)) fun _=>False:=fun a0 e H'=>by
        subst e
        simp only[St.sy,Option.some.injEq] at hb
        subst hb
        have hh:=bD h dA
        obtain⟨cs,c1,c2⟩:=hh
        exact⟨cs,c1,nG rfl (M_K (fun g _ hg=>hg) _ rfl (fun g hg=>by obtain⟨j,hj,_⟩:=hg;cases hj) c2)⟩
       simp only[St.dP] at dA
       cases hc:mK Θ T c with
       |none=>rw[hc] at dA;cases dA
       |some a0=>
        rw[hc] at dA
        simp only[Option.map_some,Option.some.injEq] at dA
        exact hk a0 dA.symm H'
   ·cases e
end Go.Pv
namespace Go.Pv
set_option linter.unusedVariables false
set_option linter.unusedSimpArgs false
variable {P:Program} {w w':World} {A A' B Wr:Nat→Prop} {H H':Nat→Value}
theorem l5:∀ (t:Ty) {m:Md} {x:t.I} {cs:List Value} {ow:Nat→Prop} {hs:List Path},qw m=true→M w A H t m x cs ow hs→M w A H' t m x cs ow hs
 | .int _,_,_,_,_,_,_,h=>by simp only[M] at h ⊢;exact h
 | .bool,_,_,_,_,_,_,h=>by simp only[M] at h ⊢;exact h
 | .str,_,_,_,_,_,_,h=>by simp only[M] at h ⊢;exact h
 | .unit,_,_,_,_,_,_,h=>by simp only[M] at h ⊢;exact h
 | .arr _ _,_,_,_,_,_,_,h=>by simp only[M] at h ⊢;exact h
 | .sl t,m,xs,cs,ow,hs,hb,h=>by
  simp only[M] at h ⊢
  rcases h with h |h |⟨T,tag,me,X,c,rfl,e2,hc,ht,h⟩
  ·exact .inl h
  ·exact .inr (.inl h)
  ·simp only[qw,Bool.and_eq_true] at hb
   obtain⟨hb1,hb2⟩:=hb
   cases tag with
   |some _=>cases hb1
   |none=>
    refine .inr (.inr ⟨T,none,me,X,c,rfl,e2,hc,fun h hh=>(by cases hh),?_⟩)
    rcases h with h |⟨g,cur,τ,h1,h2,h3,h4,h5,h6⟩
    ·exact .inl h
    ·exact .inr ⟨g,cur,τ,h1,h2,h3,h4,h5,fun j hj=>l5 t hb2 (h6 j hj)⟩
 | .ptr t,m,x,cs,ow,hs,hb,h=>by
  simp only[M] at h ⊢
  rcases h with h |h |⟨T,tag,me,g,cur,rfl,e2,ht,hg,hw,h⟩
  ·exact .inl h
  ·exact .inr (.inl h)
  ·simp only[qw,Bool.and_eq_true] at hb
   obtain⟨hb1,hb2⟩:=hb
   cases tag with
   |some _=>cases hb1
   |none=>exact .inr (.inr ⟨T,none,me,g,cur,rfl,e2,fun h hh=>(by cases hh),hg,hw,l5 t hb2 h⟩)
 | .pair a b,m,x,cs,ow,hs,hb,h=>by
  simp only[M] at h ⊢
  rcases h with h |h |⟨ma,mb,c0,c1,s,rfl,e2,h0,h1⟩
  ·exact .inl h
  ·exact .inr (.inl h)
  ·simp only[qw,Bool.and_eq_true] at hb
   exact .inr (.inr ⟨ma,mb,c0,c1,s,rfl,e2,l5 a hb.1 h0,l5 b hb.2 h1⟩)
theorem ru:∀ (t:Ty) {m:Md} {n:Nat},m.bP=true→(iL t m n).bP=true
 | .int _,m,n,h=>by simpa[iL] using h
 | .bool,m,n,h=>by simpa[iL] using h
 | .str,m,n,h=>by simpa[iL] using h
 | .unit,m,n,h=>by simpa[iL] using h
 | .arr _ _,m,n,h=>by simpa[iL] using h
 | .sl t,m,n,h=>by cases m<;>simp_all [iL,Md.bP]
 | .ptr t,m,n,h=>by cases m<;>simp_all [iL,Md.bP]
 | .pair a b,m,n,h=>by
  cases m with
  |k=>simp[iL,Md.bP]
  |o=>simp[Md.bP] at h
  |p ma mb=>
   simp only[Md.bP,Bool.and_eq_true] at h
   simp only[iL,Md.bP,Bool.and_eq_true]
   exact⟨ru a h.1,ru b h.2⟩
theorem l6:∀ (t:Ty) {m:Md} {x y:t.I},m.bP=true→fe t m x y=x
 | .int _,m,x,y,h=>rfl
 | .bool,m,x,y,h=>rfl
 | .str,m,x,y,h=>rfl
 | .unit,m,x,y,h=>rfl
 | .arr _ _,m,x,y,h=>rfl
 | .sl t,m,x,y,h=>by cases m<;>simp_all [fe,Md.bP]
 | .ptr t,m,x,y,h=>by cases m<;>simp_all [fe,Md.bP]
 | .pair a b,m,x,y,h=>by
  cases m with
  |k=>simp[fe]
  |o=>simp[Md.bP] at h
  |p ma mb=>
   simp only[Md.bP,Bool.and_eq_true] at h
   simp only[fe]
   rw[l6 a h.1,l6 b h.2]
theorem ad1:∀ (t:Ty) {m:Md} {x:t.I} {cs:List Value} {ow:Nat→Prop} {n:Nat},eM t m=true→M w A H t m x cs ow []→(∀ (j:Nat) (u:Value),cs[j]?=some u→H' (n+j)=u)→M w A H' t (iL t m n) x cs ow []
 | .int _,_,_,_,_,_,_,h,_=>by simp only[M,iL] at h ⊢;exact h
 | .bool,_,_,_,_,_,_,h,_=>by simp only[M,iL] at h ⊢;exact h
 | .str,_,_,_,_,_,_,h,_=>by simp only[M,iL] at h ⊢;exact h
 | .unit,_,_,_,_,_,_,h,_=>by simp only[M,iL] at h ⊢;exact h
 | .arr _ _,_,_,_,_,_,_,h,_=>by simp only[M,iL] at h ⊢;exact h
 | .sl t,m,xs,cs,ow,n,hl,h,hH=>by
  simp only[M] at h ⊢
  rcases h with⟨h,_⟩ |⟨hk,h⟩ |⟨T,tag,me,X,c,rfl,rfl,hc,ht,h⟩
  ·simp at h
  ·exact .inr (.inl ⟨ru (.sl t) hk,h⟩)
  ·simp only[eM,Bool.and_eq_true] at hl
   refine .inr (.inr ⟨T,some n,me,X,c,rfl,rfl,hc,fun h hh=>?_,?_⟩)
   ·injection hh with hh
    subst hh
    exact hH 0 _ rfl
   ·rcases h with h |⟨g,cur,τ,h1,h2,h3,h4,h5,h6⟩
    ·exact .inl h
    ·exact .inr ⟨g,cur,τ,h1,h2,h3,h4,h5,fun j hj=>l5 t hl (h6 j hj)⟩
 | .ptr t,m,x,cs,ow,n,hl,h,hH=>by
  simp only[M] at h ⊢
  rcases h with⟨h,_⟩ |⟨hk,h⟩ |⟨T,tag,me,g,cur,rfl,rfl,ht,hg,hw,h⟩
  ·simp at h
  ·exact .inr (.inl ⟨ru (.ptr t) hk,h⟩)
  ·simp only[eM,Bool.and_eq_true] at hl
   refine .inr (.inr ⟨T,some n,me,g,cur,rfl,rfl,fun h hh=>?_,hg,hw,l5 t hl h⟩)
   injection hh with hh
   subst hh
   exact hH 0 _ rfl
 | .pair a b,m,x,cs,ow,n,hl,h,hH=>by
  simp only[M] at h ⊢
  rcases h with⟨h,_⟩ |⟨hk,h⟩ |⟨ma,mb,c0,c1,s,rfl,rfl,h0,h1⟩
  ·simp at h
  ·exact .inr (.inl ⟨ru (.pair a b) hk,h⟩)
  ·simp only[eM,Bool.and_eq_true] at hl
   have hl0:=(er a h0).1
   refine .inr (.inr ⟨_,_,c0,c1,s,rfl,rfl,ad1 a hl.1 h0 (fun j u hj=>hH j u ?_),ad1 b hl.2 h1 (fun j u hj=>?_)⟩)
   ·rw[List.getElem?_append_left (List.getElem?_eq_some_iff.1 hj).1];exact hj
   ·rw[Nat.add_assoc]
    refine hH (a.size+j) u ?_
    rw[List.getElem?_append_right (by omega),hl0,Nat.add_sub_cancel_left]
    exact hj
theorem xr (b5:aU w w' A A'):∀ (t:Ty) {m:Md} {x y:t.I} {cs cM:List Value} {ow cE:Nat→Prop} {n:Nat},eM t m=true→(qW t m=true∨aU w' w' B A')→M w A H t m x cs ow []→(∀ (j:Nat) (u:Value),cs[j]?=some u→H' (n+j)=u)→
  M w' B H' t (iL t m n) y cM cE []→M w' A' H t m (fe t m x y) cs cE []
 | .int _,_,_,_,_,_,_,_,_,_,_,h,_,_=>by simp only[M,fe] at h ⊢;exact⟨h.1,b6 b5 _ h.2⟩
 | .bool,_,_,_,_,_,_,_,_,_,_,h,_,_=>by simp only[M,fe] at h ⊢;exact⟨h.1,b6 b5 _ h.2⟩
 | .str,_,_,_,_,_,_,_,_,_,_,h,_,_=>by simp only[M,fe] at h ⊢;exact⟨h.1,b6 b5 _ h.2⟩
 | .unit,_,_,_,_,_,_,_,_,_,_,h,_,_=>by simp only[M,fe] at h ⊢;exact⟨h.1,b6 b5 _ h.2⟩
 | .arr _ _,_,_,_,_,_,_,_,_,_,_,h,_,_=>by simp only[M,fe] at h ⊢;exact⟨h.1,b6 b5 _ h.2⟩
 | .sl t,m,xs,ys,cs,cM,ow,cE,n,hl,hB,h,hH,h'=>by
  simp only[M] at h
  rcases h with⟨h,_⟩ |⟨hk,h⟩ |⟨T,tag,me,X,c,rfl,rfl,hc,ht,h⟩
  ·simp at h
  ·rw[l6 _ hk]
   exact nG hk (b6 b5 _ h)
  ·simp only[eM,Bool.and_eq_true] at hl
   simp only[iL,M] at h'
   rcases h' with⟨h',_⟩ |⟨hk,_⟩ |⟨T2,aam,me2,X2,c2,e1,e2,hc2,ht2,h'⟩
   ·simp at h'
   ·simp[Md.bP] at hk
   ·injection e1 with e1 Aw o9
    subst e1 Aw o9
    have q1:=ht2 n rfl
    rw[show H' n=.slice X xs.length c from hH 0 _ rfl] at q1
    injection q1 with q1 q2 q3
    subst q1 q3
    simp only[M,fe]
    refine .inr (.inr ⟨T,tag,me,X,c,rfl,by rw[q2],hc2,fun h hh=>by rw[ht h hh,q2],?_⟩)
    rcases h' with h' |⟨g,cur,τ,k1,k2,k3,k4,k5,k6⟩
    ·exact .inl h'
    ·exact .inr ⟨g,cur,τ,k1,k2,k3,k4,k5,fun j hj=>hB.elim (fun hs=>iT t hs (l5 t hl (k6 j hj))) fun b5=>aK b5 t (fun _ _ _=>rfl) (fun _ h _=>h) (fun _ h=>h) (l5 t hl (k6 j hj))⟩
 | .ptr t,m,x,y,cs,cM,ow,cE,n,hl,hB,h,hH,h'=>by
  simp only[M] at h
  rcases h with⟨h,_⟩ |⟨hk,h⟩ |⟨T,tag,me,g,cur,rfl,rfl,ht,hg,hw,h⟩
  ·simp at h
  ·rw[l6 _ hk]
   exact nG hk (b6 b5 _ h)
  ·simp only[eM,Bool.and_eq_true] at hl
   simp only[iL,M] at h'
   rcases h' with⟨h',_⟩ |⟨hk,_⟩ |⟨T2,aam,me2,g2,fS,e1,e2,ht2,qK,qT,h'⟩
   ·simp at h'
   ·simp[Md.bP] at hk
   ·injection e1 with e1 Aw o9
    subst e1 Aw o9
    have q1:=ht2 n rfl
    rw[show H' n=.pointer (some ⟨g,0,none⟩) from hH 0 _ rfl] at q1
    injection q1 with q1
    injection q1 with q1
    injection q1 with q1
    subst q1
    simp only[M,fe]
    exact .inr (.inr ⟨T,tag,me,g,fS,rfl,rfl,ht,qK,qT,hB.elim (fun hs=>iT t hs (l5 t hl h')) fun b5=>aK b5 t (fun _ _ _=>rfl) (fun _ h _=>h) (fun _ h=>h) (l5 t hl h')⟩)
 | .pair a b,m,x,y,cs,cM,ow,cE,n,hl,hB,h,hH,h'=>by
  simp only[M] at h
  rcases h with⟨h,_⟩ |⟨hk,h⟩ |⟨ma,mb,c0,c1,s,rfl,rfl,h0,h1⟩
  ·simp at h
  ·rw[l6 _ hk]
   exact nG hk (b6 b5 _ h)
  ·simp only[eM,Bool.and_eq_true] at hl
   have hBa:qW a ma=true∨aU w' w' B A':=hB.imp (fun h=>by simp only[qW,Bool.and_eq_true] at h;exact h.1) id
   have hBb:qW b mb=true∨aU w' w' B A':=hB.imp (fun h=>by simp only[qW,Bool.and_eq_true] at h;exact h.2) id
   have hl0:=(er a h0).1
   have hH0:∀ (j:Nat) (u:Value),c0[j]?=some u→H' (n+j)=u:=fun j u hj=>hH j u (by rw[List.getElem?_append_left (List.getElem?_eq_some_iff.1 hj).1];exact hj)
   have hH1:∀ (j:Nat) (u:Value),c1[j]?=some u→H' (n+a.size+j)=u:=fun j u hj=>by
    rw[Nat.add_assoc]
    refine hH (a.size+j) u ?_
    rw[List.getElem?_append_right (by omega),hl0,Nat.add_sub_cancel_left]
    exact hj
   simp only[iL,M] at h'
   simp only[M,fe]
   rcases h' with⟨h',_⟩ |⟨hk,h'⟩ |⟨ma2,mb2,d0,d1,s2,e1,e2,k0,k1⟩
   ·simp at h'
   ·simp only[Md.bP,Bool.and_eq_true] at hk
    simp only[K] at h'
    obtain⟨d0,d1,e2,k0,k1⟩:=h'
    exact .inr (.inr ⟨ma,mb,c0,c1,fun _=>True,rfl,rfl,xr b5 a hl.1 hBa h0 hH0 (nG hk.1 k0),xr b5 b hl.2 hBb h1 hH1 (nG hk.2 k1)⟩)
   ·injection e1 with e1 Aw
    subst e1 Aw
    exact .inr (.inr ⟨ma,mb,c0,c1,s2,rfl,rfl,xr b5 a hl.1 hBa h0 hH0 k0,xr b5 b hl.2 hBb h1 hH1 k1⟩)
end Go.Pv
namespace Go.Pv
set_option linter.unusedVariables false
set_option linter.unusedSimpArgs false
variable {P:Program} {w w':World} {A A' Wr:Nat→Prop} {H:Nat→Value} {tm qP:Nat→Value} {S S' S1:St} {σ bO dQ:Nat→Option Nat} {w0:World} {W0 Z:Nat→Prop} {a:Act} {own:Nat→Prop} {v:Value} {Θ:de} {dst:Option Nat} {O:jr} {hh:Hint} {Γ:Gl}
theorem Fr.trans {W1:Nat→Prop} (h:Fr w0 W0 w) (h1:Fr w W1 w') (hw:∀ g,W1 g→g<w0.heap.size→W0 g):Fr w0 W0 w':=by
 refine⟨h1.os.trans h.os,h1.tape.trans h.tape,h1.output.trans h.output,Nat.le_trans h.size h1.size,fun g hg hn=>?_⟩
 rw[h1.block g (by have:=h.size;omega) (fun hx=>hn (hw g hx hg))]
 exact h.block g hg hn
theorem WZ (hT:cP P hh.tab=true) (hO:qA Γ P O w0 W0) (h:a7 σ w0 W0 Z H S a w) {o:Oper} {f:FuncId} {cal:Option Nat} {as:List Operand} {ts:List TypeId} {K:St→Option aa} {ret:aa} {xt:List Value}
  (aA9:(cal=none∧xt=[])∨∃ i,cal=some i∧b9 a i=.func (.func f) #[] xt.toArray) (e:gF hh O o f cal as ts S K=some ret):
  Sf P f (as.map a.eval++xt) w fun v w'=>∃ S',K S'=some ret∧Rel w0 W0 Z H S' (a.put o.dst v) w'∧((∀ p∈O.sig f,p=.val)→Ext w w'):=by
 unfold gF at e
 split at e
 case h_2=>cases e
 rename_i l S1 hl
 split at e
 case h_2=>cases e
 rename_i args cs HU gH
 obtain⟨bO,ow,τ,t1,t2,t3,t4,t5,t6,t7⟩:=uC as ts (O.sig f) 0 h hl
 obtain⟨r1,r2⟩:=jL t1 as ts l t4 HU
 -- the captured values
 have akx:cs.length=xt.length∧∀ (j:Nat) (c:TV),cs[j]?=some c→Wx c=true∧∃ u,xt[j]?=some u∧Go.Pv.K w (Pk bO S1.length) c.t c.x [u]:=by
  rcases aA9 with⟨rfl,rfl⟩ |⟨i,rfl,hv⟩
  ·simp only[qV,Option.some.injEq] at gH
   subst gH
   exact⟨rfl,fun j c hj=>by simp at hj⟩
  ·simp only[qV] at gH
   split at gH
   case h_2=>cases gH
   rename_i f' cy du
   cases hb:Nat.beq f' f with
   |false=>rw[hb] at gH;cases gH
   |true=>
    rw[hb] at gH
    simp only[cond_true] at gH
    have hold:=t1.holds i
    rw[du] at hold
    obtain⟨vs,v1,v2,v3⟩:=hold
    rw[hv] at v1
    injection v1 with _ _ v1
    have hvs:xt=vs:=by
     have:=congrArg Array.toList v1
     simpa using this
    subst hvs
    split at gH
    case h_2=>cases gH
    rename_i l' WO
    cases hp:l'.all Wx with
    |false=>rw[hp] at gH;cases gH
    |true=>
     rw[hp] at gH
     simp only[cond_true,Option.some.injEq] at gH
     subst gH
     obtain⟨c1,c2⟩:=rr t1 WO v2 v3
     exact⟨by omega,fun j c hj=>⟨List.all_eq_true.1 hp c (List.mem_of_getElem? hj),c2 j c hj⟩⟩
 -- the callee's arguments
 let uD:Nat→Option Nat:=fun g=>open Classical in if ow g then some (τ g) else none
 have uE:∀ g i,uD g=some i↔ow g∧τ g=i:=fun g i=>by
  simp only[uD]
  split
  ·rename_i hx;exact⟨fun hg=>⟨hx,by injection hg⟩,fun hg=>by rw[hg.2]⟩
  ·rename_i hx;exact⟨fun hg=>(by cases hg),fun hg=>absurd hg.1 hx⟩
 have tD:∀ g,Own uD g↔ow g:=fun g=>⟨fun⟨i,hi⟩=>((uE g i).1 hi).1,fun hg=>⟨τ g,(uE g _).2 ⟨hg,rfl⟩⟩⟩
 have I4:∀ g,ow g→Pk bO S1.length g:=fun g hg=>by rw[t2];exact t3.now g hg
 obtain⟨tE,Cz⟩:∃ tE,tE=(cs.isEmpty&&iK S1 as l args):=⟨_,rfl⟩
 let B:Nat→Prop:=fun g=>tE=true∧Av σ Z g∧ ¬ow g
 have Sg:aU w w (Av σ Z) (Av uD B):=⟨fun _ _ _=>rfl,fun g _ hg=>by
  rcases hg with hg |hg
  ·obtain⟨i,_,hi⟩:=t3.M7 g ((tD g).1 hg)
   exact .inl ⟨i,hi⟩
  ·exact hg.2.1⟩
 have auI:aU w w (Av bO Z) (Av uD B):=⟨fun _ _ _=>rfl,fun g hl hg=>t3.Av.2 (Sg.wr g hl hg)⟩
 have aky:tE=false→aU w w (Pk bO S1.length) (Av uD B):=fun hn=>⟨fun _ _ _=>rfl,fun g _ hg=>by
  rcases hg with hg |hg
  ·exact I4 g ((tD g).1 hg)
  ·have h1:=hg.1;rw[hn] at h1;cases h1⟩
 have r3:=fun hf:tE=true=>l4 t1 as ts l t4 HU (by rw[hf] at Cz;exact(Bool.and_eq_true _ _▸Cz.symm).2)
 have e7:In Γ B H w uD (args++cs.map .tv) (as.map a.eval++xt):=by
  refine⟨by simp[r1,akx.1],fun g i hg=>?_,fun g hg=>⟨?_,?_⟩,fun g o hg=>⟨?_,?_⟩,fun j r hj=>?_⟩
  ·obtain⟨q1,q2⟩:=(uE g i).1 hg
   have:=(t5 g q1).2
   obtain⟨k,_,hk⟩:=t3.M7 g q1
   exact⟨by simp only[List.length_append];omega,h.lt g k hk⟩
  ·cases hc:uD g with
   |none=>rfl
   |some i=>exact absurd ((uE g i).1 hc).1 hg.2.2
  ·rcases hg.2.1 with⟨i,hi⟩ |hz
   ·exact h.lt g i hi
   ·have:=(h.old g hz).2;have:=h.fr.size;omega
  ·cases hc:uD g with
   |none=>rfl
   |some i=>
    obtain⟨k,_,hk⟩:=t3.M7 g ((uE g i).1 hc).1
    obtain⟨e1,e2⟩:=hO.env g o hg
    rcases h.new g k hk with hx |hx
    ·have:=bn e2;omega
    ·exact absurd hx e1
  ·obtain⟨e1,e2⟩:=hO.env g o hg
   rw[h.fr.block g (bn e2) e1,e2]
  ·rcases Nat.lt_or_ge j args.length with sD |sD
   ·rw[List.getElem?_append_left sD] at hj
    rw[List.getElem?_append_left (by simp only[List.length_map];omega),List.getElem?_map]
    rcases r2 j r hj with⟨b,hb,rfl⟩ |⟨x,hx,iz⟩
    ·obtain⟨x,c,q1,q2,q3⟩:=t7 j b hb
     rw[q1]
     exact⟨_,rfl,c,q2,aK Sg _ (fun _ _ _=>rfl) (fun g hg _=>(uE g j).2 ⟨hg.1,by rw[hg.2];omega⟩) (fun _ h=>h) q3⟩
    ·have fin:∀ {A0:Nat→Prop},aU w w A0 (Av uD B)→Cy w A0 H r (a.eval x) (fun _=>False)→Cy w (Av uD B) H r (a.eval x) (fun g=>uD g=some j):=fun b5 iz=>by
      cases r with
      |tv b=>
       obtain⟨c,c1,c2⟩:=iz
       exact⟨c,c1,aK b5 _ (fun _ _ _=>rfl) (fun _ hg _=>hg.elim) (fun _ h=>h) c2⟩
      |fn f' cy=>
       obtain⟨vs,c1,c2,c3⟩:=iz
       exact⟨vs,c1,c2,fun k c hk=>by obtain⟨u,u1,u2⟩:=c3 k c hk;exact⟨u,u1,b6 b5 _ u2⟩⟩
     cases No:tE with
     |false=>
      rw[hx]
      exact⟨_,rfl,fin (aky No) (iz H)⟩
     |true=>
      rcases r3 No j r hj with⟨b,hb,rfl⟩ |⟨x',xa,auJ⟩
      ·obtain⟨x,c,q1,q2,q3⟩:=t7 j b hb
       rw[q1]
       exact⟨_,rfl,c,q2,aK Sg _ (fun _ _ _=>rfl) (fun g hg _=>(uE g j).2 ⟨hg.1,by rw[hg.2];omega⟩) (fun _ h=>h) q3⟩
      ·rw[hx] at xa
       injection xa with xa
       subst xa
       rw[hx]
       exact⟨_,rfl,fin auI (auJ H)⟩
   ·rw[List.getElem?_append_right sD,List.getElem?_map] at hj
    cases hc:cs[j - args.length]? with
    |none=>rw[hc] at hj;cases hj
    |some c=>
     rw[hc] at hj
     injection hj with hj
     subst hj
     obtain⟨u0,u,u1,u2⟩:=akx.2 _ c hc
     refine⟨u,?_,?_⟩
     ·rw[List.getElem?_append_right (by simp only[List.length_map];omega)]
      simpa[r1] using u1
     ·have No:tE=false:=by
       cases hf:tE with
       |false=>rfl
       |true=>
        rw[hf] at Cz
        cases cs with
        |nil=>simp at hc
        |cons _ _=>simp at Cz
      have hK:=b6 (aky No) _ u2
      obtain⟨ct,cm,cx⟩:=c
      unfold Wx at u0
      split at u0
      ·rename_i t ht
       simp only at ht u0 hK
       subst ht
       exact⟨[u],by simp[az,isAgg],nG u0 hK⟩
      ·cases u0
 refine((hO.sd f).1 _ _ ret w uD _ H B e e7).mono fun v w' hv=>?_
 obtain⟨rt,Cv,Hf⟩:=hv
 split at Cv
 case h_2=>cases Cv
 cases ad2:(rt.res.all (fun d=>fw d.t d.m)||(cs.isEmpty&&iK S1 as l args)) with
 |false=>rw[ad2] at Cv;cases Cv
 |true=>
 rw[ad2] at Cv
 simp only[cond_true] at Cv
 rw[←Cz,Bool.or_eq_true] at ad2
 refine⟨_,Cv,?_,fun gq g hg=>Hf.fr.block g hg (fun hx=>t6 gq g ((tD g).1 hx))⟩
 -- behind the call
 obtain⟨dm,vs,q1,q2,q3,q4,_⟩:=Hf.res
 let n:=S1.length
 let rv:Nat→Option Nat:=fun g=>match dm g with
  |some i=>some (S1.length+i)
  |none=>open Classical in if ow g then none else bO g
 have Hg:∀ g i,rv g=some i→(∃ k,dm g=some k∧i=S1.length+k)∨(dm g=none∧ ¬ow g∧bO g=some i):=fun g i hg=>by
  simp only[rv] at hg
  split at hg
  ·rename_i k hk
   injection hg with hg
   exact .inl ⟨k,hk,hg.symm⟩
  ·rename_i hk
   split at hg
   ·cases hg
   ·exact .inr ⟨hk,by assumption,hg⟩
 have HV:∀ g k,dm g=some k→rv g=some (S1.length+k):=fun g k hk=>by simp only[rv,hk]
 have W2:∀ g i,dm g=none→¬ow g→bO g=some i→rv g=some i:=fun g i h1 h2 h3=>by simp only[rv,h1,if_neg h2,h3]
 have CA:∀ g,g<w.heap.size→¬ow g→w'.heap[g]?=w.heap[g]?:=fun g hg hn=>Hf.fr.block g hg (fun hx=>hn ((tD g).1 hx))
 have EX:∀ g,g<w.heap.size→∀ k,dm g=some k→ow g:=fun g hg k hk=>by
  rcases(q3 g k hk).1 with hx |hx
  ·omega
  ·exact(tD g).1 hx
 have b5:aU w w' (Av bO Z) (Av rv Z):=⟨fun g hn hg=>CA g hg (fun hx=>hn (by obtain⟨i,_,hi⟩:=I4 g hx;exact .inl ⟨i,hi⟩)),fun g hg hx=>by
  rcases hx with⟨i,hx⟩ |hx
  ·rcases Hg g i hx with⟨k,hk,_⟩ |⟨_,_,hk⟩
   ·obtain⟨i,_,hi⟩:=I4 g (EX g hg k hk)
    exact .inl ⟨i,hi⟩
   ·exact .inl ⟨i,hk⟩
  ·exact .inr hx⟩
 have Az:∀ g,ow g→∀ i,bO g=some i→S1.length≤i:=fun g hg i hi=>by
  obtain⟨j,hj,oH⟩:=I4 g hg
  rw[hi] at oH
  injection oH with oH
  omega
 have hR:a7 rv w0 W0 Z H S1 a w':=by
  refine⟨t1.len,t1.defers,t1.fr.trans Hf.fr (fun g hg hl=>?_),fun g i hg=>?_,fun g i hg=>?_,fun g hg=>⟨?_,(t1.old g hg).2⟩,fun i=>?_⟩
  ·obtain⟨i,_,hi⟩:=I4 g ((tD g).1 hg)
   rcases t1.new g i hi with hx |hx
   ·omega
   ·exact hx
  ·rcases Hg g i hg with⟨k,hk,_⟩ |⟨_,_,hk⟩
   ·rcases(q3 g k hk).1 with hx |hx
    ·have:=t1.fr.size;exact .inl (by omega)
    ·obtain⟨i,_,hi⟩:=I4 g ((tD g).1 hx)
     exact t1.new g i hi
   ·exact t1.new g i hk
  ·rcases Hg g i hg with⟨k,hk,_⟩ |⟨_,_,hk⟩
   ·exact(q3 g k hk).2
   ·have:=t1.lt g i hk;have:=Hf.fr.size;omega
  ·obtain⟨z1,z2⟩:=t1.old g hg
   have uB: ¬ow g:=fun hx=>by obtain⟨i,_,hi⟩:=I4 g hx;rw[z1] at hi;cases hi
   have:dm g=none:=by
    cases hk:dm g with
    |none=>rfl
    |some k=>exact absurd (EX g (by have:=t1.fr.size;omega) k hk) uB
   simp only[rv,this,if_neg uB,z1]
  ·by_cases Hy:i<S1.length
   ·refine(t1.holds i).kept b5 (fun g hg hl=>?_) (fun s hs=>?_)
    ·have uB: ¬ow g:=fun hx=>by have:=Az g hx i hg;omega
     refine⟨CA g hl uB,W2 g i ?_ uB hg⟩
     cases hk:dm g with
     |none=>rfl
     |some k=>exact absurd (EX g hl k hk) uB
    ·by_cases G5:s<S1.length
     ·exact⟨fun _ _ h=>h,rfl,_,t1.holds s,fun g hg hl=>CA g hl (fun hx=>by have:=Az g hx s hg;omega)⟩
     ·have hd:S1.at s=.dead:=Classical.byContradiction fun hx=>G5 (ee hx)
      exact⟨fun _ _ h=>h,rfl,fun _=>False,by rw[hd];trivial,fun _ h=>h.elim⟩
   ·have hd:S1.at i=.dead:=Classical.byContradiction fun hx=>Hy (ee hx)
    rw[hd]
    trivial
 refine⟨_,hR.WS (ow:=fun g=>∃ k,dm g=some k) (Nat.le_refl _) (fun _ _ _=>rfl) hR.fr (fun g ⟨k,hk⟩=>⟨(q3 g k hk).2,.inl ⟨S1.length+k,by omega,HV g k hk⟩⟩) fun d _ g1 g2=>?_⟩
 -- the results
 have auK:tE=true→aU w' w' (Av dm B) (Av (gg rv o.dst fun g=>∃ k,dm g=some k) Z):=fun No=>⟨fun _ _ _=>rfl,fun g _ hg=>by
  rcases g2 g hg with (⟨i,hi⟩ |hz) |hx
  ·rcases Hg g i hi with⟨k,hk,_⟩ |⟨_,uB,hk⟩
   ·exact .inl ⟨k,hk⟩
   ·exact .inr ⟨No,t3.Av.1 (.inl ⟨i,hk⟩),uB⟩
  ·refine .inr ⟨No,.inr hz,fun hx=>?_⟩
   obtain⟨i,_,hi⟩:=I4 g hx
   rw[(t1.old g hz).1] at hi
   cases hi
  ·exact .inl hx⟩
 have EP:∀ (i:Nat) (b:TV),rt.res[i]?=some b→∃ u cs,vs[i]?=some u∧az b.t u cs∧M w' (Av (gg rv o.dst fun g=>∃ k,dm g=some k) Z) H b.t b.m b.x cs (fun g=>dm g=some i) []:=fun i b hb=>by
  obtain⟨u,c,u1,u2,u3⟩:=q4 i b hb
  refine⟨u,c,u1,u2,?_⟩
  rcases ad2 with hs |No
  ·exact iT _ (List.all_eq_true.1 hs b (List.mem_of_getElem? hb)) u3
  ·exact aK (auK No) _ (fun _ _ _=>rfl) (fun _ h _=>h) (fun _ h=>h) u3
 have ad3:∀ l:List TV,l=rt.res→Holds w' (Av (gg rv o.dst fun g=>∃ k,dm g=some k) Z) H (b9 (a.put o.dst v)) (S1.put o.dst (.tz (l.map some))) (fun g=>gg rv o.dst (fun g=>∃ k,dm g=some k) g=some d) (.tz (l.map some)) (.tuple vs.toArray):=fun l hl=>by
  subst hl
  refine⟨vs,fun g=>(dm g).getD 0,rfl,by simp[q2],fun j b hj=>?_⟩
  rw[List.getElem?_map] at hj
  cases hb:rt.res[j]? with
  |none=>rw[hb] at hj;cases hj
  |some b'=>
   rw[hb] at hj
   simp only[Option.map_some,Option.some.injEq] at hj
   subst hj
   obtain⟨u,c,u1,u2,u3⟩:=EP j b' hb
   exact⟨u,c,u1,u2,aK (aU.refl _ _) _ (fun _ _ _=>rfl) (fun g hg _=>⟨g1 g ⟨j,hg⟩,by show(dm g).getD 0=j;rw[hg];rfl⟩) (fun _ h=>h) u3⟩
 subst q1
 match EY:rt.res,q2 with
 |[b],q2=>
  match vs,q2 with
  |[u],_=>
   obtain⟨u',c,u1,u2,u3⟩:=EP 0 b (by rw[EY];rfl)
   simp only[List.getElem?_cons_zero,Option.some.injEq] at u1
   subst u1
   exact⟨c,u2,aK (aU.refl _ _) _ (fun _ _ _=>rfl) (fun g hg _=>g1 g ⟨0,hg⟩) (fun _ h=>h) u3⟩
 |[],q2=>
  match vs,q2 with
  |[],_=>exact ad3 [] EY.symm
 |b::b'::r,q2=>
  match vs,q2 with
  |u::u'::vr,_=>exact ad3 (b::b'::r) EY.symm
end Go.Pv
namespace Go.Pv
set_option linter.unusedVariables false
set_option linter.unusedSimpArgs false
variable {P:Program} {w w':World} {A A' Wr:Nat→Prop} {H H':Nat→Value} {tm qP:Nat→Value} {S S' S1:St} {σ bO dQ:Nat→Option Nat} {w0:World} {W0 Z:Nat→Prop} {a:Act} {own:Nat→Prop} {v:Value} {Θ:de} {dst:Option Nat} {O:jr} {hh:Hint} {Γ:Gl}
theorem tQ (cur:List Value) (off n:Nat) (h:off+n≤cur.length):putCells cur off ((cur.drop off).take n)=cur:=by
 have hl:((cur.drop off).take n).length=n:=by rw[List.length_take,List.length_drop];omega
 apply List.ext_getElem?
 intro k
 rw[gV _ _ _ _ (by omega),hl]
 by_cases h1:k<off
 ·rw[if_pos h1]
 ·rw[if_neg h1]
  by_cases h2:k<off+n
  ·rw[if_pos h2,List.getElem?_take,if_pos (by omega),List.getElem?_drop]
   congr 1;omega
  ·rw[if_neg h2]
theorem Sh {ow:Nat→Prop} {uD dm:Nat→Option Nat} (t1:a7 bO w0 W0 Z H S1 a w) (I4:∀ g,ow g→Pk bO S1.length g) (tD:∀ g,Own uD g↔ow g) (qx:Fr w (Own uD) w')
  (q3:∀ g i,dm g=some i→(w.heap.size≤g∨Own uD g)∧g<w'.heap.size):
  ∃ rv,a7 rv w0 W0 Z H S1 a w'∧(∀ g k,dm g=some k→rv g=some (S1.length+k))∧aU w w' (Av bO Z) (Av rv Z)∧
   (∀ g i,i<S1.length→rv g=some i→bO g=some i)∧(∀ g i,i<S1.length→bO g=some i→w'.heap[g]?=w.heap[g]?)∧(∀ g i,rv g=some i→(∃ k,dm g=some k)∨(¬ow g∧bO g=some i)):=by
 let rv:Nat→Option Nat:=fun g=>match dm g with
  |some i=>some (S1.length+i)
  |none=>open Classical in if ow g then none else bO g
 have Hg:∀ g i,rv g=some i→(∃ k,dm g=some k∧i=S1.length+k)∨(dm g=none∧ ¬ow g∧bO g=some i):=fun g i hg=>by
  simp only[rv] at hg
  split at hg
  ·rename_i k hk
   injection hg with hg
   exact .inl ⟨k,hk,hg.symm⟩
  ·rename_i hk
   split at hg
   ·cases hg
   ·exact .inr ⟨hk,by assumption,hg⟩
 have HV:∀ g k,dm g=some k→rv g=some (S1.length+k):=fun g k hk=>by simp only[rv,hk]
 have W2:∀ g i,dm g=none→¬ow g→bO g=some i→rv g=some i:=fun g i h1 h2 h3=>by simp only[rv,h1,if_neg h2,h3]
 have CA:∀ g,g<w.heap.size→¬ow g→w'.heap[g]?=w.heap[g]?:=fun g hg hn=>qx.block g hg (fun hx=>hn ((tD g).1 hx))
 have EX:∀ g,g<w.heap.size→∀ k,dm g=some k→ow g:=fun g hg k hk=>by
  rcases(q3 g k hk).1 with hx |hx
  ·omega
  ·exact(tD g).1 hx
 have b5:aU w w' (Av bO Z) (Av rv Z):=⟨fun g hn hg=>CA g hg (fun hx=>hn (by obtain⟨i,_,hi⟩:=I4 g hx;exact .inl ⟨i,hi⟩)),fun g hg hx=>by
  rcases hx with⟨i,hx⟩ |hx
  ·rcases Hg g i hx with⟨k,hk,_⟩ |⟨_,_,hk⟩
   ·obtain⟨i,_,hi⟩:=I4 g (EX g hg k hk)
    exact .inl ⟨i,hi⟩
   ·exact .inl ⟨i,hk⟩
  ·exact .inr hx⟩
 have Az:∀ g,ow g→∀ i,bO g=some i→S1.length≤i:=fun g hg i hi=>by
  obtain⟨j,hj,oH⟩:=I4 g hg
  rw[hi] at oH
  injection oH with oH
  omega
 refine⟨rv,?_,HV,b5,fun g i hi hg=>?_,fun g i hi hg=>CA g (t1.lt g i hg) (fun hx=>by have:=Az g hx i hg;omega),fun g i hg=>by
  rcases Hg g i hg with⟨k,hk,_⟩ |⟨_,h1,h2⟩
  ·exact .inl ⟨k,hk⟩
  ·exact .inr ⟨h1,h2⟩⟩
 rotate_left
 ·rcases Hg g i hg with⟨k,_,hk⟩ |⟨_,_,hk⟩
  ·omega
  ·exact hk
 refine⟨t1.len,t1.defers,t1.fr.trans qx (fun g hg hl=>?_),fun g i hg=>?_,fun g i hg=>?_,fun g hg=>⟨?_,(t1.old g hg).2⟩,fun i=>?_⟩
 ·obtain⟨i,_,hi⟩:=I4 g ((tD g).1 hg)
  rcases t1.new g i hi with hx |hx
  ·omega
  ·exact hx
 ·rcases Hg g i hg with⟨k,hk,_⟩ |⟨_,_,hk⟩
  ·rcases(q3 g k hk).1 with hx |hx
   ·have:=t1.fr.size;exact .inl (by omega)
   ·obtain⟨i,_,hi⟩:=I4 g ((tD g).1 hx)
    exact t1.new g i hi
  ·exact t1.new g i hk
 ·rcases Hg g i hg with⟨k,hk,_⟩ |⟨_,_,hk⟩
  ·exact(q3 g k hk).2
  ·have:=t1.lt g i hk;have:=qx.size;omega
 ·obtain⟨z1,z2⟩:=t1.old g hg
  have uB: ¬ow g:=fun hx=>by obtain⟨i,_,hi⟩:=I4 g hx;rw[z1] at hi;cases hi
  have:dm g=none:=by
   cases hk:dm g with
   |none=>rfl
   |some k=>exact absurd (EX g (by have:=t1.fr.size;omega) k hk) uB
  simp only[rv,this,if_neg uB,z1]
 ·by_cases Hy:i<S1.length
  ·refine(t1.holds i).kept b5 (fun g hg hl=>?_) (fun s hs=>?_)
   ·have uB: ¬ow g:=fun hx=>by have:=Az g hx i hg;omega
    refine⟨CA g hl uB,W2 g i ?_ uB hg⟩
    cases hk:dm g with
    |none=>rfl
    |some k=>exact absurd (EX g hl k hk) uB
   ·by_cases G5:s<S1.length
    ·exact⟨fun _ _ h=>h,rfl,_,t1.holds s,fun g hg hl=>CA g hl (fun hx=>by have:=Az g hx s hg;omega)⟩
    ·have hd:S1.at s=.dead:=Classical.byContradiction fun hx=>G5 (ee hx)
     exact⟨fun _ _ h=>h,rfl,fun _=>False,by rw[hd];trivial,fun _ h=>h.elim⟩
  ·have hd:S1.at i=.dead:=Classical.byContradiction fun hx=>Hy (ee hx)
   rw[hd]
   trivial
theorem Si (h:a7 σ w0 W0 Z H S a w) {T:TypeId} {x:Operand} {av:AV} {b:TV} {s:Nat} {p:Path} {cs:List Value} (ho:S.dP Θ T x=some av) (hl:jF x av=some (s,p)) (e:S.dD x av=some (b,S1)) (hk:b.m.bP=false) (hm:az b.t (a.eval x) cs):
  (p=[]∧s<S.length∧az b.t (b9 a s) cs)∨∃ r ex cO,p≠[]∧S1.at s=.v r (ex++[p])∧az r.t (b9 a s) cO∧aT w p r.t cO=some cs∧valid p r.t r.x∧bd p r.t r.m r.x=some b∧∀ q∈ex,fY q p=false:=by
 have hh:=bD h ho
 cases av with
 |v a0 ex=>
  cases x with
  |tmp i=>
   simp only[jF,Option.some.injEq,Prod.mk.injEq] at hl
   obtain⟨rfl,rfl⟩:=hl
   exact .inl ⟨rfl,ee (by simp only[St.dP,Option.some.injEq] at ho;rw[ho];exact fun e=>by cases e),hm⟩
  |const c=>simp[jF] at hl
  |func f=>simp[jF] at hl
  |global g=>simp[jF] at hl
 |al t s' p'=>
  simp only[jF,Option.some.injEq,Prod.mk.injEq] at hl
  obtain⟨rfl,rfl⟩:=hl
  obtain⟨r,cO,cs1,hr,hc,hm1⟩:=hh
  simp only[St.dD] at e
  split at e
  case h_2=>cases e
  rename_i b' hb
  cases fW:b'.m.bP with
  |true=>
   rw[fW] at e
   simp only[cond_true,Option.some.injEq,Prod.mk.injEq] at e
   obtain⟨rfl,rfl⟩:=e
   rw[hk] at fW;cases fW
  |false=>
   rw[fW] at e
   simp only[cond_false] at e
   have hpr:=da h hr hc hb
   obtain⟨Ab,_⟩:=hpr
   cases hp:p' with
   |nil=>
    subst hp
    simp only[Option.some.injEq,Prod.mk.injEq] at e
    obtain⟨rfl,rfl⟩:=e
    simp only[aT,Option.some.injEq] at hc
    subst hc
    obtain⟨b2,g1,g2⟩:=hr.get
    simp only[bd,Option.some.injEq] at g1
    subst g1
    have Cv:r.t=b'.t:=by rw[Ab];exact g2
    refine .inl ⟨rfl,ee (by obtain⟨ex0,WR,_⟩:=hr.at_;rw[WR];exact fun e=>by cases e),?_⟩
    rw[Ab] at hm ⊢
    obtain rfl:=eB hm hm1
    have:=hr.mat
    rw[Cv,Ab] at this
    exact this
   |cons EA pp=>
    rw[hp] at e
    obtain⟨ex,b2,cM,ow0,j1,j2,j3,j4,hM,j5,j6,j7⟩:=fF h hr
    rw[j1] at e
    simp only[Option.some.injEq,Prod.mk.injEq] at e
    rw[←hp] at e
    obtain⟨rfl,rfl⟩:=e
    obtain⟨r3,ex3,q1,q2,q3⟩:=oY hb
    rw[j1] at q1
    injection q1 with q1 EG
    subst q1 EG
    rw[j3] at q3
    injection q3 with q3
    subst q3
    rw[Ab] at hm
    obtain rfl:=eB hm hm1
    have hlen:((S.weaken s').cover s' p').length=S.length:=by simp[St.weaken,St.cover]
    have G5:s'<S.length:=ee (by rw[j1];exact fun e=>by cases e)
    have Ax:St.at (((S.weaken s').cover s' p').set s' (.v r (ex++[p']))) s'=.v r (ex++[p']):=by rw[cS,if_pos ⟨rfl,by rw[hlen];exact G5⟩]
    exact .inr ⟨r,ex,cO,by simp,by rw[←hp];exact Ax,hr.mat,by rw[←hp];exact hc,by rw[←hp];exact hr.val,by rw[←hp];exact j3,by rw[←hp];exact q2⟩
 |_=>simp[jF] at hl
theorem CB {b:TV} {s:Nat} {p:Path} {r:TV} {ex:List Path} {cO cs:List Value} {oZ:Nat→Prop} {b0:TV} {m:Md} {z:r.t.I} (h:a7 σ w0 W0 Z H S a w) (nU:∀ g,oZ g→∃ i,S.length≤i∧σ g=some i)
  (du:S.at s=.v r (ex++[p])) (Sj:az r.t (b9 a s) cO) (hc:aT w p r.t cO=some cs) (iM:valid p r.t r.x) (eH:bd p r.t r.m r.x=some b0) (jq:∀ q∈ex,fY q p=false)
  (ny:fX b p r.t r.m r.x=some (m,z)) (hM:M w (Av σ Z) H b.t b.m b.x cs oZ []):∃ dQ,a7 dQ w0 W0 Z H (S.put (some s) (.v ⟨r.t,m,z⟩ ex)) a w∧∀ g i,S.length≤i→¬oZ g→σ g=some i→dQ g=some i:=by
 have hh:=h.holds s
 rw[du] at hh
 obtain⟨azq,hm0,MJ⟩:=hh
 obtain rfl:=eB Sj hm0
 have xn:open_ p (ex++[p]):=by
  intro q hq s' r' e
  rcases List.mem_append.1 hq with hq |hq
  ·exact tK jq q hq s' r' e
  ·rw[List.mem_singleton.1 hq] at e
   have:=congrArg List.length e
   simp at this
 obtain⟨cM,cE,c1,c2,c3,ku⟩:=Aa p MJ xn iM eH
 rw[hc] at c1
 injection c1 with c1
 subst c1
 have fh:b.t=b0.t:=sG p ny eH
 obtain⟨oP,ku⟩:=ku b (m,z) fh ny
 have hlen:cs.length=b.t.size:=(er _ hM).1
 let dQ:Nat→Option Nat:=fun g'=>open Classical in if oZ g' then some s else σ g'
 have M':∀ g' i,dQ g'=some i→(oZ g'∧i=s)∨(¬oZ g'∧σ g'=some i):=fun g' i bp=>by
  simp only[dQ] at bp
  split at bp
  ·injection bp with bp;exact .inl ⟨by assumption,bp.symm⟩
  ·exact .inr ⟨by assumption,bp⟩
 have HQ:∀ g' i,¬oZ g'→σ g'=some i→dQ g'=some i:=fun g' i hn bp=>by simp only[dQ,if_neg hn,bp]
 have G5:s<S.length:=ee (by rw[du];exact fun e=>by cases e)
 have aks:∀ g',Av dQ Z g'→Av σ Z g':=fun g' bp=>by
  rcases bp with⟨i,bp⟩ |bp
  ·rcases M' g' i bp with⟨hx,_⟩ |⟨_,hx⟩
   ·obtain⟨j,_,hj⟩:=nU g' hx
    exact .inl ⟨j,hj⟩
   ·exact .inl ⟨i,hx⟩
  ·exact .inr bp
 have uB:∀ g i,i<S.length→σ g=some i→¬oZ g:=fun g i hi hg hx=>by
  obtain⟨j,hj,oH⟩:=nU g hx
  rw[hg] at oH
  injection oH with oH
  omega
 have b5:aU w w (Av σ Z) (Av dQ Z):=⟨fun _ _ _=>rfl,fun g _ hg=>aks g hg⟩
 have hl0:cO.length=r.t.size:=(er _ MJ).1
 have EP:=ku w (Av dQ Z) cs oZ ex b5 (by rw[hlen,fh]) (fun g ep qK _=>by
   unfold kL
   split
   ·rename_i q hq
    split
    ·rename_i hgq
     obtain⟨_,_,cur,T,hw,hb,gH⟩:=oP q.1 q.2 hq
     subst hgq
     refine⟨cur,T,hw,?_⟩
     rw[gH,tQ _ _ _ (by simpa using hb)]
     simpa using hw
    ·rfl
   ·rfl) (aK b5 _ (fun _ _ _=>rfl) (fun g hg _=>hg) (fun _ hx=>by cases hx) hM) (fun g ep _ qK=>absurd ep (uB g s G5 qK)) (fun q hq1 HC=>by
   rcases List.mem_append.1 HC with HC |HC
   ·exact HC
   ·exact absurd (by rw[List.mem_singleton.1 HC];simp) (hq1 []))
 have aA':oO p r.t cO cs=cO:=by
  cases hp:aN p with
  |false=>exact jC p hp
  |true=>
   have h1:=ey (w:=w) p hp eH hl0
   rw[hc] at h1
   injection h1 with h1
   rw[kt p hp eH hl0 (by rw[hlen,fh]),h1]
   exact tQ _ _ _ (by rw[hl0];exact dY p hp eH)
 rw[aA'] at EP
 refine⟨dQ,?_,fun g i _ hn hg=>HQ g i hn hg⟩
 have:=h.put (dst:=some s) (av:=.v ⟨r.t,m,z⟩ ex) (v:=b9 a s) b5 h.fr (fun g i hg=>?_) (fun g hg=>?_) (fun i g hi hd hg=>⟨rfl,HQ g i (uB g i hi hg) hg⟩) (fun d hd He _=>?_)
 ·rw[lY] at this
  exact this
 ·rcases M' g i hg with⟨hx,_⟩ |⟨_,hx⟩
  ·obtain⟨j,_,hj⟩:=nU g hx
   exact⟨h.new g j hj,h.lt g j hj⟩
  ·exact⟨h.new g i hx,h.lt g i hx⟩
 ·have h0:=(h.old g hg).1
  simp only[dQ]
  split
  ·rename_i hx
   obtain⟨j,_,hj⟩:=nU g hx
   rw[h0] at hj;cases hj
  ·exact h0
 ·injection hd with hd
  subst hd
  refine⟨cO,Sj,aK (aU.refl _ _) _ (fun _ _ _=>rfl) (fun g hg _=>?_) (fun _ h=>h) EP⟩
  rcases hg with⟨k1,_⟩ |k1
  ·exact HQ g s (uB g s G5 k1) k1
  ·simp only[dQ,if_pos k1]
theorem Np {b:TV} {s:Nat} {cs:List Value} {oZ:Nat→Prop} (h:a7 σ w0 W0 Z H S a w) (nU:∀ g,oZ g→∃ i,S.length≤i∧σ g=some i)
  (hs:s<S.length) (Sj:az b.t (b9 a s) cs) (hM:M w (Av σ Z) H b.t b.m b.x cs oZ []):∃ dQ,a7 dQ w0 W0 Z H (S.put (some s) (.v b [])) a w∧∀ g i,S.length≤i→¬oZ g→σ g=some i→dQ g=some i:=by
 refine⟨gg σ (some s) oZ,?_,fun g i hi hn hg=>by
  unfold gg
  rw[if_neg hn]
  exact lh (fun e=>by injection e with e;omega) hg⟩
 have:=h.M8 (dst:=some s) (v:=b9 a s) (ow:=oZ) (A':=Av σ Z) (fun _ _=>rfl) h.fr (fun g hg=>by
  obtain⟨i,hi,mI⟩:=nU g hg
  exact⟨h.lt g i mI,.inl ⟨i,hi,mI⟩⟩) (fun g _ hg=>by
  rcases hg with hg |hg
  ·exact hg
  ·obtain⟨i,hi,mI⟩:=nU g hg
   exact .inl ⟨i,mI⟩) Sj hM
 rw[lY] at this
 exact this
theorem akz (hT:cP P hh.tab=true) (hO:qA Γ P O w0 W0) (h:a7 σ w0 W0 Z H S a w) {o:Oper} {f:FuncId} {j:Nat} {as:List Operand} {ts:List TypeId} {K:St→Option aa} {ret:aa}
  (e:qX hh O o f j as ts S K=some ret):Sf P f (as.map a.eval) w fun v w'=>∃ S',K S'=some ret∧Rel w0 W0 Z H S' (a.put o.dst v) w':=by
 unfold qX at e
 split at e
 case h_2=>cases e
 rename_i x T hx hT'
 split at e
 case h_2=>cases e
 rename_i av dA
 split at e
 case h_2=>cases e
 rename_i s p b S1 hlp htk
 cases W3:(!b.m.bP&&eM b.t b.m) with
 |false=>rw[W3] at e;cases e
 |true=>
 rw[W3] at e
 simp only[cond_true] at e
 simp only[Bool.and_eq_true,Bool.not_eq_true'] at W3
 obtain⟨hk,hlb⟩:=W3
 split at e
 case h_2=>cases e
 rename_i args HU
 obtain⟨tE,Cz⟩:∃ tE,tE=iK S1 as ((List.replicate as.length none).set j (some ⟨b.t,iL b.t b.m 0,b.x⟩)) args:=⟨_,rfl⟩
 cases hls:(qW b.t b.m||iK S1 as ((List.replicate as.length none).set j (some ⟨b.t,iL b.t b.m 0,b.x⟩)) args) with
 |false=>rw[hls] at e;cases e
 |true=>
 rw[hls] at e
 simp only[cond_true] at e
 rw[←Cz,Bool.or_eq_true] at hls
 obtain⟨bO,cs,ow,t1,hm,hM,t3,t2⟩:=eD h dA htk
 have auL:=Si h dA hlp htk hk hm
 have sD:j<as.length:=(List.getElem?_eq_some_iff.1 hx).1
 obtain⟨r1,r2⟩:=jL t1 as ts _ (by simp) HU
 let H':Nat→Value:=fun n=>cs.getD n undef
 have hH':∀ (j:Nat) (u:Value),cs[j]?=some u→H' (0+j)=u:=fun j u hj=>by
  simp only[H',Nat.zero_add,List.getD_eq_getElem?_getD,hj,Option.getD_some]
 have hMt:=ad1 (H':=H') (n:=0) b.t hlb hM hH'
 let uD:Nat→Option Nat:=fun g=>open Classical in if ow g then some j else none
 have uE:∀ g i,uD g=some i↔ow g∧j=i:=fun g i=>by
  simp only[uD]
  split
  ·rename_i hx;exact⟨fun hg=>⟨hx,by injection hg⟩,fun hg=>by rw[hg.2]⟩
  ·rename_i hx;exact⟨fun hg=>(by cases hg),fun hg=>absurd hg.1 hx⟩
 have tD:∀ g,Own uD g↔ow g:=fun g=>⟨fun⟨i,hi⟩=>((uE g i).1 hi).1,fun hg=>⟨j,(uE g _).2 ⟨hg,rfl⟩⟩⟩
 have I4:∀ g,ow g→Pk bO S1.length g:=fun g hg=>by rw[t2];exact t3.now g hg
 let B:Nat→Prop:=fun g=>tE=true∧Av σ Z g∧ ¬ow g
 have Sg:aU w w (Av σ Z) (Av uD B):=⟨fun _ _ _=>rfl,fun g _ hg=>by
  rcases hg with hg |hg
  ·obtain⟨i,_,hi⟩:=t3.M7 g ((tD g).1 hg)
   exact .inl ⟨i,hi⟩
  ·exact hg.2.1⟩
 have auI:aU w w (Av bO Z) (Av uD B):=⟨fun _ _ _=>rfl,fun g hl hg=>t3.Av.2 (Sg.wr g hl hg)⟩
 have aky:tE=false→aU w w (Pk bO S1.length) (Av uD B):=fun hn=>⟨fun _ _ _=>rfl,fun g _ hg=>by
  rcases hg with hg |hg
  ·exact I4 g ((tD g).1 hg)
  ·have h1:=hg.1;rw[hn] at h1;cases h1⟩
 have r3:=fun hf:tE=true=>l4 t1 as ts _ (by simp) HU (Cz.symm.trans hf)
 have e7:In Γ B H' w uD args (as.map a.eval):=by
  refine⟨by simp[r1],fun g i hg=>?_,fun g hg=>⟨?_,?_⟩,fun g o hg=>⟨?_,?_⟩,fun k r fW=>?_⟩
  ·obtain⟨q1,q2⟩:=(uE g i).1 hg
   obtain⟨k,_,hk⟩:=t3.M7 g q1
   exact⟨by omega,h.lt g k hk⟩
  ·cases hc:uD g with
   |none=>rfl
   |some i=>exact absurd ((uE g i).1 hc).1 hg.2.2
  ·rcases hg.2.1 with⟨i,hi⟩ |hz
   ·exact h.lt g i hi
   ·have:=(h.old g hz).2;have:=h.fr.size;omega
  ·cases hc:uD g with
   |none=>rfl
   |some i=>
    obtain⟨k,_,hk⟩:=t3.M7 g ((uE g i).1 hc).1
    obtain⟨e1,e2⟩:=hO.env g o hg
    rcases h.new g k hk with hx |hx
    ·have:=bn e2;omega
    ·exact absurd hx e1
  ·obtain⟨e1,e2⟩:=hO.env g o hg
   rw[h.fr.block g (bn e2) e1,e2]
  ·rw[List.getElem?_map]
   rcases r2 k r fW with⟨b',I3,rfl⟩ |⟨x',xa,iz⟩
   ·rw[List.getElem?_set] at I3
    split at I3
    ·rename_i Sd
     subst Sd
     simp only[List.length_replicate,if_pos sD,Option.some.injEq] at I3
     subst I3
     rw[hx]
     exact⟨_,rfl,cs,hm,aK Sg _ (fun _ _ _=>rfl) (fun g hg _=>(uE g j).2 ⟨hg,rfl⟩) (fun _ h=>h) hMt⟩
    ·rw[List.getElem?_replicate] at I3
     split at I3<;>simp at I3
   ·have fin:∀ {A0:Nat→Prop},aU w w A0 (Av uD B)→Cy w A0 H' r (a.eval x') (fun _=>False)→Cy w (Av uD B) H' r (a.eval x') (fun g=>uD g=some k):=fun b5 iz=>by
     cases r with
     |tv b=>
      obtain⟨c,c1,c2⟩:=iz
      exact⟨c,c1,aK b5 _ (fun _ _ _=>rfl) (fun _ hg _=>hg.elim) (fun _ h=>h) c2⟩
     |fn f' cy=>
      obtain⟨vs,c1,c2,c3⟩:=iz
      exact⟨vs,c1,c2,fun k c hk=>by obtain⟨u,u1,u2⟩:=c3 k c hk;exact⟨u,u1,b6 b5 _ u2⟩⟩
    cases No:tE with
    |false=>
     rw[xa]
     exact⟨_,rfl,fin (aky No) (iz H')⟩
    |true=>
     rcases r3 No k r fW with⟨b',I3,rfl⟩ |⟨x2,wV,auJ⟩
     ·rw[List.getElem?_set] at I3
      split at I3
      ·rename_i Sd
       subst Sd
       simp only[List.length_replicate,if_pos sD,Option.some.injEq] at I3
       subst I3
       rw[hx]
       exact⟨_,rfl,cs,hm,aK Sg _ (fun _ _ _=>rfl) (fun g hg _=>(uE g j).2 ⟨hg,rfl⟩) (fun _ h=>h) hMt⟩
      ·rw[List.getElem?_replicate] at I3
       split at I3<;>simp at I3
     ·rw[xa] at wV
      injection wV with wV
      subst wV
      rw[xa]
      exact⟨_,rfl,fin auI (auJ H')⟩
 refine((hO.sd f).1 _ _ ret w uD _ H' B e e7).mono fun v w' hv=>?_
 obtain⟨rt,Cv,Hf⟩:=hv
 split at Cv
 case h_2=>cases Cv
 rename_i c hrefs
 cases gq:rt.res.all (fun d=>fw d.t d.m&&qw d.m) with
 |false=>rw[gq] at Cv;cases Cv
 |true=>
 rw[gq] at Cv
 simp only[cond_true] at Cv
 split at Cv
 case isFalse=>cases Cv
 rename_i hct
 split at Cv
 case isFalse=>cases Cv
 rename_i hcm
 split at Cv
 case h_2=>cases Cv
 rename_i S2 hS2
 obtain⟨dm,vs,q1,q2,q3,q4,q5⟩:=Hf.res
 obtain⟨cM,hMc⟩:=q5 c hrefs
 obtain⟨rv,hR,HV,b5,W2,kx,azA⟩:=Sh t1 I4 tD Hf.fr q3
 -- what comes back
 obtain⟨ct,cm,cx⟩:=c
 simp only at hct hcm hMc hS2
 subst hct
 subst hcm
 have auF:aU w w' (Av σ Z) (Av rv Z):=⟨fun g hn hl=>b5.same g (fun hx=>hn (t3.Av.1 hx)) hl,fun g hl hg=>t3.Av.1 (b5.wr g hl hg)⟩
 have auK:qW b.t b.m=true∨aU w' w' (Av dm B) (Av rv Z):=hls.imp id fun No=>⟨fun _ _ _=>rfl,fun g _ hg=>by
  rcases hg with⟨i,hi⟩ |hz
  ·rcases azA g i hi with⟨k,hk⟩ |⟨uB,hk⟩
   ·exact .inl ⟨k,hk⟩
   ·exact .inr ⟨No,t3.Av.1 (.inl ⟨i,hk⟩),uB⟩
  ·refine .inr ⟨No,.inr hz,fun hx=>?_⟩
   obtain⟨i,_,hi⟩:=I4 g hx
   rw[(t1.old g hz).1] at hi
   cases hi⟩
 have hMb:=xr (B:=Av dm B) (A':=Av rv Z) auF b.t hlb auK hM hH' hMc
 have nU:∀ g,dm g=some rt.res.length→∃ i,S1.length≤i∧rv g=some i:=fun g hg=>⟨_,by omega,HV g _ hg⟩
 have hR2:∃ dQ,a7 dQ w0 W0 Z H S2 a w'∧∀ g i,S1.length≤i→¬dm g=some rt.res.length→rv g=some i→dQ g=some i:=by
  rcases auL with⟨rfl,adB,hmt⟩ |⟨r,ex,cO,hp,du,hmt,jq,iM,eH,ad4⟩
  ·simp only[St.oS,Option.some.injEq] at hS2
   subst hS2
   exact Np (b:=⟨b.t,b.m,_⟩) hR nU (by rw[t2];exact adB) hmt hMb
  ·cases p with
   |nil=>exact absurd rfl hp
   |cons EA pp=>
   simp only[St.oS,du] at hS2
   split at hS2
   case h_2=>cases hS2
   rename_i m z ny
   simp only[Option.some.injEq,List.dropLast_concat] at hS2
   subst hS2
   have hh0:=t1.holds s
   rw[du] at hh0
   obtain⟨azq,hm0,MJ⟩:=hh0
   obtain rfl:=eB hmt hm0
   have xn:open_ (EA::pp) (ex++[EA::pp]):=by
    intro q hq s' r' e
    rcases List.mem_append.1 hq with hq |hq
    ·exact tK ad4 q hq s' r' e
    ·rw[List.mem_singleton.1 hq] at e
     have:=congrArg List.length e
     simp at this
   have G5:s<S1.length:=ee (by rw[du];exact fun e=>by cases e)
   have akv:=(eA b5 (EA::pp) none MJ (fun g hg _=>kx g s G5 hg) xn iM).1
   exact CB (b:=⟨b.t,b.m,_⟩) hR nU du hmt (akv.trans jq) iM eH ad4 ny hMb
 refine⟨_,Cv,?_⟩
 obtain⟨σ3,hR3,hR4⟩:=hR2
 have aBO:S2.length=S1.length:=by have:=hR3.len;have:=t1.len;omega
 obtain⟨n,hn⟩:∃ n,n=rt.res.length:=⟨_,rfl⟩
 have aBa:∀ g k,k<n→dm g=some k→σ3 g=some (S1.length+k):=fun g k hk hg=>hR4 g _ (by omega) (fun e=>by rw[hg] at e;injection e with e;omega) (HV g k hg)
 refine⟨_,hR3.WS (ow:=fun g=>∃ k,k<n∧dm g=some k) (Nat.le_refl _) (fun _ _ _=>rfl) hR3.fr (fun g ⟨k,RB,hk⟩=>⟨(q3 g k hk).2,.inl ⟨S1.length+k,by omega,aBa g k RB hk⟩⟩) fun d _ g1 g2=>?_⟩
 have EP:∀ (i:Nat) (b:TV),rt.res[i]?=some b→∃ u cs,vs[i]?=some u∧az b.t u cs∧M w' (Av (gg σ3 o.dst fun g=>∃ k,k<n∧dm g=some k) Z) H b.t b.m b.x cs (fun g=>i<n∧dm g=some i) []:=fun i b hb=>by
  obtain⟨u,c,u1,u2,u3⟩:=q4 i b hb
  have Hy:i<n:=by rw[hn];exact(List.getElem?_eq_some_iff.1 hb).1
  have hsb:=List.all_eq_true.1 gq b (List.mem_of_getElem? hb)
  simp only[Bool.and_eq_true] at hsb
  exact⟨u,c,u1,u2,aK (aU.refl _ _) _ (fun _ _ _=>rfl) (fun g hg _=>⟨Hy,hg⟩) (fun _ h=>h) (l5 _ hsb.2 (iT _ hsb.1 u3))⟩
 have ad3:∀ l:List TV,l=rt.res→Holds w' (Av (gg σ3 o.dst fun g=>∃ k,k<n∧dm g=some k) Z) H (b9 (a.put o.dst v)) (S2.put o.dst (.tz (l.map some))) (fun g=>gg σ3 o.dst (fun g=>∃ k,k<n∧dm g=some k) g=some d) (.tz (l.map some)) (.tuple vs.toArray):=fun l hl=>by
  subst hl
  refine⟨vs,fun g=>(dm g).getD 0,rfl,by simp[q2],fun j b hj=>?_⟩
  rw[List.getElem?_map] at hj
  cases hb:rt.res[j]? with
  |none=>rw[hb] at hj;cases hj
  |some b'=>
   rw[hb] at hj
   simp only[Option.map_some,Option.some.injEq] at hj
   subst hj
   obtain⟨u,c,u1,u2,u3⟩:=EP j b' hb
   exact⟨u,c,u1,u2,aK (aU.refl _ _) _ (fun _ _ _=>rfl) (fun g hg _=>⟨g1 g ⟨j,hg⟩,by show(dm g).getD 0=j;rw[hg.2];rfl⟩) (fun _ h=>h) u3⟩
 subst q1
 match EY:rt.res,q2 with
 |[b],q2=>
  match vs,q2 with
  |[u],_=>
   obtain⟨u',c,u1,u2,u3⟩:=EP 0 b (by rw[EY];rfl)
   simp only[List.getElem?_cons_zero,Option.some.injEq] at u1
   subst u1
   exact⟨c,u2,aK (aU.refl _ _) _ (fun _ _ _=>rfl) (fun g hg _=>g1 g ⟨0,hg⟩) (fun _ h=>h) u3⟩
 |[],q2=>
  match vs,q2 with
  |[],_=>exact ad3 [] EY.symm
 |b::b'::r,q2=>
  match vs,q2 with
  |u::u'::vr,_=>exact ad3 (b::b'::r) EY.symm
end Go.Pv
namespace Go.Pv
set_option linter.unusedVariables false
set_option linter.unusedSimpArgs false
variable {P:Program} {w w':World} {A A' Wr:Nat→Prop} {H:Nat→Value} {tm qP:Nat→Value} {S S' S1:St} {σ bO dQ:Nat→Option Nat} {w0:World} {W0 Z:Nat→Prop} {a:Act} {own:Nat→Prop} {v:Value} {Θ:de} {dst:Option Nat}
theorem a7.drop (h:a7 σ w0 W0 Z H S a w) (ow:Nat→Prop) (qO:∀ g,ow g→∀ i,σ g=some i→S.length≤i):
  ∃ dQ,a7 dQ w0 W0 Z H S a w∧(∀ g,Av dQ Z g→Av σ Z g∧ ¬ow g∨Z g):=by
 let dQ:Nat→Option Nat:=fun g=>open Classical in if ow g then none else σ g
 have h2:∀ g i,dQ g=some i→¬ow g∧σ g=some i:=fun g i hg=>by
  simp only[dQ] at hg
  split at hg
  ·cases hg
  ·exact⟨by assumption,hg⟩
 have h3:∀ g i,¬ow g→σ g=some i→dQ g=some i:=fun g i hn hg=>by simp only[dQ,if_neg hn,hg]
 have b5:aU w w (Av σ Z) (Av dQ Z):=⟨fun _ _ _=>rfl,fun g _ hg=>by
  rcases hg with⟨i,hi⟩ |hz
  ·exact .inl ⟨i,(h2 g i hi).2⟩
  ·exact .inr hz⟩
 refine⟨dQ,⟨h.len,h.defers,h.fr,fun g i hg=>h.new g i (h2 g i hg).2,fun g i hg=>h.lt g i (h2 g i hg).2,fun g hg=>⟨?_,(h.old g hg).2⟩,fun i=>?_⟩,fun g hg=>?_⟩
 ·simp only[dQ]
  split
  ·rfl
  ·exact(h.old g hg).1
 ·by_cases Hy:i<S.length
  ·refine(h.holds i).kept b5 (fun g hg _=>⟨rfl,h3 g i (fun hx=>?_) hg⟩) (fun s hs=>⟨fun _ _ h=>h,rfl,_,h.holds s,fun _ _ _=>rfl⟩)
   have:=qO g hx i hg
   omega
  ·have hd:S.at i=.dead:=Classical.byContradiction fun hx=>Hy (ee hx)
   rw[hd];trivial
 ·rcases hg with⟨i,hi⟩ |hz
  ·exact .inl ⟨.inl ⟨i,(h2 g i hi).2⟩,(h2 g i hi).1⟩
  ·exact .inr hz
theorem mS:∀ (p:Path) {t:Ty} {m:Md} {x:t.I} {b:TV},MK p=true→bd p t m x=some b→valid p t x
 |[],_,_,_,_,_,_=>trivial
 | .idx _::_,_,_,_,_,h,_=>by simp[MK] at h
 | .deref::p,t,m,x,b,h,e=>by
  cases t<;>simp only[bd] at e<;>first |cases e |exact mS p h e
 | .fst::p,t,m,x,b,h,e=>by
  cases t<;>simp only[bd] at e<;>first |cases e |exact mS p h e
 | .snd::p,t,m,x,b,h,e=>by
  cases t<;>simp only[bd] at e<;>first |cases e |exact mS p h e
theorem a7.freeze (h:a7 σ w0 W0 Z H S a w) {d:Nat} {r:TV} (du:S.at d=.v r []):Rel w0 W0 Z H (S.put (some d) (.v (RG r) [])) a w:=by
 have hh:=h.holds d
 rw[du] at hh
 obtain⟨cs,hm,hM⟩:=hh
 have h0:∀ g,σ g=some d→¬Av (release σ (some d)) Z g:=fun g hg hx=>by
  rcases hx with⟨i,hi⟩ |hz
  ·obtain⟨h1,h2⟩:=fg hi
   rw[hg] at h1
   exact h2 h1
  ·rw[(h.old g hz).1] at hg;cases hg
 have b5:aU w w (Av σ Z) (Av (release σ (some d)) Z):=⟨fun _ _ _=>rfl,fun g _ hg=>uo hg⟩
 refine⟨release σ (some d),?_⟩
 have:=h.put (dst:=some d) (av:=.v (RG r) []) (v:=b9 a d) b5 h.fr (fun g i hg=>⟨h.new g i (fg hg).1,h.lt g i (fg hg).1⟩) (fun g hg=>by
  unfold release
  split
  ·rfl
  ·exact(h.old g hg).1) (fun i g _ hd hg=>⟨rfl,lh hd hg⟩) (fun d' WJ _ _=>by
  injection WJ with WJ
  subst WJ
  refine⟨cs,hm,nG (t:=r.t) rfl (M_K (fun g _ hx=>uo hx) r.t rfl h0 hM)⟩)
 rw[lY] at this
 exact this
theorem aas (h:Rel w0 W0 Z H S a w) {d:Nat} (e:Wz S d=some (true,S')):Rel w0 W0 Z H S' a w:=by
 obtain⟨σ,h⟩:=h
 unfold Wz at e
 split at e
 case h_2=>cases e
 rename_i t s st pp du
 split at e
 case h_2=>cases e
 rename_i r ex hs
 split at e
 case h_2=>cases e
 rename_i b eH
 cases hk:b.m.bP with
 |true=>rw[hk] at e;cases e
 |false=>
 rw[hk] at e
 simp only[cond_false,Option.some.injEq,Prod.mk.injEq] at e
 obtain⟨jq,rfl⟩:=e
 have hal:=h.holds d
 rw[du] at hal
 obtain⟨bO,cs2,ow,t1,hm,hM,RB,hn⟩:=rq (vv:=b9 a d) h (by simp) hal hs eH hk (fun q hq=>by simpa using List.all_eq_true.1 jq q hq)
 have:=t1.M8 (dst:=some d) (v:=b9 a d) (ow:=ow) (A':=Av bO Z) (fun _ _=>rfl) t1.fr (fun g hg=>by
  obtain⟨i,hi,mI⟩:=RB.now g hg
  exact⟨t1.lt g i mI,.inl ⟨i,by omega,mI⟩⟩) (fun g _ hg=>by
  rcases hg with hg |hg
  ·exact hg
  ·obtain⟨i,hi,mI⟩:=RB.now g hg
   exact .inl ⟨i,mI⟩) hm hM
 rw[lY] at this
 exact⟨_,this⟩
theorem ad5 (h:Rel w0 W0 Z H S a w) (q:Nat×Path):Rel w0 W0 Z H (S.aul q) a w:=by
 obtain⟨σ,h⟩:=h
 obtain⟨s,p⟩:=q
 unfold St.aul
 simp only
 split
 case h_2=>exact⟨σ,h⟩
 rename_i r du
 split
 case h_2=>exact⟨σ,h⟩
 rename_i b eH
 cases hc:(b.m.bP|| !MK p) with
 |true=>exact⟨σ,h⟩
 |false=>
 simp only[cond_false]
 simp only[Bool.or_eq_false_iff,Bool.not_eq_false'] at hc
 obtain⟨hk,hni⟩:=hc
 split
 ·exact h.freeze du
 rename_i hp
 split
 case h_2=>exact⟨σ,h⟩
 rename_i m z ny
 have hh:=h.holds s
 rw[du] at hh
 obtain⟨cO,Sj,MJ⟩:=hh
 have iM:=mS p hni eH
 have xn:open_ p []:=fun _ hq=>by cases hq
 obtain⟨cs,cE,k1,k2,k3⟩:=focus p MJ xn iM eH
 have hal:∃ t vv,Holds w (Av σ Z) H (b9 a) S (fun _=>False) (.al t s p) vv∧t=b.t∧az t vv cs:=by
  obtain⟨vv,hvv⟩:∃ vv,az b.t vv cs:=by
   unfold az
   cases hg:isAgg b.t with
   |true=>exact⟨_,by rw[if_pos rfl]⟩
   |false=>
    have hl:=(er _ k3).1
    have h1:=HN hg
    rw[h1] at hl
    obtain⟨u,rfl⟩:=List.length_eq_one_iff.1 hl
    exact⟨u,by simp⟩
  exact⟨b.t,vv,⟨r,cO,cs,⟨⟨[],du,xn⟩,iM,⟨b,eH,rfl⟩,Sj⟩,k1,hvv⟩,rfl,hvv⟩
 obtain⟨t,vv,hal,rfl,hvv⟩:=hal
 obtain⟨bO,cs2,ow,t1,hm,hM,RB,hn⟩:=rq (vv:=vv) h hp hal du eH hk (fun _ hq=>by cases hq)
 obtain rfl:=eB hvv hm
 obtain⟨dQ,d1,d2⟩:=t1.drop ow (fun g hg i hi=>by
  obtain⟨j,hj,oH⟩:=RB.now g hg
  rw[hi] at oH
  injection oH with oH
  omega)
 have hK:K w (Av dQ Z) b.t b.x cs:=M_K (fun g _ hx=>by
  rcases d2 g hx with hx |hx
  ·exact hx.1
  ·exact .inr hx) b.t rfl (fun g hg hx=>by
  rcases d2 g hx with hx |hx
  ·exact hx.2 hg
  ·obtain⟨j,_,hj⟩:=RB.now g hg
   rw[(t1.old g hx).1] at hj;cases hj) hM
 have aBb:St.at (((S.weaken s).cover s p).set s (.v r [p])) s=.v r ([]++[p]):=by
  rw[cS,if_pos ⟨rfl,by simp only[St.weaken,St.cover,List.length_map];exact ee (by rw[du];exact fun e=>by cases e)⟩]
  rfl
 obtain⟨σ3,h3,_⟩:=CB (b:=RG b) (oZ:=fun _=>False) (ex:=[]) d1 (fun _ h=>h.elim) aBb Sj k1 iM eH (fun _ hq=>by cases hq) ny (nG (t:=b.t) rfl hK)
 exact⟨σ3,h3⟩
theorem Nq:∀ (l:List (Nat×List (Nat×Path))) {id:Nat},Rel w0 W0 Z H S a w→Rel w0 W0 Z H (Z2 l id S) a w
 |[],_,h=>h
 |q::r,id,h=>by
  unfold Z2
  cases Nat.beq q.1 id with
  |true=>
   simp only[cond_true]
   generalize q.2=l
   induction l generalizing S with
   |nil=>exact h
   |cons x l ih=>exact ih (ad5 h x)
  |false=>exact Nq r h
end Go.Pv
namespace Go.Pv
set_option linter.unusedVariables false
set_option linter.unusedSimpArgs false
variable {Γ:Gl} {P:Program} {w w':World} {A A' Wr:Nat→Prop} {H:Nat→Value} {tm qP:Nat→Value} {S S' S1:St} {σ bO dQ:Nat→Option Nat} {w0:World} {W0 Z:Nat→Prop} {a:Act} {own:Nat→Prop} {v:Value} {Θ:de} {dst:Option Nat} {O:jr} {hh:Hint} {Q:Exit→Act→World→Prop} {K:St→Option aa} {ret:aa}
def I5 (w0:World) (W0 Z:Nat→Prop) (H:Nat→Value) (K:St→Option aa) (ret:aa) (a:Act) (w:World):Prop:=∃ S,K S=some ret∧Rel w0 W0 Z H S a w
theorem I6 {o:Oper} {c:Call} {f:FuncId} {xt:List Value} (ho:o.op=.call c) (hc:∃ x,c.callee=.value x∧a.eval x=.func (.func f) #[] xt.toArray) {R:Value→World→Prop} (hd:Sf P f (c.args.toList.map a.eval++xt) w R)
  {N:Act→World→Prop} (hN:∀ v w',R v w'→N (a.put o.dst v) w'):o.wp P a w N Q:=by
 obtain⟨x,hx,hv⟩:=hc
 have cp:(execOp a.eval o).run P w=(callFunc f (c.args.toList.map a.eval++xt).toArray).run P w:=by
  simp only[execOp,ho,resolve,hx,Deferred.ofValue,hv,Sem.run_bind,Sem.run_pure,Result.andThen_ok,invoke]
  congr 2
  apply Array.toList_inj.1
  simp
 unfold Oper.wp
 rw[cp]
 rcases hd with⟨h1,h2⟩ |⟨v,w',h1,h2⟩
 ·rw[h1,Oper.upon_enter]
  refine h2.mono fun e w' he=>?_
  cases e with
  |returned v=>exact hN _ _ he
  |panicked c=>exact he.elim
  |outgrown=>exact he.elim
 ·rw[h1,Oper.upon_value]
  exact hN _ _ h2
theorem HW {f:FuncId} {c:Call} (hc:c.callee=.value (.func f)) (h:Du O (.call c)=true):∀ p∈O.sig f,p=.val:=by
 obtain⟨callee,args,ats⟩:=c
 simp only at hc
 subst hc
 simp only[Du,List.all_eq_true] at h
 intro p hp
 have:=h p hp
 cases p<;>first |rfl |cases this
theorem Sk {op:Op} (h:quiet op=true):Nl op=true:=by
 unfold Nl
 split<;>first |rfl |exact h
theorem EZ:∀ (l:List Pass) (n:Nat) {j:Nat},uk l n=some j→¬ ∀ p∈l,p=.val
 |[],n,j,h,_=>by cases h
 | .ns::r,n,j,h,hv=>by have:=hv .ns (by simp);cases this
 | .val::r,n,j,h,hv=>EZ r (n+1) (by simpa[uk] using h) (fun p hp=>hv p (by simp[hp]))
 | .take::r,n,j,h,hv=>by have:=hv .take (by simp);cases this
theorem ad6 (hT:cP P hh.tab=true) (h:a7 σ w0 W0 Z H S a w) {T:TypeId} {x:Operand} {eq:Bool} {dst:Option Nat} (e:Wy hh dst T eq x S K=some ret):
  (∃ A n c,a.eval x=.slice A n c)∧∃ q,(binOp (bif eq then .eql else .neq) T (a.eval x) (.slice none 0 0)).run P w=.ok (.bool q) w∧∃ S',K S'=some ret∧Rel w0 W0 Z H S' (a.put dst (.bool q)) w:=by
 unfold Wy at e
 split at e
 case h_2=>cases e
 rename_i t m xs hx
 cases z7:hh.tab.is T (.sl t) with
 |false=>rw[z7] at e;cases e
 |true=>
 rw[z7] at e
 simp only[cond_true] at e
 obtain⟨cs,h1,h2,_⟩:=gZ h hx
 simp only[Go.Pv.K] at h2
 obtain⟨A,c,rfl,hc,Dv⟩:=h2
 have hv:a.eval x=.slice A (List.length xs) c:=by simpa[az,isAgg] using h1.symm
 obtain⟨i,hi,fh⟩:=dN z7
 obtain⟨_,hu,hTT⟩:=cT hT hi
 obtain⟨u1,_,_⟩:=kP hu fh
 rw[hTT] at u1
 have e7:∀ d,(Op.equalIn (d+1) T (.slice A (List.length xs) c) (.slice none 0 0)).run P w=.ok A.isNone w:=fun d=>by
  simp only[Op.equalIn,Sem.run_bind,run_underlying u1,Result.andThen_ok]
  cases A<;>simp
 have cp:(Op.equal T (a.eval x) (.slice none 0 0)).run P w=.ok A.isNone w:=by
  rw[hv]
  exact e7 9999
 have hq:(binOp (bif eq then .eql else .neq) T (a.eval x) (.slice none 0 0)).run P w=.ok (.bool (bif eq then A.isNone else !A.isNone)) w:=by
  cases eq<;>simp[binOp,cp]
 refine⟨⟨A,_,c,hv⟩,_,hq,?_⟩
 have put:∀ q:Bool,Rel w0 W0 Z H (S.put dst (.v ⟨.bool,.k,q⟩ [])) (a.put dst (.bool q)) w:=fun q=>⟨_,h.pure (cG q)⟩
 cases auM:List.isEmpty xs with
 |true=>
  rw[auM] at e
  simp only[cond_true] at e
  obtain⟨e1,e2⟩:=Z3 e
  cases hb:(bif eq then A.isNone else !A.isNone) with
  |true=>exact⟨_,e1,put true⟩
  |false=>exact⟨_,e2,put false⟩
 |false=>
  rw[auM] at e
  simp only[cond_false] at e
  have hp:0<List.length xs:=by
   cases xs with
   |nil=>simp at auM
   |cons _ _=>simp
  obtain⟨g,off,cur,T',fr,rfl,_⟩:=Dv hp
  cases eq with
  |true=>exact⟨_,e,put false⟩
  |false=>exact⟨_,e,put true⟩
theorem azB (hT:cP P hh.tab=true) (hO:qA Γ P O w0 W0) (h:a7 σ w0 W0 Z H S a w) {o:Oper} (e:gG hh O o S K=some ret):
  o.wp P a w (fun a' w'=>I5 w0 W0 Z H K ret a' w'∧(Du O o.op=true→Ext w w')) Q:=by
 unfold gG at e
 split at e
 ·rename_i f as ts ho
  split at e
  ·rename_i j hj
   have hd:=akz hT hO h e
   rw[←List.append_nil (as.toList.map a.eval)] at hd
   refine I6 ho (xt:=[]) ⟨_,rfl,by simp[Act.eval]⟩ hd ?_
   intro v w' ⟨S',h1,h2⟩
   exact⟨⟨S',h1,h2⟩,fun hx=>absurd (HW rfl (by rw[ho] at hx;exact hx)) (EZ _ _ hj)⟩
  refine I6 ho (xt:=[]) ⟨_,rfl,by simp[Act.eval]⟩ (WZ hT hO h (.inl ⟨rfl,rfl⟩) e) ?_
  intro v w' ⟨S',h1,h2,h3⟩
  exact⟨⟨S',h1,h2⟩,fun hx=>h3 (HW rfl (by rw[ho] at hx;exact hx))⟩
 ·rename_i i as ts ho
  split at e
  case h_2=>cases e
  rename_i f cy du
  have hold:=h.holds i
  rw[du] at hold
  obtain⟨vs,v1,v2,v3⟩:=hold
  refine I6 ho (xt:=vs) ⟨_,rfl,v1⟩ (WZ hT hO h (.inr ⟨i,rfl,v1⟩) e) ?_
  intro v w' ⟨S',h1,h2,h3⟩
  refine⟨⟨S',h1,h2⟩,fun hx=>?_⟩
  rw[ho] at hx
  cases hx
 ·rename_i T x T' ho
  obtain⟨⟨A,n,c,hv⟩,q,hq,S',hS,hR⟩:=ad6 hT h (eq:=true) e
  unfold Oper.wp
  have hr:(execOp a.eval o).run P w=.ok (.value (.bool q)) w:=by
   have qM:(binOp .eql T (a.eval x) (a.eval (.const (.slice none 0 0)))).run P w=.ok (.bool q) w:=hq
   have hg:(eqGuard .eql T x (.const (.slice none 0 0)) (a.eval x) (a.eval (.const (.slice none 0 0)))).run P w=.ok () w:=by
    rw[hv]
    simp[eqGuard,Act.eval]
   simp only[execOp,ho,Sem.run_bind]
   rw[hg]
   simp only[Result.andThen_ok]
   rw[qM]
   rfl
  rw[hr,Oper.upon_value]
  exact⟨⟨S',hS,hR⟩,fun _=>Ext.refl w⟩
 ·rename_i T x T' ho
  obtain⟨⟨A,n,c,hv⟩,q,hq,S',hS,hR⟩:=ad6 hT h (eq:=false) e
  unfold Oper.wp
  have hr:(execOp a.eval o).run P w=.ok (.value (.bool q)) w:=by
   have qM:(binOp .neq T (a.eval x) (a.eval (.const (.slice none 0 0)))).run P w=.ok (.bool q) w:=hq
   have hg:(eqGuard .neq T x (.const (.slice none 0 0)) (a.eval x) (a.eval (.const (.slice none 0 0)))).run P w=.ok () w:=by
    rw[hv]
    simp[eqGuard,Act.eval]
   simp only[execOp,ho,Sem.run_bind]
   rw[hg]
   simp only[Result.andThen_ok]
   rw[qM]
   rfl
  rw[hr,Oper.upon_value]
  exact⟨⟨S',hS,hR⟩,fun _=>Ext.refl w⟩
 ·rename_i n1 n2 n3 n4
  split at e
  case h_2=>cases e
  rename_i g S1 G3
  cases g with
  |false=>cases e
  |true=>
  simp only[cond_true] at e
  by_cases azC:Nl o.op=true
  ·obtain⟨w',v,r1,r2,r3⟩:=adW hT h azC G3
   unfold Oper.wp
   rw[r1,Oper.upon_value]
   exact⟨⟨S1,e,r3⟩,fun _=>r2⟩
  ·obtain⟨w',v,r1,r3⟩:=azz hT h G3
   have hna: ¬Du O o.op=true:=fun hx=>by
    apply azC
    revert hx n1
    generalize o.op=op
    intro n1 hx
    unfold Du at hx
    split at hx<;>first |rfl |(exact absurd rfl (n1 _ _ _)) |exact Sk hx
   unfold Oper.wp
   rcases r1 with r1 |⟨rfl,r1⟩
   ·rw[r1,Oper.upon_value]
    exact⟨⟨S1,e,r3⟩,fun hx=>absurd hx hna⟩
   ·rw[r1,Oper.upon_skip]
    exact⟨⟨S1,e,r3⟩,fun hx=>absurd hx hna⟩
end Go.Pv
namespace Go.Pv
set_option linter.unusedVariables false
set_option linter.unusedSimpArgs false
variable {Γ:Gl} {P:Program} {w w':World} {A A' Wr:Nat→Prop} {H:Nat→Value} {tm qP:Nat→Value} {S S' S1:St} {σ bO dQ:Nat→Option Nat} {w0:World} {W0 Z:Nat→Prop} {a:Act} {own:Nat→Prop} {v:Value} {Θ:de} {dst:Option Nat} {O:jr} {hh:Hint} {Q:Exit→Act→World→Prop} {K:St→Option aa} {ret:aa} {ops:Array Oper}
theorem ad7 {i:Nat} (h:a7 σ w0 W0 Z H S a w) (hi:i<S.length):a.tmps[i]?=some (b9 a i):=by
 have hl:i<a.tmps.size:=by rw[←h.len];exact hi
 unfold b9
 rw[Array.getD_eq_getD_getElem?,Array.getElem?_eq_getElem hl]
 rfl
theorem Sl (h:a7 σ w0 W0 Z H S a w) {j d:Nat} {m:Md} {q:Bool} {ex:List Path} (hd:(ops[j]?).bind (·.dst)=some d) (du:S.at d=.v ⟨.bool,m,q⟩ ex):yielded ops a.tmps j=some q∧b9 a d=.bool q:=by
 have hl:=ee (S:=S) (i:=d) (by rw[du];exact fun e=>by cases e)
 have hh:=h.holds d
 rw[du] at hh
 obtain⟨cs,h1,h2⟩:=hh
 simp only[M] at h2
 have hv:=dd h1 h2.2
 refine⟨?_,hv⟩
 unfold yielded
 rw[hd,Option.bind_some,ad7 h hl,hv]
theorem Nr (h:a7 σ w0 W0 Z H S a w) {j d:Nat} (hd:(ops[j]?).bind (·.dst)=some d) (du:S.at d=.undef):yielded ops a.tmps j=none:=by
 have hl:=ee (S:=S) (i:=d) (by rw[du];exact fun e=>by cases e)
 have hh:=h.holds d
 rw[du] at hh
 have hv:b9 a d=undef:=hh
 unfold yielded
 rw[hd,Option.bind_some,ad7 h hl,hv]
 rfl
theorem Rel.undef (h:a7 σ w0 W0 Z H S a w) (dst:Option Nat):Rel w0 W0 Z H (S.put dst .undef) (a.put dst Go.undef) w:=⟨_,h.pure (av:=.undef) (v:=Go.undef) rfl⟩
theorem ad8 {S:St} {d:Nat} {a:AV} (h:S.at d=a) (hd:a≠ .dead):S.set d a=S:=by
 unfold St.at at h
 rw[List.getD_eq_getElem?_getD] at h
 by_cases hl:d<S.length
 ·rw[List.getElem?_eq_getElem hl] at h
  simp only[Option.getD_some] at h
  subst h
  simp
 ·rw[List.getElem?_eq_none (by omega)] at h
  exact absurd h.symm hd
theorem uF (h:a7 σ w0 W0 Z H S a w) {i:Nat} {o:Oper} (ho:ops[i]?=some o) (e:aW hh O ops i S K=some ret):
  (Region.wanted o (yielded ops a.tmps)=true∧∃ dm S',a7 dm w0 W0 Z H S' a w∧gG hh O o S' K=some ret)∨
  (Region.wanted o (yielded ops a.tmps)=false∧I5 w0 W0 Z H K ret (a.put o.dst undef) w):=by
 unfold aW at e
 rw[ho] at e
 simp only at e
 split at e
 ·rename_i hg
  exact .inl ⟨by simp[Region.wanted,hg],σ,S,h,e⟩
 ·rename_i j want hg
  split at e
  case h_2=>cases e
  rename_i d hd
  split at e
  ·rename_i m q ex du
   obtain⟨hy,hv⟩:=Sl h hd du
   have hw:Region.wanted o (yielded ops a.tmps)=(q==want):=by
    unfold Region.wanted
    rw[hg]
    simp only[hy]
    cases q<;>cases want<;>rfl
   have Ns:=ad8 du (fun e=>by cases e)
   cases q with
   |true=>
    simp only[cond_true,Ns] at e
    cases want with
    |true=>exact .inl ⟨hw,σ,_,h,e⟩
    |false=>exact .inr ⟨hw,_,e,Rel.undef h o.dst⟩
   |false=>
    simp only[cond_false,Ns] at e
    cases want with
    |true=>exact .inr ⟨hw,_,e,Rel.undef h o.dst⟩
    |false=>exact .inl ⟨hw,σ,_,h,e⟩
  ·rename_i du
   have hy:=Nr h hd du
   refine .inr ⟨?_,_,e,Rel.undef h o.dst⟩
   unfold Region.wanted
   rw[hg]
   simp only[hy]
   rfl
  ·cases e
theorem DC (hT:cP P hh.tab=true) (hO:qA Γ P O w0 W0) (h:a7 σ w0 W0 Z H S a w) {i:Nat} (e:aW hh O ops i S K=some ret):
  wpOp P ops Q i (fun a' w'=>I5 w0 W0 Z H K ret a' w'∧(∀ o,ops[i]?=some o→Du O o.op=true→Ext w w')) a w:=by
 unfold wpOp
 cases ho:ops[i]? with
 |none=>unfold aW at e;rw[ho] at e;cases e
 |some o=>
  simp only
  rcases uF h ho e with⟨hw,dm,S',h',e'⟩ |⟨hw,Nt⟩
  ·rw[if_pos hw]
   refine .inl (Oper.wp_mono (fun a' w' h=>⟨h.1,fun o' G6=>?_⟩) (azB hT hO h' e'))
   injection G6 with G6
   subst G6
   exact h.2
  ·rw[if_neg (by rw[hw];exact Bool.false_ne_true)]
   exact⟨Nt,fun _ _ _=>Ext.refl w⟩
theorem ad9 (hT:cP P hh.tab=true) (hO:qA Γ P O w0 W0) (hQ:∀ a w,I5 w0 W0 Z H K ret a w→Q .normal a w):∀ (l:List Nat) {S:St} {a:Act} {w:World},mO hh O ops l S K=some ret→Rel w0 W0 Z H S a w→wpOps P ops Q l a w
 |[],S,a,w,e,h=>hQ a w ⟨S,e,h⟩
 |i::l,S,a,w,e,⟨σ,h⟩=>by
  rw[wpOps_cons]
  simp only[mO] at e
  refine wpOp_mono (fun a' w' h'=>?_) (DC hT hO h e)
  obtain⟨⟨S',h1,h2⟩,_⟩:=h'
  exact ad9 hT hO hQ l h1 h2
theorem Ext.trans {w1 w2 w3:World} (h:Ext w1 w2) (h':Ext w2 w3):Ext w1 w3:=fun g hg=>by
 have h1:=h g hg
 have:g<w2.heap.size:=by
  rw[Array.getElem?_eq_getElem hg] at h1
  exact bn h1
 rw[h' g this,h1]
def wpE (P:Program) (ops:Array Oper) (Q:Exit→Act→World→Prop) (ad:Nat→Bool):Nat→Array Bool→Act→World→Prop
 |0,bh,a,w=>Region.ready .any ops bh=[]∧Q .normal a w
 |n+1,bh,a,w=>(Region.ready .any ops bh=[]→Q .normal a w)∧
  ∀ i∈Region.ready .any ops bh,wpOp P ops Q i (fun a' w'=>(ad i=true→Ext w w')∧wpE P ops Q ad n (bh.setIfInBounds i true) a' w') a w
theorem W4 {ad:Nat→Bool}:∀ (n:Nat) {bh:Array Bool} {a:Act} {w:World},wpE P ops Q ad n bh a w→wpAny P .any ops Q n bh a w
 |0,_,_,_,h=>h
 |n+1,_,_,_,h=>⟨h.1,fun i hi=>wpOp_mono (fun _ _ h'=>W4 n h'.2) (h.2 i hi)⟩
theorem aat {ad:Nat→Bool} {i:Nat} {oi:Oper} {v:Value} (hi:ops[i]?=some oi) (E0:∀ (j:Nat) (o:Oper) cs b,ops[j]?=some o→o.op≠ .select cs b)
  (hQ:∀ c a w,Q (.panic c) (a.put oi.dst v) w→Q (.panic c) a w) {D:Nat→Bool} (hDi:D i=true)
  (hD:∀ j oj,ops[j]?=some oj→D j=true→j≠i→∃ e∈oj.after,Region.binds .any e=true∧D e.on=true):
  ∀ (fuel:Nat) (bh:Array Bool) (a:Act) (w:World),(∀ j,D j=true→bh.getD j true=false)→
   (∀ j oj,ops[j]?=some oj→D j=false→bh.getD j true=false→oi.apart ops oj=true∧ad j=true)→
   i∈Region.ready .any ops bh→YieldsIf P ops (Ext w) oi v a→wpE P ops Q ad fuel (bh.setIfInBounds i true) (a.put oi.dst v) w→wpE P ops Q ad (fuel+1) bh a w:=by
 intro fuel
 induction fuel with
 |zero=>
  intro bh a w _ _ hr hy HH
  refine⟨fun h=>(by rw[h] at hr;cases hr),fun j hj=>?_⟩
  by_cases lg:j=i
  ·subst lg;exact hy.wpOp hi (Ext.refl w) ⟨fun _=>Ext.refl w,HH⟩
  ·have:=ready_mono hj lg
   rw[HH.1] at this
   cases this
 |succ fuel ih=>
  intro bh a w Hb Nu hr hy HH
  refine⟨fun h=>(by rw[h] at hr;cases hr),fun j hj=>?_⟩
  by_cases lg:j=i
  ·subst lg;exact hy.wpOp hi (Ext.refl w) ⟨fun _=>Ext.refl w,HH⟩
  ·have h1:=HH.2 j (ready_mono hj lg)
   obtain⟨ad',oj,nF,gq⟩:=mem_ready.1 hj
   have hDj:D j=false:=by
    cases hd:D j with
    |false=>rfl
    |true=>
     obtain⟨e,he,hb,hde⟩:=hD j oj nF hd lg
     have h2:=gq e he hb
     have h3:=Hb e.on hde
     rcases Nat.lt_or_ge e.on bh.size with hl |hl
     ·simp[hl] at h2 h3;rw[h3] at h2;cases h2
     ·simp[Array.getElem?_eq_none hl] at h2
   obtain⟨R7,had⟩:=Nu j oj nF hDj ad'
   have h2:=wpOp_putIf nF R7 (fun cs b=>E0 i oi cs b hi) (fun cs b=>E0 j oj cs b nF) hQ hy h1
   refine wpOp_mono (fun a' w' h3=>⟨fun _=>h3.2.1 had,?_⟩) h2
   have aBc:=h3.2.1 had
   refine ih (bh.setIfInBounds j true) a' w' (fun k hk=>?_) (fun k ok hk hdk aea=>Nu k ok hk hdk ?_) (ready_mono hr (Ne.symm lg)) ?_ ?_
   ·have Sd:j≠k:=fun e=>by subst e;rw[hDj] at hk;cases hk
    rw[getD_set_ne true Sd]
    exact Hb k hk
   ·by_cases Sd:j=k
    ·subst Sd;exact ad'
    ·rw[getD_set_ne true Sd] at aea;exact aea
   ·exact h3.1.imp (fun⟨q1,q2⟩=>⟨q1,fun w2 qT=>q2 w2 (aBc.trans qT)⟩) id
   ·rw[Array.setIfInBounds_comm _ _ lg]
    exact h3.2.2
theorem E3 {ad:Nat→Bool} {i:Nat} {oi:Oper} {v:Value} (hi:ops[i]?=some oi) (E0:∀ (j:Nat) (o:Oper) cs b,ops[j]?=some o→o.op≠ .select cs b)
  (hQ:∀ c a w,Q (.panic c) (a.put oi.dst v) w→Q (.panic c) a w) {D:Nat→Bool} (hDi:D i=true)
  (hD:∀ j oj,ops[j]?=some oj→D j=true→j≠i→∃ e∈oj.after,Region.binds .any e=true∧D e.on=true):
  ∀ (fuel:Nat) (bh:Array Bool) (a:Act) (w:World),(∀ j,D j=true→bh.getD j true=false)→
   (∀ j oj,ops[j]?=some oj→D j=false→bh.getD j true=false→oi.apart ops oj=true)→
   i∈Region.ready .any ops bh→YieldsIf P ops (fun _=>True) oi v a→wpE P ops Q ad fuel (bh.setIfInBounds i true) (a.put oi.dst v) w→wpE P ops Q ad (fuel+1) bh a w:=by
 intro fuel
 induction fuel with
 |zero=>
  intro bh a w _ _ hr hy HH
  refine⟨fun h=>(by rw[h] at hr;cases hr),fun j hj=>?_⟩
  by_cases lg:j=i
  ·subst lg;exact hy.wpOp hi trivial ⟨fun _=>Ext.refl w,HH⟩
  ·have:=ready_mono hj lg
   rw[HH.1] at this
   cases this
 |succ fuel ih=>
  intro bh a w Hb Nu hr hy HH
  refine⟨fun h=>(by rw[h] at hr;cases hr),fun j hj=>?_⟩
  by_cases lg:j=i
  ·subst lg;exact hy.wpOp hi trivial ⟨fun _=>Ext.refl w,HH⟩
  ·have h1:=HH.2 j (ready_mono hj lg)
   obtain⟨ad',oj,nF,gq⟩:=mem_ready.1 hj
   have hDj:D j=false:=by
    cases hd:D j with
    |false=>rfl
    |true=>
     obtain⟨e,he,hb,hde⟩:=hD j oj nF hd lg
     have h2:=gq e he hb
     have h3:=Hb e.on hde
     rcases Nat.lt_or_ge e.on bh.size with hl |hl
     ·simp[hl] at h2 h3;rw[h3] at h2;cases h2
     ·simp[Array.getElem?_eq_none hl] at h2
   have R7:=Nu j oj nF hDj ad'
   have h2:=wpOp_putIf nF R7 (fun cs b=>E0 i oi cs b hi) (fun cs b=>E0 j oj cs b nF) hQ hy h1
   refine wpOp_mono (fun a' w' h3=>⟨h3.2.1,?_⟩) h2
   refine ih (bh.setIfInBounds j true) a' w' (fun k hk=>?_) (fun k ok hk hdk aea=>Nu k ok hk hdk ?_) (ready_mono hr (Ne.symm lg)) ?_ ?_
   ·have Sd:j≠k:=fun e=>by subst e;rw[hDj] at hk;cases hk
    rw[getD_set_ne true Sd]
    exact Hb k hk
   ·by_cases Sd:j=k
    ·subst Sd;exact ad'
    ·rw[getD_set_ne true Sd] at aea;exact aea
   ·exact h3.1
   ·rw[Array.setIfInBounds_comm _ _ lg]
    exact h3.2.2
theorem gv (j k:Nat):Nat.testBit (2^j) k=decide (j=k):=Nat.testBit_two_pow
theorem CC {o:Oper} {k:Nat} (h:Nat.testBit (bg o) k=true):∃ e∈o.after,Region.binds .any e=true∧e.on=k:=by
 have key:∀ (l:List Edge),Nat.testBit (l.foldr (fun e m=>bif Region.binds .any e then m|||2^e.on else m) 0) k=true→∃ e∈l,Region.binds .any e=true∧e.on=k:=by
  intro l
  induction l with
  |nil=>intro h;simp at h
  |cons e r ih=>
   intro h
   simp only[List.foldr_cons] at h
   cases hb:Region.binds .any e with
   |false=>
    rw[hb] at h
    obtain⟨e',h1,h2⟩:=ih h
    exact⟨e',List.mem_cons_of_mem _ h1,h2⟩
   |true=>
    rw[hb] at h
    simp only[cond_true,Nat.testBit_or,Bool.or_eq_true,gv,decide_eq_true_eq] at h
    rcases h with h |h
    ·obtain⟨e',h1,h2⟩:=ih h
     exact⟨e',List.mem_cons_of_mem _ h1,h2⟩
    ·exact⟨e,List.mem_cons_self ..,hb,h⟩
 obtain⟨e,h1,h2⟩:=key _ h
 exact⟨e,by simpa using h1,h2⟩
theorem Sm {o:Oper} {e:Edge} (he:e∈o.after) (hb:Region.binds .any e=true):Nat.testBit (bg o) e.on=true:=by
 have key:∀ (l:List Edge),e∈l→Nat.testBit (l.foldr (fun e m=>bif Region.binds .any e then m|||2^e.on else m) 0) e.on=true:=by
  intro l
  induction l with
  |nil=>intro h;cases h
  |cons e' r ih=>
   intro h
   simp only[List.foldr_cons]
   rcases List.mem_cons.1 h with rfl |h
   ·rw[hb]
    simp[Nat.testBit_or,gv]
   ·cases Region.binds .any e'<;>simp[Nat.testBit_or,ih h]
 exact key _ (by simpa using he)
theorem uG (i:Nat):∀ (r:List Nat) (j acc k:Nat),Nat.testBit acc k=true→Nat.testBit (bw i r j acc) k=true
 |[],_,_,_,h=>h
 |m::r,j,acc,k,h=>by
  simp only[bw]
  refine uG i r _ _ k ?_
  cases (Nat.beq j i|| !(Nat.beq (m&&&acc) 0))<;>simp[Nat.testBit_or,h]
theorem E4 (i:Nat):∀ (r:List Nat) (j acc:Nat),j≤i→i<j+r.length→Nat.testBit (bw i r j acc) i=true
 |[],_,_,h1,h2=>by simp at h2;omega
 |m::r,j,acc,h1,h2=>by
  simp only[bw]
  by_cases hj:j=i
  ·subst hj
   refine uG _ r _ _ _ ?_
   simp[Nat.testBit_or,gv]
  ·exact E4 i r _ _ (by omega) (by simp only[List.length_cons] at h2;omega)
theorem uH (i:Nat):∀ (r:List Nat) (j acc k:Nat),Nat.testBit (bw i r j acc) k=true→
  Nat.testBit acc k=true∨∃ q m,k=j+q∧r[q]?=some m∧(k=i∨∃ t,Nat.testBit m t=true∧Nat.testBit (bw i r j acc) t=true)
 |[],_,_,_,h=>.inl h
 |m::r,j,acc,k,h=>by
  simp only[bw] at h ⊢
  rcases uH i r _ _ k h with h1 |⟨q,m',h1,h2,h3⟩
  ·cases hc:(Nat.beq j i|| !(Nat.beq (m&&&acc) 0)) with
   |false=>rw[hc] at h1;exact .inl h1
   |true=>
    rw[hc] at h1
    simp only[cond_true,Nat.testBit_or,Bool.or_eq_true,gv,decide_eq_true_eq] at h1
    rcases h1 with h1 |rfl
    ·exact .inl h1
    ·refine .inr ⟨0,m,by omega,rfl,?_⟩
     rw[Bool.or_eq_true] at hc
     rcases hc with hc |hc
     ·exact .inl (Nat.eq_of_beq_eq_true hc)
     ·right
      have nH:m&&&acc≠0:=fun e=>by rw[e] at hc;cases hc
      obtain⟨t,ht⟩:=Nat.exists_testBit_of_ne_zero nH
      rw[Nat.testBit_and,Bool.and_eq_true] at ht
      refine⟨t,ht.1,uG i r _ _ t ?_⟩
      simp[Nat.testBit_or,ht.2]
  ·exact .inr ⟨q+1,m',by omega,by simpa using h2,h3⟩
theorem tR {oi:Oper} {rest:Nat}:∀ (r:List Oper) (j:Nat),wZ O ops oi rest r j=true→∀ (q:Nat) (oj:Oper),r[q]?=some oj→Nat.testBit rest (j+q)=true→oi.apart ops oj=true∧Du O oj.op=true
 |[],_,_,q,oj,h,_=>by simp at h
 |o::r,j,h,q,oj,hq,ht=>by
  simp only[wZ,Bool.and_eq_true] at h
  cases q with
  |zero=>
   simp only[List.getElem?_cons_zero,Option.some.injEq] at hq
   subst hq
   rw[Nat.add_zero] at ht
   rw[ht] at h
   simpa using h.1
  |succ q=>exact tR r (j+1) h.2 q oj (by simpa using hq) (by rw[←ht];congr 1;omega)
theorem aeb (hT:cP P hh.tab=true) (h:a7 σ w0 W0 Z H S a w) {i:Nat} {o:Oper} (ho:ops[i]?=some o) (hq:quiet o.op=true) (hn:oT o.op=false) (e:aW hh O ops i S K=some ret):
  ∃ v,YieldsIf P ops (Ext w) o v a∧I5 w0 W0 Z H K ret (a.put o.dst v) w:=by
 rcases uF h ho e with⟨hw,dm,S',h',e'⟩ |⟨hw,Nt⟩
 ·unfold gG at e'
  split at e'
  ·rename_i f as ts bU;rw[bU] at hq;cases hq
  ·rename_i i' as ts bU;rw[bU] at hq;cases hq
  ·rename_i bU;rw[bU] at hn;cases hn
  ·rename_i bU;rw[bU] at hn;cases hn
  ·split at e'
   case h_2=>cases e'
   rename_i g S1 G3
   cases g with
   |false=>cases e'
   |true=>
    obtain⟨v,h1,h2⟩:=adV hT h' hq G3
    exact⟨v,.inl ⟨hw,h1⟩,S1,e',h2⟩
 ·exact⟨undef,.inr ⟨hw,rfl⟩,Nt⟩
theorem iU {oi:Oper} {rest:Nat}:∀ (r:List Oper) (j:Nat),jG ops oi rest r j=true→∀ (q:Nat) (oj:Oper),r[q]?=some oj→Nat.testBit rest (j+q)=true→oi.apart ops oj=true
 |[],_,_,q,oj,h,_=>by simp at h
 |o::r,j,h,q,oj,hq,ht=>by
  simp only[jG,Bool.and_eq_true] at h
  cases q with
  |zero=>
   simp only[List.getElem?_cons_zero,Option.some.injEq] at hq
   subst hq
   rw[Nat.add_zero] at ht
   rw[ht] at h
   simpa using h.1
  |succ q=>exact iU r (j+1) h.2 q oj (by simpa using hq) (by rw[←ht];congr 1;omega)
theorem xu {oi:Oper} {rest:Nat}:∀ (r:List Oper) (j:Nat),(∀ (q:Nat) (oj:Oper),r[q]?=some oj→Nat.testBit rest (j+q)=true→oi.apart ops oj=true)→jG ops oi rest r j=true
 |[],_,_=>rfl
 |o::r,j,h=>by
  unfold jG
  rw[Bool.and_eq_true]
  refine⟨?_,xu r (j+1) fun q oj hq ht=>h (q+1) oj (by simpa using hq) (by rw[←ht];congr 1;omega)⟩
  cases hb:Nat.testBit rest j with
  |false=>rfl
  |true=>exact h 0 o rfl (by rw[Nat.add_zero];exact hb)
theorem Nv (hT:cP P hh.tab=true) (h:a7 σ w0 W0 Z H S a w) {i:Nat} {o:Oper} (ho:ops[i]?=some o) (hqT:Ac hh.tab o.op=true) (e:aW hh O ops i S K=some ret):
  ∃ v,YieldsIf P ops (fun _=>True) o v a∧I5 w0 W0 Z H K ret (a.put o.dst v) w:=by
 have hq:still o.op=true:=by unfold Ac at hqT;simp only[Bool.and_eq_true] at hqT;exact hqT.1.1
 have hnn:oT o.op=false:=by unfold Ac at hqT;simp only[Bool.and_eq_true,Bool.not_eq_true'] at hqT;exact hqT.1.2
 have qM:Se o.op=true:=by
  unfold still at hq
  split at hq<;>first |(rename_i bU;rw[bU];rfl) |cases hq
 rcases uF h ho e with⟨hw,dm,S',h',e'⟩ |⟨hw,Nt⟩
 ·unfold gG at e'
  split at e'
  ·rename_i f as ts bU;rw[bU] at hq;cases hq
  ·rename_i i' as ts bU;rw[bU] at hq;cases hq
  ·rename_i bU;rw[bU] at hnn;simp[oT] at hnn
  ·rename_i bU;rw[bU] at hnn;simp[oT] at hnn
  ·split at e'
   case h_2=>cases e'
   rename_i g S1 G3
   cases g with
   |false=>cases e'
   |true=>
    obtain⟨v,h1,h2⟩:=auG hT h' qM (by unfold Ac at hqT;simp only[Bool.and_eq_true] at hqT;exact hqT.2) G3
    exact⟨v,.inl ⟨hw,fun w _=>h1 w⟩,S1,e',h2⟩
 ·exact⟨undef,.inr ⟨hw,rfl⟩,Nt⟩
def Hi (ops:Array Oper) (bh:Array Bool) (L:Nat):Prop:=bh.size=ops.size∧∀ j,j<ops.size→bh[j]?=some (Nat.testBit L j)
theorem Hi.set {bh:Array Bool} {L i:Nat} (h:Hi ops bh L) (hi:i<ops.size):Hi ops (bh.setIfInBounds i true) (L|||2^i):=by
 refine⟨by simp[h.1],fun j hj=>?_⟩
 rw[Array.getElem?_setIfInBounds]
 by_cases uq:i=j
 ·subst uq
  simp[h.1,hi,Nat.testBit_or,gv]
 ·rw[if_neg uq,h.2 j hj,Nat.testBit_or,gv]
  simp[uq]
theorem Hi.getD {bh:Array Bool} {L:Nat} (h:Hi ops bh L) {j:Nat} (hj:j<ops.size) (d:Bool):bh.getD j d=Nat.testBit L j:=by
 rw[Array.getD_eq_getD_getElem?,h.2 j hj];rfl
theorem Hi.out {bh:Array Bool} {L:Nat} (h:Hi ops bh L) {j:Nat} (hj: ¬j<ops.size) (d:Bool):bh.getD j d=d:=by
 rw[Array.getD_eq_getD_getElem?,Array.getElem?_eq_none (by rw[h.1];omega)];rfl
def auN (ops:Array Oper) (as:List Nat) (i j:Nat):Prop:=∃ m oi oj,as[j]?=some m∧ops[i]?=some oi∧ops[j]?=some oj∧i≠j∧(Nat.testBit m i=true∨Hu ops oi oj=true)
theorem uI {as:List Nat}:∀ {l:List Nat},Eg ops as l=true↔l.Pairwise (auN ops as)
 |[]=>by simp[Eg]
 |i::r=>by
  simp only[Eg,Bool.and_eq_true,List.all_eq_true,List.pairwise_cons,uI (l:=r)]
  refine and_congr (forall_congr' fun j=>forall_congr' fun hj=>?_) Iff.rfl
  constructor
  ·intro h
   split at h
   case h_2=>cases h
   rename_i m oi oj h1 h2 h3
   simp only[Bool.and_eq_true,Bool.not_eq_true',Bool.or_eq_true] at h
   exact⟨m,oi,oj,h1,h2,h3,fun e=>by(subst e;rw[Nat.beq_refl] at h;cases h.1),h.2⟩
  ·rintro⟨m,oi,oj,h1,h2,h3,h4,h5⟩
   rw[h1,h2,h3]
   simp only[Bool.and_eq_true,Bool.not_eq_true',Bool.or_eq_true]
   refine⟨?_,h5⟩
   cases hb:Nat.beq i j with
   |false=>rfl
   |true=>exact absurd (Nat.eq_of_beq_eq_true hb) h4
theorem HX {as:List Nat}:∀ (l:List Nat) {L L':Nat},(∀ k,Nat.testBit L k=true→Nat.testBit L' k=true)→lQ as L l=true→lQ as L' l=true
 |[],_,_,_,_=>rfl
 |i::r,L,L',hL,h=>by
  simp only[lQ,Bool.and_eq_true] at h ⊢
  refine⟨?_,HX r (fun k hk=>?_) h.2⟩
  ·have h1:=h.1
   split at h1
   case h_2=>cases h1
   rename_i m hm
   have h2:=Nat.eq_of_beq_eq_true h1
   have:m&&&L'=m:=Nat.eq_of_testBit_eq fun k=>by
    rw[Nat.testBit_and]
    cases hk:Nat.testBit m k with
    |false=>rfl
    |true=>
     have h3:Nat.testBit (m&&&L) k=true:=by rw[h2];exact hk
     rw[Nat.testBit_and,hk] at h3
     rw[hL k (by simpa using h3)]
     rfl
   rw[this]
   exact Nat.beq_refl m
  ·rw[Nat.testBit_or,Bool.or_eq_true] at hk ⊢
   exact hk.imp (hL k) id
theorem E5 {as:List Nat} {j:Nat}:∀ (p r:List Nat) {L:Nat},lQ as L (p++j::r)=true→lQ as (L|||2^j) (p++r)=true
 |[],r,L,h=>by
  simp only[List.nil_append,lQ,Bool.and_eq_true] at h
  exact h.2
 |x::p,r,L,h=>by
  simp only[List.cons_append,lQ,Bool.and_eq_true] at h ⊢
  have h0:lQ as (L|||2^j) [x]=true:=HX [x] (L:=L) (fun k hk=>by rw[Nat.testBit_or,hk];rfl) (by simp only[lQ,Bool.and_eq_true];exact⟨h.1,trivial⟩)
  simp only[lQ,Bool.and_eq_true] at h0
  refine⟨h0.1,?_⟩
  have:=E5 p r h.2
  rwa [Nat.or_assoc,Nat.or_comm (2^x),←Nat.or_assoc] at this
theorem ij:∀ (l:List Nat) (k:Nat),Nat.testBit (dS l) k=decide (k∈l)
 |[],k=>by simp[dS]
 |i::r,k=>by
  have h:dS (i::r)=dS r|||2^i:=rfl
  rw[h,Nat.testBit_or,ij r k,gv]
  by_cases h1:k∈r<;>by_cases h2:i=k<;>simp[h1,h2,eq_comm]
def OT.bare:OT→Prop
 | .own _ _=>False
 |_=>True
theorem AA:∀ (l:OT) {S:St} {a:Act} {w:World},ff hh O ops l S K=some ret→Rel w0 W0 Z H S a w→
  ∃ (l':OT) (S':St),l'.bare∧ff hh O ops l' S' K=some ret∧Rel w0 W0 Z H S' a w∧l'.len=l.len∧∀ (Θ:de) (as:List Nat) (full L:Nat),fx Θ O ops as full L l=true→fx Θ O ops as full L l'=true
 | .own d t,S,a,w,e,h=>by
  simp only[ff] at e
  split at e
  case h_2=>cases e
  rename_i g S1 hg
  cases g with
  |false=>cases e
  |true=>
   obtain⟨l',S',h1,h2,h3,h4,h5⟩:=AA t e (aas h hg)
   exact⟨l',S',h1,h2,h3,by simp only[OT.len];exact h4,fun Θ as full L ho=>h5 Θ as full L (by simpa only[fx] using ho)⟩
 | .done,S,a,w,e,h=>⟨.done,S,trivial,e,h,rfl,fun _ _ _ _ h=>h⟩
 | .one i t,S,a,w,e,h=>⟨.one i t,S,trivial,e,h,rfl,fun _ _ _ _ h=>h⟩
 | .any q t,S,a,w,e,h=>⟨.any q t,S,trivial,e,h,rfl,fun _ _ _ _ h=>h⟩
 | .par q ds t,S,a,w,e,h=>⟨.par q ds t,S,trivial,e,h,rfl,fun _ _ _ _ h=>h⟩
theorem aec (hT:cP P hh.tab=true) (hO:qA Γ P O w0 W0) (hQ:∀ a w,I5 w0 W0 Z H K ret a w→Q .normal a w) (DD:∀ c a w,¬Q (.panic c) a w) (E0:Region.noSelect ops=true):
  ∀ (n:Nat) (L:Nat) (l:OT) {bh:Array Bool} {S:St} {a:Act} {w:World},fx hh.tab O ops (ops.toList.map bg) (2^ops.size - 1) L l=true→Hi ops bh L→l.len≤n→ff hh O ops l S K=some ret→Rel w0 W0 Z H S a w→
   wpE P ops Q (fun j=>match ops[j]? with |some o=>Du O o.op |none=>false) n bh a w:=by
 have azD:∀ {bh:Array Bool} {L:Nat},Hi ops bh L→L=2^ops.size - 1→Region.ready .any ops bh=[]:=by
  intro bh L hb hL
  refine List.eq_nil_iff_forall_not_mem.2 fun j hj=>?_
  obtain⟨h1,oj,h2,_⟩:=mem_ready.1 hj
  have hj:=(Array.getElem?_eq_some_iff.1 h2).1
  rw[hb.getD hj,hL,Nat.testBit_two_pow_sub_one] at h1
  simp[hj] at h1
 intro n
 induction n with
 |zero=>
  intro L l bh S a w ho hb hn e h
  obtain⟨l,S,aed,e,h,hlen,qv⟩:=AA l e h
  replace ho:=qv _ _ _ _ ho
  rw[←hlen] at hn
  clear qv hlen
  cases l with
  |own _ _=>exact aed.elim
  |one _ _=>simp[OT.len] at hn
  |any q _=>
   cases q with
   |nil=>simp[fx,ake] at ho
   |cons _ _=>simp[OT.len] at hn
  |par q _ _=>
   cases q with
   |nil=>simp[fx,akf] at ho
   |cons _ _=>simp[OT.len] at hn
  |done=>
   simp only[fx] at ho
   exact⟨azD hb (Nat.eq_of_beq_eq_true ho),hQ a w ⟨S,e,h⟩⟩
 |succ n ih=>
  intro L l bh S a w ho hb hn e h
  obtain⟨l,S,aed,e,h,hlen,qv⟩:=AA l e h
  replace ho:=qv _ _ _ _ ho
  rw[←hlen] at hn
  clear qv hlen
  have R4:∀ (l:OT) (L:Nat),fx hh.tab O ops (ops.toList.map bg) (2^ops.size - 1) L l=true→L<2^ops.size:=by
   intro l
   induction l with
   |done=>
    intro L h
    have:=Nat.eq_of_beq_eq_true h
    have:=Nat.two_pow_pos ops.size
    omega
   |one i t ih=>
    intro L h
    simp only[fx,Bool.and_eq_true] at h
    exact Nat.lt_of_le_of_lt Nat.left_le_or (ih _ h.2)
   |any q t ih=>
    intro L h
    simp only[fx,Bool.and_eq_true] at h
    exact Nat.lt_of_le_of_lt Nat.left_le_or (ih _ h.2)
   |par q ds t ih=>
    intro L h
    simp only[fx,Bool.and_eq_true] at h
    exact Nat.lt_of_le_of_lt Nat.left_le_or (ih _ h.2)
   |own d t ih=>
    intro L h
    simp only[fx] at h
    exact ih _ h
  have hL2:=R4 l L ho
  have Sn:∀ (i:Nat) (oi:Oper),ops[i]?=some oi→bw i (ops.toList.map bg) 0 0&&&L=0→
    (∀ j,Nat.testBit (bw i (ops.toList.map bg) 0 0) j=true→Nat.testBit L j=false)∧Nat.testBit (bw i (ops.toList.map bg) 0 0) i=true∧
    (∀ j oj,ops[j]?=some oj→Nat.testBit (bw i (ops.toList.map bg) 0 0) j=true→j≠i→∃ e∈oj.after,Region.binds .any e=true∧Nat.testBit (bw i (ops.toList.map bg) 0 0) e.on=true)∧
    (∀ j,Nat.testBit (bw i (ops.toList.map bg) 0 0) j=true→j<ops.size):=by
   intro i oi HY c3
   have hi:i<ops.size:=(Array.getElem?_eq_some_iff.1 HY).1
   have hW3:∀ j,Nat.testBit (bw i (ops.toList.map bg) 0 0) j=true→Nat.testBit L j=false:=fun j hj=>by
    have:Nat.testBit (bw i (ops.toList.map bg) 0 0&&&L) j=false:=by rw[c3];simp
    rw[Nat.testBit_and,hj] at this
    simpa using this
   have hWi:Nat.testBit (bw i (ops.toList.map bg) 0 0) i=true:=E4 i _ 0 0 (Nat.zero_le _) (by simpa using hi)
   have hWs:∀ j oj,ops[j]?=some oj→Nat.testBit (bw i (ops.toList.map bg) 0 0) j=true→j≠i→∃ e∈oj.after,Region.binds .any e=true∧Nat.testBit (bw i (ops.toList.map bg) 0 0) e.on=true:=fun j oj nF hj lg=>by
    rcases uH i _ _ _ j hj with hx |⟨q,m,hq,hm,hx⟩
    ·simp at hx
    ·rw[Nat.zero_add] at hq
     subst hq
     rw[List.getElem?_map,Array.getElem?_toList,nF] at hm
     simp only[Option.map_some,Option.some.injEq] at hm
     subst hm
     rcases hx with hx |⟨t,h1,h2⟩
     ·exact absurd hx lg
     ·obtain⟨e,he,hbd,rfl⟩:=CC h1
      exact⟨e,he,hbd,h2⟩
   have I7:∀ j,Nat.testBit (bw i (ops.toList.map bg) 0 0) j=true→j<ops.size:=fun j hj=>by
    rcases uH i _ _ _ j hj with hx |⟨q,m,hq,hm,hx⟩
    ·simp at hx
    ·have:=(List.getElem?_eq_some_iff.1 hm).1
     simp at this
     omega
   exact⟨hW3,hWi,hWs,I7⟩
  have facts:∀ (i:Nat) (oi:Oper),ops[i]?=some oi→Nat.testBit L i=false→bg oi&&&L=bg oi→bw i (ops.toList.map bg) 0 0&&&L=0→
    (∀ j,Nat.testBit (bw i (ops.toList.map bg) 0 0) j=true→Nat.testBit L j=false)∧Nat.testBit (bw i (ops.toList.map bg) 0 0) i=true∧
    (∀ j oj,ops[j]?=some oj→Nat.testBit (bw i (ops.toList.map bg) 0 0) j=true→j≠i→∃ e∈oj.after,Region.binds .any e=true∧Nat.testBit (bw i (ops.toList.map bg) 0 0) e.on=true)∧
    (∀ j,Nat.testBit (bw i (ops.toList.map bg) 0 0) j=true→j<ops.size)∧i∈Region.ready .any ops bh:=by
   intro i oi HY c1 c2 c3
   have hi:i<ops.size:=(Array.getElem?_eq_some_iff.1 HY).1
   obtain⟨hW3,hWi,hWs,I7⟩:=Sn i oi HY c3
   refine⟨hW3,hWi,hWs,I7,mem_ready.2 ⟨by rw[hb.getD hi];exact c1,oi,HY,fun e he hbd=>?_⟩⟩
   have h1:=Sm he hbd
   have h2:Nat.testBit (bg oi&&&L) e.on=true:=by rw[c2];exact h1
   rw[Nat.testBit_and,h1] at h2
   have h3:Nat.testBit L e.on=true:=by simpa using h2
   by_cases hl:e.on<ops.size
   ·rw[hb.getD hl];exact h3
   ·rw[Nat.testBit_lt_two_pow (Nat.lt_of_lt_of_le hL2 (Nat.pow_le_pow_right (by decide) (by omega)))] at h3
    cases h3
  cases l with
  |done=>
   simp only[fx] at ho
   have hr:=azD hb (Nat.eq_of_beq_eq_true ho)
   exact⟨fun _=>hQ a w ⟨S,e,h⟩,fun i hi=>by rw[hr] at hi;cases hi⟩
  |own _ _=>exact aed.elim
  |any q t=>
   simp only[fx,Bool.and_eq_true] at ho
   obtain⟨hc,hot⟩:=ho
   have HZ:=hc
   unfold ake at hc
   simp only[Bool.and_eq_true,Bool.not_eq_true',List.all_eq_true] at hc
   obtain⟨⟨⟨nH,nA⟩,Sp⟩,E6⟩:=hc
   have W5:=uI.1 Sp
   have get:∀ i∈q,∃ oi,ops[i]?=some oi∧i<ops.size:=fun i hi=>by
    have h1:i<ops.size:=Nat.lt_of_lt_of_le (Nat.lt_succ_self _) (Nat.le_of_ble_eq_true (nA i hi).1.1.1)
    exact⟨ops[i],Array.getElem?_eq_getElem h1,h1⟩
   have unl:∀ i∈q,Nat.testBit L i=false:=fun i hi=>(nA i hi).1.1.2
   -- the first is ready
   obtain⟨i0,q0,rfl⟩:∃ i0 q0,q=i0::q0:=by
    cases q with
    |nil=>simp at nH
    |cons i0 q0=>exact⟨i0,q0,rfl⟩
   obtain⟨oi0,Hj,I8⟩:=get i0 (by simp)
   have hd0:=E6
   simp only[lQ,Bool.and_eq_true] at hd0
   have hd1:=hd0.1
   rw[List.getElem?_map,Array.getElem?_toList,Hj] at hd1
   simp only[Option.map_some] at hd1
   obtain⟨_,_,_,_,hr0⟩:=facts i0 oi0 Hj (unl i0 (by simp)) (Nat.eq_of_beq_eq_true hd1) (Nat.eq_of_beq_eq_true (nA i0 (by simp)).1.2)
   refine⟨fun hx=>(by rw[hx] at hr0;cases hr0),fun j hj=>?_⟩
   obtain⟨j1,oj,nF,j3⟩:=mem_ready.1 hj
   have sD:=(Array.getElem?_eq_some_iff.1 nF).1
   have uJ:∀ i∈i0::q0,j≠i→Nat.testBit (bw i (ops.toList.map bg) 0 0) j=false:=fun i hi lg=>by
    cases hw:Nat.testBit (bw i (ops.toList.map bg) 0 0) j with
    |false=>rfl
    |true=>
     exfalso
     obtain⟨oi,HY,Hy⟩:=get i hi
     obtain⟨w3,_,ws,wlt⟩:=Sn i oi HY (Nat.eq_of_beq_eq_true (nA i hi).1.2)
     obtain⟨e,he,hbd,h6⟩:=ws j oj nF hw lg
     have h7:=j3 e he hbd
     rw[hb.getD (wlt _ h6),w3 _ h6] at h7
     cases h7
   have hjq:j∈i0::q0:=by
    refine Classical.byContradiction fun hnj=>?_
    have hz:=Nat.eq_of_beq_eq_true (nA i0 (by simp)).2
    have h4:Nat.testBit (2^ops.size - 1^^^(bw i0 (ops.toList.map bg) 0 0|||L|||dS (i0::q0))) j=false:=by rw[hz];simp
    rw[Nat.testBit_xor,Nat.testBit_two_pow_sub_one,Nat.testBit_or,Nat.testBit_or,ij,uJ i0 (by simp) (fun e=>hnj (by simp[e]))] at h4
    rw[hb.getD sD] at j1
    rw[j1] at h4
    simp[sD,hnj] at h4
   obtain⟨p,r,hpr⟩:=List.append_of_mem hjq
   rw[hpr] at HZ W5 E6 nA uJ unl e hn
   clear hd0 hd1 hr0 hjq get
   have Sq:∀ x∈p,∃ ox,ops[x]?=some ox∧Hu ops ox oj=true:=fun x hx=>by
    obtain⟨m,ox,oj',h1,h2,h3,h4,h5⟩:=(List.pairwise_append.1 W5).2.2 x hx j (by simp)
    rw[nF] at h3
    injection h3 with h3
    subst h3
    refine⟨ox,h2,h5.resolve_left fun hm=>?_⟩
    rw[List.getElem?_map,Array.getElem?_toList,nF] at h1
    simp only[Option.map_some,Option.some.injEq] at h1
    subst h1
    obtain⟨e,he,hbd,rfl⟩:=CC hm
    have h7:=j3 e he hbd
    have hxl:=(Array.getElem?_eq_some_iff.1 h2).1
    rw[hb.getD hxl,unl _ (by simp[hx])] at h7
    cases h7
   simp only[ff] at e
   have e2:=HE hO.det nF p r Sq e
   unfold mP at e2
   rw[nF] at e2
   simp only at e2
   cases gj:jx O ops S oj with
   |false=>rw[gj] at e2;cases e2
   |true=>
   rw[gj] at e2
   simp only[cond_true] at e2
   obtain⟨σ,h⟩:=h
   refine wpOp_mono (fun a' w' h'=>?_) (DC hT hO h e2)
   obtain⟨⟨S',k1,k2⟩,k3⟩:=h'
   have hjn:j∉p++r:=fun hx=>by
    rw[List.pairwise_append,List.pairwise_cons] at W5
    rcases List.mem_append.1 hx with hx |hx
    ·obtain⟨_,_,_,_,_,_,h4,_⟩:=W5.2.2 j hx j (by simp);exact h4 rfl
    ·obtain⟨_,_,_,_,_,_,h4,_⟩:=W5.2.1.1 j hx;exact h4 rfl
   have Nw:L|||dS (p++j::r)=L|||2^j|||dS (p++r):=Nat.eq_of_testBit_eq fun k=>by
    rw[Nat.testBit_or,Nat.testBit_or,Nat.testBit_or,ij,ij,gv]
    have hm:decide (k∈p++j::r)=(decide (j=k)||decide (k∈p++r)):=by
     rw[←Bool.decide_or]
     apply decide_eq_decide.2
     simp only[List.mem_append,List.mem_cons]
     constructor
     ·rintro(h |h |h)
      ·exact .inr (.inl h)
      ·exact .inl h.symm
      ·exact .inr (.inr h)
     ·rintro(h |h |h)
      ·exact .inr (.inl h.symm)
      ·exact .inl h
      ·exact .inr (.inr h)
    rw[hm,Bool.or_assoc]
   refine⟨fun had=>?_,?_⟩
   ·simp only[nF] at had
    exact k3 oj nF had
   ·have Sr:fx hh.tab O ops (ops.toList.map bg) (2^ops.size - 1) (L|||2^j|||dS (p++r)) t=true:=by rw[←Nw,←hpr];exact hot
    cases hpe:p++r with
    |nil=>
     rw[hpe] at k1 Sr
     simp only[mP] at k1
     refine ih _ t (by simpa[dS] using Sr) (hb.set sD) ?_ k1 k2
     simp only[OT.len,List.length_append,List.length_cons] at hn
     omega
    |cons z zs=>
     refine ih (L|||2^j) (.any (p++r) t) ?_ (hb.set sD) ?_ k1 k2
     ·simp only[fx,Bool.and_eq_true]
      refine⟨?_,Sr⟩
      unfold ake
      simp only[Bool.and_eq_true,Bool.not_eq_true',List.all_eq_true]
      refine⟨⟨⟨by rw[hpe];rfl,fun i hi=>?_⟩,uI.2 (W5.sublist (by simp))⟩,E5 p r E6⟩
      have ML:i∈p++j::r:=by simp only[List.mem_append,List.mem_cons] at hi ⊢;exact hi.imp id .inr
      have uq:j≠i:=fun e=>hjn (by rw[e];exact hi)
      obtain⟨⟨⟨m1,m2⟩,m3⟩,m4⟩:=nA i ML
      refine⟨⟨⟨m1,?_⟩,?_⟩,?_⟩
      ·rw[Nat.testBit_or,m2,gv];simp[uq]
      ·have hz:bw i (ops.toList.map bg) 0 0&&&(L|||2^j)=0:=Nat.eq_of_testBit_eq fun k=>by
        have hk:Nat.testBit (bw i (ops.toList.map bg) 0 0&&&L) k=false:=by rw[Nat.eq_of_beq_eq_true m3];simp
        rw[Nat.testBit_and] at hk
        rw[Nat.testBit_and,Nat.testBit_or,gv,Nat.zero_testBit]
        by_cases hkj:j=k
        ·subst hkj
         rw[uJ i ML uq]
         rfl
        ·simp only[hkj,decide_false,Bool.or_false]
         exact hk
       rw[hz];rfl
      ·have hz:=Nat.eq_of_beq_eq_true m4
       have:bw i (ops.toList.map bg) 0 0|||(L|||2^j)|||dS (p++r)=bw i (ops.toList.map bg) 0 0|||L|||dS (p++j::r):=by rw[Nat.or_assoc,←Nw,Nat.or_assoc]
       rw[this]
       exact m4
     ·simp only[OT.len,List.length_append,List.length_cons] at hn ⊢
      omega
  |par q ds t=>
   simp only[fx,Bool.and_eq_true] at ho
   obtain⟨hc,hot⟩:=ho
   have HZ:=hc
   unfold akf at hc
   simp only[Bool.and_eq_true,Bool.not_eq_true',List.all_eq_true] at hc
   obtain⟨⟨⟨⟨nH,nA⟩,Sp⟩,E6⟩,Ss⟩:=hc
   have W5:=nz.1 Sp
   have get:∀ i∈q,∃ oi,ops[i]?=some oi∧i<ops.size:=fun i hi=>by
    have h1:i<ops.size:=Nat.lt_of_lt_of_le (Nat.lt_succ_self _) (Nat.le_of_ble_eq_true (nA i hi).1.1.1)
    exact⟨ops[i],Array.getElem?_eq_getElem h1,h1⟩
   have unl:∀ i∈q,Nat.testBit L i=false:=fun i hi=>(nA i hi).1.1.2
   -- the first is ready
   obtain⟨i0,q0,rfl⟩:∃ i0 q0,q=i0::q0:=by
    cases q with
    |nil=>simp at nH
    |cons i0 q0=>exact⟨i0,q0,rfl⟩
   obtain⟨oi0,Hj,I8⟩:=get i0 (by simp)
   have hd0:=E6
   simp only[lQ,Bool.and_eq_true] at hd0
   have hd1:=hd0.1
   rw[List.getElem?_map,Array.getElem?_toList,Hj] at hd1
   simp only[Option.map_some] at hd1
   obtain⟨hW3,hWi,hWs,I7,hr0⟩:=facts i0 oi0 Hj (unl i0 (by simp)) (Nat.eq_of_beq_eq_true hd1) (Nat.eq_of_beq_eq_true (nA i0 (by simp)).1.2)
   have side:∀ x∈i0::q0,∀ ox,ops[x]?=some ox→Ef ds ox=true∧oT ox.op=false:=fun x hx ox hox=>by
    have:=Ss x hx
    rw[hox] at this
    simpa only[Bool.and_eq_true,Bool.not_eq_true'] using this
   -- those that wait for none that is ready
   have uJ:∀ j,j∈Region.ready .any ops bh→∀ i∈i0::q0,j≠i→Nat.testBit (bw i (ops.toList.map bg) 0 0) j=false:=fun j hj i hi lg=>by
    obtain⟨j1,oj,nF,j3⟩:=mem_ready.1 hj
    cases hw:Nat.testBit (bw i (ops.toList.map bg) 0 0) j with
    |false=>rfl
    |true=>
     exfalso
     obtain⟨oi,HY,Hy⟩:=get i hi
     obtain⟨w3,_,ws,wlt⟩:=Sn i oi HY (Nat.eq_of_beq_eq_true (nA i hi).1.2)
     obtain⟨e,he,hbd,h6⟩:=ws j oj nF hw lg
     have h7:=j3 e he hbd
     rw[hb.getD (wlt _ h6),w3 _ h6] at h7
     cases h7
   -- when one of them is done
   have tail:∀ (p r:List Nat) (j:Nat),i0::q0=p++j::r→j∈Region.ready .any ops bh→∀ {S':St} {a':Act} {w':World},(bif kN ds S' then mO hh O ops (p++r) S' (fun S1=>ff hh O ops t S1 K) else none)=some ret→Rel w0 W0 Z H S' a' w'→
     wpE P ops Q (fun j=>match ops[j]? with |some o=>Du O o.op |none=>false) n (bh.setIfInBounds j true) a' w':=by
    intro p r j hpr hjr S' a' w' k1 k2
    have sD:j<ops.size:=by
     obtain⟨_,oj,nF,_⟩:=mem_ready.1 hjr
     exact(Array.getElem?_eq_some_iff.1 nF).1
    have hnw:=uJ j hjr
    rw[hpr] at W5 E6 nA Ss hn hnw
    have hjn:j∉p++r:=fun hx=>by
     rw[List.pairwise_append,List.pairwise_cons] at W5
     rcases List.mem_append.1 hx with hx |hx
     ·obtain⟨_,_,_,_,h4,_⟩:=W5.2.2 j hx j (by simp);exact h4 rfl
     ·obtain⟨_,_,_,_,h4,_⟩:=W5.2.1.1 j hx;exact h4 rfl
    have Nw:L|||dS (p++j::r)=L|||2^j|||dS (p++r):=Nat.eq_of_testBit_eq fun k=>by
     rw[Nat.testBit_or,Nat.testBit_or,Nat.testBit_or,ij,ij,gv]
     have hm:decide (k∈p++j::r)=(decide (j=k)||decide (k∈p++r)):=by
      rw[←Bool.decide_or]
      apply decide_eq_decide.2
      simp only[List.mem_append,List.mem_cons]
      constructor
      ·rintro(h |h |h)
       ·exact .inr (.inl h)
       ·exact .inl h.symm
       ·exact .inr (.inr h)
      ·rintro(h |h |h)
       ·exact .inr (.inl h.symm)
       ·exact .inl h
       ·exact .inr (.inr h)
     rw[hm,Bool.or_assoc]
    have Sr:fx hh.tab O ops (ops.toList.map bg) (2^ops.size - 1) (L|||2^j|||dS (p++r)) t=true:=by rw[←Nw,←hpr];exact hot
    cases hpe:p++r with
    |nil=>
     rw[hpe] at k1 Sr
     simp only[mO] at k1
     cases hw1:kN ds S' with
     |false=>rw[hw1] at k1;cases k1
     |true=>
     rw[hw1] at k1
     simp only[cond_true] at k1
     refine ih _ t (by simpa[dS] using Sr) (hb.set sD) ?_ k1 k2
     simp only[OT.len,List.length_append,List.length_cons] at hn
     omega
    |cons z zs=>
     refine ih (L|||2^j) (.par (p++r) ds t) ?_ (hb.set sD) ?_ k1 k2
     ·simp only[fx,Bool.and_eq_true]
      refine⟨?_,Sr⟩
      unfold akf
      simp only[Bool.and_eq_true,Bool.not_eq_true',List.all_eq_true]
      refine⟨⟨⟨⟨by rw[hpe];rfl,fun i hi=>?_⟩,nz.2 (W5.sublist (by simp))⟩,E5 p r E6⟩,fun i hi=>Ss i (by simp only[List.mem_append,List.mem_cons] at hi ⊢;exact hi.imp id .inr)⟩
      have ML:i∈p++j::r:=by simp only[List.mem_append,List.mem_cons] at hi ⊢;exact hi.imp id .inr
      have uq:j≠i:=fun e=>hjn (by rw[e];exact hi)
      obtain⟨⟨⟨m1,m2⟩,m3⟩,m4⟩:=nA i ML
      refine⟨⟨⟨m1,?_⟩,?_⟩,?_⟩
      ·rw[Nat.testBit_or,m2,gv];simp[uq]
      ·have hz:bw i (ops.toList.map bg) 0 0&&&(L|||2^j)=0:=Nat.eq_of_testBit_eq fun k=>by
        have hk:Nat.testBit (bw i (ops.toList.map bg) 0 0&&&L) k=false:=by rw[Nat.eq_of_beq_eq_true m3];simp
        rw[Nat.testBit_and] at hk
        rw[Nat.testBit_and,Nat.testBit_or,gv,Nat.zero_testBit]
        by_cases hkj:j=k
        ·subst hkj
         rw[hnw i ML uq]
         rfl
        ·simp only[hkj,decide_false,Bool.or_false]
         exact hk
       rw[hz];rfl
      ·rw[Bool.or_eq_true] at m4 ⊢
       refine m4.imp (fun m4=>?_) fun m4=>?_
       ·have:bw i (ops.toList.map bg) 0 0|||(L|||2^j)|||dS (p++r)=bw i (ops.toList.map bg) 0 0|||L|||dS (p++j::r):=by rw[Nat.or_assoc,←Nw,Nat.or_assoc]
        rw[this]
        exact m4
       ·unfold ac' at m4 ⊢
        split at m4
        case h_2=>cases m4
        rename_i oi HY
        rw[Bool.and_eq_true] at m4 ⊢
        refine⟨m4.1,xu _ _ fun k ok hk auO=>iU _ _ m4.2 k ok hk ?_⟩
        rw[Nat.testBit_xor,Nat.testBit_and,Nat.testBit_or,Nat.testBit_or] at auO ⊢
        rw[Nat.testBit_or] at auO
        revert auO
        cases Nat.testBit (2^ops.size - 1) (0+k)<;>cases Nat.testBit (bw i (ops.toList.map bg) 0 0) (0+k)<;>cases Nat.testBit L (0+k)<;>cases Nat.testBit (bg oi) (0+k)<;>simp
     ·simp only[OT.len,List.length_append,List.length_cons] at hn ⊢
      omega
   simp only[ff] at e
   cases hwh:kN ds S with
   |false=>rw[hwh] at e;cases e
   |true=>
   rw[hwh] at e
   simp only[cond_true] at e
   rcases(Bool.or_eq_true _ _).mp (nA i0 (by simp)).2 with hz |hz
   rotate_left
   ·-- the first may always go first
    unfold ac' at hz
    rw[Hj] at hz
    simp only[Bool.and_eq_true] at hz
    obtain⟨hq,R7⟩:=hz
    obtain⟨s1,s2⟩:=side i0 (by simp) oi0 Hj
    have e2:aW hh O ops i0 S (fun S1=>bif kN ds S1 then mO hh O ops ([]++q0) S1 (fun S1=>ff hh O ops t S1 K) else none)=some ret:=by
     simp only[mO] at e
     obtain⟨X,x1,x2,x3⟩:=ux hO.det hwh Hj s1 s2 e
     rw[x1,x2]
     exact x3
    obtain⟨σ,h⟩:=h
    obtain⟨v,hy,S',k1,k2⟩:=Nv hT h Hj hq e2
    refine E3 Hj (Region.noSelect_spec E0) (fun c a w hx=>absurd hx (DD _ _ _)) (D:=fun j=>Nat.testBit (bw i0 (ops.toList.map bg) 0 0) j) hWi hWs n bh a w (fun j hd=>?_) (fun j oj nF hd Hb=>?_) hr0 hy (tail [] q0 i0 rfl hr0 k1 k2)
    ·rw[hb.getD (I7 j hd)];exact hW3 j hd
    ·have sD:=(Array.getElem?_eq_some_iff.1 nF).1
     refine iU ops.toList 0 R7 j oj (by rw[Array.getElem?_toList];exact nF) ?_
     rw[hb.getD sD] at Hb
     try simp only at hd
     have haf:Nat.testBit (bg oi0) j=false:=by
      cases hx:Nat.testBit (bg oi0) j with
      |false=>rfl
      |true=>
       exfalso
       have h2:Nat.testBit (bg oi0&&&L) j=true:=by rw[Nat.eq_of_beq_eq_true hd1];exact hx
       rw[Nat.testBit_and,hx,Hb] at h2
       cases h2
     rw[Nat.zero_add,Nat.testBit_xor,Nat.testBit_and,Nat.testBit_two_pow_sub_one,Nat.testBit_or,Nat.testBit_or,hd,Hb,haf]
     simp[sD]
   refine⟨fun hx=>(by rw[hx] at hr0;cases hr0),fun j hj=>?_⟩
   obtain⟨j1,oj,nF,j3⟩:=mem_ready.1 hj
   have sD:=(Array.getElem?_eq_some_iff.1 nF).1
   have hjq:j∈i0::q0:=by
    refine Classical.byContradiction fun hnj=>?_
    have hz:=Nat.eq_of_beq_eq_true hz
    have h4:Nat.testBit (2^ops.size - 1^^^(bw i0 (ops.toList.map bg) 0 0|||L|||dS (i0::q0))) j=false:=by rw[hz];simp
    rw[Nat.testBit_xor,Nat.testBit_two_pow_sub_one,Nat.testBit_or,Nat.testBit_or,ij,uJ j hj i0 (by simp) (fun e=>hnj (by simp[e]))] at h4
    rw[hb.getD sD] at j1
    rw[j1] at h4
    simp[sD,hnj] at h4
   obtain⟨p,r,hpr⟩:=List.append_of_mem hjq
   have Sq:∀ x∈p,∃ ox,ops[x]?=some ox∧Ef ds ox=true∧oT ox.op=false∧(Z5 ds ox oj=true∨exB ox oj=true):=fun x hx=>by
    rw[hpr] at W5
    obtain⟨ox,oj',h2,h3,h4,h5⟩:=(List.pairwise_append.1 W5).2.2 x hx j (by simp)
    rw[nF] at h3
    injection h3 with h3
    subst h3
    obtain⟨s1,s2⟩:=side x (by rw[hpr];simp[hx]) ox h2
    refine⟨ox,h2,s1,s2,h5.resolve_left fun hm=>?_⟩
    rw[uJ j hj x (by rw[hpr];simp[hx]) (Ne.symm h4)] at hm
    cases hm
   have e':=e
   rw[hpr] at e'
   have e3:=HL hO.det nF p r hwh Sq e'
   obtain⟨sj1,sj2⟩:=side j hjq oj nF
   have e2:aW hh O ops j S (fun S1=>bif kN ds S1 then mO hh O ops (p++r) S1 (fun S1=>ff hh O ops t S1 K) else none)=some ret:=by
    obtain⟨X,x1,x2,x3⟩:=ux hO.det hwh nF sj1 sj2 e3
    rw[x1,x2]
    exact x3
   obtain⟨σ,h⟩:=h
   refine wpOp_mono (fun a' w' h'=>?_) (DC hT hO h e2)
   obtain⟨⟨S',k1,k2⟩,k3⟩:=h'
   refine⟨fun had=>?_,tail p r j hpr hj k1 k2⟩
   simp only[nF] at had
   exact k3 oj nF had
  |one i l=>
   simp only[fx,Bool.and_eq_true] at ho
   obtain⟨hc,ho⟩:=ho
   unfold ac9 at hc
   split at hc
   case h_2=>cases hc
   rename_i m oi hm HY
   have hi:i<ops.size:=(Array.getElem?_eq_some_iff.1 HY).1
   rw[List.getElem?_map,Array.getElem?_toList,HY] at hm
   simp only[Option.map_some,Option.some.injEq] at hm
   subst hm
   simp only[Bool.and_eq_true,Bool.not_eq_true'] at hc
   obtain⟨⟨⟨c1,c2⟩,c3⟩,c4⟩:=hc
   have c2:=Nat.eq_of_beq_eq_true c2
   have c3:=Nat.eq_of_beq_eq_true c3
   have hn':l.len≤n:=by simp only[OT.len] at hn;omega
   obtain⟨hW3,hWi,hWs,I7,I9⟩:=facts i oi HY c1 c2 c3
   rw[Bool.or_eq_true] at c4
   have M1:∀ j,j<ops.size→Nat.testBit (2^ops.size - 1^^^(bw i (ops.toList.map bg) 0 0|||L)) j=!(Nat.testBit (bw i (ops.toList.map bg) 0 0) j||Nat.testBit L j):=fun j hj=>by
    rw[Nat.testBit_xor,Nat.testBit_two_pow_sub_one,Nat.testBit_or]
    simp[hj]
   simp only[ff] at e
   obtain⟨σ,h⟩:=h
   by_cases c0:Nat.beq (2^ops.size - 1^^^(bw i (ops.toList.map bg) 0 0|||L)) 0=true
   ·have hz:=Nat.eq_of_beq_eq_true c0
    refine⟨fun hx=>(by rw[hx] at I9;cases I9),fun j hj=>?_⟩
    have lg:j=i:=by
     refine Classical.byContradiction fun lg=>?_
     obtain⟨h1,oj,h2,h3⟩:=mem_ready.1 hj
     have sD:=(Array.getElem?_eq_some_iff.1 h2).1
     have h4:=M1 j sD
     rw[hz,Nat.zero_testBit] at h4
     rw[hb.getD sD] at h1
     rw[h1] at h4
     have h5:Nat.testBit (bw i (ops.toList.map bg) 0 0) j=true:=by
      cases hx:Nat.testBit (bw i (ops.toList.map bg) 0 0) j with
      |true=>rfl
      |false=>rw[hx] at h4;cases h4
     obtain⟨e,he,hbd,h6⟩:=hWs j oj h2 h5 lg
     have h7:=h3 e he hbd
     rw[hb.getD (I7 _ h6),hW3 _ h6] at h7
     cases h7
    subst lg
    refine wpOp_mono (fun a' w' h'=>?_) (DC hT hO h e)
    obtain⟨⟨S',k1,k2⟩,k3⟩:=h'
    refine⟨fun had=>?_,ih _ l ho (hb.set hi) hn' k1 k2⟩
    simp only[HY] at had
    exact k3 oi HY had
   ·rw[Bool.or_eq_true] at c4
    rcases c4 with c4 |c4
    rotate_left
    ·rw[Bool.and_eq_true] at c4
     obtain⟨hq,R7⟩:=c4
     obtain⟨v,hy,S',k1,k2⟩:=Nv hT h HY hq e
     refine E3 HY (Region.noSelect_spec E0) (fun c a w hx=>absurd hx (DD _ _ _)) (D:=fun j=>Nat.testBit (bw i (ops.toList.map bg) 0 0) j) hWi hWs n bh a w (fun j hd=>?_) (fun j oj nF hd Hb=>?_) I9 hy (ih _ l ho (hb.set hi) hn' k1 k2)
     ·rw[hb.getD (I7 j hd)];exact hW3 j hd
     ·have sD:=(Array.getElem?_eq_some_iff.1 nF).1
      have h4:=M1 j sD
      rw[hb.getD sD] at Hb
      try simp only at hd
      rw[hd,Hb] at h4
      exact iU ops.toList 0 R7 j oj (by rw[Array.getElem?_toList];exact nF) (by rw[Nat.zero_add];exact h4)
    have c4:=c4.resolve_left c0
    rw[Bool.and_eq_true,Bool.and_eq_true,Bool.not_eq_true'] at c4
    obtain⟨hq,hn0,R7⟩:=c4
    obtain⟨v,hy,S',k1,k2⟩:=aeb hT h HY hq hn0 e
    refine aat HY (Region.noSelect_spec E0) (fun c a w hx=>absurd hx (DD _ _ _)) (D:=fun j=>Nat.testBit (bw i (ops.toList.map bg) 0 0) j) hWi hWs n bh a w (fun j hd=>?_) (fun j oj nF hd Hb=>?_) I9 hy (ih _ l ho (hb.set hi) hn' k1 k2)
    ·rw[hb.getD (I7 j hd)];exact hW3 j hd
    ·have sD:=(Array.getElem?_eq_some_iff.1 nF).1
     have h4:=M1 j sD
     rw[hb.getD sD] at Hb
     try simp only at hd
     rw[hd,Hb] at h4
     have:=tR ops.toList 0 R7 j oj (by rw[Array.getElem?_toList];exact nF) (by rw[Nat.zero_add];exact h4)
     simp only[nF]
     exact this
theorem akA (hT:cP P hh.tab=true) (hO:qA Γ P O w0 W0) (hQ:∀ a w,I5 w0 W0 Z H K ret a w→Q .normal a w) (DD:∀ c a w,¬Q (.panic c) a w) {l:OT} (hl:aum hh.tab O ops l=true) {S:St} {a:Act} {w:World} (e:ff hh O ops l S K=some ret) (h:Rel w0 W0 Z H S a w):
  wpAny P .any ops Q ops.size (Array.replicate ops.size false) a w:=by
 unfold aum at hl
 rw[Bool.and_eq_true,Bool.and_eq_true] at hl
 obtain⟨⟨E0,hlen⟩,ho⟩:=hl
 have hb:Hi ops (Array.replicate ops.size false) 0:=⟨by simp,fun j hj=>by simp[hj]⟩
 exact W4 _ (aec hT hO hQ DD E0 ops.size 0 l ho hb (Nat.le_of_ble_eq_true hlen) e h)
end Go.Pv
