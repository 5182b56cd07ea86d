/- A verified evaluator of the program's form over pure values, part 2: what it tells of a function holds. -/
import Derived.Test.YtcpakhaogbempaaGreatPv1
import Derived.Deep.AppendSrc
import Derived.Deep.Upon
import Derived.Laws.Cells
import Derived.Laws.CopyRow
import Derived.Laws.MakeOwn
import Derived.Laws.OwnMore
import Derived.Laws.Tables
import Derived.Maps.AppendAt
namespace Go.Pv
set_option linter.unusedVariables false
set_option linter.unusedSimpArgs false
variable {P:Program} {w w':World} {A A':Nat→Prop} {H:Nat→Value} {tm qH:Nat→Value} {S S':St} {σ:Nat→Option Nat} {w0:World} {W0 Z:Nat→Prop} {a:Act} {own:Nat→Prop} {v:Value} {Θ:db} {dst:Option Nat}
theorem eZ:∀ (p q:Path) (t:Ty) (m:Md) (x:t.I),a8 (p++q) t m x=(a8 p t m x).bind fun b=>a8 q b.t b.m b.x
 |[],q,t,m,x=>rfl
 | .deref::p,q,t,m,x=>by cases t<;>simp only[List.cons_append,a8,Option.bind_none]<;>exact eZ p q _ _ _
 | .fst::p,q,t,m,x=>by cases t<;>simp only[List.cons_append,a8,Option.bind_none]<;>exact eZ p q _ _ _
 | .snd::p,q,t,m,x=>by cases t<;>simp only[List.cons_append,a8,Option.bind_none]<;>exact eZ p q _ _ _
 | .idx i::p,q,t,m,x=>by cases t<;>simp only[List.cons_append,a8,Option.bind_none]<;>exact eZ p q _ _ _
theorem fe:∀ (p q:Path) {t:Ty} {m:Md} {x:t.I} {b:TV},a8 p t m x=some b→valid p t x→valid q b.t b.x→valid (p++q) t x
 |[],q,t,m,x,b,hg,_,h=>by simp only[a8,Option.some.injEq] at hg;subst hg;exact h
 | .deref::p,q,.ptr t,m,x,b,hg,h1,h2=>by simp only[a8] at hg;simp only[valid] at h1;simp only[List.cons_append,valid];exact fe p q hg h1 h2
 | .fst::p,q,.pair _ _,m,x,b,hg,h1,h2=>by simp only[a8] at hg;simp only[valid] at h1;simp only[List.cons_append,valid];exact fe p q hg h1 h2
 | .snd::p,q,.pair _ _,m,x,b,hg,h1,h2=>by simp only[a8] at hg;simp only[valid] at h1;simp only[List.cons_append,valid];exact fe p q hg h1 h2
 | .idx i::p,q,.sl t,m,x,b,hg,h1,h2=>by simp only[a8] at hg;simp only[valid] at h1;simp only[List.cons_append,valid];exact⟨h1.1,fe p q hg h1.2 h2⟩
theorem Cc (cs:List Value):(∃ g off,cs=[.pointer (some ⟨g,off,none⟩)])∨((∀ (w:World) (p:Path) (t:Ty),aS w (.deref::p) (.ptr t) cs=none)∧∀ (w:World) (p:Path) (t:Ty) (l:Option (Nat×Nat)),addrAt w (.deref::p) (.ptr t) cs l=none):=by
 rcases cs with _ |⟨v,_ |⟨_,_⟩⟩
 ·exact .inr ⟨fun _ _ _=>rfl,fun _ _ _ _=>rfl⟩
 ·cases v<;>try exact .inr ⟨fun _ _ _=>rfl,fun _ _ _ _=>rfl⟩
  rename_i x
  rcases x with _ |⟨g,off,_ |_⟩
  ·exact .inr ⟨fun _ _ _=>rfl,fun _ _ _ _=>rfl⟩
  ·exact .inl ⟨g,off,rfl⟩
  ·exact .inr ⟨fun _ _ _=>rfl,fun _ _ _ _=>rfl⟩
 ·cases v<;>try exact .inr ⟨fun _ _ _=>rfl,fun _ _ _ _=>rfl⟩
  rename_i x
  rcases x with _ |⟨g,off,_ |_⟩<;>exact .inr ⟨fun _ _ _=>rfl,fun _ _ _ _=>rfl⟩
theorem Hc (cs:List Value):(∃ g off n c,cs=[.slice (some ⟨g,off,none⟩) n c])∨((∀ (w:World) (i:Nat) (p:Path) (t:Ty),aS w (.idx i::p) (.sl t) cs=none)∧∀ (w:World) (i:Nat) (p:Path) (t:Ty) (l:Option (Nat×Nat)),addrAt w (.idx i::p) (.sl t) cs l=none):=by
 rcases cs with _ |⟨v,_ |⟨_,_⟩⟩
 ·exact .inr ⟨fun _ _ _ _=>rfl,fun _ _ _ _ _=>rfl⟩
 ·cases v<;>try exact .inr ⟨fun _ _ _ _=>rfl,fun _ _ _ _ _=>rfl⟩
  rename_i x n c
  rcases x with _ |⟨g,off,_ |_⟩
  ·exact .inr ⟨fun _ _ _ _=>rfl,fun _ _ _ _ _=>rfl⟩
  ·exact .inl ⟨g,off,n,c,rfl⟩
  ·exact .inr ⟨fun _ _ _ _=>rfl,fun _ _ _ _ _=>rfl⟩
 ·cases v<;>try exact .inr ⟨fun _ _ _ _=>rfl,fun _ _ _ _ _=>rfl⟩
  rename_i x n c
  rcases x with _ |⟨g,off,_ |_⟩<;>exact .inr ⟨fun _ _ _ _=>rfl,fun _ _ _ _ _=>rfl⟩
theorem ff:∀ (p q:Path) {t:Ty} {m:Md} {x:t.I} {b:TV} (cs:List Value) (l:Option (Nat×Nat)),a8 p t m x=some b→
  aS w (p++q) t cs=(aS w p t cs).bind (aS w q b.t)∧addrAt w (p++q) t cs l=(aS w p t cs).bind fun c=>addrAt w q b.t c (addrAt w p t cs l)
 |[],q,t,m,x,b,cs,l,hg=>by simp only[a8,Option.some.injEq] at hg;subst hg;exact⟨rfl,rfl⟩
 | .fst::p,q,.pair a' b',m,x,b,cs,l,hg=>by simp only[a8] at hg;simp only[List.cons_append,aS,addrAt];exact ff p q _ _ hg
 | .snd::p,q,.pair a' b',m,x,b,cs,l,hg=>by simp only[a8] at hg;simp only[List.cons_append,aS,addrAt];exact ff p q _ _ hg
 | .deref::p,q,.ptr t,m,x,b,cs,l,hg=>by
  simp only[a8] at hg
  have ih:=fun c l'=>ff p q c l' hg
  rw[List.cons_append]
  rcases Cc cs with⟨g,off,rfl⟩ |⟨h1,h2⟩
  ·simp only[aS,addrAt]
   cases hr:rowAt w g off t.size with
   |none=>simp
   |some c=>simp only[Option.bind_some];exact ih c _
  ·simp only[h1,h2,Option.bind_none,and_self]
 | .idx i::p,q,.sl t,m,x,b,cs,l,hg=>by
  simp only[a8] at hg
  have ih:=fun c l'=>ff p q c l' hg
  rw[List.cons_append]
  rcases Hc cs with⟨g,off,n,c,rfl⟩ |⟨h1,h2⟩
  ·simp only[aS,addrAt]
   cases hr:rowAt w g (off+i*t.size) t.size with
   |none=>simp
   |some c=>simp only[Option.bind_some];exact ih c _
  ·simp only[h1,h2,Option.bind_none,and_self]
theorem nS {g off n:Nat} {cs:List Value} (h:rowAt w g off n=some cs):cs.length=n∧∃ cur T fr,w.heap[g]?=some (.cells cur T fr)∧off+n≤cur.size∧cs=(cur.toList.drop off).take n:=by
 unfold rowAt at h
 split at h
 ·rename_i cur T fr hw
  split at h
  ·rename_i hl
   injection h with h
   subst h
   refine⟨by simp;omega,cur,T,fr,hw,hl,rfl⟩
  ·cases h
 ·cases h
theorem Ea {g off n a b:Nat} {cs:List Value} (h:rowAt w g off n=some cs) (Q2:a+b≤n):rowAt w g (off+a) b=some ((cs.drop a).take b):=by
 obtain⟨_,cur,T,fr,hw,hl,rfl⟩:=nS h
 rw[bA hw (by omega),List.drop_take,List.take_take,List.drop_drop,Nat.min_eq_left (by omega)]
theorem qX:∀ (p:Path) {t:Ty} {m:Md} {x:t.I} {b:TV} {cs cK:List Value} {l:Option (Nat×Nat)} {g off:Nat},a8 p t m x=some b→cs.length=t.size→(∀ g o,l=some (g,o)→rowAt w g o t.size=some cs)→
  aS w p t cs=some cK→addrAt w p t cs l=some (g,off)→rowAt w g off b.t.size=some cK
 |[],t,m,x,b,cs,cK,l,g,off,hg,hl,hr,hc,ha=>by
  simp only[a8,Option.some.injEq] at hg;subst hg
  simp only[aS,Option.some.injEq] at hc;subst hc
  exact hr g off ha
 | .fst::p,.pair a' b',m,x,b,cs,cK,l,g,off,hg,hl,hr,hc,ha=>by
  simp only[a8] at hg;simp only[aS] at hc;simp only[addrAt] at ha;simp only[Ty.size] at hl hr
  refine qX p hg (by rw[List.length_take];omega) (fun g o e=>?_) hc ha
  have:=Ea (a:=0) (b:=a'.size) (hr g o e) (by omega)
  rw[Nat.add_zero,List.drop_zero] at this
  exact this
 | .snd::p,.pair a' b',m,x,b,cs,cK,l,g,off,hg,hl,hr,hc,ha=>by
  simp only[a8] at hg;simp only[aS] at hc;simp only[addrAt] at ha;simp only[Ty.size] at hl hr
  refine qX p hg (by rw[List.length_drop];omega) (fun g o e=>?_) hc ha
  cases l with
  |none=>simp at e
  |some q=>
   simp only[Option.map_some,Option.some.injEq,Prod.mk.injEq] at e
   obtain⟨rfl,rfl⟩:=e
   have:=Ea (a:=a'.size) (b:=b'.size) (hr q.1 q.2 rfl) (by omega)
   rw[List.take_of_length_le (by rw[List.length_drop];omega)] at this
   exact this
 | .deref::p,.ptr t,m,x,b,cs,cK,l,g,off,hg,hl,hr,hc,ha=>by
  simp only[a8] at hg
  rcases Cc cs with⟨g1,atd,rfl⟩ |⟨h1,h2⟩
  ·simp only[aS] at hc
   simp only[addrAt] at ha
   cases gz:rowAt w g1 atd t.size with
   |none=>rw[gz] at hc;simp at hc
   |some c=>
    rw[gz] at hc ha
    simp only[Option.bind_some] at hc ha
    exact qX p hg (nS gz).1 (fun g o e=>by injection e with e;injection e with e1 e2;subst e1 e2;exact gz) hc ha
  ·rw[h1] at hc;cases hc
 | .idx i::p,.sl t,m,x,b,cs,cK,l,g,off,hg,hl,hr,hc,ha=>by
  simp only[a8] at hg
  rcases Hc cs with⟨g1,atd,n,c1,rfl⟩ |⟨h1,h2⟩
  ·simp only[aS] at hc
   simp only[addrAt] at ha
   cases gz:rowAt w g1 (atd+i*t.size) t.size with
   |none=>rw[gz] at hc;simp at hc
   |some c=>
    rw[gz] at hc ha
    simp only[Option.bind_some] at hc ha
    exact qX p hg (nS gz).1 (fun g o e=>by injection e with e;injection e with e1 e2;subst e1 e2;exact gz) hc ha
  ·rw[h1] at hc;cases hc
theorem Eb (hT:cN P Θ=true) {T:TypeId} {t:Ty} {g off:Nat} {cs:List Value} (ht:Θ.is T t=true) (h:rowAt w g off t.size=some cs):
  ∃ v,(∀ w2,Ext w w2→(Instr.loadAt T (.pointer (some ⟨g,off,none⟩))).run P w2=.ok v w2)∧ax t v cs:=by
 suffices hs:∀ w2,Ext w w2→∃ v,(Instr.loadAt T (.pointer (some ⟨g,off,none⟩))).run P w2=.ok v w2∧ax t v cs by
  obtain⟨v,_,h2⟩:=hs w (Ext.refl w)
  refine⟨v,fun w2 hw=>?_,h2⟩
  obtain⟨v',k1,k2⟩:=hs w2 hw
  rw[k1]
  unfold ax at h2 k2
  split at h2
  ·rename_i ha;rw[if_pos ha] at k2;rw[h2,k2]
  ·rename_i ha;rw[if_neg ha] at k2;rw[h2] at k2;injection k2 with k2;rw[k2]
 intro w2 tk
 have h:rowAt w2 g off t.size=some cs:=by
  obtain⟨_,cur,T',fr,hw,_,_⟩:=nS h
  unfold rowAt at h ⊢
  rw[tk g (bg hw)]
  exact h
 clear tk
 revert h
 generalize w2=w
 intro h
 obtain⟨hl,cur,T',fr,hw,hs,rfl⟩:=nS h
 obtain⟨inf,hi,iB,_⟩:=gU hT ht
 have tE:∀ j v,((cur.toList.drop off).take t.size)[j]?=some v→w.cell? ((⟨g,off,none⟩:Addr).add j)=some v:=by
  intro j v hj
  rw[iL]
  unfold World.cell?
  simp only[hw,Option.isSome_none,Bool.false_eq_true,if_false]
  rw[List.getElem?_take] at hj
  split at hj
  ·rw[List.getElem?_drop] at hj
   simpa using hj
  ·cases hj
 have azq:=Rw hT ht w
 simp only[Instr.loadAt,Instr.sureAddr,loadVar,Sem.run_bind,Sem.run_pure,Result.andThen_ok,azq]
 cases hb:isAgg t with
 |true=>
  refine⟨.agg ((cur.toList.drop off).take t.size).toArray,?_,by simp[ax,hb]⟩
  have hlc:=run_loadCells_list (P:=P) (w:=w) ⟨g,off,none⟩ _ tE
  rw[hl] at hlc
  simp only[if_true,Sem.run_bind,sizeOf,typeInfo,run_program,Result.andThen_ok,hi,Sem.run_pure,iB,hlc]
 |false=>
  have h1:t.size=1:=by cases t<;>simp[isAgg] at hb<;>rfl
  rw[h1] at hl tE ⊢
  obtain⟨u,hu⟩:∃ u,(cur.toList.drop off).take 1=[u]:=by
   cases hx:(cur.toList.drop off).take 1 with
   |nil=>rw[hx] at hl;simp at hl
   |cons u r=>
    rw[hx] at hl
    cases r with
    |nil=>exact⟨u,rfl⟩
    |cons _ _=>simp at hl
  refine⟨u,?_,by simp[ax,hb,hu]⟩
  have:=tE 0 u (by rw[hu];rfl)
  rw[Addr.add_zero'] at this
  simp[load,Sem.run,this]
end Go.Pv
namespace Go.Pv
set_option linter.unusedVariables false
set_option linter.unusedSimpArgs false
variable {P:Program} {w w':World} {A A':Nat→Prop} {H:Nat→Value} {tm qH:Nat→Value} {S S':St} {σ:Nat→Option Nat} {w0:World} {W0 Z:Nat→Prop} {a:Act} {own:Nat→Prop} {v:Value} {Θ:db} {dst:Option Nat}
def V4 (w:World) (A:Nat→Prop) (tm:Nat→Value) (S:St):Tgt→Value→Prop
 | .k b,v=>∃ cs,ax (.ptr b.t) v cs∧K w A (.ptr b.t) b.x cs
 | .pl t s p,v=>∃ r ex,S.at s=.v r ex∧(open_ p ex→∃ cM g off,Ref tm S t s p r cM∧addrAt w p r.t cM none=some (g,off)∧v=.pointer (some ⟨g,off,none⟩))
theorem acH (h:a6 σ w0 W0 Z H S a w) {i:Nat} {t:Ty} {T:TypeId} {tag:Option Nat} {me:Md} {y:t.I} {ex:List Path} (hi:S.at i=.v ⟨.ptr t,.o T tag me,y⟩ ex):
  V4 w (Av σ Z) (bZ a) S (.pl t i [.deref]) (bZ a i):=by
 refine⟨_,ex,hi,fun ho=>?_⟩
 have hh:=h.holds i
 rw[hi] at hh
 obtain⟨cs,h1,h2⟩:=hh
 simp only[M] at h2
 rcases h2 with⟨hn,_⟩ |⟨hk,_⟩ |⟨T',acI,me',g,cur,e,rfl,ht,hg,hw,hM⟩
 ·exact absurd hn ho.not_nil
 ·simp[Md.bM] at hk
 ·have hlen:=(eo t hM).1
  refine⟨_,g,0,⟨⟨ex,hi,ho⟩,trivial,⟨_,rfl,rfl⟩,h1⟩,?_,by simpa[ax,isAgg] using h1.symm⟩
  have hs:0+t.size≤cur.size:=by rw[←hlen];simp
  simp only[addrAt,bA hw hs,Option.bind_some]
theorem Zv {p q:Path} {ex:List Path} (h:open_ (p++q) ex):open_ p ex:=fun r hr s u e=>h r hr s (u++q) (by rw[e];simp)
theorem w6 {p:Path} {s:Step} {q:Path} {ex:List Path} (h:open_ (p++s::q) ex):[]∉wL p ex:=fun hm=>by
 have:=DM.1 hm
 rw[List.append_nil] at this
 exact h p this s q rfl
theorem qY (h:a6 σ w0 W0 Z H S a w) {T:TypeId} {x:Operand} {av:AV} {g:Tgt} (ho:S.dM Θ T x=some av) (e:S.GR x av=some g):V4 w (Av σ Z) (bZ a) S g (a.eval x):=by
 have hh:=bC h ho
 have nT:∀ {t:Ty} {T:TypeId} {tag:Option Nat} {me:Md} {y:t.I} {ex:List Path} {i:Nat},av=.v ⟨.ptr t,.o T tag me,y⟩ ex→x=.tmp i→V4 w (Av σ Z) (bZ a) S (.pl t i [.deref]) (a.eval x):=by
  intro t T tag me y ex i e1 e2
  subst e2
  simp only[St.dM,Option.some.injEq] at ho
  rw[e1] at ho
  exact acH h ho
 unfold St.GR at e
 split at e
 ·rename_i t m y
  split at e
  ·injection e with e;subst e
   obtain⟨cs,h1,h2⟩:=hh
   exact⟨cs,h1,ft _ rfl h2⟩
  ·injection e with e;subst e
   exact nT rfl rfl
  ·cases e
 ·split at e
  ·injection e with e;subst e
   exact nT rfl rfl
  ·cases e
 ·rename_i t s p
  obtain⟨r,cM,cs,hr,hc,hm⟩:=hh
  split at e
  ·rename_i t' y Ca
   injection e with e;subst e
   obtain⟨ex,b,cK,cC,k1,k2,k3,k4,hM,k5,k6,k7⟩:=fE h hr
   obtain⟨r',Dc,q1,q2,q3⟩:=dE Ca
   rw[k1] at q1
   injection q1 with q1 D'
   subst q1 D'
   rw[k3] at q3
   injection q3 with q3
   subst q3
   rw[k5] at hc
   injection hc with hc
   subst hc
   simp only at k4
   rw[←k4] at hm
   exact⟨_,hm,ft _ rfl k7⟩
  ·rename_i t' T' acI me' y Ca
   injection e with e;subst e
   obtain⟨ex,b,cK,cC,k1,k2,k3,k4,hM,k5,k6,k7⟩:=fE h hr
   obtain⟨r',Dc,q1,q2,q3⟩:=dE Ca
   rw[k1] at q1
   injection q1 with q1 D'
   subst q1 D'
   rw[k3] at q3
   injection q3 with q3
   subst q3
   rw[k5] at hc
   injection hc with hc
   subst hc
   simp only at k4
   injection k4 with k4
   subst k4
   refine⟨r,ex,k1,fun bO=>?_⟩
   simp only[M] at k7
   rcases k7 with⟨hn,_⟩ |⟨hk,_⟩ |⟨T',acI,me',g,cur,e,rfl,ht,hg,hw,hM'⟩
   ·exact absurd hn (w6 bO)
   ·simp[Md.bM] at hk
   ·have hlen:=(eo _ hM').1
    have hs:0+Ty.size t'≤cur.size:=by rw[←hlen];simp
    refine⟨cM,g,0,⟨⟨ex,k1,bO⟩,fe p [.deref] k3 hr.val trivial,⟨_,by rw[eZ,k3];rfl,rfl⟩,hr.mat⟩,?_,by simpa[ax,isAgg] using hm.symm⟩
    rw[(ff p [.deref] cM none k3).2,k5]
    simp only[Option.bind_some,addrAt,bA hw hs]
  ·cases e
 ·rename_i t s p
  injection e with e;subst e
  obtain⟨r,cM,g,off,hr,hc,hm⟩:=hh
  obtain⟨ex,k1,k2⟩:=hr.at_
  exact⟨r,ex,k1,fun _=>⟨cM,g,off,hr,hc,hm⟩⟩
 ·cases e
theorem MA (h:a6 σ w0 W0 Z H S a w) {o:Oper} {x:Operand} (ho:o.op=.nilCheck x) (e:ua Θ S o.dst x=some (true,S')):gG P w0 W0 Z H S' a o.dst w (execOp a.eval o):=by
 unfold ua at e
 split at e
 ·rename_i av dz
  split at e
  ·rename_i g hg
   split at e
   ·rename_i r _ hr Ca
    injection e with e;injection e with _ e;subst e
    have hc:=oU h dz hr
    have hl:=qY h dz hg
    have hp:(∃ ad,a.eval x=.pointer (some ad)):=by
     cases g with
     |k b=>
      obtain⟨cs,h1,h2⟩:=hl
      simp only[K] at h2
      obtain⟨g,off,cur,T,fr,rfl,_⟩:=h2
      exact⟨_,by simpa[ax,isAgg] using h1.symm⟩
     |pl t s p=>
      obtain⟨r',ex,k1,k2⟩:=hl
      simp only at Ca
      split at Ca
      ·rename_i b hb
       obtain⟨r2,ex2,q1,q2,q3⟩:=dE hb
       rw[k1] at q1
       injection q1 with q1 D'
       subst q1 D'
       obtain⟨cM,g,off,_,_,e3⟩:=k2 (eA q2)
       exact⟨_,e3⟩
      ·cases Ca
    obtain⟨ad,hp⟩:=hp
    exact cv h (v:=a.eval x) (fun w2 _=>by simp only[execOp,ho,hp];rfl) hc
   ·cases e
  ·cases e
 ·cases e
theorem MB (hT:cN P Θ=true) (h:a6 σ w0 W0 Z H S a w) {T:TypeId} {g:Tgt} {r:AV} {v:Value} (hl:V4 w (Av σ Z) (bZ a) S g v) (e:S.loadAt g=some r) (ht:Θ.is T g.ty=true):
  ∃ u,(∀ w2,Ext w w2→(Instr.loadAt T v).run P w2=.ok u w2)∧Holds w (Av σ Z) H (bZ a) S (fun _=>False) r u:=by
 cases g with
 |k b=>
  simp only[St.loadAt,Option.some.injEq] at e
  subst e
  obtain⟨cs,h1,h2⟩:=hl
  simp only[K] at h2
  obtain⟨g,off,cur,T',fr,rfl,hg,hw,hs,hk⟩:=h2
  obtain rfl:v=.pointer (some ⟨g,off,none⟩):=by simpa[ax,isAgg] using h1.symm
  obtain⟨u,k1,k2⟩:=Eb hT ht (bA hw hs)
  exact⟨u,k1,_,k2,fI _ hk⟩
 |pl t s p=>
  simp only[St.loadAt] at e
  obtain⟨r',ex,k1,k2⟩:=hl
  split at e
  ·rename_i b hb
   obtain⟨r2,ex2,q1,q2,q3⟩:=dE hb
   rw[k1] at q1
   injection q1 with q1 D'
   subst q1 D'
   obtain⟨cM,g,off,hr,ha,rfl⟩:=k2 (eA q2)
   obtain⟨Dc,b',cK,cC,j1,j2,j3,j4,hM,j5,j6,j7⟩:=fE h hr
   rw[k1] at j1
   injection j1 with j1 j1'
   subst j1'
   rw[q3] at j3
   injection j3 with j3
   subst j3
   subst j4
   have gz:=qX p q3 (eo _ hM).1 (fun g o e=>by cases e) j5 ha
   obtain⟨u,l1,l2⟩:=Eb hT ht gz
   refine⟨u,l1,?_⟩
   cases hk:b.m.bM with
   |true=>
    rw[hk] at e
    simp only[cond_true] at e
    split at e
    ·rename_i c hc
     injection e with e;subst e
     obtain⟨_,oW,_,hM2⟩:=c8 h hr j5 hc
     have hcb:c=b:=by
      obtain⟨r3,ex3,p1,p2,p3⟩:=oV hc
      rw[k1] at p1
      injection p1 with p1 p1'
      subst p1
      rw[q3] at p3
      injection p3 with p3
      exact p3.symm
     subst hcb
     exact⟨_,l2,fI _ (ft _ hk hM2)⟩
    ·cases e
   |false=>
    rw[hk] at e
    simp only[cond_false,Option.some.injEq] at e
    subst e
    exact⟨r',cM,cK,hr,j5,l2⟩
  ·cases e
theorem ajk (hT:cN P Θ=true) (h:a6 σ w0 W0 Z H S a w) {o:Oper} {T:TypeId} {x:Operand} (ho:o.op=.load T x) (e:fY Θ S o.dst T x=some (true,S')):gG P w0 W0 Z H S' a o.dst w (execOp a.eval o):=by
 unfold fY at e
 split at e
 ·rename_i av dz
  split at e
  ·rename_i g hg
   split at e
   ·rename_i r hr
    have hl:=qY h dz hg
    cases hc:Θ.is T g.ty with
    |false=>rw[hc] at e;cases e
    |true=>
     rw[hc] at e
     simp only[cond_true,Option.some.injEq,Prod.mk.injEq,true_and] at e
     subst e
     obtain⟨u,h1,h2⟩:=MB hT h hl hr hc
     refine cv h (v:=u) (fun w2 hw=>?_) h2
     simp only[execOp,ho,Sem.run_bind,h1 w2 hw]
     rfl
   ·cases e
  ·cases e
 ·cases e
end Go.Pv
namespace Go.Pv
set_option linter.unusedVariables false
set_option linter.unusedSimpArgs false
variable {P:Program} {w w':World} {A A':Nat→Prop} {H:Nat→Value} {tm qH:Nat→Value} {S S':St} {σ:Nat→Option Nat} {w0:World} {W0 Z:Nat→Prop} {a:Act} {own:Nat→Prop} {v:Value} {Θ:db} {dst:Option Nat}
theorem iM:∀ (p:Path) {t:Ty} {m:Md} {x:t.I} {b:TV},m.bM=true→a8 p t m x=some b→b.m.bM=true
 |[],t,m,x,b,hk,hg=>by simp only[a8,Option.some.injEq] at hg;subst hg;exact hk
 | .deref::p,.ptr t,m,x,b,hk,hg=>by simp only[a8] at hg;exact iM p (oJ hk) hg
 | .fst::p,.pair _ _,m,x,b,hk,hg=>by simp only[a8] at hg;exact iM p (Mc hk) hg
 | .snd::p,.pair _ _,m,x,b,hk,hg=>by simp only[a8] at hg;exact iM p (Me hk) hg
 | .idx i::p,.sl t,m,x,b,hk,hg=>by simp only[a8] at hg;exact iM p (oJ hk) hg
theorem gH:∀ (p:Path) {t:Ty} {m:Md} {x:t.I} {b:TV},aL p=true→a8 p t m x=some b→valid p t x
 |[],_,_,_,_,_,_=>trivial
 | .fst::p,.pair _ _,m,x,b,h,hg=>by simp only[a8] at hg;simp only[valid];exact gH p (by simpa[aL] using h) hg
 | .snd::p,.pair _ _,m,x,b,h,hg=>by simp only[a8] at hg;simp only[valid];exact gH p (by simpa[aL] using h) hg
theorem oX:∀ (p:Path) {t:Ty} {m:Md} {x:t.I} {b:TV},aL p=true→a8 p t m x=some b→fS p t=some b.t
 |[],_,_,_,_,_,hg=>by simp only[a8,Option.some.injEq] at hg;subst hg;rfl
 | .fst::p,.pair _ _,m,x,b,h,hg=>by simp only[a8] at hg;simp only[fS];exact oX p (by simpa[aL] using h) hg
 | .snd::p,.pair _ _,m,x,b,h,hg=>by simp only[a8] at hg;simp only[fS];exact oX p (by simpa[aL] using h) hg
theorem iN:∀ (p q:Path),aL p=true→aL q=true→aL (p++q)=true
 |[],_,_,h=>h
 | .fst::p,q,h,h'=>by simp only[List.cons_append,aL];exact iN p q (by simpa[aL] using h) h'
 | .snd::p,q,h,h'=>by simp only[List.cons_append,aL];exact iN p q (by simpa[aL] using h) h'
theorem lf:∀ n,aL (List.replicate n .snd)=true
 |0=>rfl
 |n+1=>by rw[List.replicate_succ];simp only[aL];exact lf n
theorem iy (i n:Nat):aL (mI i n)=true:=by
 unfold mI
 cases Nat.beq (i+1) n<;>cases Nat.beq n 1<;>simp only[cond_true,cond_false]
 ·exact iN _ _ (lf _) rfl
 ·exact iN _ _ (lf _) rfl
 ·exact lf _
 ·rfl
theorem ate {t:Ty} {x:t.I} {p:Path} {b:TV} {cs:List Value} {v:Value} (hm:ax (.ptr t) v cs) (h:K w A (.ptr t) x cs) (hp:aL p=true) (hg:a8 p t .k x=some b):
  ∃ g off,v=.pointer (some ⟨g,off,none⟩)∧K w A (.ptr b.t) b.x [.pointer (some ⟨g,off+aP p t,none⟩)]:=by
 simp only[K] at h
 obtain⟨g,off,cur,T',fr,rfl,hA,hw,hs,hk⟩:=h
 refine⟨g,off,by simpa[ax,isAgg] using hm.symm,?_⟩
 have hl:=(kG t hk).1
 obtain⟨cK,cC,k1,k2,k3⟩:=focus (w:=w) (Wr:=A) (H:=fun _=>undef) (ow:=fun _=>False) (hs:=[]) p (fI t hk) (fun _ h=>by simp at h) (gH p hp hg) hg
 rw[ep p hp hg hl] at k1
 injection k1 with k1
 subst k1
 have hf:=dX p hp hg
 simp only[K]
 refine⟨g,off+aP p t,cur,T',fr,rfl,hA,hw,by omega,?_⟩
 have:=ft _ (iM p rfl hg) k3
 rw[List.drop_take,List.take_take,List.drop_drop,Nat.min_eq_left (by omega)] at this
 exact this
theorem w7 {p:Path} {t:Ty} {m:Md} {x:t.I} {b:TV} (hp:p≠[]) (h:aL p=true) (hg:a8 p t m x=some b):∃ a' b',t=.pair a' b':=by
 cases p with
 |nil=>exact absurd rfl hp
 |cons s p=>cases s<;>cases t<;>simp_all [a8,aL]
theorem acJ {i n:Nat} (h:i<n):mI i n≠[]:=by
 unfold mI
 cases hb:Nat.beq (i+1) n with
 |false=>simp
 |true=>
  cases hc:Nat.beq n 1 with
  |true=>simp
  |false=>
   simp only[cond_true,cond_false]
   have h1:=Nat.eq_of_beq_eq_true hb
   have h2:=Nat.ne_of_beq_eq_false hc
   cases i with
   |zero=>omega
   |succ i=>simp[List.replicate_succ]
theorem w8 (hT:cN P Θ=true) (h:a6 σ w0 W0 Z H S a w) {o:Oper} {T:TypeId} {x:Operand} {f:Nat} (ho:o.op=.fieldAddr T x f) (e:fZ Θ S o.dst T x f=some (true,S')):lW P w0 W0 Z H S' a o.dst w (execOp a.eval o):=by
 unfold fZ at e
 split at e
 ·rename_i av i dz hi
  cases cP:Nat.blt f i.fs.length with
  |false=>rw[cP] at e;cases e
  |true=>
   rw[cP] at e
   simp only[cond_true] at e
   have hf:f<i.fs.length:=Nat.lt_of_succ_le (Nat.le_of_ble_eq_true cP)
   obtain⟨_,hu,zP⟩:=cR hT hi
   -- the address of the field
   have run:∀ (w2:World) (g off:Nat) (b:TV) (t:Ty) (m:Md) (y:t.I),i.ty=t→a8 (mI f i.fs.length) t m y=some b→
     (Instr.fieldAt T (.pointer (some ⟨g,off,none⟩)) f).run P w2=.ok (.pointer (some ⟨g,off+aP (mI f i.fs.length) t,none⟩)) w2:=by
    intro w2 g off b t m y fc hg
    have nF:∃ a' b',i.ty=.pair a' b':=by
     subst fc
     exact w7 (acJ hf) (iy _ _) hg
    obtain⟨a',b',hp⟩:=nF
    obtain⟨fs,Zu,Cb,hfo,_⟩:=lV hu hp
    rw[zP] at Zu
    have hlen:i.fs.length=fs.size:=by rw[←Cb];simp
    obtain⟨fl,axH⟩:∃ fl,fs[f]?=some fl:=⟨fs[f]'(by omega),by simp[show f<fs.size from by omega]⟩
    obtain⟨tf,h1,h2,h3,h4⟩:=iv hfo f fl (by simpa using axH)
    rw[Nat.zero_add,←hlen] at h1 h3
    subst fc
    rw[oX _ (iy _ _) hg] at h1
    injection h1 with h1
    obtain⟨inf,k1,k2,_⟩:=gU hT h2
    simp only[Instr.fieldAt,Sem.run_bind,run_underlying Zu,Result.andThen_ok,axH,Instr.sureAddr,Sem.run_pure,fieldPlace,sizeOf,typeInfo,run_program,k1,k2]
    rw[if_neg (by omega)]
    simp only[Sem.run_pure,Result.andThen_ok,iL,h3]
   split at e
   ·rename_i t m y hg
    cases fc:decide (i.ty=t) with
    |false=>rw[fc] at e;cases e
    |true=>
     rw[fc] at e
     simp only[cond_true] at e
     split at e
     ·rename_i b hb
      injection e with e;injection e with _ e;subst e
      obtain⟨cs,h1,h2⟩:=qY h dz hg
      obtain⟨g',off,hv,hk⟩:=ate h1 h2 (iy _ _) hb
      refine cd h (v:=.pointer (some ⟨g',off+aP (mI f i.fs.length) t,none⟩)) (fun w2=>?_) ⟨[_],by simp[ax,isAgg],fI (.ptr b.t) hk⟩
      simp only[execOp,ho,hv,Sem.run_bind,run w2 g' off b t .k y (by simpa using fc) hb]
      rfl
     ·cases e
   ·rename_i t s p hg
    cases fc:decide (i.ty=t) with
    |false=>rw[fc] at e;cases e
    |true=>
     rw[fc] at e
     simp only[cond_true] at e
     split at e
     ·rename_i b hb
      injection e with e;injection e with _ e;subst e
      obtain⟨r,ex,k1,k2⟩:=qY h dz hg
      obtain⟨r2,ex2,q1,q2,q3⟩:=dE hb
      rw[k1] at q1
      injection q1 with q1 D'
      subst q1 D'
      have bO:=eA q2
      obtain⟨cM,g',off,hr,ha,hv⟩:=k2 (Zv bO)
      obtain⟨Dc,b',cK,cC,j1,j2,j3,j4,hM,j5,j6,j7⟩:=fE h hr
      rw[eZ,j3] at q3
      simp only[Option.bind_some] at q3
      refine cd h (v:=.pointer (some ⟨g',off+aP (mI f i.fs.length) t,none⟩)) (fun w2=>?_) ⟨r,cM,g',off+aP (mI f i.fs.length) t,⟨⟨ex,k1,bO⟩,fe p _ j3 hr.val (gH _ (iy _ _) q3),⟨b,by rw[eZ,j3];exact q3,rfl⟩,hr.mat⟩,?_,rfl⟩
      ·subst j4
       simp only[execOp,ho,hv,Sem.run_bind,run w2 g' off b b'.t b'.m b'.x (by simpa using fc) q3]
       rfl
      ·rw[(ff p _ cM none j3).2,j5,ha]
       simp only[Option.bind_some]
       rw[iG _ (iy _ _) q3,j4]
     ·cases e
   ·cases e
 ·cases e
theorem V5 {α:Type} (xs:List α) (i:Nat) (d:α) (h:i<xs.length):List.getD xs i d=xs[i]:=by simp[List.getD_eq_getElem?_getD,List.getElem?_eq_getElem h]
theorem mO (hT:cN P Θ=true) {T:TypeId} {t:Ty} {g off len c:Nat} {k:IntKind} {n:Int} (ht:Θ.is T (.sl t)=true) (h0:0≤n) (h1:n<(len:Int)):
  (Instr.indexAt T (.slice (some ⟨g,off,none⟩) len c) (.int k n)).run P w=.ok (.pointer (some ⟨g,off+n.toNat*t.size,none⟩)) w:=by
 obtain⟨i,hi,fc⟩:=dL ht
 obtain⟨_,hu,zP⟩:=cR hT hi
 obtain⟨u1,u2,_⟩:=kL hu fc
 rw[zP] at u1
 obtain⟨inf,k1,k2,_⟩:=gU hT u2
 simp[Instr.indexAt,asIntOf,run_underlying u1,h0,h1,sizeOf,typeInfo,run_program,k1,k2,iL]
theorem acK {t:Ty} {xs:List t.I} {v:Value} {cs:List Value} {n:Nat} (hm:ax (.sl t) v cs) (h:K w A (.sl t) xs cs) (hn:n<xs.length):
  ∃ g off c,v=.slice (some ⟨g,off,none⟩) xs.length c∧K w A (.ptr t) (List.getD xs n t.z) [.pointer (some ⟨g,off+n*t.size,none⟩)]:=by
 simp only[K] at h
 obtain⟨X,c,rfl,hc,h⟩:=h
 obtain⟨g,off,cur,T',fr,rfl,hA,hw,hs,hk⟩:=h (by omega)
 refine⟨g,off,c,by simpa[ax,isAgg] using hm.symm,?_⟩
 simp only[K]
 have hb:off+n*t.size+t.size≤cur.size:=by
  have:=Nat.mul_le_mul_right t.size (show n+1≤xs.length from hn)
  rw[Nat.add_mul,Nat.one_mul] at this
  omega
 exact⟨g,_,cur,T',fr,rfl,hA,hw,hb,by rw[V5 _ _ _ hn];exact hk n hn⟩
theorem w9 (hT:cN P Θ=true) (h:a6 σ w0 W0 Z H S a w) {o:Oper} {T:TypeId} {x ix:Operand} (ho:o.op=.indexAddr T x ix) (e:ca Θ S o.dst T x ix=some (true,S')):lW P w0 W0 Z H S' a o.dst w (execOp a.eval o):=by
 unfold ca at e
 split at e
 ·rename_i t m xs ex n dz hn
  obtain⟨k,hk⟩:=hY h hn
  cases hc:Θ.is T (.sl t) with
  |false=>rw[hc] at e;cases e
  |true=>
   rw[hc] at e
   simp only[cond_true] at e
   split at e
   ·injection e with e;injection e with e1 e;subst e
    obtain⟨b1,b2⟩:=qW e1
    obtain⟨cs,h1,h2⟩:=bC h dz
    have hK:=ft _ rfl h2
    obtain⟨g,off,c,hv,Q3⟩:=acK (n:=n.toNat) h1 hK (by have b2':n<(List.length xs:Int):=b2;show n.toNat<List.length xs;omega)
    refine cd h (v:=.pointer (some ⟨g,off+n.toNat*t.size,none⟩)) (fun w2=>?_) ⟨[_],by simp[ax,isAgg],fI (.ptr t) Q3⟩
    simp only[execOp,ho,hv,hk,Sem.run_bind,mO hT hc b1 b2]
    rfl
   ·rename_i T' tag me j
    split at e
    ·rename_i b hb
     injection e with e;injection e with e1 e;subst e
     obtain⟨b1,b2⟩:=qW e1
     have dt:S.at j=.v ⟨.sl t,.o T' tag me,xs⟩ ex:=by simpa[St.dM] using dz
     obtain⟨r2,ex2,q1,q2,q3⟩:=dE hb
     rw[dt] at q1
     injection q1 with q1 D'
     subst q1 D'
     have bO:=eA q2
     obtain⟨cs,h1,h2⟩:=bC h dz
     simp only[M] at h2
     rcases h2 with⟨nF,_⟩ |⟨fV,_⟩ |⟨T2,Zw,me2,X,c,e2,rfl,hcc,ajl,h2⟩
     ·exact absurd nF bO.not_nil
     ·simp[Md.bM] at fV
     ·have hv:a.eval (.tmp j)=.slice X xs.length c:=by simpa[ax,isAgg] using h1.symm
      rcases h2 with⟨rfl,_⟩ |⟨g,cur,τ,rfl,hg,hw,iB,hm,hj⟩
      ·simp at b2;omega
      ·have cP:n.toNat<xs.length:=by omega
       have hbound:0+n.toNat*t.size+t.size≤cur.size:=by
        have h1:=Nat.mul_le_mul_right t.size (show n.toNat+1≤xs.length from cP)
        have h2:=Nat.mul_le_mul_right t.size hcc
        rw[Nat.add_mul,Nat.one_mul] at h1
        omega
       refine cd h (v:=.pointer (some ⟨g,0+n.toNat*t.size,none⟩)) (fun w2=>?_) ⟨_,[.slice (some ⟨g,0,none⟩) xs.length c],g,0+n.toNat*t.size,⟨⟨ex,dt,bO⟩,⟨cP,trivial⟩,⟨_,rfl,rfl⟩,h1⟩,?_,rfl⟩
       ·simp only[execOp,ho,hv,hk,Sem.run_bind,mO hT hc b1 b2]
        rfl
       ·simp only[addrAt,bA hw hbound,Option.bind_some]
    ·cases e
   ·cases e
 ·rename_i t s p n dz hn
  obtain⟨k,hk⟩:=hY h hn
  cases hc:Θ.is T (.sl t) with
  |false=>rw[hc] at e;cases e
  |true=>
   rw[hc] at e
   simp only[cond_true] at e
   obtain⟨r,cM,cs,hr,jq,hm⟩:=bC h dz
   obtain⟨ex,b,cK,cC,j1,j2,j3,j4,hM,j5,j6,j7⟩:=fE h hr
   rw[jq] at j5
   injection j5 with j5
   subst j5
   split at e
   ·rename_i t' xs Ca
    injection e with e;injection e with e1 e;subst e
    obtain⟨b1,b2⟩:=qW e1
    obtain⟨r2,ex2,q1,q2,q3⟩:=dE Ca
    rw[j1] at q1
    injection q1 with q1 D'
    subst q1 D'
    rw[j3] at q3
    injection q3 with q3
    subst q3
    injection j4 with j4
    subst j4
    have hK:=ft _ rfl j7
    obtain⟨g,off,c,hv,Q3⟩:=acK (n:=n.toNat) hm hK (by have b2':n<(List.length xs:Int):=b2;show n.toNat<List.length xs;omega)
    refine cd h (v:=.pointer (some ⟨g,off+n.toNat*Ty.size t',none⟩)) (fun w2=>?_) ⟨[_],by simp[ax,isAgg],fI (.ptr _) Q3⟩
    simp only[execOp,ho,hv,hk,Sem.run_bind,mO hT hc b1 b2]
    rfl
   ·rename_i t' T' tag me xs Ca
    split at e
    ·rename_i b2' hb
     injection e with e;injection e with e1 e;subst e
     obtain⟨b1,b2⟩:=qW e1
     obtain⟨r2,ex2,q1,q2,q3⟩:=dE Ca
     rw[j1] at q1
     injection q1 with q1 D'
     subst q1 D'
     rw[j3] at q3
     injection q3 with q3
     subst q3
     injection j4 with j4
     subst j4
     obtain⟨r3,ex3,p1,p2,p3⟩:=dE hb
     rw[j1] at p1
     injection p1 with p1 p1'
     subst p1 p1'
     have bO:=eA p2
     simp only[M] at j7
     rcases j7 with⟨nF,_⟩ |⟨fV,_⟩ |⟨T2,Zw,me2,X,c,e2,rfl,hcc,ajl,h2⟩
     ·exact absurd nF (w6 bO)
     ·simp[Md.bM] at fV
     ·have hv:a.eval x=.slice X (List.length xs) c:=by simpa[ax,isAgg] using hm.symm
      rcases h2 with⟨rfl,_⟩ |⟨g,cur,τ,rfl,hg,hw,iB,hm',hj⟩
      ·simp at b2;omega
      ·have cP:n.toNat<List.length xs:=by omega
       have hbound:0+n.toNat*Ty.size t'+Ty.size t'≤cur.size:=by
        have h1:=Nat.mul_le_mul_right (Ty.size t') (show n.toNat+1≤List.length xs from cP)
        have h2:=Nat.mul_le_mul_right (Ty.size t') hcc
        rw[Nat.add_mul,Nat.one_mul] at h1
        omega
       refine cd h (v:=.pointer (some ⟨g,0+n.toNat*Ty.size t',none⟩)) (fun w2=>?_) ⟨r,cM,g,0+n.toNat*Ty.size t',⟨⟨ex,j1,bO⟩,fe p _ j3 hr.val ⟨cP,trivial⟩,⟨_,by rw[eZ,j3];rfl,rfl⟩,hr.mat⟩,?_,rfl⟩
       ·simp only[execOp,ho,hv,hk,Sem.run_bind,mO hT hc b1 b2]
        rfl
       ·rw[(ff p _ cM none j3).2,jq]
        simp only[Option.bind_some,addrAt,bA hw hbound]
    ·cases e
   ·cases e
 ·cases e
end Go.Pv
namespace Go.Pv
set_option linter.unusedVariables false
set_option linter.unusedSimpArgs false
variable {P:Program} {w w':World} {A A':Nat→Prop} {H:Nat→Value} {tm qH:Nat→Value} {S S':St} {σ:Nat→Option Nat} {w0:World} {W0 Z:Nat→Prop} {a:Act} {own:Nat→Prop} {v:Value} {Θ:db} {dst:Option Nat}
theorem sx {k:IntKind} {i:Int} {y:Nat} {code:BoundsCode} (h0:0≤i) (h1:i≤y):(Instr.sliceBound (.int k i) y code).run P w=.ok i.toNat w:=by
 simp[Instr.sliceBound,asIntOf,h0,h1]
theorem Ee {sl:Bool} {len cap:Nat} {lo hi:Option Value} {l h:Int} (Zi:(lo=none∧l=0)∨∃ k,lo=some (.int k l)) (DZ:(hi=none∧h=len)∨∃ k,hi=some (.int k h))
  (h0:0≤l) (h1:l≤h) (h2:h≤len) (h3:len≤cap):(Instr.sliceBounds sl len cap lo hi none).run P w=.ok (l.toNat,h.toNat,cap) w:=by
 have e1:∀ k code,(Instr.sliceBound (.int k l) h.toNat code).run P w=.ok l.toNat w:=fun k code=>sx h0 (by omega)
 have e2:∀ k code,(Instr.sliceBound (.int k h) cap code).run P w=.ok h.toNat w:=fun k code=>sx (by omega) (by omega)
 unfold Instr.sliceBounds
 rcases Zi with⟨rfl,rfl⟩ |⟨k,rfl⟩<;>rcases DZ with⟨rfl,rfl⟩ |⟨k',rfl⟩
 ·simp
 ·simp[e2]
 ·have Ai:∀ k code,(Instr.sliceBound (.int k l) len code).run P w=.ok l.toNat w:=fun k code=>sx h0 (by omega)
  simp[Ai]
 ·simp[e1,e2]
theorem iz (h:a6 σ w0 W0 Z H S a w) {x:Option Operand} {d n:Int} (e:gy Θ S d x=some n):(x.map a.eval=none∧n=d)∨∃ k,x.map a.eval=some (.int k n):=by
 cases x with
 |none=>simp only[gy,Option.some.injEq] at e;exact .inl ⟨rfl,e.symm⟩
 |some x=>
  obtain⟨k,hk⟩:=hY h e
  exact .inr ⟨k,by simp[hk]⟩
theorem MC (hT:cN P Θ=true) (h:a6 σ w0 W0 Z H S a w) {o:Oper} {T:TypeId} {x:Operand} {lo hi mx:Option Operand} (ho:o.op=.slice T x lo hi mx) (e:dW Θ S o.dst T x lo hi mx=some (true,S')):lW P w0 W0 Z H S' a o.dst w (execOp a.eval o):=by
 unfold dW at e
 split at e
 ·rename_i av m s l dz VV hl
  split at e
  ·rename_i hh DZ
   cases hc:Θ.is T .str with
   |false=>rw[hc] at e;cases e
   |true=>
    rw[hc] at e
    simp only[cond_true,Option.some.injEq,Prod.mk.injEq,Bool.and_eq_true,decide_eq_true_eq] at e
    obtain⟨⟨⟨b1,b2⟩,b3⟩,e⟩:=e
    subst e
    obtain⟨cs,h1,h2,_⟩:=gV h VV
    have hv:=eN h1 h2
    obtain⟨i,Mh,fc⟩:=dL hc
    obtain⟨_,hu,zP⟩:=cR hT Mh
    have su:=oS hu fc
    rw[zP] at su
    refine cd h (v:=.string (s.extract l.toNat hh.toNat)) (fun w2=>?_) (Ha _)
    have hb:=Ee (P:=P) (w:=w2) (sl:=false) (iz h hl) (iz h DZ) b1 b2 b3 (Nat.le_refl _)
    simp[execOp,ho,hv,Instr.sliceAt,Instr.slice,run_underlying su,hb]
  ·cases e
 ·rename_i av t m xs l dz VV hl
  cases hc:Θ.is T (.sl t) with
  |false=>rw[hc] at e;cases e
  |true=>
   rw[hc] at e
   simp only[cond_true] at e
   obtain⟨i,Mh,fc⟩:=dL hc
   obtain⟨_,hu,zP⟩:=cR hT Mh
   obtain⟨u1,u2,_⟩:=kL hu fc
   rw[zP] at u1
   obtain⟨inf,q1,q2,_⟩:=gU hT u2
   obtain⟨cs,h1,h2,h3⟩:=gV h VV
   obtain⟨X,c,hv,gC,hlc⟩:=nP h1 h2
   have run:∀ (hh:Int),gy Θ S (xs.length:Int) hi=some hh→mx=none→0≤l→l≤hh→hh≤(xs.length:Int)→
     ∀ w2,(execOp a.eval o).run P w2=.ok (.value (.slice (if c=l.toNat then X else X.map (·.add (l.toNat*t.size))) (hh.toNat - l.toNat) (c - l.toNat))) w2:=by
    intro hh DZ hmx b1 b2 b3 w2
    subst hmx
    have hb:=Ee (P:=P) (w:=w2) (sl:=true) (iz h hl) (iz h DZ) b1 b2 b3 hlc
    simp[execOp,ho,hv,Instr.sliceAt,Instr.slice,run_underlying u1,hb,sizeOf,typeInfo,run_program,q1,q2]
   split at e
   ·rename_i _ hh DZ
    split at e
    ·simp only[Option.some.injEq,Prod.mk.injEq,Bool.and_eq_true,decide_eq_true_eq] at e
     obtain⟨⟨⟨b1,b2⟩,b3⟩,e⟩:=e
     subst e
     have hK:=h3 rfl
     subst gC
     exact cd h (run hh DZ rfl b1 b2 b3) ⟨[_],by simp[ax,isAgg],fI (.sl t) (V0 hK (by omega) (by omega))⟩
    ·rename_i b ex i _
     simp only[Option.some.injEq,Prod.mk.injEq,Bool.and_eq_true,decide_eq_true_eq] at e
     obtain⟨⟨⟨b1,b2⟩,b3⟩,e⟩:=e
     subst e
     have dt:S.at i=.v b ex:=by simpa[St.dM] using dz
     unfold St.rd at VV
     rw[dz] at VV
     cases ex with
     |cons _ _=>simp[St.so] at VV
     |nil=>
      simp only[St.so,Option.some.injEq] at VV
      subst VV
      subst gC
      refine cd h (run hh DZ rfl b1 b2 b3) ⟨_,_,t,X,List.length xs,c,⟨⟨[],dt,fun q hq=>by simp at hq⟩,trivial,⟨_,rfl,rfl⟩,h1⟩,rfl,rfl,by omega,by omega,rfl⟩
    ·rename_i _ s p hm
     simp only[Option.some.injEq,Prod.mk.injEq,Bool.and_eq_true,decide_eq_true_eq] at e
     obtain⟨⟨⟨b1,b2⟩,b3⟩,e⟩:=e
     subst e
     obtain⟨r,cM,cK,hr,jq,hmm⟩:=bC h dz
     unfold St.rd at VV
     rw[dz] at VV
     simp only[St.so] at VV
     obtain⟨zT,_⟩:=c8 h hr jq VV
     simp only at zT
     subst zT
     obtain rfl:=ez h1 hmm
     subst gC
     refine cd h (run hh DZ rfl b1 b2 b3) ⟨r,cM,t,X,List.length xs,c,hr,rfl,jq,by omega,by omega,rfl⟩
    ·cases e
   ·rename_i _ hh z ii DZ acL
    split at e
    ·rename_i c' hx hz
     simp only[Option.some.injEq,Prod.mk.injEq,Bool.and_eq_true,decide_eq_true_eq] at e
     obtain⟨⟨⟨rfl,rfl⟩,rfl⟩,e⟩:=e
     subst e
     obtain⟨kz,hkz⟩:=hY h hz
     refine cd h (v:=.slice X 0 0) (fun w2=>?_) ⟨[.slice X 0 0],by simp[ax,isAgg],?_⟩
     ·have V6:=iz h hl
      have hh':=iz h DZ
      have hb:(Instr.sliceBounds true xs.length c (lo.map a.eval) (some (a.eval hx)) (some (.int kz 0))).run P w2=.ok (0,0,0) w2:=by
       have e0:∀ k y code,(Instr.sliceBound (.int k 0) y code).run P w2=.ok 0 w2:=fun k y code=>sx (by omega) (by omega)
       have hh2:∃ k,a.eval hx=.int k 0:=by
        rcases hh' with⟨hh',_⟩ |⟨k,hh'⟩
        ·simp at hh'
        ·exact⟨k,by simpa using hh'⟩
       obtain⟨k2,Q3⟩:=hh2
       unfold Instr.sliceBounds
       rcases V6 with⟨V6,_⟩ |⟨k1,V6⟩<;>rw[V6,Q3]<;>simp[e0]
      simp[execOp,ho,hv,Instr.sliceAt,Instr.slice,run_underlying u1,hkz,hb,sizeOf,typeInfo,run_program,q1,q2]
     ·simp only[M]
      exact .inr (.inr ⟨_,_,_,X,0,rfl,rfl,Nat.le_refl _,fun h hh=>(by cases hh),.inl (by simp)⟩)
    ·cases e
   ·cases e
 ·cases e
end Go.Pv
namespace Go.Pv
set_option linter.unusedVariables false
set_option linter.unusedSimpArgs false
variable {P:Program} {w w':World} {A A' Wr:Nat→Prop} {H:Nat→Value} {tm qH:Nat→Value} {S S' S1:St} {σ:Nat→Option Nat} {w0:World} {W0 Z:Nat→Prop} {a:Act} {own:Nat→Prop} {v:Value} {Θ:db} {dst:Option Nat}
theorem Hd:∀ (p:Path) {t:Ty} {m:Md} {x:t.I} {cs:List Value} {ow:Nat→Prop} {hs:List Path} {b:TV},M w Wr H t m x cs ow hs→open_ p hs→valid p t x→a8 p t m x=some b→b.m.bM=false→
  ∃ cK cC,aS w p t cs=some cK∧(∀ g,cC g→ow g)∧M w Wr H b.t b.m b.x cK cC (wL p hs)∧M w Wr H t m x cs (fun g=>ow g∧ ¬cC g) (hs++[p])
 |[],t,m,x,cs,ow,hs,b,h,ho,hv,hg,hk=>by
  simp only[a8,Option.some.injEq] at hg
  subst hg
  refine⟨cs,ow,rfl,fun _ h=>h,h,?_⟩
  simp only at hk
  have iw:=eo t h
  cases t<;>simp only[M] at h ⊢<;>first
   |(rw[hk] at h;exact absurd h.1 (by simp))
   |(exact .inl ⟨by simp,hk,iw⟩)
   |(
     rcases h with⟨_,_,h⟩ |⟨fV,_⟩ |⟨T,tag,me,A,c,_,rfl,_⟩
     ·exact .inl ⟨by simp,hk,h⟩
     ·rw[hk] at fV;cases fV
     ·exact .inl ⟨by simp,hk,A,c,rfl⟩)
 | .deref::p,.ptr t,m,x,cs,ow,hs,b,h,ho,hv,hg,hk=>by
  simp only[a8] at hg
  simp only[valid] at hv
  simp only[M] at h
  rcases h with⟨hn,_⟩ |⟨fV,h⟩ |⟨T,tag,me,g,cur,rfl,rfl,ht,qm,hw,h⟩
  ·exact absurd hn ho.not_nil
  ·rw[iM p (oJ fV) hg] at hk;cases hk
  ·have hlen:=(eo t h).1
   obtain⟨cK,cC,h1,h2,h3,h4⟩:=Hd p h ho.sub hv hg hk
   have iB:0+t.size≤cur.size:=by rw[←hlen];simp
   refine⟨cK,cC,?_,fun g hg=>(h2 g hg).1,h3,?_⟩
   ·simp only[aS,bA hw iB,Option.bind_some,List.drop_zero]
    rw[List.take_of_length_le (by omega)]
    exact h1
   ·simp only[M]
    exact .inr (.inr ⟨T,tag,me,g,cur,rfl,rfl,ht,⟨qm,fun hx=>(h2 g hx).2 rfl⟩,hw,aJ (aU.refl _ _) t (fun _ _ _=>rfl) (fun g' bo _=>⟨⟨bo.1.1,bo.2⟩,bo.1.2⟩) (fun q hq=>by
     rcases List.mem_append.1 hq with hq |hq
     ·exact dh.2 (List.mem_append_left _ (dh.1 hq))
     ·rw[List.mem_singleton.1 hq];exact dh.2 (List.mem_append_right _ (by simp))) h4⟩)
 | .fst::p,.pair a b',m,x,cs,ow,hs,b,h,ho,hv,hg,hk=>by
  simp only[a8] at hg
  simp only[valid] at hv
  simp only[M] at h
  rcases h with⟨hn,_⟩ |⟨fV,h⟩ |⟨ma,mb,c0,c1,s,rfl,rfl,h0,h1⟩
  ·exact absurd hn ho.not_nil
  ·rw[iM p (Mc fV) hg] at hk;cases hk
  ·obtain⟨cK,cC,k1,k2,k3,k4⟩:=Hd p h0 ho.sub hv hg hk
   refine⟨cK,cC,by simp only[aS];rw[←(eo a h0).1,List.take_left];exact k1,fun g hg=>(k2 g hg).1,k3,?_⟩
   simp only[M]
   refine .inr (.inr ⟨ma,mb,c0,c1,s,rfl,rfl,aJ (aU.refl _ _) a (fun _ _ _=>rfl) (fun g' bo _=>⟨⟨bo.1.1,bo.2⟩,bo.1.2⟩) (fun q hq=>?_) k4,aJ (aU.refl _ _) b' (fun _ _ _=>rfl) (fun g' bo _=>⟨⟨bo.1,fun hx=>bo.2 (k2 g' hx).2⟩,bo.2⟩) (lN (fun q hq=>List.mem_append_left _ hq)) h1⟩)
   rcases List.mem_append.1 hq with hq |hq
   ·exact dh.2 (List.mem_append_left _ (dh.1 hq))
   ·rw[List.mem_singleton.1 hq];exact dh.2 (List.mem_append_right _ (by simp))
 | .snd::p,.pair a b',m,x,cs,ow,hs,b,h,ho,hv,hg,hk=>by
  simp only[a8] at hg
  simp only[valid] at hv
  simp only[M] at h
  rcases h with⟨hn,_⟩ |⟨fV,h⟩ |⟨ma,mb,c0,c1,s,rfl,rfl,h0,h1⟩
  ·exact absurd hn ho.not_nil
  ·rw[iM p (Me fV) hg] at hk;cases hk
  ·obtain⟨cK,cC,k1,k2,k3,k4⟩:=Hd p h1 ho.sub hv hg hk
   refine⟨cK,cC,by simp only[aS];rw[←(eo a h0).1,List.drop_left];exact k1,fun g hg=>(k2 g hg).1,k3,?_⟩
   simp only[M]
   refine .inr (.inr ⟨ma,mb,c0,c1,s,rfl,rfl,aJ (aU.refl _ _) a (fun _ _ _=>rfl) (fun g' bo _=>⟨⟨bo.1,fun hx=>(k2 g' hx).2 bo.2⟩,bo.2⟩) (lN (fun q hq=>List.mem_append_left _ hq)) h0,aJ (aU.refl _ _) b' (fun _ _ _=>rfl) (fun g' bo _=>⟨⟨bo.1.1,bo.2⟩,bo.1.2⟩) (fun q hq=>?_) k4⟩)
   rcases List.mem_append.1 hq with hq |hq
   ·exact dh.2 (List.mem_append_left _ (dh.1 hq))
   ·rw[List.mem_singleton.1 hq];exact dh.2 (List.mem_append_right _ (by simp))
 | .idx i::p,.sl t,m,xs,cs,ow,hs,b,h,ho,hv,hg,hk=>by
  simp only[a8] at hg
  simp only[valid] at hv
  obtain⟨hi,hv⟩:=hv
  have eF:List.getD xs i t.z=xs[i]:=V5 _ _ _ hi
  simp only[M] at h
  rcases h with⟨hn,_⟩ |⟨fV,h⟩ |⟨T,tag,me,X,c,rfl,rfl,hc,ht,h⟩
  ·exact absurd hn ho.not_nil
  ·rw[iM p (oJ fV) hg] at hk;cases hk
  ·rcases h with⟨rfl,_⟩ |⟨g,cur,τ,rfl,qm,hw,iB,hm,h⟩
   ·simp at hi
   ·have hbound:0+i*t.size+t.size≤cur.size:=by
     have h1:=Nat.mul_le_mul_right t.size (show i+1≤xs.length from hi)
     have h2:=Nat.mul_le_mul_right t.size hc
     rw[Nat.add_mul,Nat.one_mul] at h1
     omega
    have hM:=h i hi
    rw[←eF] at hM
    obtain⟨cK,cC,h1,h2,h3,h4⟩:=Hd p hM ho.sub hv hg hk
    refine⟨cK,cC,by simp only[aS,bA hw hbound,Option.bind_some];rw[Nat.zero_add];exact h1,fun g hg=>(h2 g hg).1,h3,?_⟩
    simp only[M]
    refine .inr (.inr ⟨T,tag,me,some ⟨g,0,none⟩,c,rfl,rfl,hc,ht,.inr ⟨g,cur,τ,rfl,⟨qm,fun hx=>(h2 g hx).2.1 rfl⟩,hw,iB,hm,fun j hj=>?_⟩⟩)
    by_cases la:j=i
    ·subst la
     rw[eF] at h4
     refine aJ (aU.refl _ _) t (fun _ _ _=>rfl) (fun g' bo _=>⟨⟨bo.1.1,bo.2⟩,bo.1.2⟩) (fun q hq=>?_) h4
     rcases List.mem_append.1 hq with hq |hq
     ·exact dh.2 (List.mem_append_left _ (dh.1 hq))
     ·rw[List.mem_singleton.1 hq];exact dh.2 (List.mem_append_right _ (by simp))
    ·exact aJ (aU.refl _ _) t (fun _ _ _=>rfl) (fun g' bo _=>⟨⟨bo.1,fun hx=>la (by rw[←bo.2.2];exact(h2 g' hx).2.2)⟩,bo.2⟩) (lN (fun q hq=>List.mem_append_left _ hq)) (h j hj)
theorem lX (a:Act) (i:Nat):a.put (some i) (bZ a i)=a:=by
 unfold Act.put bZ
 simp only
 have:a.tmps.setIfInBounds i (a.tmps.getD i undef)=a.tmps:=by
  apply Array.ext_getElem?
  intro j
  rw[Array.getElem?_setIfInBounds,Array.getD_eq_getD_getElem?]
  by_cases h:i=j
  ·subst h
   by_cases hl:i<a.tmps.size
   ·simp[hl]
   ·simp[hl]
  ·simp[h]
 rw[this]
def jt (σ:Nat→Option Nat) (q s:Nat) (g:Nat):Option Nat:=if σ g=some s then some q else σ g
theorem V7 {σ:Nat→Option Nat} {Z:Nat→Prop} {q s g:Nat}:Av (jt σ q s) Z g↔Av σ Z g:=by
 unfold Av jt
 by_cases h:σ g=some s
 ·rw[if_pos h,h];exact⟨fun _=>.inl ⟨s,rfl⟩,fun _=>.inl ⟨q,rfl⟩⟩
 ·rw[if_neg h]
structure fT (σ bL:Nat→Option Nat) (n:Nat) (ow:Nat→Prop):Prop where
 MD:∀ g,ow g→∃ i,i<n∧σ g=some i
 now:∀ g,ow g→∃ i,n≤i∧bL g=some i
 sub:∀ g i,bL g=some i→i<n→σ g=some i
 dom:∀ g,(∃ i,bL g=some i)↔∃ i,σ g=some i
 par:∀ g i,σ g=some i→n≤i→bL g=some i
theorem fT.none (σ:Nat→Option Nat) (n:Nat):fT σ σ n fun _=>False:=⟨fun _ h=>h.elim,fun _ h=>h.elim,fun _ _ h _=>h,fun _=>Iff.rfl,fun _ _ h _=>h⟩
theorem fT.jt (σ:Nat→Option Nat) {n s:Nat} (hs:s<n) {ow:Nat→Prop} (h:∀ g,ow g→σ g=some s):fT σ (jt σ n s) n ow:=by
 refine⟨fun g hg=>⟨s,hs,h g hg⟩,fun g hg=>⟨n,Nat.le_refl _,by unfold Go.Pv.jt;rw[if_pos (h g hg)]⟩,fun g i hg hi=>?_,fun g=>?_,fun g i hg hi=>?_⟩
 ·unfold Go.Pv.jt at hg
  split at hg
  ·injection hg with hg;omega
  ·exact hg
 ·unfold Go.Pv.jt
  split
  ·rename_i h;rw[h];exact⟨fun _=>⟨s,rfl⟩,fun _=>⟨n,rfl⟩⟩
  ·exact Iff.rfl
 ·unfold Go.Pv.jt
  rw[if_neg (by rw[hg];intro e;injection e with e;omega)]
  exact hg
theorem fT.Av {σ bL:Nat→Option Nat} {n:Nat} {ow:Nat→Prop} (h:fT σ bL n ow) {Z:Nat→Prop} {g:Nat}:Av bL Z g↔Av σ Z g:=by
 unfold Go.Pv.Av
 rw[h.dom g]
theorem dZ {S:St} {i:Nat} (h:S.at i≠ .dead):i<S.length:=by
 rcases Nat.lt_or_ge i S.length with hl |hl
 ·exact hl
 ·refine absurd ?_ h
  unfold St.at
  rw[List.getD_eq_getElem?_getD,List.getElem?_eq_none hl]
  rfl
theorem a6.jt (h:a6 σ w0 W0 Z H S a w) (i:Nat):a6 (jt σ S.length i) w0 W0 Z H (S.put (some i) .dead) a w:=by
 have bU:aU w w (Av σ Z) (Av (Go.Pv.jt σ S.length i) Z):=⟨fun _ _ _=>rfl,fun g _ hg=>V7.1 hg⟩
 have hs:∀ g j,Go.Pv.jt σ S.length i g=some j→∃ k,σ g=some k:=fun g j hg=>by
  unfold Go.Pv.jt at hg
  split at hg
  ·exact⟨_,by assumption⟩
  ·exact⟨_,hg⟩
 have:=h.put (dst:=some i) (av:=.dead) (v:=bZ a i) bU h.fr (fun g j hg=>by
  obtain⟨k,hk⟩:=hs g j hg
  exact⟨h.new g k hk,h.lt g k hk⟩) (fun g hg=>by unfold Go.Pv.jt;rw[(h.old g hg).1];simp) (fun j g _ hd hg=>⟨rfl,by unfold Go.Pv.jt;rw[if_neg (by rw[hg];intro e;exact hd e.symm)];exact hg⟩) (fun _ _ _ _=>trivial)
 rw[lX] at this
 exact this
theorem Ef (S:St) (d:Nat) (p:Path) (i:Nat):(S.cover d p).at i=match S.at i with
  | .ad t s q=>bif Nat.beq s d&&under p q then .dead else .ad t s q
  |a=>a:=DW S _ rfl i
theorem Ref.re {t:Ty} {s:Nat} {p:Path} {r:TV} {cM:List Value} (h:Ref tm S t s p r cM) (hk:∀ ex,S.at s=.v r ex→open_ p ex→∃ Dc,S'.at s=.v r Dc∧open_ p Dc):Ref tm S' t s p r cM:=by
 obtain⟨⟨ex,h1,h2⟩,h3,h4,h5⟩:=h
 exact⟨hk ex h1 h2,h3,h4,h5⟩
theorem gd {d:Nat} {p:Path} {r:TV} {ex:List Path} (hd:S.at d=.v r ex) (hS:∀ i r' Dc,i≠d→S.at i=.v r' Dc→S'.at i=.v r' Dc) (hS':S'.at d=.v r (ex++[p])) {own:Nat→Prop} {av:AV} {v:Value}
  (hf:av.eJ d=false) (hc:∀ t q,av=.ad t d q→under p q=false) (h:Holds w A H tm S own av v) (hnv:∀ b ex,av≠ .v b ex) (hnt:∀ l,av≠ .th l):Holds w A H tm S' own av v:=by
 have hre:∀ {t:Ty} {s:Nat} {q:Path} {r':TV} {cM:List Value},Ref tm S t s q r' cM→(s=d→under p q=false)→Ref tm S' t s q r' cM:=by
  intro t s q r' cM hr hu
  refine hr.re (fun ex1 h1 h2=>?_)
  by_cases zX:s=d
  ·subst zX
   rw[hd] at h1
   injection h1 with h1 h1'
   subst h1 h1'
   refine⟨ex++[p],hS',fun q' qE s' r' e=>?_⟩
   rcases List.mem_append.1 qE with qE |qE
   ·exact h2 q' qE s' r' e
   ·rw[List.mem_singleton.1 qE] at e
    have:=hu rfl
    rw[e,lL] at this
    cases this
  ·exact⟨ex1,hS s r' ex1 zX h1,h2⟩
 have ajm:under p []=false:=by cases p<;>rfl
 cases av with
 |dead=>trivial
 |undef=>exact h
 |v b ex=>exact absurd rfl (hnv _ _)
 |th l=>exact absurd rfl (hnt _)
 |al t s q=>
  obtain⟨r',cM,cs,h1,h2,h3⟩:=h
  refine⟨r',cM,cs,hre h1 (fun e=>?_),h2,h3⟩
  subst e
  cases q with
  |nil=>exact ajm
  |cons _ _=>simp[AV.eJ] at hf
 |ad t s q=>
  obtain⟨r',cM,g,off,h1,h2,h3⟩:=h
  exact⟨r',cM,g,off,hre h1 (fun e=>by subst e;exact hc _ _ rfl),h2,h3⟩
 |cut t s q lo hi=>
  obtain⟨r',cM,t',X,n,c,h1,h2⟩:=h
  refine⟨r',cM,t',X,n,c,hre h1 (fun e=>?_),h2⟩
  subst e
  simp[AV.eJ] at hf
 |k8 f cw=>
  obtain⟨vs,h1,h2,h3⟩:=h
  refine⟨vs,h1,h2,fun j c hj=>?_⟩
  obtain⟨u,k1,k2⟩:=h3 j c hj
  refine⟨u,k1,?_⟩
  cases c with
  |kv b=>exact k2
  |pl t s q=>
   obtain⟨r',cM,cs,l1,l2,l3⟩:=k2
   refine⟨r',cM,cs,hre l1 (fun e=>?_),l2,l3⟩
   subst e
   cases q with
   |nil=>exact ajm
   |cons a' q'=>
    simp only[AV.eJ] at hf
    have nF:=List.any_eq_false.1 hf _ (List.mem_of_getElem? hj)
    simp at nF
theorem eB (h:a6 σ w0 W0 Z H S a w) {T:TypeId} {x:Operand} {av:AV} {b:TV} (ho:S.dM Θ T x=some av) (e:S.dB x av=some (b,S1)):
  ∃ bL cs ow,a6 bL w0 W0 Z H S1 a w∧ax b.t (a.eval x) cs∧M w (Av σ Z) H b.t b.m b.x cs ow []∧fT σ bL S.length ow∧S1.length=S.length:=by
 have hh:=bC h ho
 cases av with
 |v b0 ex=>
  simp only[St.dB] at e
  cases hk:b0.m.bM with
  |true=>
   rw[hk] at e
   simp only[cond_true,Option.some.injEq,Prod.mk.injEq] at e
   obtain⟨rfl,rfl⟩:=e
   obtain⟨cs,h1,h2⟩:=hh
   exact⟨σ,cs,fun _=>False,h,h1,nE hk (ft _ hk h2),fT.none _ _,rfl⟩
  |false=>
   rw[hk] at e
   simp only[cond_false] at e
   split at e
   ·rename_i i
    simp only[Option.some.injEq,Prod.mk.injEq] at e
    obtain⟨rfl,rfl⟩:=e
    obtain⟨cs,h1,h2⟩:=hh
    refine⟨_,cs,_,h.jt i,h1,h2,fT.jt σ (dZ ?_) (fun g hg=>?_),b5 _ _ _⟩
    ·simp only[St.dM,Option.some.injEq] at ho
     rw[ho]
     exact fun e=>by cases e
    ·obtain⟨j,hj,hg⟩:=hg
     injection hj with hj
     subst hj
     exact hg
   ·rename_i hx
    simp only[Option.some.injEq,Prod.mk.injEq] at e
    obtain⟨rfl,rfl⟩:=e
    obtain⟨cs,h1,h2⟩:=hh
    refine⟨σ,cs,fun _=>False,h,h1,aJ (aU.refl _ _) _ (fun _ _ _=>rfl) (fun g hg _=>?_) (fun _ h=>h) h2,fT.none _ _,rfl⟩
    obtain⟨j,hj,_⟩:=hg
    exact hx j hj
   ·cases e
 |al t s p=>
  simp only[St.dB] at e
  obtain⟨r,cM,cs,hr,hc,hm⟩:=hh
  split at e
  ·rename_i b' hb
   cases hk:b'.m.bM with
   |true=>
    rw[hk] at e
    simp only[cond_true,Option.some.injEq,Prod.mk.injEq] at e
    obtain⟨rfl,rfl⟩:=e
    obtain⟨zT,cC,_,hM⟩:=c8 h hr hc hb
    exact⟨σ,cs,fun _=>False,h,by rw[zT];exact hm,nE hk (ft _ hk hM),fT.none _ _,rfl⟩
   |false=>
    rw[hk] at e
    simp only[cond_false] at e
    cases hp:p with
    |nil=>
     subst hp
     simp only[Option.some.injEq,Prod.mk.injEq] at e
     obtain⟨rfl,rfl⟩:=e
     obtain⟨zT,cC,qG,hM⟩:=c8 h hr hc hb
     obtain⟨ex0,V8,_⟩:=hr.at_
     exact⟨_,cs,cC,h.jt s,by rw[zT];exact hm,hM,fT.jt σ (dZ (by rw[V8];exact fun e=>by cases e)) qG,b5 _ _ _⟩
    |cons Ig pp=>
     rw[hp] at e
     obtain⟨ex,b2,cK,ow0,j1,j2,j3,j4,hM,j5,j6,j7⟩:=fE h hr
     rw[j1] at e
     simp only[Option.some.injEq,Prod.mk.injEq] at e
     rw[←hp] at e
     obtain⟨rfl,rfl⟩:=e
     obtain⟨r3,ex3,q1,q2,q3⟩:=oV hb
     rw[j1] at q1
     injection q1 with q1 D'
     subst q1 D'
     rw[j3] at q3
     injection q3 with q3
     subst q3
     obtain⟨cs2,cC,k1,k2,k3,k4⟩:=Hd p hM j2 hr.val j3 hk
     rw[hc] at k1
     injection k1 with k1
     subst k1
     rw[tD q2] at k3
     -- the ownership without what is taken
     have acM:s<S.length:=dZ (by rw[j1];exact fun e=>by cases e)
     let bL:Nat→Option Nat:=fun g=>open Classical in if cC g then some S.length else σ g
     have Eg:∀ g i,bL g=some i→∃ k,σ g=some k:=by
      intro g i hg
      simp only[bL] at hg
      split at hg
      ·exact⟨s,k2 g (by assumption)⟩
      ·exact⟨i,hg⟩
     have Eh:∀ g i,σ g=some i→¬cC g→bL g=some i:=by
      intro g i hg hn
      simp only[bL,if_neg hn,hg]
     have bU:aU w w (Av σ Z) (Av bL Z):=⟨fun _ _ _=>rfl,fun g _ hg=>by
      rcases hg with⟨i,hg⟩ |hg
      ·exact .inl (Eg g i hg)
      ·exact .inr hg⟩
     have acN:fT σ bL S.length cC:=by
      refine⟨fun g hg=>⟨s,acM,k2 g hg⟩,fun g hg=>⟨_,Nat.le_refl _,by simp only[bL,if_pos hg]⟩,fun g i hg hi=>?_,fun g=>⟨fun⟨i,hg⟩=>Eg g i hg,fun⟨i,hg⟩=>?_⟩,fun g i hg hi=>Eh g i hg (fun hx=>?_)⟩
      ·simp only[bL] at hg
       split at hg
       ·injection hg with hg;omega
       ·exact hg
      ·simp only[bL]
       split
       ·exact⟨_,rfl⟩
       ·exact⟨i,hg⟩
      ·have:=k2 g hx
       rw[hg] at this
       injection this with this
       omega
     refine⟨bL,cs,cC,?_,by rw[j4];exact hm,k3,acN,by simp[St.weaken,St.cover]⟩
     have hlen:((S.weaken s).cover s p).length=S.length:=by simp[St.weaken,St.cover]
     have Gv:s<S.length:=by
      rcases Nat.lt_or_ge s S.length with hl |hl
      ·exact hl
      ·unfold St.at at j1
       rw[List.getD_eq_getElem?_getD,List.getElem?_eq_none hl] at j1
       cases j1
     have Aj:St.at (((S.weaken s).cover s p).set s (.v r (ex++[p]))) s=.v r (ex++[p]):=by rw[cQ,if_pos ⟨rfl,by rw[hlen];exact Gv⟩]
     have kI:∀ i,i≠s→St.at (((S.weaken s).cover s p).set s (.v r (ex++[p]))) i=(match (bif (S.at i).eJ s then AV.dead else S.at i) with
       | .ad t s' q=>bif Nat.beq s' s&&under p q then .dead else .ad t s' q
       |a=>a):=by
      intro i hi
      rw[cQ,if_neg (fun e=>hi e.1),Ef,jF]
     refine⟨by simp only[List.length_set,hlen];exact h.len,h.defers,h.fr,fun g i hg=>(Eg g i hg).elim fun k hk=>h.new g k hk,fun g i hg=>(Eg g i hg).elim fun k hk=>h.lt g k hk,fun g hg=>⟨?_,(h.old g hg).2⟩,fun i=>?_⟩
     ·simp only[bL]
      split
      ·rename_i hx
       have:=k2 g hx
       rw[(h.old g hg).1] at this
       cases this
      ·exact(h.old g hg).1
     ·by_cases Q4:i=s
      ·subst Q4
       rw[Aj]
       exact⟨cM,hr.mat,aJ bU _ (fun _ _ _=>rfl) (fun g hg _=>Eh g _ hg.1 hg.2) (fun _ h=>h) k4⟩
      ·rw[kI i Q4]
       cases qo:(S.at i).eJ s with
       |true=>trivial
       |false=>
        simp only[cond_false]
        have hi:=h.holds i
        have base:Holds w (Av bL Z) H (bZ a) S (fun g=>bL g=some i) (S.at i) (bZ a i):=
         hi.kept bU (fun g hg _=>⟨rfl,Eh g i hg (fun hx=>Q4 (by have:=k2 g hx;rw[hg] at this;injection this))⟩) (fun s' _=>⟨fun _ _ h=>h,rfl,_,h.holds s',fun _ _ _=>rfl⟩)
        have hSv:∀ j r' Dc,j≠s→S.at j=.v r' Dc→St.at (((S.weaken s).cover s p).set s (.v r (ex++[p]))) j=.v r' Dc:=by
         intro j r' Dc hj hv
         rw[kI j hj,hv]
         simp[AV.eJ]
        cases e7:S.at i with
        |v b3 ex3=>
         rw[e7] at base
         obtain⟨c3,l1,l2⟩:=base
         exact⟨c3,l1,l2⟩
        |th l=>
         rw[e7] at base
         exact base
        |ad t' s' q=>
         rw[e7] at base qo
         simp only
         cases atf:(Nat.beq s' s&&under p q) with
         |true=>trivial
         |false=>
          simp only[cond_false]
          refine gd j1 hSv Aj qo (fun t2 q2 e2=>?_) base (fun _ _ e=>by cases e) (fun _ e=>by cases e)
          injection e2 with _ e3 e4
          subst e3 e4
          simpa using atf
        |dead=>trivial
        |undef=>rw[e7] at base;exact base
        |al t' s' q=>
         rw[e7] at base qo
         exact gd j1 hSv Aj qo (fun t2 q2 e2=>by cases e2) base (fun _ _ e=>by cases e) (fun _ e=>by cases e)
        |cut t' s' q lo Mh=>
         rw[e7] at base qo
         exact gd j1 hSv Aj qo (fun t2 q2 e2=>by cases e2) base (fun _ _ e=>by cases e) (fun _ e=>by cases e)
        |k8 f cw=>
         rw[e7] at base qo
         exact gd j1 hSv Aj qo (fun t2 q2 e2=>by cases e2) base (fun _ _ e=>by cases e) (fun _ e=>by cases e)
  ·cases e
 |cut t s p lo hi=>
  cases p with
  |cons _ _=>simp[St.dB] at e
  |nil=>
   simp only[St.dB] at e
   obtain⟨r,cM,t',X,n,c,hr,rfl,hc,Zi,DZ,hv⟩:=hh
   split at e
   ·rename_i t2 T2 tag me xs hb
    cases atg:Nat.beq lo 0 with
    |false=>rw[atg] at e;cases e
    |true=>
     rw[atg] at e
     have hl0:=Nat.eq_of_beq_eq_true atg
     subst hl0
     simp only[cond_true,Option.some.injEq,Prod.mk.injEq] at e
     obtain⟨rfl,rfl⟩:=e
     obtain⟨zT,cC,qG,hM⟩:=c8 h hr hc hb
     injection zT with zT
     subst zT
     simp only[M] at hM
     rcases hM with⟨hn,_⟩ |⟨hk,_⟩ |⟨T3,aAh,me3,X3,c3,e3,e4,hcc,ajl,hM⟩
     ·simp at hn
     ·simp[Md.bM] at hk
     ·injection e3 with e3 e3' azr
      subst e3 e3' azr
      simp only[List.cons.injEq,Value.slice.injEq,and_true] at e4
      obtain⟨rfl,hn,rfl⟩:=e4
      have hv':a.eval x=.slice X hi c:=by
       rw[hv]
       have:(if c=0 then X else X.map fun x=>x.add (0*Ty.size t2))=X:=by
        split
        ·rfl
        ·cases X with
         |none=>rfl
         |some ad=>simp[Addr.add]
       rw[this]
       simp
      have hlen:(List.take hi xs).length=hi:=by rw[List.length_take];omega
      obtain⟨ex0,V8,_⟩:=hr.at_
      refine⟨_,[.slice X hi c],cC,h.jt s,by simp[ax,isAgg,hv'],?_,fT.jt σ (dZ (by rw[V8];exact fun e=>by cases e)) qG,b5 _ _ _⟩
      simp only[M]
      refine .inr (.inr ⟨T2,none,me,X,c,rfl,by rw[hlen],by rw[hlen];omega,fun h hh=>(by cases hh),?_⟩)
      rcases hM with⟨rfl,rfl⟩ |⟨g,cur,τ,rfl,hg,hw,iB,hm,hj⟩
      ·left
       simp
      ·right
       refine⟨g,cur,τ,rfl,hg,hw,iB,hm,fun j Gs=>?_⟩
       rw[hlen] at Gs
       have:=hj j (by omega)
       rw[List.getElem_take]
       exact this
   ·cases e
 |_=>simp[St.dB] at e
noncomputable def gf (σ:Nat→Option Nat) (dst:Option Nat) (ow:Nat→Prop) (g:Nat):Option Nat:=open Classical in if ow g then dst else release σ dst g
theorem a6.V9 (h:a6 σ w0 W0 Z H S a w) {av:AV} {ow:Nat→Prop} (iB:w.heap.size≤w'.heap.size) (km:∀ g,g<w.heap.size→(∀ i,S.length≤i→σ g≠some i)→w'.heap[g]?=w.heap[g]?) (qo:Fr w0 W0 w')
  (qG:∀ g,ow g→g<w'.heap.size∧((∃ i,S.length≤i∧σ g=some i)∨w.heap.size≤g))
  (hH:∀ d,dst=some d→(∀ g,ow g→gf σ dst ow g=some d)→(∀ g,Av (gf σ dst ow) Z g→Av σ Z g∨ow g)→Holds w' (Av (gf σ dst ow) Z) H (bZ (a.put dst v)) (S.put dst av) (fun g=>gf σ dst ow g=some d) av v):
  a6 (gf σ dst ow) w0 W0 Z H (S.put dst av) (a.put dst v) w':=by
 have hw0:w0.heap.size≤w.heap.size:=h.fr.size
 have e7:∀ g i,gf σ dst ow g=some i→(ow g∧dst=some i)∨(¬ow g∧σ g=some i∧dst≠some i):=fun g i hg=>by
  unfold gf at hg
  split at hg
  ·exact .inl ⟨by assumption,hg⟩
  ·exact .inr ⟨by assumption,fb hg⟩
 have hAv:∀ g,Av (gf σ dst ow) Z g→Av σ Z g∨ow g:=fun g hg=>by
  rcases hg with⟨i,hg⟩ |hg
  ·rcases e7 g i hg with⟨h1,_⟩ |⟨_,h1,_⟩
   ·exact .inr h1
   ·exact .inl (.inl ⟨i,h1⟩)
  ·exact .inl (.inr hg)
 have bU:aU w w' (Av σ Z) (Av (gf σ dst ow) Z):=⟨fun g hn hg=>km g hg (fun i _ hi=>hn (.inl ⟨i,hi⟩)),fun g hg hx=>by
  rcases hAv g hx with h1 |h1
  ·exact h1
  ·rcases(qG g h1).2 with⟨i,_,hi⟩ |h2
   ·exact .inl ⟨i,hi⟩
   ·omega⟩
 refine h.put bU qo (fun g i hg=>?_) (fun g hg=>?_) (fun i g hi hd hg=>⟨km g (h.lt g i hg) (fun j hj oz=>by rw[hg] at oz;injection oz with oz;omega),?_⟩) (fun d hd hl _=>hH d hd (fun g hg=>by unfold gf;rw[if_pos hg];exact hd) hAv)
 ·rcases e7 g i hg with⟨h1,_⟩ |⟨_,h1,_⟩
  ·rcases qG g h1 with⟨h2,⟨j,_,hj⟩ |h3⟩
   ·exact⟨h.new g j hj,h2⟩
   ·exact⟨.inl (by omega),h2⟩
  ·exact⟨h.new g i h1,by have:=h.lt g i h1;omega⟩
 ·obtain⟨h1,h2⟩:=h.old g hg
  unfold gf
  split
  ·rename_i hx
   rcases(qG g hx).2 with⟨i,_,hi⟩ |h3
   ·rw[h1] at hi;cases hi
   ·omega
  ·unfold release
   split
   ·rfl
   ·exact h1
 ·have hn: ¬ow g:=fun hx=>by
   rcases(qG g hx).2 with⟨j,hj,oz⟩ |h3
   ·rw[hg] at oz;injection oz with oz;omega
   ·have:=h.lt g i hg;omega
  unfold gf
  rw[if_neg hn]
  exact ld hd hg
theorem a6.arL (h:a6 σ w0 W0 Z H S a w) {b:TV} {cs:List Value} {ow:Nat→Prop} {A':Nat→Prop} (iB:w.heap.size≤w'.heap.size) (km:∀ g,g<w.heap.size→(∀ i,S.length≤i→σ g≠some i)→w'.heap[g]?=w.heap[g]?) (qo:Fr w0 W0 w')
  (qG:∀ g,ow g→g<w'.heap.size∧((∃ i,S.length≤i∧σ g=some i)∨w.heap.size≤g)) (hA:∀ g,g<w'.heap.size→Av σ Z g∨ow g→A' g)
  (hm:ax b.t v cs) (hM:M w' A' H b.t b.m b.x cs ow []):
  a6 (gf σ dst ow) w0 W0 Z H (S.put dst (.v b [])) (a.put dst v) w':=
 h.V9 iB km qo qG fun d _ h1 h2=>⟨cs,hm,aJ ⟨fun _ _ _=>rfl,fun g hg hx=>hA g hg (h2 g hx)⟩ _ (fun _ _ _=>rfl) (fun g hg _=>h1 g hg) (fun _ h=>h) hM⟩
theorem a6.ME (h:a6 σ w0 W0 Z H S a w) {b:TV} {cs:List Value} {ow:Nat→Prop} {A':Nat→Prop} (km:∀ g,g<w.heap.size→w'.heap[g]?=w.heap[g]?) (qo:Fr w0 W0 w')
  (qG:∀ g,ow g→g<w'.heap.size∧((∃ i,S.length≤i∧σ g=some i)∨w.heap.size≤g)) (hA:∀ g,g<w'.heap.size→Av σ Z g∨ow g→A' g)
  (hm:ax b.t v cs) (hM:M w' A' H b.t b.m b.x cs ow []):
  a6 (gf σ dst ow) w0 W0 Z H (S.put dst (.v b [])) (a.put dst v) w':=by
 refine h.arL ?_ (fun g hg _=>km g hg) qo qG hA hm hM
 rcases Nat.eq_zero_or_pos w.heap.size with h0 |h0
 ·omega
 ·have:=km (w.heap.size - 1) (by omega)
  rw[Array.getElem?_eq_getElem (show w.heap.size - 1<w.heap.size by omega)] at this
  have:=bg this
  omega
end Go.Pv
namespace Go.Pv
set_option linter.unusedVariables false
set_option linter.unusedSimpArgs false
variable {P:Program} {w w':World} {A A' Wr:Nat→Prop} {H:Nat→Value} {tm qH:Nat→Value} {S S' S1:St} {σ bL:Nat→Option Nat} {w0:World} {W0 Z:Nat→Prop} {a:Act} {own:Nat→Prop} {v:Value} {Θ:db} {dst:Option Nat}
theorem iO:∀ (t:Ty),kg t=true→K w A t t.z (zc t)
 | .int k,_=>by simp[K,zc,Ty.z]
 | .bool,_=>by simp[K,zc,Ty.z]
 | .str,_=>by simp[K,zc,Ty.z]
 | .unit,_=>by simp[K,zc]
 | .sl t,_=>by simp only[K,zc,Ty.z];exact⟨none,0,rfl,Nat.le_refl _,fun h=>absurd h (Nat.lt_irrefl _)⟩
 | .pair a b,h=>by
  simp only[kg,Bool.and_eq_true] at h
  simp only[K,zc,Ty.z]
  exact⟨_,_,rfl,iO a h.1,iO b h.2⟩
 | .ptr t,h=>by simp[kg] at h
 | .arr n t,h=>by simp[kg] at h
theorem Ik {t:Ty} {x:t.I} {m:Md} {cs:List Value} {ow:Nat→Prop} (h:M w A H t m x cs (fun _=>False) []):M w A H t m x cs ow []:=aJ (aU.refl _ _) t (fun _ _ _=>rfl) (fun _ h _=>h.elim) (fun _ h=>h) h
theorem Ei:∀ (t:Ty) {m:Md},tZ t m=true→M w A H t m t.z (zc t) (fun _=>False) []
 | .pair a b,.p ma mb,h=>by
  simp only[tZ,Bool.or_eq_true,Bool.and_eq_true] at h
  rcases h with h |h
  ·simp only[M]
   exact .inr (.inr ⟨ma,mb,zc a,zc b,fun _=>True,rfl,rfl,Ik (Ei a h.1),Ik (Ei b h.2)⟩)
  ·exact nE (by simp[Md.bM,h.1.1.1,h.1.1.2]) (by simp only[K,zc,Ty.z];exact⟨_,_,rfl,iO a h.1.2,iO b h.2⟩)
 | .sl t,.o T none me,_=>by
  simp only[M]
  exact .inr (.inr ⟨T,none,me,none,0,rfl,rfl,Nat.le_refl _,fun h hh=>(by cases hh),.inl ⟨rfl,rfl⟩⟩)
 | .pair a b,.k,h=>by
  simp only[tZ,Bool.and_eq_true] at h
  exact nE h.1 (iO _ h.2)
 | .pair a b,.o ..,h=>by simp[tZ,Md.bM] at h
 | .sl t,.k,h=>by
  simp only[tZ,Bool.and_eq_true] at h
  exact nE h.1 (iO _ h.2)
 | .sl t,.o _ (some _) _,h=>by simp[tZ,Md.bM] at h
 | .sl t,.p a b,h=>by
  simp only[tZ,Bool.and_eq_true] at h
  exact nE h.1 (iO _ h.2)
 | .int k,m,h=>by
  have h:(m.bM&&kg (.int k))=true:=by cases m<;>exact h
  simp only[Bool.and_eq_true] at h
  exact nE h.1 (iO _ h.2)
 | .bool,m,h=>by
  have h:(m.bM&&kg .bool)=true:=by cases m<;>exact h
  simp only[Bool.and_eq_true] at h
  exact nE h.1 (iO _ h.2)
 | .str,m,h=>by
  have h:(m.bM&&kg .str)=true:=by cases m<;>exact h
  simp only[Bool.and_eq_true] at h
  exact nE h.1 (iO _ h.2)
 | .unit,m,h=>by
  have h:(m.bM&&kg .unit)=true:=by cases m<;>exact h
  simp only[Bool.and_eq_true] at h
  exact nE h.1 (iO _ h.2)
 | .ptr t,m,h=>by
  have h:(m.bM&&kg (.ptr t))=true:=by cases m<;>exact h
  simp[kg] at h
 | .arr n t,m,h=>by
  have h:(m.bM&&kg (.arr n t))=true:=by cases m<;>exact h
  simp[kg] at h
theorem Ak (hT:cN P Θ=true) {T:TypeId} {z:TV} (h:qI Θ T=some z):
  ∃ i inf zv,Θ.find T=some i∧i.ty=z.t∧z.x=z.t.z∧tZ z.t z.m=true∧P.info? T=some inf∧inf.size=z.t.size∧inf.zero=some zv∧ax z.t zv (zc z.t)∧inf.bytes≤32*z.t.size∧inf.bytes≤256:=by
 unfold qI at h
 split at h
 ·rename_i i hi
  cases hz:tZ i.ty (Mb Θ 9 T) with
  |false=>rw[hz] at h;cases h
  |true=>
   rw[hz] at h
   simp only[cond_true,Option.some.injEq] at h
   subst h
   obtain⟨⟨_,inf,zv,h1,h2,h3,h4,h5,h6,h7⟩,_,rfl⟩:=cR hT hi
   exact⟨i,inf,zv,hi,rfl,rfl,hz,h1,h2,h6,h7,h3,h4⟩
 ·cases h
theorem Fr.alloc (h:Fr w0 W0 w) (o:Obj):Fr w0 W0 (w.alloc o):=by
 refine⟨h.os,h.tape,h.output,?_,fun g hg hn=>?_⟩
 ·have:=h.size
  simp only[World.alloc,Array.size_push];omega
 ·rw[heap_alloc_old w o g (by have:=h.size;omega)]
  exact h.block g hg hn
theorem hZ {t:Ty} {v:Value} {cs:List Value} (h:ax t v cs) (h1:∀ u∈cs,u.oneCell'=true):v.cells=cs.toArray:=by
 have:=H7 h h1
 rw[←this]
theorem MF {t:Ty} {m:Md} {x:t.I} {cs:List Value} {ow:Nat→Prop} (T:TypeId) (hM:M w A H t m x cs ow []) (cP:∀ g,ow g→g<w.heap.size):
  M (w.alloc (.cells cs.toArray T)) (fun g=>A g∨w.heap.size≤g) H (.ptr t) (.o T none m) x [.pointer (some ⟨w.heap.size,0,none⟩)] (fun g=>ow g∨g=w.heap.size) []:=by
 simp only[M]
 refine .inr (.inr ⟨T,none,m,w.heap.size,cs.toArray,rfl,rfl,fun h hh=>(by cases hh),.inr rfl,heap_alloc_new w _,?_⟩)
 refine aJ (w:=w) ⟨fun g _ hg=>heap_alloc_old w _ g hg,fun g hg hx=>?_⟩ t (fun g hg hl=>heap_alloc_old w _ g hl) (fun g hg hl=>⟨.inl hg,by omega⟩) (fun _ h=>(by simp at h)) hM
 rcases hx with hx |hx
 ·exact hx
 ·omega
def Cd (P:Program) (w0:World) (W0 Z:Nat→Prop) (H:Nat→Value) (S':St) (a:Act) (dst:Option Nat) (w:World) (s:Sem Next):Prop:=
 ∃ w' v,s.run P w=.ok (.value v) w'∧Ext w w'∧Rel w0 W0 Z H S' (a.put dst v) w'
theorem Cd.axD {s:Sem Next} (h:Cd P w0 W0 Z H S' a dst w s):Ii P w0 W0 Z H S' a dst w s:=by
 obtain⟨w',v,h1,_,h2⟩:=h
 exact⟨w',v,.inl h1,h2⟩
theorem gG.C6 {s:Sem Next} (h:gG P w0 W0 Z H S' a dst w s):Cd P w0 W0 Z H S' a dst w s:=by
 obtain⟨v,h1,h2⟩:=h
 exact⟨w,v,h1 w (Ext.refl w),Ext.refl w,h2⟩
theorem acO (hT:cN P Θ=true) (h:a6 σ w0 W0 Z H S a w) {hn:Hn} {o:Oper} {T:TypeId} (ho:o.op=.alloc T) (e:oH Θ hn S o.dst T=some (true,S')):Cd P w0 W0 Z H S' a o.dst w (execOp a.eval o):=by
 unfold oH at e
 split at e
 ·rename_i z hz
  cases hf:tZ z.t (hn.find o.dst z.m) with
  |false=>rw[hf] at e;cases e
  |true=>
   rw[hf] at e
   simp only[cond_true,Option.some.injEq,Prod.mk.injEq,true_and] at e
   subst e
   obtain⟨i,inf,zv,_,_,_,_,h1,h2,h3,h4,_⟩:=Ak hT hz
   have hM:M w (Av σ Z) H z.t (hn.find o.dst z.m) z.t.z (zc z.t) (fun _=>False) []:=Ei z.t hf
   have ath:=MF T hM (fun _ h=>h.elim)
   refine⟨w.alloc (.cells (zc z.t).toArray T),.pointer (some ⟨w.heap.size,0,none⟩),?_,fun g hg=>heap_alloc_old w _ g hg,_,h.ME (b:=⟨.ptr z.t,.o T none (hn.find o.dst z.m),z.t.z⟩) (cs:=[.pointer (some ⟨w.heap.size,0,none⟩)]) (fun g hg=>heap_alloc_old w _ g hg) (h.fr.alloc _) (fun g hg=>?_) (fun g hg hx=>?_) (by simp[ax,isAgg]) ath⟩
   ·simp[execOp,ho,Instr.alloc,zeroValue,typeInfo,h1,h3,newVar,newRow,hZ h4 (eo _ hM).2]
   ·rcases hg with hg |rfl
    ·exact hg.elim
    ·exact⟨by simp only[World.alloc,Array.size_push];omega,.inr (Nat.le_refl _)⟩
   ·rcases hx with hx |hx |rfl
    ·exact .inl hx
    ·exact hx.elim
    ·exact .inr (Nat.le_refl _)
 ·cases e
theorem nU {b:TV} {cs:List Value} {ow:Nat→Prop} {s:Sem Next} {n:Nat} (h:a6 bL w0 W0 Z H S1 a w) (hk:fT σ bL n ow) (hn:S1.length=n) (hr:∀ w2,Ext w w2→s.run P w2=.ok (.value v) w2) (hm:ax b.t v cs) (hM:M w (Av σ Z) H b.t b.m b.x cs ow []):
  gG P w0 W0 Z H (S1.put dst (.v b [])) a dst w s:=by
 refine⟨v,hr,_,h.ME (b:=b) (cs:=cs) (fun _ _=>rfl) h.fr (fun g hg=>?_) (fun g hg hx=>?_) hm hM⟩
 ·obtain⟨i,hi,bo⟩:=hk.now g hg
  exact⟨h.lt g i bo,.inl ⟨i,by omega,bo⟩⟩
 ·rcases hx with hx |hx
  ·exact hk.Av.1 hx
  ·obtain⟨i,hi,bo⟩:=hk.MD g hx
   exact .inl ⟨i,bo⟩
theorem ati (hT:cN P Θ=true) (h:a6 σ w0 W0 Z H S a w) {o:Oper} {T:TypeId} {x:Operand} (ho:o.op=.box T x) (e:ace Θ S o.dst T x=some (true,S')):Cd P w0 W0 Z H S' a o.dst w (execOp a.eval o):=by
 unfold ace St.take at e
 split at e
 ·rename_i b S1 hb
  split at hb
  ·rename_i av dz
   obtain⟨bL,cs,ow,h1,hm,hM,hk,hn⟩:=eB h dz hb
   cases hc:Θ.is T b.t with
   |false=>rw[hc] at e;cases e
   |true=>
    rw[hc] at e
    simp only[cond_true,Option.some.injEq,Prod.mk.injEq,true_and] at e
    subst e
    have cP:∀ g,ow g→g<w.heap.size:=fun g hg=>by
     obtain⟨i,_,hi⟩:=hk.MD g hg
     exact h.lt g i hi
    have ath:=MF T hM cP
    refine⟨w.alloc (.cells cs.toArray T),.pointer (some ⟨w.heap.size,0,none⟩),?_,fun g hg=>heap_alloc_old w _ g hg,_,h1.ME (b:=⟨.ptr b.t,.o T none b.m,b.x⟩) (cs:=[.pointer (some ⟨w.heap.size,0,none⟩)]) (fun g hg=>heap_alloc_old w _ g hg) (h1.fr.alloc _) (fun g hg=>?_) (fun g hg hx=>?_) (by simp[ax,isAgg]) ath⟩
    ·simp[execOp,ho,Instr.box,newVar,newRow,hZ hm (eo _ hM).2]
    ·rcases hg with hg |rfl
     ·obtain⟨i,hi,bo⟩:=hk.now g hg
      have:=cP g hg
      exact⟨by simp only[World.alloc,Array.size_push];omega,.inl ⟨i,by omega,bo⟩⟩
     ·exact⟨by simp only[World.alloc,Array.size_push];omega,.inr (Nat.le_refl _)⟩
    ·rcases hx with hx |hx |rfl
     ·exact .inl (hk.Av.1 hx)
     ·obtain⟨i,_,hi⟩:=hk.MD g hx
      exact .inl (.inl ⟨i,hi⟩)
     ·exact .inr (Nat.le_refl _)
  ·cases hb
 ·cases e
end Go.Pv
namespace Go.Pv
set_option linter.unusedVariables false
set_option linter.unusedSimpArgs false
variable {P:Program} {w w':World} {A A' Wr:Nat→Prop} {H:Nat→Value} {tm qH:Nat→Value} {S S' S1:St} {σ bL:Nat→Option Nat} {w0:World} {W0 Z:Nat→Prop} {a:Act} {own:Nat→Prop} {v:Value} {Θ:db} {dst:Option Nat}
theorem sy:∀ (p:Path) {t:Ty} {m:Md} {x:t.I} {b b0:TV} {r:Md×t.I},fW b p t m x=some r→a8 p t m x=some b0→b.t=b0.t
 |[],t,m,x,b,b0,r,h,hg=>by
  simp only[a8,Option.some.injEq] at hg
  subst hg
  simp only[fW] at h
  split at h
  ·assumption
  ·cases h
 | .deref::p,.ptr t,.o T tag me,x,b,b0,r,h,hg=>by
  simp only[fW] at h
  simp only[a8] at hg
  split at h
  ·rename_i r1 h1
   exact sy p h1 hg
  ·cases h
 | .fst::p,.pair t u,m,x,b,b0,r,h,hg=>by
  simp only[fW] at h
  simp only[a8] at hg
  split at h
  ·rename_i r1 h1
   exact sy p h1 hg
  ·cases h
 | .snd::p,.pair t u,m,x,b,b0,r,h,hg=>by
  simp only[fW] at h
  simp only[a8] at hg
  split at h
  ·rename_i r1 h1
   exact sy p h1 hg
  ·cases h
 | .idx i::p,.sl t,.o T tag me,xs,b,b0,r,h,hg=>by
  obtain⟨r1,h1,_⟩:=DN h
  simp only[a8] at hg
  exact sy p h1 hg
theorem iP:∀ (q:Path) {t:Ty} {x y:t.I},aL q=true→valid q t x→valid q t y
 |[],_,_,_,_,_=>trivial
 | .fst::q,.pair a b,x,y,h,hv=>by
  simp only[valid] at hv ⊢
  exact iP q (by simpa[aL] using h) hv
 | .snd::q,.pair a b,x,y,h,hv=>by
  simp only[valid] at hv ⊢
  exact iP q (by simpa[aL] using h) hv
theorem fF:∀ (q:Path),depth q=0→aL q=true
 |[],_=>rfl
 | .fst::q,h=>by simp only[aL];exact fF q (by simpa[depth] using h)
 | .snd::q,h=>by simp only[aL];exact fF q (by simpa[depth] using h)
 | .deref::q,h=>by simp[depth] at h
 | .idx i::q,h=>by simp[depth] at h
theorem dV:∀ (q:Path) {t:Ty} {cs cK:List Value} {l:Option (Nat×Nat)},aL q=true→addrAt w q t cs l=addrAt w' q t cK l
 |[],_,_,_,_,_=>rfl
 | .fst::q,.pair a b,cs,cK,l,h=>by
  simp only[addrAt]
  exact dV q (by simpa[aL] using h)
 | .snd::q,.pair a b,cs,cK,l,h=>by
  simp only[addrAt]
  exact dV q (by simpa[aL] using h)
 | .fst::q,.int _,_,_,_,_=>by simp[addrAt]
 | .fst::q,.bool,_,_,_,_=>by simp[addrAt]
 | .fst::q,.str,_,_,_,_=>by simp[addrAt]
 | .fst::q,.sl _,_,_,_,_=>by simp[addrAt]
 | .fst::q,.ptr _,_,_,_,_=>by simp[addrAt]
 | .fst::q,.unit,_,_,_,_=>by simp[addrAt]
 | .fst::q,.arr _ _,_,_,_,_=>by simp[addrAt]
 | .snd::q,.int _,_,_,_,_=>by simp[addrAt]
 | .snd::q,.bool,_,_,_,_=>by simp[addrAt]
 | .snd::q,.str,_,_,_,_=>by simp[addrAt]
 | .snd::q,.sl _,_,_,_,_=>by simp[addrAt]
 | .snd::q,.ptr _,_,_,_,_=>by simp[addrAt]
 | .snd::q,.unit,_,_,_,_=>by simp[addrAt]
 | .snd::q,.arr _ _,_,_,_,_=>by simp[addrAt]
theorem uo:∀ (q p:Path) {t:Ty} {m:Md} {x:t.I} {b:TV} {r:Md×t.I},fW b p t m x=some r→aL p=false→depth q≤1→valid q t x→valid q t r.2
 |[],_,_,_,_,_,_,_,_,_,_=>trivial
 | .deref::q,p,.ptr t,m,x,b,r,h,hp,hd,hv=>by
  simp only[valid] at hv ⊢
  exact iP q (fF q (by simp[depth] at hd;omega)) hv
 | .idx i::q,p,.sl t,m,xs,b,r,h,hp,hd,hv=>by
  simp only[valid] at hv ⊢
  refine⟨?_,iP q (fF q (by simp[depth] at hd;omega)) hv.2⟩
  cases p with
  |nil=>simp[aL] at hp
  |cons s p=>
   cases s<;>cases m<;>simp[fW] at h
   rename_i j T tag me
   have h':fW b (.idx j::p) (.sl t) (.o T tag me) xs=some r:=by simp only[fW];exact h
   obtain⟨r1,_,_,rfl⟩:=DN h'
   simpa using hv.1
 | .fst::q,p,.pair t u,m,x,b,r,h,hp,hd,hv=>by
  simp only[valid] at hv ⊢
  cases p with
  |nil=>simp[aL] at hp
  |cons s p=>
   cases s<;>simp only[fW,reduceCtorEq] at h
   ·split at h
    ·rename_i r1 h1
     injection h with h
     subst h
     exact uo q p h1 (by simpa[aL] using hp) (by simpa[depth] using hd) hv
    ·cases h
   ·split at h
    ·rename_i r1 h1
     injection h with h
     subst h
     exact hv
    ·cases h
 | .snd::q,p,.pair t u,m,x,b,r,h,hp,hd,hv=>by
  simp only[valid] at hv ⊢
  cases p with
  |nil=>simp[aL] at hp
  |cons s p=>
   cases s<;>simp only[fW,reduceCtorEq] at h
   ·split at h
    ·rename_i r1 h1
     injection h with h
     subst h
     exact hv
    ·cases h
   ·split at h
    ·rename_i r1 h1
     injection h with h
     subst h
     exact uo q p h1 (by simpa[aL] using hp) (by simpa[depth] using hd) hv
    ·cases h
theorem nV:∀ (q:Path) {t:Ty} {m:Md} {x:t.I} {cs:List Value} {ow:Nat→Prop} {hs:List Path} {l:Option (Nat×Nat)} {g:Nat×Nat},
  M w' A' H t m x cs ow hs→open_ q hs→valid q t x→depth q≤1→addrAt w q t cs l=some g→addrAt w' q t cs l=some g
 |[],_,_,_,_,_,_,_,_,_,_,_,_,e=>e
 | .deref::q,.ptr t,m,x,cs,ow,hs,l,g0,h,ho,hv,hd,e=>by
  have hq:aL q=true:=fF q (by simp[depth] at hd;omega)
  simp only[M] at h
  rcases h with⟨hn,_⟩ |⟨hk,h⟩ |⟨T,tag,me,g,cur,rfl,rfl,ht,qm,hw,h⟩
  ·exact absurd hn ho.not_nil
  ·simp only[K] at h
   obtain⟨g,off,cur,T,fr,rfl,hng,hw,hl,h⟩:=h
   simp only[addrAt,bA hw hl,Option.bind_some] at e ⊢
   cases hr:rowAt w g off t.size with
   |none=>rw[hr] at e;cases e
   |some row=>
    rw[hr,Option.bind_some] at e
    rw[←e]
    exact dV q hq
  ·have iB:0+t.size≤cur.size:=by rw[←(eo t h).1];simp
   simp only[addrAt,bA hw iB,Option.bind_some] at e ⊢
   cases hr:rowAt w g 0 t.size with
   |none=>rw[hr] at e;cases e
   |some row=>
    rw[hr,Option.bind_some] at e
    rw[←e]
    exact dV q hq
 | .fst::q,.pair a b',m,x,cs,ow,hs,l,g0,h,ho,hv,hd,e=>by
  simp only[valid] at hv
  simp only[M] at h
  simp only[addrAt] at e ⊢
  rcases h with⟨hn,_⟩ |⟨hk,h⟩ |⟨ma,mb,c0,c1,s,rfl,rfl,h0,h1⟩
  ·exact absurd hn ho.not_nil
  ·simp only[K] at h
   obtain⟨c0,c1,rfl,h0,h1⟩:=h
   rw[←(kG a h0).1,List.take_left] at e ⊢
   exact nV q (fI (H:=H) (ow:=fun _=>False) (hs:=sub .fst hs) a h0) ho.sub hv (by simpa[depth] using hd) e
  ·rw[←(eo a h0).1,List.take_left] at e ⊢
   exact nV q h0 ho.sub hv (by simpa[depth] using hd) e
 | .snd::q,.pair a b',m,x,cs,ow,hs,l,g0,h,ho,hv,hd,e=>by
  simp only[valid] at hv
  simp only[M] at h
  simp only[addrAt] at e ⊢
  rcases h with⟨hn,_⟩ |⟨hk,h⟩ |⟨ma,mb,c0,c1,s,rfl,rfl,h0,h1⟩
  ·exact absurd hn ho.not_nil
  ·simp only[K] at h
   obtain⟨c0,c1,rfl,h0,h1⟩:=h
   rw[←(kG a h0).1,List.drop_left] at e ⊢
   exact nV q (fI (H:=H) (ow:=fun _=>False) (hs:=sub .snd hs) b' h1) ho.sub hv (by simpa[depth] using hd) e
  ·rw[←(eo a h0).1,List.drop_left] at e ⊢
   exact nV q h1 ho.sub hv (by simpa[depth] using hd) e
 | .idx i::q,.sl t,m,xs,cs,ow,hs,l,g0,h,ho,hv,hd,e=>by
  have hq:aL q=true:=fF q (by simp[depth] at hd;omega)
  simp only[valid] at hv
  obtain⟨hi,hv⟩:=hv
  simp only[M] at h
  rcases h with⟨hn,_⟩ |⟨hk,h⟩ |⟨T,tag,me,X,c,rfl,rfl,hc,ht,h⟩
  ·exact absurd hn ho.not_nil
  ·simp only[K] at h
   obtain⟨X,c,rfl,hc,h⟩:=h
   obtain⟨g,off,cur,T,fr,rfl,hng,hw,hl,h⟩:=h (by omega)
   have hbound:off+i*t.size+t.size≤cur.size:=by
    have:=Nat.mul_le_mul_right t.size (show i+1≤xs.length from hi)
    rw[Nat.add_mul,Nat.one_mul] at this
    omega
   simp only[addrAt,bA hw hbound,Option.bind_some] at e ⊢
   cases hr:rowAt w g (off+i*t.size) t.size with
   |none=>rw[hr] at e;cases e
   |some row=>
    rw[hr,Option.bind_some] at e
    rw[←e]
    exact dV q hq
  ·rcases h with⟨rfl,_⟩ |⟨g,cur,τ,rfl,qm,hw,iB,hm,h⟩
   ·simp at hi
   ·have hbound:0+i*t.size+t.size≤cur.size:=by
     have h1:=Nat.mul_le_mul_right t.size (show i+1≤xs.length from hi)
     have h2:=Nat.mul_le_mul_right t.size hc
     rw[Nat.add_mul,Nat.one_mul] at h1
     omega
    simp only[addrAt,bA hw hbound,Option.bind_some] at e ⊢
    cases hr:rowAt w g (0+i*t.size) t.size with
    |none=>rw[hr] at e;cases e
    |some row=>
     rw[hr,Option.bind_some] at e
     rw[←e]
     exact dV q hq
theorem acP:∀ (q p:Path) {t:Ty} {m:Md} {x:t.I} {b b1:TV} {r:Md×t.I},fW b p t m x=some r→a8 q t m x=some b1→∀ m',∃ b2,a8 q t m' r.2=some b2∧b2.t=b1.t:=by
 have key:∀ (q:Path) {t:Ty} {m m':Md} {x y:t.I} {b1:TV},a8 q t m x=some b1→∃ b2,a8 q t m' y=some b2∧b2.t=b1.t:=by
  intro q
  induction q with
  |nil=>intro t m m' x y b1 h;simp only[a8,Option.some.injEq] at h;subst h;exact⟨_,rfl,rfl⟩
  |cons s q ih=>
   intro t m m' x y b1 h
   cases s<;>cases t<;>simp only[a8,reduceCtorEq] at h ⊢
   all_goals exact ih h
 intro q p t m x b b1 r _ h m'
 exact key q h
theorem GD (bU:aU w w' A A') {d:Nat} {r r':TV} {ex Dc:List Path} (Ce:r'.t=r.t) (hd:S.at d=.v r ex) (V1:S'.at d=.v r' Dc) (hS:∀ i r1 ex1,i≠d→S.at i=.v r1 ex1→S'.at i=.v r1 ex1)
  (hM:∃ cM H6,ax r.t (tm d) cM∧M w' A' H r'.t r'.m r'.x cM H6 Dc) (hex:∀ q∈Dc,q∈ex)
  (iJ:∀ q,depth q≤1→valid q r.t r.x→valid q r'.t r'.x) (eF:∀ q b1,a8 q r.t r.m r.x=some b1→∃ b2,a8 q r'.t r'.m r'.x=some b2∧b2.t=b1.t)
  (hk:∀ s,s≠d→∃ own,Holds w A H tm S own (S.at s) (tm s)∧∀ g,own g→g<w.heap.size→w'.heap[g]?=w.heap[g]?)
  {own H6:Nat→Prop} (nT:∀ g,own g→g<w.heap.size→w'.heap[g]?=w.heap[g]? ∧H6 g) {av:AV} {v:Value} (hf:av.eJ d=false) (h:Holds w A H tm S own av v):Holds w' A' H tm S' H6 av v:=by
 have V':∀ s,s≠d→Kept w w' A H tm tm S S' s:=fun s hs=>⟨fun r1 ex1=>hS s r1 ex1 hs,rfl,hk s hs⟩
 have atj:∀ {t:Ty} {q:Path} {r1:TV} {cM:List Value},depth q≤1→Ref tm S t d q r1 cM→r1=r∧Ref tm S' t d q r' cM:=by
  intro t q r1 cM hq hr
  obtain⟨⟨ex1,h1,h2⟩,h3,⟨b1,h4,h5⟩,h6⟩:=hr
  rw[hd] at h1
  injection h1 with h1 h1'
  subst h1 h1'
  obtain⟨b2,k1,k2⟩:=eF q b1 h4
  exact⟨rfl,⟨Dc,V1,fun p hp=>h2 p (hex p hp)⟩,iJ q hq h3,⟨b2,k1,k2.trans h5⟩,by rw[Ce];exact h6⟩
 cases av with
 |dead=>trivial
 |undef=>exact h
 |v b ex1=>
  obtain⟨cs,h1,h2⟩:=h
  exact⟨cs,h1,aJ bU _ (fun g hg hl=>(nT g hg hl).1) (fun g hg hl=>(nT g hg hl).2) (fun _ h=>h) h2⟩
 |th l=>
  obtain⟨vs,τ,h1,h2,h3⟩:=h
  refine⟨vs,τ,h1,h2,fun j b hj=>?_⟩
  obtain⟨u,cs,k1,k2,k3⟩:=h3 j b hj
  exact⟨u,cs,k1,k2,aJ bU _ (fun g hg hl=>(nT g hg.1 hl).1) (fun g hg hl=>⟨(nT g hg.1 hl).2,hg.2⟩) (fun _ h=>h) k3⟩
 |al t s p=>
  obtain⟨r1,cM,cs,hr,hc,hm⟩:=h
  by_cases zX:s=d
  ·subst zX
   cases p with
   |cons _ _=>simp[AV.eJ] at hf
   |nil=>
    obtain⟨rfl,z7⟩:=atj (by simp[depth]) hr
    exact⟨r',cM,cs,z7,hc,hm⟩
  ·obtain⟨h1,h2⟩:=hr.kept bU (V' s zX)
   exact⟨r1,cM,cs,h1,by rw[(h2 none).1];exact hc,hm⟩
 |ad t s p=>
  obtain⟨r1,cM,g,off,hr,hc,hm⟩:=h
  by_cases zX:s=d
  ·subst zX
   have axI:depth p≤1:=by
    simp only[AV.eJ,Nat.beq_refl,Bool.true_and] at hf
    have: ¬ 2≤depth p:=fun h2=>by rw[Nat.ble_eq_true_of_le h2] at hf;cases hf
    omega
   obtain⟨rfl,z7⟩:=atj axI hr
   obtain⟨cs1,ai9,m1,m2⟩:=hM
   obtain rfl:=ez m1 hr.mat
   obtain⟨ex1,e1,e2⟩:=z7.at_
   rw[V1] at e1
   injection e1 with _ e1
   subst e1
   refine⟨r',cs1,g,off,z7,nV (w:=w) p m2 e2 z7.val axI (by rw[Ce];exact hc),hm⟩
  ·obtain⟨h1,h2⟩:=hr.kept bU (V' s zX)
   exact⟨r1,cM,g,off,h1,by rw[(h2 none).2];exact hc,hm⟩
 |cut t s p lo hi=>
  obtain⟨r1,cM,t',A1,n,c,hr,ht,hc,hm⟩:=h
  by_cases zX:s=d
  ·subst zX
   simp[AV.eJ] at hf
  ·obtain⟨h1,h2⟩:=hr.kept bU (V' s zX)
   exact⟨r1,cM,t',A1,n,c,h1,ht,by rw[(h2 none).1];exact hc,hm⟩
 |k8 f cw=>
  obtain⟨vs,h1,h2,h3⟩:=h
  refine⟨vs,h1,h2,fun j c hj=>?_⟩
  obtain⟨u,k1,k2⟩:=h3 j c hj
  refine⟨u,k1,?_⟩
  cases c with
  |kv b=>exact bV bU _ k2
  |pl t s p=>
   by_cases zX:s=d
   ·subst zX
    obtain⟨r1,cM,cs,hr,hc,hm⟩:=k2
    cases p with
    |cons _ _=>
     have nF:=List.any_eq_false.1 hf _ (List.mem_of_getElem? hj)
     simp at nF
    |nil=>
     obtain⟨rfl,z7⟩:=atj (by simp[depth]) hr
     exact⟨r',cM,cs,z7,hc,hm⟩
   ·exact lS.kept bU (fun t1 s1 p1 e1=>by injection e1 with _ e1 _;subst e1;exact V' _ zX) k2
theorem Il:∀ (p h:Path),pre p h=true→∃ q,h=p++q
 |[],h,_=>⟨h,rfl⟩
 | .deref::p,.deref::h,e=>by obtain⟨q,rfl⟩:=Il p h (by simpa[pre] using e);exact⟨q,rfl⟩
 | .fst::p,.fst::h,e=>by obtain⟨q,rfl⟩:=Il p h (by simpa[pre] using e);exact⟨q,rfl⟩
 | .snd::p,.snd::h,e=>by obtain⟨q,rfl⟩:=Il p h (by simpa[pre] using e);exact⟨q,rfl⟩
theorem take_at {x:Operand} {av:AV} {b:TV} {s:Nat} {r:TV} {ex:List Path} (e:S.dB x av=some (b,S1)) (hs:S1.at s=.v r ex):∃ ex0,S.at s=.v r ex0∧∀ q∈ex0,q∈ex:=by
 have Zx:∀ i,(S.put (some i) .dead).at s=.v r ex→S.at s=.v r ex:=by
  intro i h
  rw[dD] at h
  split at h
  ·simp[AV.refs] at h
  ·cases hr:(S.at s).refs i&&(S.at i).zQ with
   |true=>rw[hr] at h;cases h
   |false=>rw[hr] at h;exact h
 cases av with
 |v b0 ex0=>
  simp only[St.dB] at e
  cases hk:b0.m.bM with
  |true=>
   rw[hk] at e
   simp only[cond_true,Option.some.injEq,Prod.mk.injEq] at e
   obtain⟨_,rfl⟩:=e
   exact⟨ex,hs,fun _ h=>h⟩
  |false=>
   rw[hk] at e
   simp only[cond_false] at e
   split at e
   ·simp only[Option.some.injEq,Prod.mk.injEq] at e
    obtain⟨_,rfl⟩:=e
    exact⟨ex,Zx _ hs,fun _ h=>h⟩
   ·simp only[Option.some.injEq,Prod.mk.injEq] at e
    obtain⟨_,rfl⟩:=e
    exact⟨ex,hs,fun _ h=>h⟩
   ·cases e
 |al t s0 p=>
  simp only[St.dB] at e
  split at e
  ·rename_i b' hb
   cases hk:b'.m.bM with
   |true=>
    rw[hk] at e
    simp only[cond_true,Option.some.injEq,Prod.mk.injEq] at e
    obtain⟨_,rfl⟩:=e
    exact⟨ex,hs,fun _ h=>h⟩
   |false=>
    rw[hk] at e
    simp only[cond_false] at e
    split at e
    ·simp only[Option.some.injEq,Prod.mk.injEq] at e
     obtain⟨_,rfl⟩:=e
     exact⟨ex,Zx _ hs,fun _ h=>h⟩
    ·rename_i r2 ex2 _ dt
     simp only[Option.some.injEq,Prod.mk.injEq] at e
     obtain⟨_,rfl⟩:=e
     rw[cQ] at hs
     split at hs
     ·rename_i hx
      injection hs with h1 h2
      subst h1 h2
      rw[hx.1]
      exact⟨ex2,dt,fun q hq=>List.mem_append_left _ hq⟩
     ·rw[Ef,jF] at hs
      cases qo:(S.at s).eJ s0 with
      |true=>rw[qo] at hs;simp at hs
      |false=>
       rw[qo] at hs
       simp only[cond_false] at hs
       split at hs
       ·cases hx:(Nat.beq _ s0&&under _ _) with
        |true=>rw[hx] at hs;cases hs
        |false=>rw[hx] at hs;cases hs
       ·exact⟨ex,hs,fun _ h=>h⟩
    ·cases e
  ·cases e
 |cut t s0 p lo hi=>
  cases p with
  |cons _ _=>simp[St.dB] at e
  |nil=>
   simp only[St.dB] at e
   split at e
   ·cases hl:Nat.beq lo 0 with
    |false=>rw[hl] at e;cases e
    |true=>
     rw[hl] at e
     simp only[cond_true,Option.some.injEq,Prod.mk.injEq] at e
     obtain⟨_,rfl⟩:=e
     exact⟨ex,Zx _ hs,fun _ h=>h⟩
   ·cases e
 |_=>simp[St.dB] at e
end Go.Pv
namespace Go.Pv
set_option linter.unusedVariables false
set_option linter.unusedSimpArgs false
variable {P:Program} {w w':World} {A A' Wr:Nat→Prop} {H:Nat→Value} {tm qH:Nat→Value} {S S' S1:St} {σ bL:Nat→Option Nat} {w0:World} {W0 Z:Nat→Prop} {a:Act} {own:Nat→Prop} {v:Value} {Θ:db} {dst:Option Nat}
theorem Fr.setRow (h:Fr w0 W0 w) {g:Nat} {cs:Array Value} (hg:w0.heap.size≤g∨W0 g):Fr w0 W0 (w.setRow g cs):=by
 refine⟨h.os,h.tape,h.output,by rw[setRow_size];exact h.size,fun k hk hn=>?_⟩
 rw[setRow_other w g k _ (fun e=>by subst e;rcases hg with hg |hg;omega;exact hn hg)]
 exact h.block k hk hn
theorem Zy (hT:cN P Θ=true) {T:TypeId} {t:Ty} {g off:Nat} {cs:List Value} {v:Value} {cur:Array Value} {T':TypeId} (ht:Θ.is T t=true) (hm:ax t v cs) (hl:cs.length=t.size) (h1:∀ u∈cs,u.oneCell'=true)
  (hw:w.heap[g]?=some (.cells cur T' (0,0))) (hb:off+cs.length≤cur.size):
  (Instr.storeAt T (.pointer (some ⟨g,off,none⟩)) v).run P w=.ok () (w.setRow g (putCells cur.toList off cs).toArray):=by
 obtain⟨inf,hi,hs,_⟩:=gU hT ht
 have:=run_storeCells_at (P:=P) g off T' cs 0 cur w hw (by omega) h1
 simp only[Nat.add_zero] at this
 simp[Instr.storeAt,Instr.sureAddr,storeVar,sizeOf,typeInfo,hi,hs,hZ hm h1,hl]
 rw[hl] at this
 unfold putCells
 rw[hl]
 simpa using this
theorem xa:∀ (p h:Path),fH p h=true→B4 p h=true→h=p
 |[],[],_,_=>rfl
 | .idx i::p,.idx j::h,e,e2=>by
  simp only[B4,Bool.and_eq_true] at e2
  rw[xa p h (by simpa[fH] using e) e2.1,Nat.eq_of_beq_eq_true e2.2]
 | .deref::p,.deref::h,e,e2=>by rw[xa p h (by simpa[fH] using e) (by simpa[B4] using e2)]
 | .fst::p,.fst::h,e,e2=>by rw[xa p h (by simpa[fH] using e) (by simpa[B4] using e2)]
 | .snd::p,.snd::h,e,e2=>by rw[xa p h (by simpa[fH] using e) (by simpa[B4] using e2)]
 |[],.idx _::_,e,_ |[],.deref::_,e,_ |[],.fst::_,e,_ |[],.snd::_,e,_=>by simp[fH] at e
 | .idx _::_,[],e,_ | .deref::_,[],e,_ | .fst::_,[],e,_ | .snd::_,[],e,_=>by simp[fH] at e
 | .idx _::_,.deref::_,e,_ | .idx _::_,.fst::_,e,_ | .idx _::_,.snd::_,e,_=>by simp[fH] at e
 | .deref::_,.idx _::_,e,_ | .deref::_,.fst::_,e,_ | .deref::_,.snd::_,e,_=>by simp[fH] at e
 | .fst::_,.idx _::_,e,_ | .fst::_,.deref::_,e,_ | .fst::_,.snd::_,e,_=>by simp[fH] at e
 | .snd::_,.idx _::_,e,_ | .snd::_,.deref::_,e,_ | .snd::_,.fst::_,e,_=>by simp[fH] at e
theorem xb {p q:Path}:∀ {l:List Path},q∈(dA p l).2→q∈l
 |[],h=>h
 |x::r,h=>by
  simp only[dA] at h
  cases ha:fH p x with
  |true=>rw[ha] at h;exact List.mem_cons_of_mem _ h
  |false=>
   rw[ha] at h
   simp only[cond_false,List.mem_cons] at h
   rcases h with h |h
   ·rw[h];exact List.mem_cons_self
   ·exact List.mem_cons_of_mem _ (xb h)
theorem tF {p q:Path}:∀ {l:List Path},(dA p l).1=true→(∀ q',q≠p++q')→q∈l→q∈(dA p l).2
 |[],_,_,h=>h
 |x::r,hc,hn,h=>by
  simp only[dA] at hc ⊢
  cases ha:fH p x with
  |true=>
   rw[ha] at hc
   simp only[cond_true] at hc ⊢
   rcases List.mem_cons.1 h with h |h
   ·subst h
    exact absurd ((xa p q ha hc).trans (List.append_nil p).symm) (hn [])
   ·exact h
  |false=>
   rw[ha] at hc
   simp only[cond_false] at hc ⊢
   rcases List.mem_cons.1 h with h |h
   ·rw[h];exact List.mem_cons_self
   ·exact List.mem_cons_of_mem _ (tF hc hn h)
theorem acQ (hT:cN P Θ=true) (h:a6 σ w0 W0 Z H S a w) {o:Oper} {T:TypeId} {x y:Operand} (ho:o.op=.store T x y) (mE:o.dst=none) (e:k9 Θ S T x y=some (true,S')):Ii P w0 W0 Z H S' a o.dst w (execOp a.eval o):=by
 unfold k9 at e
 split at e
 case h_2=>cases e
 rename_i av dz
 split at e
 case h_2=>cases e
 rename_i t s p azs
 unfold St.take at e
 split at e
 case h_2=>cases e
 rename_i b S1 hb
 split at hb
 case h_2=>cases hb
 rename_i av2 Rz
 cases hc:Θ.is T b.t with
 |false=>rw[hc] at e;cases e
 |true=>
 rw[hc] at e
 simp only[cond_true] at e
 split at e
 case h_2=>cases e
 rename_i r ex hs1
 split at e
 case h_2=>cases e
 rename_i m z nu
 cases hex:ex.all (fun q=>!under q p) with
 |false=>rw[hex] at e;cases e
 |true=>
 rw[hex] at e
 simp only[cond_true,Option.some.injEq,Prod.mk.injEq] at e
 obtain⟨hds,e⟩:=e
 have xc:open_ p ex:=eA (fun q hq=>by simpa using List.all_eq_true.1 hex q hq)
 obtain⟨r0,ex0,q1,q2⟩:=qY h dz azs
 obtain⟨bL,cs,ow,h1,hm,hM,hk,hn⟩:=eB h Rz hb
 obtain⟨aAi,q3,q4⟩:=take_at hb hs1
 rw[q1] at q3
 injection q3 with q3 q3'
 subst q3 q3'
 obtain⟨cM,g,off,hr,nG,hx⟩:=q2 (fun q hq=>xc q (q4 q hq))
 obtain⟨b0,hb0,zT⟩:=hr.get
 -- the slot,behind the take
 have hh:=h1.holds s
 rw[hs1] at hh
 obtain⟨axJ,Zz,Mf⟩:=hh
 obtain rfl:=ez hr.mat Zz
 have Gv:s<S1.length:=dZ (by rw[hs1];exact fun e=>by cases e)
 obtain⟨cK,cC,c1,c2,c3,kj⟩:=zS p Mf xc hr.val hb0
 have fc:b.t=b0.t:=sy p nu hb0
 obtain⟨oM,kj⟩:=kj b (m,z) fc nu
 have hpm:aL p=false:=by
  cases hp:aL p with
  |false=>rfl
  |true=>rw[dY p hp] at nG;cases nG
 -- the address is the same: the world is
 have acR:addrAt w p r0.t cM none=some (g,off):=nG
 obtain⟨ek,qC,cur,T',hw,hbound,_⟩:=oM g off acR
 obtain⟨hlen,ajn⟩:=eo _ hM
 have wM:off+cs.length≤cur.size:=by rw[hlen,fc];exact hbound
 have cf:=Zy (P:=P) (w:=w) hT hc hm hlen ajn hw wM
 have xd:∀ g',ow g'→bL g'≠some s:=fun g' bo e'=>by
  obtain⟨i,hi,mF⟩:=hk.now g' bo
  rw[e'] at mF
  injection mF with mF
  omega
 let dN:Nat→Option Nat:=fun g'=>open Classical in if ow g' then some s else bL g'
 have MG:∀ g' i,dN g'=some i→(ow g'∧i=s)∨(¬ow g'∧bL g'=some i):=fun g' i bo=>by
  simp only[dN] at bo
  split at bo
  ·injection bo with bo;exact .inl ⟨by assumption,bo.symm⟩
  ·exact .inr ⟨by assumption,bo⟩
 have He:∀ g' i,¬ow g'→bL g'=some i→dN g'=some i:=fun g' i hn bo=>by simp only[dN,if_neg hn,bo]
 have ajo:∀ g',Av dN Z g'→Av bL Z g':=fun g' bo=>by
  rcases bo with⟨i,bo⟩ |bo
  ·rcases MG g' i bo with⟨hx,_⟩ |⟨_,hx⟩
   ·obtain⟨j,_,hj⟩:=hk.now g' hx
    exact .inl ⟨j,hj⟩
   ·exact .inl ⟨i,hx⟩
  ·exact .inr bo
 have fO:∀ k,k≠g→(w.setRow g (putCells cur.toList off cs).toArray).heap[k]?=w.heap[k]?:=fun k hk=>setRow_other w g k _ hk
 have bU:aU w (w.setRow g (putCells cur.toList off cs).toArray) (Av bL Z) (Av dN Z):=⟨fun k hk _=>fO k (fun e'=>hk (by rw[e'];exact .inl ⟨s,ek⟩)),fun k _ hk=>ajo k hk⟩
 have hMb:M (w.setRow g (putCells cur.toList off cs).toArray) (Av dN Z) H b.t b.m b.x cs ow (wL p (dA p (ex.filter fun q=>!pre p q)).2):=by
  refine aJ ⟨fun k fV _=>fO k (fun e'=>fV (by rw[e'];exact hk.Av.1 (.inl ⟨s,ek⟩))),fun k _ fV=>hk.Av.1 (ajo k fV)⟩ _ (fun k fV _=>fO k (fun e'=>xd k fV (by rw[e'];exact ek))) (fun k fV _=>fV) (fun _ h=>by simp at h) hM
 have Ej:=kj (w.setRow g (putCells cur.toList off cs).toArray) (Av dN Z) cs ow (dA p (ex.filter fun q=>!pre p q)).2 bU (by rw[hlen,fc]) (fun k Q5 Q3 _=>by
   rw[acR]
   simp only[kH]
   split
   ·rename_i hkg
    subst hkg
    exact⟨cur,T',hw,setRow_heap w k cur _ T' (0,0) hw⟩
   ·rename_i hkg
    exact fO k hkg) hMb (fun k Q5 _ Q3=>absurd Q3 (xd k Q5)) (fun q hq1 G2=>by
   refine tF hds hq1 (List.mem_filter.2 ⟨G2,?_⟩)
   cases hp:pre p q with
   |false=>rfl
   |true=>
    obtain⟨q',rfl⟩:=Il p q hp
    exact absurd rfl (hq1 q'))
 rw[jA p hpm] at Ej
 have arM:M (w.setRow g (putCells cur.toList off cs).toArray) (Av dN Z) H r0.t m z cM (fun g'=>dN g'=some s) (dA p (ex.filter fun q=>!pre p q)).2:=by
  refine aJ (aU.refl _ _) _ (fun _ _ _=>rfl) (fun k fV _=>?_) (fun _ h=>h) Ej
  rcases fV with⟨k1,_⟩ |k1
  ·exact He k s (fun hx=>xd k hx k1) k1
  ·simp only[dN,if_pos k1]
 refine⟨w.setRow g (putCells cur.toList off cs).toArray,undef,.inr ⟨rfl,?_⟩,dN,?_⟩
 ·simp only[execOp,ho,hx,Sem.run_bind,cf,Result.andThen_ok]
  rfl
 ·rw[mE]
  show a6 dN w0 W0 Z H S' a (w.setRow g (putCells cur.toList off cs).toArray)
  have axK:((S1.weaken s).set s (.v ⟨r0.t,m,z⟩ (dA p (ex.filter fun q=>!pre p q)).2)).length=S1.length:=by simp[St.weaken]
  have dt:∀ i,S'.at i=if i=s then .v ⟨r0.t,m,z⟩ (dA p (ex.filter fun q=>!pre p q)).2 else bif (S1.at i).eJ s then .dead else S1.at i:=by
   intro i
   rw[←e,cQ]
   by_cases hi:i=s
   ·rw[if_pos hi,if_pos ⟨hi,by simp[St.weaken];exact Gv⟩]
   ·rw[if_neg hi,if_neg (fun h=>hi h.1),jF]
  refine⟨by rw[←e,axK];exact h1.len,h1.defers,h1.fr.setRow (h1.new g s ek),fun g' i bo=>?_,fun g' i bo=>?_,fun g' bo=>⟨?_,(h1.old g' bo).2⟩,fun i=>?_⟩
  ·rcases MG g' i bo with⟨hx,_⟩ |⟨_,hx⟩
   ·obtain⟨j,_,hj⟩:=hk.now g' hx
    exact h1.new g' j hj
   ·exact h1.new g' i hx
  ·rw[setRow_size]
   rcases MG g' i bo with⟨hx,_⟩ |⟨_,hx⟩
   ·obtain⟨j,_,hj⟩:=hk.now g' hx
    exact h1.lt g' j hj
   ·exact h1.lt g' i hx
  ·have:=(h1.old g' bo).1
   simp only[dN]
   split
   ·rename_i hx
    obtain⟨j,_,hj⟩:=hk.now g' hx
    rw[this] at hj
    cases hj
   ·exact this
  ·rw[dt i]
   by_cases Q4:i=s
   ·subst Q4
    rw[if_pos rfl]
    exact⟨cM,hr.mat,arM⟩
   ·rw[if_neg Q4]
    by_cases GY:i<S1.length
    rotate_left
    ·have:S1.at i=.dead:=Classical.byContradiction fun hx=>GY (dZ hx)
     rw[this]
     trivial
    cases qo:(S1.at i).eJ s with
    |true=>trivial
    |false=>
     simp only[cond_false]
     refine GD (r:=r0) (r':=⟨r0.t,m,z⟩) (ex:=ex) (Dc:=(dA p (ex.filter fun q=>!pre p q)).2) bU rfl hs1 (by rw[dt s,if_pos rfl]) (fun j r1 ex1 hj hv=>by rw[dt j,if_neg hj,hv];simp[AV.eJ]) ⟨cM,_,hr.mat,arM⟩ (fun q hq=>(List.mem_filter.1 (xb hq)).1)
      (fun q hq hv=>uo q p nu hpm hq hv) (fun q b1 hq=>acP q p nu hq m) (fun j hj=>⟨_,h1.holds j,fun g' bo _=>fO g' (fun e'=>by subst e';rw[ek] at bo;injection bo with bo;exact hj bo.symm)⟩)
      (fun g' bo _=>⟨fO g' (fun e'=>by subst e';rw[ek] at bo;injection bo with bo;exact Q4 bo.symm),He g' i (fun hx=>?_) bo⟩) qo (h1.holds i)
     obtain⟨j,Gs,oz⟩:=hk.now g' hx
     rw[bo] at oz
     injection oz with oz
     omega
end Go.Pv
namespace Go.Pv
set_option linter.unusedVariables false
set_option linter.unusedSimpArgs false
variable {P:Program} {w w':World} {A A' Wr:Nat→Prop} {H:Nat→Value} {tm qH:Nat→Value} {S S' S1:St} {σ bL dN:Nat→Option Nat} {w0:World} {W0 Z:Nat→Prop} {a:Act} {own:Nat→Prop} {v:Value} {Θ:db} {dst:Option Nat}
theorem MH (off:Nat):∀ (l:List Value) (k:Nat) (cells:Array Value),off+k+l.length≤cells.size→
  ((l.zipIdx k).foldl (fun(cs:Array Value) (x:Value×Nat)=>cs.setIfInBounds (off+x.2) x.1) cells).toList=putCells cells.toList (off+k) l
 |[],k,cells,h=>by simp[putCells]
 |c::l,k,cells,h=>by
  simp only[List.zipIdx_cons,List.foldl_cons]
  simp only[List.length_cons] at h
  rw[MH off l (k+1) (cells.setIfInBounds (off+k) c) (by simp;omega)]
  have h1:off+k<cells.toList.length:=by simp;omega
  apply List.ext_getElem?
  intro j
  rw[gR _ _ _ _ (by simp;omega),gR _ _ _ _ (by simp;omega)]
  simp only[Array.toList_setIfInBounds,List.length_cons]
  by_cases hj:j<off+k
  ·rw[if_pos (by omega),if_pos hj,List.getElem?_set_ne (by omega)]
  ·by_cases oz:j=off+k
   ·subst oz
    rw[if_pos (by omega),if_neg (by omega),if_pos (by omega),List.getElem?_set_self h1]
    simp
   ·by_cases hj3:j<off+k+1+l.length
    ·rw[if_neg (by omega),if_pos (by omega),if_neg (by omega),if_pos (by omega),show j - (off+k)=(j - (off+(k+1)))+1 from by omega]
     simp
    ·rw[if_neg (by omega),if_neg (by omega),if_neg (by omega),if_neg (by omega),List.getElem?_set_ne (by omega)]
def nW (cF:List (List Value)) (i:Nat):Nat:=((cF.take i).map List.length).sum
theorem oY (cF:List (List Value)) (i:Nat) (h:i<cF.length):cF.flatten=(cF.take i).flatten++(cF[i]++(cF.drop (i+1)).flatten):=by
 conv=>lhs;rw[←List.take_append_drop i cF]
 rw[List.flatten_append,List.drop_eq_getElem_cons h,List.flatten_cons]
theorem El (cF:List (List Value)) (i:Nat):(cF.take i).flatten.length=nW cF i:=by simp[nW,List.length_flatten]
theorem ajp (cF:List (List Value)) (i:Nat) (c:List Value) (h:i<cF.length) (hc:c.length=cF[i].length):putCells cF.flatten (nW cF i) c=(cF.set i c).flatten:=by
 have e1:=oY cF i h
 have e2:=oY (cF.set i c) i (by simpa using h)
 rw[e2]
 simp only[List.getElem_set_self]
 rw[List.take_set_of_le (by omega),List.drop_set_of_lt (by omega)]
 have hd:cF.flatten.drop (nW cF i+c.length)=(cF.drop (i+1)).flatten:=by
  rw[e1,←El,hc,←List.append_assoc,←List.length_append,List.drop_left]
 have ht:cF.flatten.take (nW cF i)=(cF.take i).flatten:=by
  rw[e1,←El,List.take_left]
 unfold putCells
 rw[hd,ht,List.append_assoc]
theorem acS (cF:List (List Value)) (i j:Nat) (c:List Value) (h:i<cF.length) (hc:c.length=cF[i].length):nW (cF.set i c) j=nW cF j:=by
 unfold nW
 congr 1
 apply List.ext_getElem?
 intro k
 simp only[List.getElem?_map,List.getElem?_take,List.getElem?_set]
 split
 ·by_cases hk:i=k
  ·subst hk
   simp[h,hc]
  ·simp[hk]
 ·rfl
theorem acT (cF:List (List Value)) (i:Nat) (h:i<cF.length):nW cF i+cF[i].length≤cF.flatten.length:=by
 rw[oY cF i h,List.length_append,List.length_append,El]
 omega
def MI (f:Nat→Option (List Value)) (cF:List (List Value)):List (List Value):=cF.mapIdx fun i c=>(f i).getD c
theorem Hf (place:Nat→Option (Nat×Nat)):∀ (parts:List (Nat×Value)) (cF:List (List Value)),(∀ i (h:i<cF.length),place i=some (nW cF i,cF[i].length))→
  (∀ q∈parts,∃ h:q.1<cF.length,q.2.cells.size=cF[q.1].length)→(parts.map (·.1)).Nodup→
  Instr.fill place cF.flatten.toArray parts=some (MI (fun i=>(parts.find? (fun q=>Nat.beq q.1 i)).map (·.2.cells.toList)) cF).flatten.toArray
 |[],cF,_,_,_=>by
  have:MI (fun i=>(([]:List (Nat×Value)).find? (fun q=>Nat.beq q.1 i)).map (·.2.cells.toList)) cF=cF:=by
   unfold MI
   apply List.ext_getElem?
   intro k
   simp[List.getElem?_mapIdx]
  rw[this];rfl
 |(i,v)::rest,cF,hp,hs,hn=>by
  obtain⟨hi,hv⟩:=hs (i,v) (by simp)
  simp only at hi hv
  have wM:=acT cF i hi
  simp only[Instr.fill,hp i hi]
  have axL:=wM
  rw[List.length_flatten] at axL
  rw[if_neg (by simp[hv];omega)]
  have hlen:v.cells.toList.length=cF[i].length:=by simpa using hv
  have axM:v.cells.zipIdx.foldl (fun cs (x:Value×Nat)=>cs.setIfInBounds (nW cF i+x.2) x.1) cF.flatten.toArray=(cF.set i v.cells.toList).flatten.toArray:=by
   have:=MH (nW cF i) v.cells.toList 0 cF.flatten.toArray (by simp only[hlen,List.size_toArray];omega)
   rw[←ajp cF i v.cells.toList hi hlen]
   apply Array.toList_inj.1
   rw[←Array.foldl_toList,Array.toList_zipIdx]
   simpa using this
  simp only[List.map_cons,List.nodup_cons] at hn
  have nu:∀ (k:Nat) (hk:k<(cF.set i v.cells.toList).length),(cF.set i v.cells.toList)[k].length=(cF[k]'(by simpa using hk)).length:=by
   intro k hk
   rw[List.getElem_set]
   split
   ·rename_i e;subst e;exact hlen
   ·rfl
  have ih:=Hf place rest (cF.set i v.cells.toList) (fun k hk=>by rw[acS cF i k _ hi hlen,nu k hk];exact hp k (by simpa using hk)) (fun q hq=>by
   obtain⟨h1,h2⟩:=hs q (by simp[hq])
   exact⟨by simpa using h1,by rw[nu];exact h2⟩) hn.2
  refine(congrArg (fun c=>Instr.fill place c rest) axM).trans (ih.trans ?_)
  congr 3
  unfold MI
  apply List.ext_getElem?
  intro k
  simp only[List.getElem?_mapIdx,List.getElem?_set]
  by_cases hk:i=k
  ·subst hk
   have:rest.find? (fun q=>Nat.beq q.1 i)=none:=List.find?_eq_none.2 fun q hq e=>hn.1 (List.mem_map.2 ⟨q,hq,Nat.eq_of_beq_eq_true e⟩)
   simp[hi,this]
  ·have:Nat.beq i k=false:=by
    cases hb:Nat.beq i k with
    |false=>rfl
    |true=>exact absurd (Nat.eq_of_beq_eq_true hb) hk
   simp[hk,this]
end Go.Pv
namespace Go.Pv
set_option linter.unusedVariables false
set_option linter.unusedSimpArgs false
variable {P:Program} {w w':World} {A A' Wr:Nat→Prop} {H:Nat→Value} {tm qH:Nat→Value} {S S' S1:St} {σ bL dN:Nat→Option Nat} {w0:World} {W0 Z:Nat→Prop} {a:Act} {own:Nat→Prop} {v:Value} {Θ:db} {dst:Option Nat}
theorem fT.trans {n:Nat} {ow1 oW:Nat→Prop} (h1:fT σ bL n ow1) (h2:fT bL dN n oW):fT σ dN n (fun g=>ow1 g∨oW g):=by
 refine⟨fun g hg=>?_,fun g hg=>?_,fun g i hg hi=>h1.sub g i (h2.sub g i hg hi) hi,fun g=>(h2.dom g).trans (h1.dom g),fun g i hg hi=>h2.par g i (h1.par g i hg hi) hi⟩
 ·rcases hg with hg |hg
  ·exact h1.MD g hg
  ·obtain⟨i,hi,mF⟩:=h2.MD g hg
   exact⟨i,hi,h1.sub g i mF hi⟩
 ·rcases hg with hg |hg
  ·obtain⟨i,hi,mF⟩:=h1.now g hg
   exact⟨i,hi,h2.par g i mF hi⟩
  ·exact h2.now g hg
theorem fT.apart {n:Nat} {ow1 oW:Nat→Prop} (h1:fT σ bL n ow1) (h2:fT bL dN n oW) {g:Nat} (hg:ow1 g): ¬oW g:=fun qC=>by
 obtain⟨i,hi,mF⟩:=h1.now g hg
 obtain⟨j,hj,oz⟩:=h2.MD g qC
 rw[mF] at oz
 injection oz with oz
 omega
theorem lY:∀ (t:Ty),(zc t).length=t.size
 | .int _=>rfl | .bool=>rfl | .str=>rfl | .sl _=>rfl | .ptr _=>rfl | .unit=>rfl
 | .pair a b=>by simp[zc,Ty.size,lY a,lY b]
 | .arr n t=>by simp[zc,Ty.size,List.length_flatten,lY t]
theorem oZ (hT:cN P Θ=true) (ps:List (Nat×Operand)):∀ (Ts:List TypeId) (j:Nat) {S S1:St} {σ:Nat→Option Nat} {l:List TV},a6 σ w0 W0 Z H S a w→S.parts Θ ps Ts j=some (l,S1)→
  ∃ (bL:Nat→Option Nat) (ow:Nat→Prop) (τ:Nat→Nat) (eI:List (List Value)),a6 bL w0 W0 Z H S1 a w∧S1.length=S.length∧fT σ bL S.length ow∧eI.length=l.length∧l.length=Ts.length∧(∀ g,ow g→j≤τ g)∧
   ∀ (k:Nat) (b:TV),l[k]?=some b→∃ cs,eI[k]?=some cs∧M w (Av σ Z) H b.t b.m b.x cs (fun g=>ow g∧τ g=j+k) []∧
    ((∃ q,ps.find? (fun q=>Nat.beq q.1 (j+k))=some q∧ax b.t (a.eval q.2) cs)∨(ps.find? (fun q=>Nat.beq q.1 (j+k))=none∧cs=zc b.t))
 |[],j,S,S1,σ,l,h,e=>by
  simp only[St.parts,Option.some.injEq,Prod.mk.injEq] at e
  obtain⟨rfl,rfl⟩:=e
  exact⟨σ,fun _=>False,fun _=>j,[],h,rfl,fT.none _ _,rfl,rfl,fun _ h=>h.elim,fun k b hk=>by simp at hk⟩
 |T::Ts,j,S,S1,σ,l,h,e=>by
  simp only[St.parts] at e
  split at e
  ·rename_i q hq
   unfold St.take at e
   split at e
   case h_2=>cases e
   rename_i b S2 hb
   split at hb
   case h_2=>cases hb
   rename_i av dz
   split at e
   case h_2=>cases e
   rename_i l2 S3 hl2
   simp only[Option.some.injEq,Prod.mk.injEq] at e
   obtain⟨rfl,rfl⟩:=e
   obtain⟨bL,cs,ow,h1,hm,hM,hk,hn⟩:=eB h dz hb
   obtain⟨dN,oW,τ,eI,r1,r2,r3,r4,r5,r6,r7⟩:=oZ hT ps Ts (j+1) h1 hl2
   rw[hn] at r3
   have RA:∀ g,ow g→¬oW g:=fun g hg=>hk.apart r3 hg
   let Wa:Nat→Nat:=fun g=>open Classical in if ow g then j else τ g
   refine⟨dN,fun g=>ow g∨oW g,Wa,cs::eI,r1,by omega,hk.trans r3,by simp[r4],by simp[r5],fun g hg=>?_,fun k b' fV=>?_⟩
   ·simp only[Wa]
    split
    ·exact Nat.le_refl _
    ·rename_i hx
     have:=r6 g (hg.resolve_left hx)
     omega
   ·cases k with
    |zero=>
     simp only[List.getElem?_cons_zero,Option.some.injEq] at fV
     subst fV
     refine⟨cs,rfl,aJ (aU.refl _ _) _ (fun _ _ _=>rfl) (fun g hg _=>⟨.inl hg,by simp only[Wa,if_pos hg,Nat.add_zero]⟩) (fun _ h=>h) hM,.inl ⟨q,hq,hm⟩⟩
    |succ k=>
     simp only[List.getElem?_cons_succ] at fV ⊢
     obtain⟨c2,d1,d2,d3⟩:=r7 k b' fV
     refine⟨c2,d1,aJ ⟨fun _ _ _=>rfl,fun g _ hg=>hk.Av.2 hg⟩ _ (fun _ _ _=>rfl) (fun g hg _=>⟨.inr hg.1,?_⟩) (fun _ h=>h) d2,by rw[show j+(k+1)=j+1+k from by omega];exact d3⟩
     simp only[Wa]
     rw[if_neg (fun hx=>RA g hx hg.1),hg.2]
     omega
  ·rename_i hq
   split at e
   case h_2=>cases e
   rename_i b hb
   split at e
   case h_2=>cases e
   rename_i l2 S3 hl2
   simp only[Option.some.injEq,Prod.mk.injEq] at e
   obtain⟨rfl,rfl⟩:=e
   obtain⟨i,inf,zv,_,_,hx,wM,_⟩:=Ak hT hb
   obtain⟨dN,oW,τ,eI,r1,r2,r3,r4,r5,r6,r7⟩:=oZ hT ps Ts (j+1) h hl2
   refine⟨dN,oW,τ,zc b.t::eI,r1,r2,r3,by simp[r4],by simp[r5],fun g hg=>by have:=r6 g hg;omega,fun k b' fV=>?_⟩
   cases k with
   |zero=>
    simp only[List.getElem?_cons_zero,Option.some.injEq] at fV
    subst fV
    refine⟨_,rfl,Ik ?_,.inr ⟨hq,rfl⟩⟩
    rw[hx]
    exact Ei _ wM
   |succ k=>
    simp only[List.getElem?_cons_succ] at fV ⊢
    obtain⟨c2,d1,d2,d3⟩:=r7 k b' fV
    exact⟨c2,d1,aJ (aU.refl _ _) _ (fun _ _ _=>rfl) (fun g hg _=>⟨hg.1,by rw[hg.2];omega⟩) (fun _ h=>h) d2,by rw[show j+(k+1)=j+1+k from by omega];exact d3⟩
theorem Em {ps:List (Nat×Operand)} {l:List TV} {eI:List (List Value)} {place:Nat→Option (Nat×Nat)} (hl:eI.length=l.length) (hpl:jU l.length ps=true)
  (hlen:∀ (k:Nat) (b:TV) (cs:List Value),l[k]?=some b→eI[k]?=some cs→cs.length=b.t.size∧∀ u∈cs,u.oneCell'=true)
  (gC:∀ (k:Nat) (b:TV),l[k]?=some b→∃ cs,eI[k]?=some cs∧((∃ q,ps.find? (fun q=>Nat.beq q.1 k)=some q∧ax b.t (a.eval q.2) cs)∨(ps.find? (fun q=>Nat.beq q.1 k)=none∧cs=zc b.t)))
  (axN:∀ i (h:i<l.length),place i=some (nW (l.map fun b=>zc b.t) i,l[i].t.size)):
  Instr.fill place (l.map fun b=>zc b.t).flatten.toArray (ps.map fun q=>(q.1,a.eval q.2))=some eI.flatten.toArray:=by
 have hp:∀ {n:Nat} {ps:List (Nat×Operand)},jU n ps=true→(∀ q∈ps,q.1<n)∧(ps.map (·.1)).Nodup:=by
  intro n ps
  induction ps with
  |nil=>intro _;exact⟨fun _ h=>by simp at h,by simp⟩
  |cons q r ih=>
   intro h
   simp only[jU,Bool.and_eq_true] at h
   obtain⟨⟨h1,h2⟩,h3⟩:=h
   obtain⟨i1,i2⟩:=ih h3
   refine⟨fun q' qE=>?_,?_⟩
   ·rcases List.mem_cons.1 qE with rfl |qE
    ·exact Nat.lt_of_succ_le (Nat.le_of_ble_eq_true h1)
    ·exact i1 q' qE
   ·simp only[List.map_cons,List.nodup_cons]
    refine⟨fun hm=>?_,i2⟩
    obtain⟨q',qE,e⟩:=List.mem_map.1 hm
    have:(r.any fun q'=>Nat.beq q'.1 q.1)=true:=List.any_eq_true.2 ⟨q',qE,by rw[e];exact Nat.beq_refl _⟩
    rw[this] at h2
    cases h2
 obtain⟨cP,Mj⟩:=hp hpl
 have eF:∀ i (h:i<l.length),l[i]?=some l[i]:=fun i h=>List.getElem?_eq_getElem h
 have acL:∀ (i:Nat) (q:Nat×Operand),q∈ps→q.1=i→ps.find? (fun q=>Nat.beq q.1 i)=some q:=by
  intro i q hq hi
  subst hi
  clear gC hlen axN hpl cP
  induction ps with
  |nil=>simp at hq
  |cons q' r ih=>
   simp only[List.map_cons,List.nodup_cons] at Mj
   rcases List.mem_cons.1 hq with rfl |hq
   ·simp
   ·have:Nat.beq q'.1 q.1=false:=by
     cases hb:Nat.beq q'.1 q.1 with
     |false=>rfl
     |true=>exact absurd (List.mem_map.2 ⟨q,hq,(Nat.eq_of_beq_eq_true hb).symm⟩) Mj.1
    rw[List.find?_cons,this]
    exact ih Mj.2 hq
 rw[Hf place _ (l.map fun b=>zc b.t) (fun i h=>by
   rw[axN i (by simpa using h)]
   simp[lY]) (fun q hq=>by
   obtain⟨q0,hq0,rfl⟩:=List.mem_map.1 hq
   have hi:=cP q0 hq0
   refine⟨by simpa using hi,?_⟩
   obtain⟨cs,h1,h2⟩:=gC q0.1 _ (eF q0.1 hi)
   obtain⟨h3,h4⟩:=hlen _ _ _ (eF q0.1 hi) h1
   rcases h2 with⟨q,qE,hm⟩ |⟨qE,_⟩
   ·rw[acL q0.1 q0 hq0 rfl] at qE
    injection qE with qE
    subst qE
    rw[hZ hm h4]
    simp[h3,lY]
   ·rw[acL q0.1 q0 hq0 rfl] at qE;cases qE) (by simpa[List.map_map,Function.comp_def] using Mj)]
 congr 3
 unfold MI
 apply List.ext_getElem?
 intro k
 rw[List.getElem?_mapIdx]
 by_cases hk:k<l.length
 ·simp only[List.getElem?_map,eF k hk,Option.map_some]
  obtain⟨cs,h1,h2⟩:=gC k _ (eF k hk)
  obtain⟨h3,h4⟩:=hlen _ _ _ (eF k hk) h1
  rw[h1]
  rw[List.find?_map]
  simp only[Function.comp_def]
  rcases h2 with⟨q,qE,hm⟩ |⟨qE,he⟩
  ·rw[qE]
   simp only[Option.map_some,Option.getD_some]
   rw[hZ hm h4]
  ·rw[qE]
   simp[he]
 ·rw[List.getElem?_eq_none (by simpa using hk),List.getElem?_eq_none (by omega)]
  rfl
end Go.Pv
namespace Go.Pv
set_option linter.unusedVariables false
set_option linter.unusedSimpArgs false
variable {P:Program} {w w':World} {A A' Wr:Nat→Prop} {H:Nat→Value} {tm qH:Nat→Value} {S S' S1:St} {σ bL dN:Nat→Option Nat} {w0:World} {W0 Z:Nat→Prop} {a:Act} {own:Nat→Prop} {v:Value} {Θ:db} {dst:Option Nat}
theorem arN {ow:Nat→Prop} {τ:Nat→Nat}:∀ (l:List TV) (eI:List (List Value)) (j:Nat),eI.length=l.length→
  (∀ (k:Nat) (b:TV),l[k]?=some b→∃ cs,eI[k]?=some cs∧M w A H b.t b.m b.x cs (fun g=>ow g∧τ g=j+k) [])→
  M w A H (Gr l).t (Gr l).m (Gr l).x eI.flatten (fun g=>ow g∧j≤τ g) []
 |[],eI,j,hl,_=>by
  obtain rfl:eI=[]:=List.eq_nil_of_length_eq_zero (by simpa using hl)
  simp[Gr,M,K,Md.bM]
 |[a],eI,j,hl,h=>by
  obtain⟨cs,h1,h2⟩:=h 0 a rfl
  match eI,hl with
  |[c],_=>
   simp only[List.getElem?_cons_zero,Option.some.injEq] at h1
   subst h1
   simp only[Gr,List.flatten_cons,List.flatten_nil,List.append_nil]
   exact aJ (aU.refl _ _) _ (fun _ _ _=>rfl) (fun g hg _=>⟨hg.1,by rw[hg.2];omega⟩) (fun _ h=>h) h2
 |a::b::r,eI,j,hl,h=>by
  match eI,hl with
  |c::cs,hl=>
   obtain⟨c',h1,h2⟩:=h 0 a rfl
   simp only[List.getElem?_cons_zero,Option.some.injEq] at h1
   subst h1
   have ih:=arN (ow:=ow) (τ:=τ) (b::r) cs (j+1) (by simpa using hl) (fun k b' hk=>by
    obtain⟨c',h1,h2⟩:=h (k+1) b' (by simpa using hk)
    exact⟨c',by simpa using h1,aJ (aU.refl _ _) _ (fun _ _ _=>rfl) (fun g hg _=>⟨hg.1,by rw[hg.2];omega⟩) (fun _ h=>h) h2⟩)
   simp only[Gr,List.flatten_cons]
   refine wK (s:=fun g=>τ g=j) ?_ ?_
   ·exact aJ (aU.refl _ _) _ (fun _ _ _=>rfl) (fun g hg _=>⟨⟨hg.1,by rw[hg.2];omega⟩,by rw[hg.2];rfl⟩) (fun _ h=>by simp at h) h2
   ·exact aJ (aU.refl _ _) _ (fun _ _ _=>rfl) (fun g hg _=>⟨⟨hg.1,by omega⟩,by omega⟩) (fun _ h=>by simp at h) ih
theorem RB {ow:Nat→Prop} {τ:Nat→Nat} {l:List TV} {eI:List (List Value)} (hl:eI.length=l.length)
  (h:∀ (k:Nat) (b:TV),l[k]?=some b→∃ cs,eI[k]?=some cs∧M w A H b.t b.m b.x cs (fun g=>ow g∧τ g=0+k) []):
  M w A H (dC l).t (dC l).m (dC l).x eI.flatten ow []:=by
 have h0:=arN (ow:=ow) (τ:=τ) l eI 0 hl h
 have h1:M w A H (Gr l).t (Gr l).m (Gr l).x eI.flatten ow []:=aJ (aU.refl _ _) _ (fun _ _ _=>rfl) (fun g hg _=>hg.1) (fun _ h=>h) h0
 cases l with
 |nil=>exact h1
 |cons a r=>
  cases r with
  |cons b r=>exact h1
  |nil=>
   have:M w A H (.pair a.t .unit) (mkM a.m .k) (a.x,()) (eI.flatten++[]) ow []:=wK (s:=fun _=>True) (aJ (aU.refl _ _) _ (fun _ _ _=>rfl) (fun g hg _=>⟨hg,trivial⟩) (fun _ h=>by simp at h) h1) (by simp[M,K,Md.bM])
   rw[List.append_nil] at this
   exact this
theorem Wb:∀ (l:List TV) (k:Nat) (h:k<l.length),fS (if k+1=l.length then List.replicate k .snd else List.replicate k .snd++[.fst]) (Gr l).t=some l[k].t∧
  aP (if k+1=l.length then List.replicate k .snd else List.replicate k .snd++[.fst]) (Gr l).t=nW (l.map fun b=>zc b.t) k
 |[a],k,h=>by
  obtain rfl:k=0:=by simpa using h
  simp[Gr,fS,aP,nW]
 |a::b::r,0,h=>by simp[Gr,fS,aP,nW]
 |a::b::r,k+1,h=>by
  obtain⟨h1,h2⟩:=Wb (b::r) k (by simpa using h)
  have e:(if k+1+1=(a::b::r).length then List.replicate (k+1) Step.snd else List.replicate (k+1) .snd++[.fst])=.snd::(if k+1=(b::r).length then List.replicate k Step.snd else List.replicate k .snd++[.fst]):=by
   simp only[List.length_cons]
   by_cases hk:k=r.length
   ·rw[if_pos (by omega),if_pos (by omega)];rfl
   ·rw[if_neg (by omega),if_neg (by omega)];rfl
  rw[e]
  simp only[Gr,fS,aP]
  refine⟨h1,?_⟩
  rw[h2]
  simp only[List.map_cons,nW,List.take_succ_cons,List.map_cons,List.sum_cons,lY]
theorem Im (l:List TV) (k:Nat) (h:k<l.length):fS (mI k l.length) (dC l).t=some l[k].t∧aP (mI k l.length) (dC l).t=nW (l.map fun b=>zc b.t) k:=by
 match l,h with
 |[a],h=>
  obtain rfl:k=0:=by simpa using h
  simp[dC,mI,fS,aP,nW]
 |a::b::r,h=>
  have:=Wb (a::b::r) k h
  have e:mI k (a::b::r).length=if k+1=(a::b::r).length then List.replicate k .snd else List.replicate k .snd++[.fst]:=by
   unfold mI
   by_cases hk:k+1=(a::b::r).length
   ·have h1:Nat.beq (k+1) (a::b::r).length=true:=by rw[←hk];exact Nat.beq_refl _
    rw[if_pos hk,h1]
    have:Nat.beq (a::b::r).length 1=false:=by
     simp only[List.length_cons]
     rfl
    rw[this]
    rfl
   ·rw[if_neg hk]
    have:Nat.beq (k+1) (a::b::r).length=false:=by
     cases hb:Nat.beq (k+1) (a::b::r).length with
     |false=>rfl
     |true=>exact absurd (Nat.eq_of_beq_eq_true hb) hk
    rw[this]
    rfl
  rw[e]
  exact this
theorem MJ (l:List TV):zc (dC l).t=(l.map fun b=>zc b.t).flatten:=by
 have h:∀ l:List TV,zc (Gr l).t=(l.map fun b=>zc b.t).flatten:=by
  intro l
  induction l with
  |nil=>simp[Gr,zc]
  |cons a r ih=>
   cases r with
   |nil=>simp[Gr]
   |cons b r=>simp only[Gr,zc,List.map_cons,List.flatten_cons];rw[ih];simp
 unfold dC
 split
 ·simp[zc]
 ·exact h l
theorem mapM_some {α β:Type} {g:α→Option β} {h:α→β}:∀ (l:List α),(∀ f∈l,g f=some (h f))→l.mapM g=some (l.map h)
 |[],_=>by simp
 |f::r,hf=>by
  rw[List.mapM_cons,hf f (by simp),mapM_some r fun f hf'=>hf f (by simp[hf'])]
  rfl
theorem acU (hT:cN P Θ=true) (h:a6 σ w0 W0 Z H S a w) {o:Oper} {T:TypeId} {ps:Array (Nat×Operand)} (ho:o.op=.build T ps) (e:Da Θ S o.dst T ps.toList=some (true,S')):gG P w0 W0 Z H S' a o.dst w (execOp a.eval o):=by
 unfold Da at e
 split at e
 case h_2=>cases e
 rename_i i hi
 split at e
 case h_2=>cases e
 rename_i l S1 hl
 cases hc:(decide ((dC l).t=i.ty)&&Da.acf i.ty&&jU l.length ps.toList) with
 |false=>rw[hc] at e;cases e
 |true=>
 rw[hc] at e
 simp only[cond_true,Option.some.injEq,Prod.mk.injEq,true_and] at e
 simp only[Bool.and_eq_true,decide_eq_true_eq] at hc
 obtain⟨⟨fc,arO⟩,hpl⟩:=hc
 obtain⟨bL,ow,τ,eI,h1,hn,hk,jq,hll,hj,jC⟩:=oZ hT ps.toList i.fs 0 h hl
 obtain⟨⟨_,inf,z,k1,k2,_,_,_,k3,k4⟩,hu,rfl⟩:=cR hT hi
 obtain⟨pa,pb,hpp⟩:∃ pa pb,i.ty=.pair pa pb:=by
  cases acV:i.ty<;>rw[acV] at arO<;>first |exact⟨_,_,rfl⟩ |cases arO
 obtain⟨fs,f1,f2,f3,_⟩:=lV hu hpp
 have Cb:fs.toList.length=l.length:=by rw[hll,←f2,List.length_map]
 have hM:M w (Av σ Z) H (dC l).t (dC l).m (dC l).x eI.flatten ow []:=RB jq (fun k b hb=>by obtain⟨cs,c1,c2,_⟩:=jC k b hb;exact⟨cs,c1,c2⟩)
 have ajq:∀ f∈fs.toList,(P.info? f.type).map (fun i=>(f.offset,i.size))=some (f.offset,P.cellsOf f.type):=by
  intro f hf
  obtain⟨k,hk,rfl⟩:=List.mem_iff_getElem.1 hf
  obtain⟨t,_,ht,_⟩:=iv f3 k _ (List.getElem?_eq_getElem hk)
  obtain⟨aAj,i1,i2,i3⟩:=gU hT ht
  rw[i1,Option.map_some,i2,i3]
 have acW:=Em (a:=a) (ps:=ps.toList) (l:=l) (eI:=eI) (place:=fun k=>(fs.toList.map fun f=>(f.offset,P.cellsOf f.type)).toArray[k]?) jq hpl (fun k b cs hb gC=>by
   obtain⟨cK,c1,c2,_⟩:=jC k b hb
   rw[c1] at gC
   injection gC with gC
   subst gC
   exact eo _ c2) (fun k b hb=>by
   obtain⟨cK,c1,_,c3⟩:=jC k b hb
   simp only[Nat.zero_add] at c3
   exact⟨cK,c1,c3⟩) (fun k hk=>by
   obtain⟨q1,q2⟩:=Im l k hk
   obtain⟨t,t1,t2,t3,_⟩:=iv f3 k (fs.toList[k]'(by omega)) (List.getElem?_eq_getElem (by omega))
   have Zu:fs.size=l.length:=by rw[←Cb,Array.length_toList]
   rw[Nat.zero_add,←fc,Zu] at t1 t3
   rw[q1] at t1
   injection t1 with t1
   subst t1
   obtain⟨_,_,_,c3⟩:=gU hT t2
   rw[q2] at t3
   simp only[List.getElem?_toArray,List.getElem?_map,List.getElem?_eq_getElem (show k<fs.toList.length by omega),Option.map_some,c3,t3])
 have atk:P.built i.T (ps.map fun(j,x)=>(j,a.eval x)).toList=some eI.flatten.toArray:=by
  unfold Program.built
  have hz:z.cells=(l.map fun b=>zc b.t).flatten.toArray:=by
   rw[←MJ,fc]
   have Rl:isAgg i.ty=true:=by rw[hpp];rfl
   unfold ax at k4
   rw[if_pos Rl] at k4
   rw[k4]
   rfl
  rw[k1,f1]
  simp only[k3,mapM_some _ ajq,hz]
  rw[Array.toList_map]
  exact acW
 have cf:=fun w=>run_build (P:=P) w i.T _ _ atk
 rw[←e]
 refine nU (b:=dC l) (cs:=eI.flatten) (v:=.agg eI.flatten.toArray) h1 hk hn (fun w2 _=>?_) ?_ hM
 ·simp only[execOp,ho,Sem.run_bind,cf w2,Result.andThen_ok]
  rfl
 ·unfold ax
  rw[if_pos (by rw[fc,hpp];rfl)]
end Go.Pv
namespace Go.Pv
set_option linter.unusedVariables false
set_option linter.unusedSimpArgs false
variable {P:Program} {w w':World} {A A' Wr:Nat→Prop} {H:Nat→Value} {tm qH:Nat→Value} {S S' S1:St} {σ bL dN:Nat→Option Nat} {w0:World} {W0 Z:Nat→Prop} {a:Act} {own:Nat→Prop} {v:Value} {Θ:db} {dst:Option Nat}
theorem MK {s:Nat} (eI:List (List Value)) (h:∀ c∈eI,c.length=s) (j:Nat) (hj:j<eI.length):(eI.flatten.drop (j*s)).take s=eI[j]:=by
 have h1:(eI.take j).flatten.length=j*s:=by
  rw[kh s (fun c hc=>h c (List.mem_of_mem_take hc)),List.length_take,Nat.min_eq_left (by omega)]
 rw[oY eI j hj,←h1,List.drop_left,←h (eI[j]) (List.getElem_mem hj),List.take_left]
theorem arP {t:Ty} {m:Md} {xs:List t.I} {eI:List (List Value)} {ow:Nat→Prop} {τ:Nat→Nat} (e:TypeId) (hl:eI.length=xs.length)
  (hM:∀ (j:Nat) (hj:j<xs.length),M w A H t m xs[j] (eI[j]'(by omega)) (fun g=>ow g∧τ g=j) []) (cP:∀ g,ow g→g<w.heap.size) (axO:xs.length≤maxLen):
  M (w.alloc (.cells eI.flatten.toArray e)) (fun g=>A g∨w.heap.size≤g) H (.sl t) (.o e none m) xs [.slice (some ⟨w.heap.size,0,none⟩) xs.length xs.length] (fun g=>ow g∨g=w.heap.size) []:=by
 have gh:∀ c∈eI,c.length=t.size:=fun c hc=>by
  obtain⟨j,hj,rfl⟩:=List.mem_iff_getElem.1 hc
  exact(eo t (hM j (by omega))).1
 simp only[M]
 refine .inr (.inr ⟨e,none,m,some ⟨w.heap.size,0,none⟩,xs.length,rfl,rfl,Nat.le_refl _,fun h hh=>(by cases hh),.inr ⟨w.heap.size,eI.flatten.toArray,τ,rfl,.inr rfl,heap_alloc_new w _,?_,axO,fun j hj=>?_⟩⟩)
 ·rw[List.size_toArray,kh t.size gh,hl]
 ·rw[List.toList_toArray,MK eI gh j (by omega)]
  refine aJ (w:=w) ⟨fun g _ hg=>heap_alloc_old w _ g hg,fun g hg hx=>?_⟩ t (fun g hg hl=>heap_alloc_old w _ g hl) (fun g hg hl=>⟨.inl hg.1,by omega,hg.2⟩) (fun _ h=>by simp at h) (hM j hj)
  rcases hx with hx |hx
  ·exact hx
  ·omega
theorem Hg (zl:List Value):∀ n,madeCells zl.toArray (n*zl.length)=(List.replicate n zl).flatten.toArray:=by
 intro n
 unfold madeCells
 apply Array.toList_inj.1
 simp only[Array.toList_map,Array.toList_range,List.toList_toArray]
 induction n with
 |zero=>simp
 |succ n ih=>
  rw[Nat.add_mul,Nat.one_mul,List.range_add,List.map_append,ih,List.replicate_succ',List.flatten_append]
  congr 1
  simp only[List.map_map,List.flatten_cons,List.flatten_nil,List.append_nil]
  apply List.ext_getElem?
  intro k
  by_cases hk:k<zl.length
  ·simp[hk,Function.comp_def,Nat.mod_eq_of_lt hk]
  ·simp[hk]
theorem Cf {t:Ty} {m:Md}:∀ {l:List TV} {xs:List t.I},qJ t m l=some xs→xs.length=l.length∧∀ (k:Nat) (hk:k<xs.length),l[k]?=some ⟨t,m,xs[k]⟩
 |[],xs,h=>by
  simp only[qJ,Option.some.injEq] at h
  subst h
  exact⟨rfl,fun k hk=>by simp at hk⟩
 |b::r,xs,h=>by
  simp only[qJ] at h
  split at h
  ·rename_i ht
   split at h
   ·rename_i hm
    split at h
    ·rename_i l hl
     injection h with h
     subst h
     obtain⟨h1,h2⟩:=Cf hl
     obtain⟨bt,bm,bx⟩:=b
     simp only at ht hm
     subst ht hm
     refine⟨by simp[h1],fun k hk=>?_⟩
     cases k with
     |zero=>rfl
     |succ k=>simpa using h2 k (by simpa using hk)
    ·cases h
   ·cases h
  ·cases h
theorem GF (hT:cN P Θ=true) (h:a6 σ w0 W0 Z H S a w) {hn:Hn} {o:Oper} {T:TypeId} {n:Nat} {ps:Array (Nat×Operand)} (ho:o.op=.buildSlice T n ps) (e:bG Θ hn S o.dst T n ps.toList=some (true,S')):Cd P w0 W0 Z H S' a o.dst w (execOp a.eval o):=by
 unfold bG at e
 split at e
 case h_2=>cases e
 rename_i T0 t te fs0 hi
 cases hc:(jU n ps.toList&&Nat.ble n 1800) with
 |false=>rw[hc] at e;cases e
 |true=>
 rw[hc] at e
 simp only[cond_true] at e
 simp only[Bool.and_eq_true] at hc
 obtain⟨hpl,atl⟩:=hc
 have atl:=Nat.le_of_ble_eq_true atl
 split at e
 case h_2=>cases e
 rename_i l S1 hl
 obtain⟨bL,ow,τ,eI,h1,hnn,hk,jq,hll,hj,jC⟩:=oZ hT ps.toList _ 0 h hl
 rw[List.length_replicate] at hll
 obtain⟨_,hu,hT0⟩:=cR hT hi
 simp only at hT0
 subst hT0
 obtain⟨u1,u2,u3⟩:=kL hu rfl
 simp only at u1 u2
 obtain⟨i2,mF,ht2⟩:=dL u2
 obtain⟨⟨sm,inf,z,k1,k2,_,_,_,k3,k4⟩,_,hte⟩:=cR hT mF
 rw[hte] at k1
 rw[ht2] at k2 k4 sm
 have cP:∀ g,ow g→g<w.heap.size:=fun g hg=>by
  obtain⟨i,_,hi⟩:=hk.MD g hg
  exact h.lt g i hi
 -- all parts are of the type
 have gh:(∃ m xs m',qJ t m l=some xs∧(m'=.o te none m∨(m'=.k∧m.bM=true))∧S'=S1.put o.dst (.v ⟨.sl t,m',xs⟩ [])):=by
  split at e
  ·simp only[Option.some.injEq,Prod.mk.injEq,true_and] at e
   cases hf:hn.Y9 o.dst with
   |true=>exact⟨.k,[],_,rfl,.inr ⟨by rw[hf];rfl,rfl⟩,e.symm⟩
   |false=>exact⟨_,[],_,rfl,.inl (by rw[hf];rfl),e.symm⟩
  ·split at e
   ·rename_i xs hxs
    simp only[Option.some.injEq,Prod.mk.injEq,true_and] at e
    refine⟨_,xs,_,hxs,?_,e.symm⟩
    generalize hf:(hn.Y9 o.dst&&_)=q
    cases q with
    |true=>
     simp only[Bool.and_eq_true] at hf
     exact .inr ⟨rfl,hf.2⟩
    |false=>exact .inl rfl
   ·cases e
 obtain⟨m,xs,m',hxs,hm',rfl⟩:=gh
 obtain⟨x1,x2⟩:=Cf hxs
 have fc:∀ (k:Nat) (b:TV),l[k]?=some b→b.t=t:=fun k b hb=>by
  have hkl:k<xs.length:=by rw[x1];exact(List.getElem?_eq_some_iff.1 hb).1
  rw[x2 k hkl] at hb
  injection hb with hb
  rw[←hb]
 have hzl:(l.map fun b=>zc b.t)=List.replicate n (zc t):=by
  apply List.ext_getElem?
  intro k
  rw[List.getElem?_map,List.getElem?_replicate]
  by_cases hkl:k<l.length
  ·rw[if_pos (by omega),List.getElem?_eq_getElem hkl,Option.map_some,fc k _ (List.getElem?_eq_getElem hkl)]
  ·rw[if_neg (by omega),List.getElem?_eq_none (by omega)]
   rfl
 have acW:=Em (a:=a) (ps:=ps.toList) (l:=l) (eI:=eI) (place:=fun k=>some (k*t.size,t.size)) jq (by rw[hll];exact hpl) (fun k b cs hb gC=>by
   obtain⟨cK,c1,c2,_⟩:=jC k b hb
   rw[c1] at gC
   injection gC with gC
   subst gC
   exact eo _ c2) (fun k b hb=>by
   obtain⟨cK,c1,_,c3⟩:=jC k b hb
   simp only[Nat.zero_add] at c3
   exact⟨cK,c1,c3⟩) (fun k hk=>by
   rw[fc k _ (List.getElem?_eq_getElem hk),hzl]
   congr 2
   unfold nW
   rw[List.take_replicate,Nat.min_eq_left (by omega),List.map_replicate,List.sum_replicate_nat,lY])
 have ML:z.cells=(zc t).toArray:=hZ k4 (fun u hu=>?_)
 rotate_left
 ·-- one cell each
  have:∀ (t:Ty),∀ u∈zc t,u.oneCell'=true:=by
   intro t
   induction t with
   |pair a b iha ihb=>intro u hu;simp only[zc,List.mem_append] at hu;rcases hu with hu |hu;exact iha u hu;exact ihb u hu
   |arr n t ih=>intro u hu;simp only[zc,List.mem_flatten] at hu;obtain⟨c,hc,hu⟩:=hu;rw[List.eq_of_mem_replicate hc] at hu;exact ih u hu
   |unit=>intro u hu;simp[zc] at hu
   |_=>intro u hu;simp only[zc,List.mem_singleton] at hu;subst hu;rfl
  exact this t u hu
 have hlc:eI.length=xs.length:=by omega
 have MM:=arP (w:=w) (A:=Av σ Z) (H:=H) (t:=t) (m:=m) (xs:=xs) (eI:=eI) (ow:=ow) (τ:=τ) te hlc (fun j hj=>by
   have sv:=x2 j hj
   obtain⟨cK,c1,c2,_⟩:=jC j _ sv
   rw[List.getElem?_eq_getElem (by omega)] at c1
   injection c1 with c1
   rw[c1]
   simpa using c2) cP (by simp only[maxLen];omega)
 have cf:(Instr.buildSlice T0 n (ps.map fun(j,x)=>(j,a.eval x))).run P w=.ok (.slice (some ⟨w.heap.size,0,none⟩) n n) (w.alloc (.cells eI.flatten.toArray te)):=by
  have iB: ¬n*t.size>2^24:=by
   have:=Nat.mul_le_mul atl sm
   omega
  have acX:Instr.fill (fun i=>some (i*t.size,t.size)) ((Array.range (n*t.size)).map (z.cells[· %z.cells.size]!)) (ps.map fun x=>(x.1,a.eval x.2)).toList=some eI.flatten.toArray:=by
   have:=Hg (zc t) n
   unfold madeCells at this
   rw[ML,Array.toList_map]
   rw[lY] at this
   rw[this,←hzl]
   exact acW
  have hso:(sizeOf te).run P w=.ok t.size w:=by
   simp[sizeOf,typeInfo,k1,k2]
  have hzv:(zeroValue te).run P w=.ok z w:=by
   simp[zeroValue,typeInfo,k1,k3]
  by_cases h0:n*t.size=0
  ·have atm:Instr.fill (fun i=>some (i*t.size,t.size)) ((Array.range (n*t.size)).map ((#[]:Array Value)[· %(#[]:Array Value).size]!)) (ps.map fun x=>(x.1,a.eval x.2)).toList=some eI.flatten.toArray:=by
    rw[←acX,h0]
    simp[Array.range_zero']
   unfold Instr.buildSlice
   simp only[Sem.run_bind,run_underlying u1,Result.andThen_ok,hso,iB,if_false]
   rw[if_pos h0]
   simp only[Sem.run_bind,Sem.run_pure,Result.andThen_ok,atm]
   simp[newRow]
  ·unfold Instr.buildSlice
   simp only[Sem.run_bind,run_underlying u1,Result.andThen_ok,hso,iB,if_false]
   rw[if_neg h0]
   simp only[Sem.run_bind,Sem.run_pure,hzv,Result.andThen_ok,acX]
   simp[newRow]
 have hex:(execOp a.eval o).run P w=.ok (.value (.slice (some ⟨w.heap.size,0,none⟩) n n)) (w.alloc (.cells eI.flatten.toArray te)):=by
  simp only[execOp,ho,Sem.run_bind,cf,Result.andThen_ok]
  rfl
 have azt:∀ g,Av bL Z g→g<w.heap.size:=fun g hg=>by
  rcases hg with⟨i,hi⟩ |hz
  ·exact h1.lt g i hi
  ·have:=(h1.old g hz).2;have:=h1.fr.size;omega
 rcases hm' with rfl |⟨rfl,hmk⟩
 ·refine⟨w.alloc (.cells eI.flatten.toArray te),.slice (some ⟨w.heap.size,0,none⟩) n n,hex,fun g hg=>heap_alloc_old w _ g hg,_,h1.ME (b:=⟨.sl t,.o te none m,xs⟩) (cs:=[.slice (some ⟨w.heap.size,0,none⟩) n n]) (fun g hg=>heap_alloc_old w _ g hg) (h1.fr.alloc _) (fun g hg=>?_) (fun g hg hx=>?_) (by simp[ax,isAgg]) (by
   have:xs.length=n:=by omega
   rw[this] at MM
   exact MM)⟩
  ·rcases hg with hg |rfl
   ·obtain⟨i,hi,bo⟩:=hk.now g hg
    have:=cP g hg
    exact⟨by simp only[World.alloc,Array.size_push];omega,.inl ⟨i,by omega,bo⟩⟩
   ·exact⟨by simp only[World.alloc,Array.size_push];omega,.inr (Nat.le_refl _)⟩
  ·rcases hx with hx |hx |rfl
   ·exact .inl (hk.Av.1 hx)
   ·obtain⟨i,_,hi⟩:=hk.MD g hx
    exact .inl (.inl ⟨i,hi⟩)
   ·exact .inr (Nat.le_refl _)
 ·refine⟨w.alloc (.cells eI.flatten.toArray te),.slice (some ⟨w.heap.size,0,none⟩) n n,hex,fun g hg=>heap_alloc_old w _ g hg,_,h1.ME (b:=⟨.sl t,.k,xs⟩) (cs:=[.slice (some ⟨w.heap.size,0,none⟩) n n]) (ow:=fun _=>False) (A':=Av bL Z) (fun g hg=>heap_alloc_old w _ g hg) (h1.fr.alloc _) (fun g hg=>hg.elim) (fun g hg hx=>hx.resolve_right id) (by simp[ax,isAgg]) (nE (t:=.sl t) rfl ?_)⟩
  have hxn:xs.length=n:=by omega
  show K _ _ (.sl t) xs _
  have ajr:∀ c∈eI,c.length=t.size:=fun c hc=>by
   obtain⟨j,hj,rfl⟩:=List.getElem_of_mem hc
   obtain⟨cK,c1,c2,_⟩:=jC j _ (x2 j (by omega))
   rw[List.getElem?_eq_getElem hj] at c1
   injection c1 with c1
   rw[c1]
   exact(eo _ c2).1
  have Cb:eI.flatten.length=n*t.size:=by rw[kh t.size ajr,hlc,hxn]
  simp only[K]
  refine⟨some ⟨w.heap.size,0,none⟩,n,by rw[hxn],by omega,fun _=>⟨w.heap.size,0,eI.flatten.toArray,te,(0,0),rfl,fun hx=>absurd (azt _ hx) (Nat.lt_irrefl _),heap_alloc_new w _,by simp only[List.size_toArray,Cb,hxn];omega,fun j hj'=>?_⟩⟩
  obtain⟨cK,c1,c2,_⟩:=jC j _ (x2 j hj')
  rw[List.getElem?_eq_getElem (by omega)] at c1
  injection c1 with c1
  have gz:=MK eI ajr j (by omega)
  simp only[Nat.zero_add]
  rw[gz,c1]
  refine bV ⟨fun g _ hg=>heap_alloc_old w _ g hg,fun g _ hg=>hk.Av.1 hg⟩ t (ft t hmk c2)
theorem Io (hT:cN P Θ=true) (h:a6 σ w0 W0 Z H S a w) {o:Oper} {T:TypeId} {l c:Operand} (ho:o.op=.makeSlice T l c) (e:ga Θ S o.dst T l c=some (true,S')):Cd P w0 W0 Z H S' a o.dst w (execOp a.eval o):=by
 unfold ga at e
 split at e
 case h_2=>cases e
 rename_i T0 t te fs0 n n' hi hl hc
 split at e
 case h_2=>cases e
 rename_i z hz
 split at e
 case isFalse=>cases e
 rename_i hzt
 simp only[Option.some.injEq,Prod.mk.injEq,Bool.and_eq_true,decide_eq_true_eq] at e
 obtain⟨⟨⟨rfl,h0⟩,h40⟩,rfl⟩:=e
 obtain⟨kl,hl⟩:=hY h hl
 obtain⟨kc,hc⟩:=hY h hc
 obtain⟨_,hu,hT0⟩:=cR hT hi
 simp only at hT0
 subst hT0
 obtain⟨u1,u2,u3⟩:=kL hu rfl
 simp only at u1
 obtain⟨i,inf,zv,mF,fc,hx,wM,q1,q2,q3,q4,q5,q6⟩:=Ak hT hz
 have Mf:M w (Av σ Z) H z.t z.m z.t.z (zc z.t) (fun _=>False) []:=Ei z.t wM
 have hzc:zv.cells=(zc z.t).toArray:=hZ q4 (eo _ Mf).2
 have cf:=run_make (P:=P) w T0 te inf zv u1 q1 q3 kl kc n n h0 (Int.le_refl _) (by
  have h1:(inf.bytes:Int)≤256:=by omega
  calc (inf.bytes:Int)*n≤256*n:=Int.mul_le_mul_of_nonneg_right h1 h0
   _≤281474976710656:=by omega) (by omega)
 rw[q2,hzc,←lY,Hg] at cf
 have MM:=arP (w:=w) (A:=Av σ Z) (H:=H) (t:=t) (m:=z.m) (xs:=List.replicate n.toNat t.z) (eI:=List.replicate n.toNat (zc z.t)) (ow:=fun _=>False) (τ:=fun _=>0) te (by simp) (fun j hj=>by
   subst hzt
   simp only[List.getElem_replicate]
   exact Ik Mf) (fun _ h=>h.elim) (by simp only[List.length_replicate,maxLen];omega)
 refine⟨w.alloc (.cells (List.replicate n.toNat (zc z.t)).flatten.toArray te),_,?_,fun g hg=>heap_alloc_old w _ g hg,_,h.ME (b:=⟨.sl t,.o te none z.m,List.replicate n.toNat t.z⟩) (cs:=[.slice (some ⟨w.heap.size,0,none⟩) n.toNat n.toNat]) (w':=w.alloc (.cells (List.replicate n.toNat (zc z.t)).flatten.toArray te)) (v:=.slice (some ⟨w.heap.size,0,none⟩) n.toNat n.toNat) (fun g hg=>heap_alloc_old w _ g hg) (h.fr.alloc _) (fun g hg=>?_) (fun g hg hx=>?_) (by simp[ax,isAgg]) (by
   rw[List.length_replicate] at MM
   exact MM)⟩
 ·simp only[execOp,ho,hl,hc,Sem.run_bind,cf,Result.andThen_ok]
  rfl
 ·rcases hg with hg |rfl
  ·exact hg.elim
  ·exact⟨by simp only[World.alloc,Array.size_push];omega,.inr (Nat.le_refl _)⟩
 ·rcases hx with hx |hx |rfl
  ·exact .inl hx
  ·exact hx.elim
  ·exact .inr (Nat.le_refl _)
end Go.Pv
namespace Go.Pv
set_option linter.unusedVariables false
set_option linter.unusedSimpArgs false
variable {P:Program} {w w':World} {A A' Wr:Nat→Prop} {H:Nat→Value} {tm qH:Nat→Value} {S S' S1:St} {σ bL dN:Nat→Option Nat} {w0:World} {W0 Z:Nat→Prop} {a:Act} {own:Nat→Prop} {v:Value} {Θ:db} {dst:Option Nat}
theorem xe {olds news:List Value} {s n j:Nat} (hl:olds.length=n*s) (hj:j<n):((olds++news).drop (j*s)).take s=(olds.drop (j*s)).take s:=by
 have h1:(j+1)*s≤n*s:=Nat.mul_le_mul_right s hj
 rw[Nat.add_mul,Nat.one_mul] at h1
 rw[List.drop_append_of_le_length (by omega),List.take_append_of_le_length (by rw[List.length_drop];omega)]
theorem Hi {olds news:List Value} {s n j:Nat} (hl:olds.length=n*s):((olds++news).drop ((n+j)*s)).take s=(news.drop (j*s)).take s:=by
 rw[Nat.add_mul,←hl,List.drop_append,Nat.add_sub_cancel_left,List.drop_eq_nil_of_le (Nat.le_add_right _ _),List.nil_append]
theorem nX {cur:List Value} {s n j:Nat} (hj:j<n):((cur.take (n*s)).drop (j*s)).take s=(cur.drop (j*s)).take s:=by
 have h1:(j+1)*s≤n*s:=Nat.mul_le_mul_right s hj
 rw[Nat.add_mul,Nat.one_mul] at h1
 rw[List.drop_take,List.take_take,Nat.min_eq_left (by omega)]
theorem cY {g o:Nat} {t:TypeId} {cur:Array Value} {vs:List Value} (hw:w.heap[g]?=some (.cells cur t (0,0))) (hb:o+vs.length≤cur.size) (h1:∀ u∈vs,u.oneCell'=true):
  w.setCells g o vs=w.setRow g (putCells cur.toList o vs).toArray:=by
 have e1:=run_storeCells_at (P:=(default:Program)) g o t vs 0 cur w hw (by omega) h1
 have e2:=run_storeCells_cells (P:=(default:Program)) g o vs 0 w (fun j hj=>by
  have:o+j<cur.size:=by omega
  simp[World.cell?,hw,this]) (fun j hj=>by simp[World.frozen?,hw]) h1
 rw[e1] at e2
 simp only[Nat.add_zero,Result.ok.injEq,true_and] at e2
 exact e2.symm
theorem RC {T' e':TypeId} {size:Nat} {t:Ty} {ys:List t.I} {vy:Value} (hk:P.underlying T'=some (.slice e')) (hs:size=t.size)
  (h:∃ X c,vy=.slice X ys.length c∧(0<ys.length→∃ g off cur T fr,X=some ⟨g,off,none⟩∧w.heap[g]?=some (.cells cur T fr)∧off+ys.length*t.size≤cur.size∧∀ u∈(cur.toList.drop off).take (ys.length*t.size),u.oneCell'=true)):
  ∃ news,Src P size T' vy ys.length news w∧(∀ g off cur T fr X c,vy=.slice X ys.length c→X=some ⟨g,off,none⟩→w.heap[g]?=some (.cells cur T fr)→0<ys.length→news=(cur.toList.drop off).take (ys.length*t.size)):=by
 subst hs
 obtain⟨X,c,rfl,h⟩:=h
 rcases Nat.eq_zero_or_pos ys.length with h0 |h0
 ·refine⟨[],?_,fun _ _ _ _ _ _ _ _ _ _ hp=>by omega⟩
  rw[h0]
  cases X with
  |none=>exact Src.ofNil w hk c
  |some ad=>exact Src.ofSlice w hk ad 0 c [] (by simp) (fun j u hu=>by simp at hu) (fun u hu=>by simp at hu)
 ·obtain⟨g,off,cur,T,fr,rfl,hw,hb,h1⟩:=h h0
  refine⟨(cur.toList.drop off).take (ys.length*t.size),Src.ofSlice w hk ⟨g,off,none⟩ ys.length c _ (by have hc:cur.toList.length=cur.size:=Array.length_toList;rw[List.length_take,List.length_drop];omega) (fun j u hu=>?_) h1,?_⟩
  ·have hj:j<ys.length*t.size:=by
    have:=(List.getElem?_eq_some_iff.1 hu).1
    rw[List.length_take] at this
    omega
   rw[List.getElem?_take,if_pos hj,List.getElem?_drop] at hu
   rw[iL]
   simp only[World.cell?,hw]
   rw[←Array.getElem?_toList]
   exact hu
  ·intro g' aAk RD T' fr' X' c' e1 e2 Gx _
   injection e1 with e1
   subst e2
   injection e1 with e1
   injection e1 with e1 Ai
   subst e1 Ai
   rw[hw] at Gx
   injection Gx with Gx
   injection Gx with Gx
   rw[Gx]
noncomputable def join (tG:Nat→Prop) (n:Nat) (Ip τ:Nat→Nat) (g:Nat):Nat:=open Classical in if tG g then n+Ip g else τ g
theorem Wc {tG:Nat→Prop} {n:Nat} {Ip τ:Nat→Nat} {g:Nat} (h:tG g):join tG n Ip τ g=n+Ip g:=if_pos h
theorem MN {tG:Nat→Prop} {n:Nat} {Ip τ:Nat→Nat} {g:Nat} (h: ¬tG g):join tG n Ip τ g=τ g:=if_neg h
theorem xf (hT:cN P Θ=true) {T T' e ty:TypeId} {t:Ty} {tag:Option Nat} {me:Md} {xs ys:List t.I} {vx vy:Value} {Eo tG:Nat→Prop} {Ip:Nat→Nat} {news:List Value} {inf:TypeInfo} {z:Value}
  (hu:P.underlying T=some (.slice e)) (hi:P.info? e=some inf) (hz:inf.zero=some z) (iB:inf.size=t.size) (hby:inf.bytes≤32*t.size) (hzs:z.cells.size=t.size) (C7:0<t.size)
  (hx:M w A H (.sl t) (.o e tag me) xs [vx] Eo []) (qZ:Src P t.size T' vy ys.length news w)
  (hN:∀ (k:Nat) (hk:k<ys.length),M w A H t me ys[k] ((news.drop (k*t.size)).take t.size) (fun g=>tG g∧Ip g=k) [])
  (acY:∀ g,Eo g→¬tG g) (hxA:∀ g,Eo g→A g) (hlx:∀ g,Eo g→g<w.heap.size) (hlN:∀ g,tG g→g<w.heap.size) (Iq:(xs.length+ys.length)*t.size≤4398046511104):
  ∃ v' w' cC,(Builtin.append_ #[T,T'] ty #[vx,vy]).run P w=.ok v' w'∧M w' (fun g=>A g∨w.heap.size≤g) H (.sl t) (.o e none me) (xs++ys) [v'] cC []∧
   (∀ g,g<w.heap.size→¬Eo g→w'.heap[g]?=w.heap[g]?)∧(∀ g,cC g→g<w'.heap.size∧(Eo g∨tG g∨w.heap.size≤g))∧w.heap.size≤w'.heap.size∧w'.os=w.os∧w'.tape=w.tape∧w'.output=w.output:=by
 have acZ:xs.length+ys.length≤4398046511104:=Nat.le_trans (Nat.le_mul_of_pos_right _ C7) Iq
 have ac0:(xs.length+ys.length)*inf.bytes≤140737488355328:=by
  have:(xs.length+ys.length)*inf.bytes≤(xs.length+ys.length)*(32*t.size):=Nat.mul_le_mul_left _ hby
  have e2:(xs.length+ys.length)*(32*t.size)=32*((xs.length+ys.length)*t.size):=by rw[Nat.mul_left_comm]
  omega
 have Wd:Src P inf.size T' vy ys.length news w:=by rw[iB];exact qZ
 have ajn:=qZ.one
 have hnl:=qZ.newsLen
 -- the grown row
 have grown:∀ (base:Option Addr) (c:Nat) (olds:List Value) (owo:Nat→Prop) (τ:Nat→Nat),vx=.slice base xs.length c→c<xs.length+ys.length→olds.length=xs.length*t.size→
   (Builtin.firstCells inf.size xs.length vx).run P w.drew=.ok olds.toArray w.drew→(∀ g,owo g→Eo g)→
   (∀ (k:Nat) (hk:k<xs.length),M w A H t me xs[k] ((olds.drop (k*t.size)).take t.size) (fun g=>owo g∧τ g=k) [])→
   ∃ v' w' cC,(Builtin.append_ #[T,T'] ty #[vx,vy]).run P w=.ok v' w'∧M w' (fun g=>A g∨w.heap.size≤g) H (.sl t) (.o e none me) (xs++ys) [v'] cC []∧
   (∀ g,g<w.heap.size→¬Eo g→w'.heap[g]?=w.heap[g]?)∧(∀ g,cC g→g<w'.heap.size∧(Eo g∨tG g∨w.heap.size≤g))∧w.heap.size≤w'.heap.size∧w'.os=w.os∧w'.tape=w.tape∧w'.output=w.output:=by
  intro base c olds owo τ hv hc hol Ir Gy um
  subst hv
  have cf:=run_append_grow_src (P:=P) w T T' ty e inf z hu hi hz base xs.length c olds Ir vy ys.length news Wd hc (by omega) (by
   have h1:=nextslicecap_le hc
   have h2:=Nat.mul_le_mul_right inf.bytes h1
   rw[Nat.mul_assoc] at h2
   omega)
  have hge:=grownCap_ge w (xs.length+ys.length) c e
  have hle:=grownCap_le_maxLen w (xs.length+ys.length) c e (by simp only[maxLen];omega)
  let pad:=Builtin.zeroCells z.cells (grownCap w (xs.length+ys.length) c e - (xs.length+ys.length))
  have fO:∀ g,g<w.heap.size→(w.drew.alloc (.cells ((olds++news).toArray++pad) e)).heap[g]?=w.heap[g]?:=fun g hg=>heap_alloc_old w.drew _ g hg
  refine⟨_,w.drew.alloc (.cells ((olds++news).toArray++pad) e),fun g=>owo g∨tG g∨g=w.heap.size,cf,?_,fun g hg _=>fO g hg,fun g hg=>?_,by simp,rfl,rfl,rfl⟩
  ·simp only[M]
   refine .inr (.inr ⟨e,none,me,some ⟨w.heap.size,0,none⟩,grownCap w (xs.length+ys.length) c e,rfl,by rw[List.length_append],by rw[List.length_append];exact hge,fun h hh=>(by cases hh),.inr ⟨w.heap.size,(olds++news).toArray++pad,join tG xs.length Ip τ,rfl,.inr (.inr rfl),heap_alloc_new w.drew _,?_,hle,fun j hj=>?_⟩⟩)
   ·simp only[pad,Array.size_append,List.size_toArray,List.length_append,size_zeroCells,hzs,hol,hnl,←Nat.add_mul]
    congr 1
    omega
   ·have bU:aU w (w.drew.alloc (.cells ((olds++news).toArray++pad) e)) A (fun g=>A g∨w.heap.size≤g):=⟨fun g _ hg=>fO g hg,fun g hg hx=>hx.resolve_right (by omega)⟩
    rw[Array.toList_append,List.toList_toArray]
    rcases Nat.lt_or_ge j xs.length with hjx |hjx
    ·rw[List.getElem_append_left hjx,List.append_assoc,xe hol hjx]
     refine aJ bU t (fun g hg hl=>fO g hl) (fun g hg hl=>⟨.inl hg.1,by omega,?_⟩) (fun _ h=>by simp at h) (um j hjx)
     rw[MN (acY g (Gy g hg.1))]
     exact hg.2
    ·have hjy:j - xs.length<ys.length:=by rw[List.length_append] at hj;omega
     rw[List.getElem_append_right hjx]
     have e1:=Hi (olds:=olds) (news:=news++pad.toList) (s:=t.size) (n:=xs.length) (j:=j - xs.length) hol
     rw[show xs.length+(j - xs.length)=j from by omega,←List.append_assoc,xe hnl hjy] at e1
     rw[e1]
     refine aJ bU t (fun g hg hl=>fO g hl) (fun g hg hl=>⟨.inr (.inl hg.1),by omega,?_⟩) (fun _ h=>by simp at h) (hN (j - xs.length) hjy)
     rw[Wc hg.1,hg.2]
     omega
  ·have:(w.drew.alloc (.cells ((olds++news).toArray++pad) e)).heap.size=w.heap.size+1:=by simp
   rcases hg with hg |hg |rfl
   ·exact⟨by have:=hlx g (Gy g hg);omega,.inl (Gy g hg)⟩
   ·exact⟨by have:=hlN g hg;omega,.inr (.inl hg)⟩
   ·exact⟨by omega,.inr (.inr (Nat.le_refl _))⟩
 -- nothing to append
 have nothing:∀ (base:Option Addr) (c:Nat),vx=.slice base xs.length c→xs.length≤c→ys.length=0→
   ∃ v' w' cC,(Builtin.append_ #[T,T'] ty #[vx,vy]).run P w=.ok v' w'∧M w' (fun g=>A g∨w.heap.size≤g) H (.sl t) (.o e none me) (xs++ys) [v'] cC []∧
   (∀ g,g<w.heap.size→¬Eo g→w'.heap[g]?=w.heap[g]?)∧(∀ g,cC g→g<w'.heap.size∧(Eo g∨tG g∨w.heap.size≤g))∧w.heap.size≤w'.heap.size∧w'.os=w.os∧w'.tape=w.tape∧w'.output=w.output:=by
  intro base c hv hle h0
  have hys:ys=[]:=List.eq_nil_of_length_eq_zero h0
  subst hys
  have hn0:news=[]:=List.eq_nil_of_length_eq_zero (by simpa using hnl)
  rw[hn0] at Wd
  rw[hv] at hx ⊢
  have cf:=run_append_nothing (P:=P) w T T' ty e inf hu hi base xs.length c hle vy Wd
  refine⟨_,w,Eo,cf,?_,fun _ _ _=>rfl,fun g hg=>⟨hlx g hg,.inl hg⟩,Nat.le_refl _,rfl,rfl,rfl⟩
  rw[List.append_nil]
  have wV:M w A H (.sl t) (.o e none me) xs [.slice base xs.length c] Eo []:=by
   simp only[M] at hx ⊢
   rcases hx with⟨hn,_⟩ |⟨hk,_⟩ |⟨T1,azu,me1,X,c1,e1,e2,h1,h2,h3⟩
   ·simp at hn
   ·simp[Md.bM] at hk
   ·injection e1 with e1 Ai o6
    subst e1 Ai o6
    exact .inr (.inr ⟨e,none,me,X,c1,rfl,e2,h1,fun h hh=>(by cases hh),h3⟩)
  exact aJ (w:=w) ⟨fun _ _ _=>rfl,fun g hg hx=>hx.resolve_right (by omega)⟩ (.sl t) (fun _ _ _=>rfl) (fun g hg _=>hg) (fun _ h=>h) wV
 have hx0:=hx
 simp only[M] at hx
 rcases hx with⟨hn,_⟩ |⟨hk,_⟩ |⟨T1,azu,me1,X,c,e1,e2,hle,ajl,hx⟩
 ·simp at hn
 ·simp[Md.bM] at hk
 ·injection e1 with e1 Ai o6
  subst e1 Ai o6
  simp only[List.cons.injEq,and_true] at e2
  rcases Nat.eq_zero_or_pos ys.length with h0 |h0
  ·exact nothing X c e2 hle h0
  ·rcases hx with⟨hxs,hc⟩ |⟨g,cur,τ,rfl,qm,hw,gC,hcm,um⟩
   ·subst hxs hc
    refine grown X 0 [] (fun _=>False) (fun _=>0) e2 (by simpa using h0) (by simp) ?_ (fun _ h=>h.elim) (fun k hk=>by simp at hk)
    rw[e2]
    cases X with
    |none=>exact run_firstCells_none w.drew _ _ _ _
    |some ad=>exact run_firstCells_some w.drew _ _ ad _ _ [] (by simp) (fun j u hu=>by simp at hu)
   ·have hbx:xs.length*t.size≤cur.toList.length:=by
     have h1:cur.toList.length=cur.size:=Array.length_toList
     have h2:=Nat.mul_le_mul_right t.size hle
     omega
    have jq:cur.toList.length=cur.size:=Array.length_toList
    by_cases q7:xs.length+ys.length≤c
    ·-- room
     have wM:xs.length*t.size+news.length≤cur.size:=by
      rw[hnl,gC,←Nat.add_mul]
      exact Nat.mul_le_mul_right _ q7
     have cf:=run_append_room_src (P:=P) w T T' ty e inf hu hi g 0 xs.length c vy ys.length news Wd q7 (fun j hj=>by
      have:xs.length*inf.size+j<cur.size:=by rw[iB];omega
      simp[World.cell?,hw,this]) (fun j hj=>by simp[World.frozen?,hw])
     rw[Nat.zero_add,iB,cY hw wM ajn] at cf
     have fO:∀ k,k≠g→(w.setRow g (putCells cur.toList (xs.length*t.size) news).toArray).heap[k]?=w.heap[k]?:=fun k hk=>setRow_other w g k _ hk
     refine⟨_,w.setRow g (putCells cur.toList (xs.length*t.size) news).toArray,fun k=>Eo k∨tG k,by rw[e2];exact cf,?_,fun k _ hk=>fO k (fun e'=>hk (by rw[e'];exact qm)),fun k hk=>?_,by rw[setRow_size];exact Nat.le_refl _,rfl,rfl,rfl⟩
     ·simp only[M]
      refine .inr (.inr ⟨e,none,me,some ⟨g,0,none⟩,c,rfl,by rw[List.length_append],by rw[List.length_append];exact q7,fun h hh=>(by cases hh),.inr ⟨g,(putCells cur.toList (xs.length*t.size) news).toArray,join tG xs.length Ip τ,rfl,.inl qm,setRow_heap w g cur _ e (0,0) hw,?_,hcm,fun j hj=>?_⟩⟩)
      ·rw[List.size_toArray,gS _ _ _ (by omega),jq,gC]
      ·have bU:aU w (w.setRow g (putCells cur.toList (xs.length*t.size) news).toArray) A (fun g=>A g∨w.heap.size≤g):=⟨fun k hk _=>fO k (fun e'=>hk (by rw[e'];exact hxA g qm)),fun k hk hx=>hx.resolve_right (by omega)⟩
       rw[List.toList_toArray]
       have htl:(cur.toList.take (xs.length*t.size)).length=xs.length*t.size:=by rw[List.length_take];omega
       have Zx:putCells cur.toList (xs.length*t.size) news=cur.toList.take (xs.length*t.size)++(news++cur.toList.drop (xs.length*t.size+news.length)):=by unfold putCells;rw[List.append_assoc]
       rcases Nat.lt_or_ge j xs.length with hjx |hjx
       ·have gz:((putCells cur.toList (xs.length*t.size) news).drop (j*t.size)).take t.size=(cur.toList.drop (j*t.size)).take t.size:=by rw[Zx,xe htl hjx,nX hjx]
        rw[List.getElem_append_left hjx,gz]
        refine aJ bU t (fun k hk hl=>fO k hk.2.1) (fun k hk hl=>⟨.inl hk.1,hk.2.1,?_⟩) (fun _ h=>h) (um j hjx)
        rw[MN (acY k hk.1)]
        exact hk.2.2
       ·have hjy:j - xs.length<ys.length:=by rw[List.length_append] at hj;omega
        rw[List.getElem_append_right hjx]
        have e1:=Hi (olds:=cur.toList.take (xs.length*t.size)) (news:=news++cur.toList.drop (xs.length*t.size+news.length)) (s:=t.size) (n:=xs.length) (j:=j - xs.length) htl
        rw[show xs.length+(j - xs.length)=j from by omega,xe hnl hjy] at e1
        rw[←Zx] at e1
        rw[e1]
        have hgN:∀ k,tG k→k≠g:=fun k hk e'=>acY g qm (by rw[←e'];exact hk)
        refine aJ bU t (fun k hk hl=>fO k (hgN k hk.1)) (fun k hk hl=>⟨.inr hk.1,hgN k hk.1,?_⟩) (fun _ h=>by simp at h) (hN (j - xs.length) hjy)
        rw[Wc hk.1,hk.2]
        omega
     ·rw[setRow_size]
      rcases hk with hk |hk
      ·exact⟨hlx k hk,.inl hk⟩
      ·exact⟨hlN k hk,.inr (.inl hk)⟩
    ·refine grown (some ⟨g,0,none⟩) c (cur.toList.take (xs.length*t.size)) (fun k=>Eo k∧k≠g) τ e2 (by omega) (by rw[List.length_take];omega) ?_ (fun k hk=>hk.1) (fun k hk=>?_)
     ·rw[e2,iB]
      refine run_firstCells_some w.drew _ _ ⟨g,0,none⟩ _ _ _ (by rw[List.length_take];omega) (fun j u hu=>?_)
      rw[iL]
      have hj:j<xs.length*t.size:=by
       have:=(List.getElem?_eq_some_iff.1 hu).1
       rw[List.length_take] at this
       omega
      rw[List.getElem?_take,if_pos hj] at hu
      have Gx:w.drew.heap[g]?=some (.cells cur e (0,0)):=hw
      simp only[World.cell?,Gx,Nat.zero_add]
      rw[←Array.getElem?_toList]
      exact hu
     ·rw[nX hk]
      exact aJ (aU.refl _ _) t (fun _ _ _=>rfl) (fun g' bo _=>⟨⟨bo.1,bo.2.1⟩,bo.2.2⟩) (fun _ h=>h) (um k hk)
end Go.Pv
namespace Go.Pv
set_option linter.unusedVariables false
set_option linter.unusedSimpArgs false
variable {P:Program} {w w':World} {A A' Wr:Nat→Prop} {H:Nat→Value} {tm qH:Nat→Value} {S S' S1:St} {σ bL dN:Nat→Option Nat} {w0:World} {W0 Z:Nat→Prop} {a:Act} {own:Nat→Prop} {v:Value} {Θ:db} {dst:Option Nat}
def KS (w:World) (A:Nat→Prop) (t:Ty) (xs:List t.I) (cs:List Value):Prop:=
 ∃ X c,cs=[.slice X xs.length c]∧xs.length≤c∧(0<xs.length→∃ g off cur T fr,X=some ⟨g,off,none⟩∧w.heap[g]?=some (.cells cur T fr)∧off+xs.length*t.size≤cur.size∧∀ j (h:j<xs.length),K w A t xs[j] ((cur.toList.drop (off+j*t.size)).take t.size))
theorem atn {t:Ty} {m:Md} {xs:List t.I} {cs:List Value} {ow:Nat→Prop} (hk:m.GQ.bM=true) (h:M w A H (.sl t) m xs cs ow []):KS w A t xs cs:=by
 simp only[M] at h
 rcases h with⟨hn,_⟩ |⟨_,h⟩ |⟨T,tag,me,X,c,rfl,rfl,hc,ht,h⟩
 ·simp at hn
 ·simp only[K] at h
  obtain⟨X,c,rfl,hc,h⟩:=h
  refine⟨X,c,rfl,hc,fun hp=>?_⟩
  obtain⟨g,off,cur,T,fr,h1,_,h2,h3,h4⟩:=h hp
  exact⟨g,off,cur,T,fr,h1,h2,h3,h4⟩
 ·refine⟨X,c,rfl,hc,fun hp=>?_⟩
  rcases h with⟨rfl,_⟩ |⟨g,cur,τ,rfl,qm,hw,iB,hm,h⟩
  ·simp at hp
  ·refine⟨g,0,cur,T,(0,0),rfl,hw,?_,fun j hj=>?_⟩
   ·have:=Nat.mul_le_mul_right t.size hc
    omega
   ·rw[Nat.zero_add]
    exact ft t hk (h j hj)
theorem ato {t:Ty} {xs:List t.I} {X:Option Addr} {c lo hi:Nat} (h:KS w A t xs [.slice X xs.length c]) (h1:lo≤hi) (h2:hi≤xs.length):
  KS w A t ((xs.take hi).drop lo) [.slice (if c=lo then X else X.map (·.add (lo*t.size))) (hi - lo) (c - lo)]:=by
 obtain⟨X',c',e,hc,h⟩:=h
 simp only[List.cons.injEq,Value.slice.injEq,and_true,true_and] at e
 obtain⟨rfl,rfl⟩:=e
 have hl:((xs.take hi).drop lo).length=hi - lo:=by rw[List.length_drop,List.length_take];omega
 refine⟨_,_,by rw[hl],by omega,fun hp=>?_⟩
 rw[hl] at hp
 obtain⟨g,off,cur,T,fr,rfl,hw,ho,hj⟩:=h (by omega)
 have e1:(lo+(hi - lo))*t.size≤xs.length*t.size:=Nat.mul_le_mul_right _ (by omega)
 rw[Nat.add_mul] at e1
 refine⟨g,off+lo*t.size,cur,T,fr,?_,hw,by rw[hl];omega,fun j Gs=>?_⟩
 rotate_left
 ·have oz:j<hi - lo:=by rw[←hl];exact Gs
  have:=hj (lo+j) (by omega)
  rw[show((xs.take hi).drop lo)[j]=xs[lo+j]'(by omega) from by simp]
  rw[show off+lo*t.size+j*t.size=off+(lo+j)*t.size from by rw[Nat.add_mul];omega]
  exact this
 ·rw[if_neg (by omega)]
  simp only[Option.map_some,iL]
theorem MO (h:a6 σ w0 W0 Z H S a w) {av:AV} {t:Ty} {m:Md} {ys:List t.I} (hh:Holds w (Av σ Z) H (bZ a) S own av v) (e:S.so av=some ⟨.sl t,m,ys⟩) (hk:m.GQ.bM=true):
  KS w (Av σ Z) t ys [v]:=by
 cases av with
 |v a ex=>
  cases ex with
  |cons _ _=>simp[St.so] at e
  |nil=>
   simp only[St.so,Option.some.injEq] at e
   subst e
   obtain⟨cs,h1,h2⟩:=hh
   have:cs=[v]:=by simpa[ax,isAgg] using h1
   subst this
   exact atn hk h2
 |al t1 s p=>
  simp only[St.so] at e
  obtain⟨r,cM,cs,hr,hc,hm⟩:=hh
  obtain⟨rfl,cC,k2,k3⟩:=c8 h hr hc e
  have:cs=[v]:=by simpa[ax,isAgg] using hm
  subst this
  exact atn hk k3
 |cut t1 s p lo hi=>
  simp only[St.so] at e
  obtain⟨r,cM,t',X,n,c,hr,rfl,hc,Zi,DZ,rfl⟩:=hh
  cases hp:S.place s p with
  |none=>rw[hp] at e;cases e
  |some b'=>
   obtain⟨ht,cC,k2,k3⟩:=c8 h hr hc hp
   obtain⟨bt,bm,bx⟩:=b'
   simp only at ht
   subst ht
   rw[hp] at e
   simp only[Option.some.injEq] at e
   injection e with e1 e2 e3
   injection e1 with e1
   subst e1 e2
   simp only[heq_eq_eq] at e3
   subst e3
   have hK:=atn hk k3
   have hn:n=List.length bx:=by
    obtain⟨_,_,e,_⟩:=hK
    simp only[List.cons.injEq,Value.slice.injEq,and_true] at e
    exact e.2.1
   subst hn
   exact ato hK Zi DZ
 |_=>simp[St.so] at e
theorem nY {s:Nat} {Q:Value→Prop} {l:List Value}:∀ (n:Nat),(∀ j,j<n→∀ u∈(l.drop (j*s)).take s,Q u)→∀ u∈l.take (n*s),Q u
 |0,_,u,hu=>by simp at hu
 |n+1,h,u,hu=>by
  rw[Nat.add_mul,Nat.one_mul,List.take_add] at hu
  rcases List.mem_append.1 hu with hu |hu
  ·exact nY n (fun j hj=>h j (by omega)) u hu
  ·exact h n (by omega) u hu
theorem ac1 {T' e':TypeId} {t:Ty} {ys:List t.I} {vy:Value} (hk:P.underlying T'=some (.slice e')) (h:KS w A t ys [vy]):
  ∃ news,Src P t.size T' vy ys.length news w∧∀ (k:Nat) (hk:k<ys.length),K w A t ys[k] ((news.drop (k*t.size)).take t.size):=by
 obtain⟨X,c,e,hc,h⟩:=h
 simp only[List.cons.injEq,and_true] at e
 obtain⟨news,h1,h2⟩:=RC (P:=P) (w:=w) (t:=t) (ys:=ys) (vy:=vy) hk rfl ⟨X,c,e,fun hp=>by
  obtain⟨g,off,cur,T,fr,rfl,hw,hb,hj⟩:=h hp
  refine⟨g,off,cur,T,fr,rfl,hw,hb,nY _ fun j Gs u hu=>?_⟩
  rw[List.drop_drop] at hu
  exact(kG t (hj j Gs)).2 u hu⟩
 refine⟨news,h1,fun k hk=>?_⟩
 obtain⟨g,off,cur,T,fr,rfl,hw,hb,hj⟩:=h (by omega)
 rw[h2 g off cur T fr _ c e rfl hw (by omega),nX hk,List.drop_drop]
 exact hj k hk
theorem uq (hT:cN P Θ=true) {T0:TypeId} {i:TI} (hi:Θ.find T0=some i) {t:Ty} (fc:i.ty=.sl t) {o:Oper} {x y:Operand} {T':TypeId} {tag:Option Nat} {me:Md} {xs ys:List t.I} {Eo tG:Nat→Prop} {Ip:Nat→Nat} {news:List Value} {n:Nat}
  (ho:o.op=.call { callee:=.builtin .append,args:=#[x,y],argTypes:=#[T0,T'] })
  (h2:a6 dN w0 W0 Z H S1 a w) (hS1:S1.length=n) (hA:A=Av dN Z)
  (hx:M w A H (.sl t) (.o i.e tag me) xs [a.eval x] Eo []) (qZ:Src P t.size T' (a.eval y) ys.length news w)
  (hN:∀ (k:Nat) (hk:k<ys.length),M w A H t me ys[k] ((news.drop (k*t.size)).take t.size) (fun g=>tG g∧Ip g=k) [])
  (acY:∀ g,Eo g→¬tG g) (xd:∀ g,Eo g∨tG g→∃ i,n≤i∧dN g=some i) (Iq:(xs.length+ys.length)*t.size≤4398046511104):
  Ii P w0 W0 Z H (S1.put o.dst (.v ⟨.sl t,.o i.e none me,xs++ys⟩ [])) a o.dst w (execOp a.eval o):=by
 subst hA hS1
 obtain⟨_,hu,hT0⟩:=cR hT hi
 obtain⟨u1,u2,u3⟩:=kL hu fc
 rw[hT0] at u1
 obtain⟨i2,mF,ht2⟩:=dL u2
 obtain⟨⟨sm,inf,z,k1,k2,kb,_,_,k3,k4⟩,_,hte⟩:=cR hT mF
 rw[hte] at k1
 rw[ht2] at k2 k4 kb
 have cP:∀ g,Eo g∨tG g→g<w.heap.size:=fun g hg=>by
  obtain⟨i,_,hi⟩:=xd g hg
  exact h2.lt g i hi
 have ML:z.cells.size=t.size:=by
  unfold ax at k4
  split at k4
  ·rw[k4,Value.cells,List.size_toArray,lY]
  ·rename_i Rl
   have hl:=lY t
   rw[k4] at hl
   have hv:∀ (t:Ty),∀ u∈zc t,u.oneCell'=true:=by
    intro t
    induction t with
    |pair a b iha ihb=>intro u hu;simp only[zc,List.mem_append] at hu;rcases hu with hu |hu;exact iha u hu;exact ihb u hu
    |arr n t ih=>intro u hu;simp only[zc,List.mem_flatten] at hu;obtain⟨c,hc,hu⟩:=hu;rw[List.eq_of_mem_replicate hc] at hu;exact ih u hu
    |unit=>intro u hu;simp[zc] at hu
    |_=>intro u hu;simp only[zc,List.mem_singleton] at hu;subst hu;rfl
   have h1:=hv t z (by rw[k4];simp)
   have:z.cells=#[z]:=by cases z<;>first |rfl |simp[Value.oneCell'] at h1
   rw[this]
   simpa using hl
 obtain⟨v',w',cC,r1,r2,r3,r4,r5,r6,r7,r8⟩:=xf (ty:=o.type) hT u1 k1 k3 k2 kb ML u3 hx qZ hN acY (fun g hg=>by
  obtain⟨i,_,hi⟩:=xd g (.inl hg)
  exact .inl ⟨i,hi⟩) (fun g hg=>cP g (.inl hg)) (fun g hg=>cP g (.inr hg)) Iq
 refine⟨w',v',.inl ?_,_,h2.arL (b:=⟨.sl t,.o i.e none me,xs++ys⟩) (cs:=[v']) (ow:=cC) (A':=fun g=>Av dN Z g∨w.heap.size≤g) r5 (fun g hg hn=>r3 g hg (fun hx=>?_)) ?_ (fun g hg=>?_) (fun g hg hx=>?_) (by simp[ax,isAgg]) r2⟩
 ·simp[execOp,ho,resolve,invoke,builtin,r1]
 ·obtain⟨i,hi1,mF⟩:=xd g (.inl hx)
  exact hn i hi1 mF
 ·refine⟨by rw[r6];exact h2.fr.os,by rw[r7];exact h2.fr.tape,by rw[r8];exact h2.fr.output,Nat.le_trans h2.fr.size r5,fun g hg hn=>?_⟩
  rw[r3 g (by have:=h2.fr.size;omega) (fun hx=>?_)]
  ·exact h2.fr.block g hg hn
  ·obtain⟨i,_,hi⟩:=xd g (.inl hx)
   rcases h2.new g i hi with h1 |h1
   ·omega
   ·exact hn h1
 ·obtain⟨q1,q2⟩:=r4 g hg
  refine⟨q1,?_⟩
  rcases q2 with q2 |q2 |q2
  ·exact .inl (xd g (.inl q2))
  ·exact .inl (xd g (.inr q2))
  ·exact .inr q2
 ·rcases hx with hx |hx
  ·exact .inl hx
  ·rcases(r4 g hx).2 with q2 |q2 |q2
   ·obtain⟨i,_,hi⟩:=xd g (.inl q2)
    exact .inl (.inl ⟨i,hi⟩)
   ·obtain⟨i,_,hi⟩:=xd g (.inr q2)
    exact .inl (.inl ⟨i,hi⟩)
   ·exact .inr q2
theorem ZA (hT:cN P Θ=true) (h:a6 σ w0 W0 Z H S a w) {o:Oper} {as:Array Operand} {ts:Array TypeId} (ho:o.op=.call { callee:=.builtin .append,args:=as,argTypes:=ts }) (e:cc Θ S o.dst ts.toList as.toList=some (true,S')):Ii P w0 W0 Z H S' a o.dst w (execOp a.eval o):=by
 obtain⟨as⟩:=as
 obtain⟨ts⟩:=ts
 simp only at e
 unfold cc at e
 split at e
 case h_2=>cases e
 rename_i x y T T'
 split at e
 case h_2=>cases e
 rename_i t e0 tag me xs S1 i hb hi
 unfold St.take at hb
 split at hb
 case h_2=>cases hb
 rename_i av dz
 obtain⟨bL,cs,ow,h1,hm,hM,hk,hn⟩:=eB h dz hb
 cases hc:(decide (i.ty=.sl t)&&Nat.beq i.e e0&&Θ.is T' (.sl t)) with
 |false=>rw[hc] at e;cases e
 |true=>
 rw[hc] at e
 simp only[cond_true] at e
 simp only[Bool.and_eq_true,decide_eq_true_eq] at hc
 obtain⟨⟨fc,hee⟩,hT'⟩:=hc
 have hee:=Nat.eq_of_beq_eq_true hee
 subst hee
 have gC:cs=[a.eval x]:=by simpa[ax,isAgg] using hm
 subst gC
 obtain⟨i',Mh,acV⟩:=dL hT'
 obtain⟨_,su,hT1⟩:=cR hT Mh
 obtain⟨u1,_,_⟩:=kL su acV
 rw[hT1] at u1
 have azv:aU w w (Av σ Z) (Av bL Z):=⟨fun _ _ _=>rfl,fun g _ hg=>hk.Av.1 hg⟩
 cases hme:me.bM with
 |true=>
  rw[hme] at e
  simp only[cond_true] at e
  split at e
  case h_2=>cases e
  rename_i t' m' ys hy
  cases hmi:m'.GQ.bM with
  |false=>rw[hmi] at e;cases e
  |true=>
  rw[hmi] at e
  simp only[cond_true] at e
  split at e
  case isFalse=>cases e
  rename_i htt
  subst htt
  simp only[Option.some.injEq,Prod.mk.injEq,decide_eq_true_eq] at e
  obtain⟨Iq,rfl⟩:=e
  unfold St.rd at hy
  split at hy
  case h_2=>cases hy
  rename_i av2 Rz
  have hKS:=MO h1 (bC h1 Rz) hy hmi
  obtain⟨news,qZ,um⟩:=ac1 (P:=P) u1 hKS
  refine uq (n:=S1.length) (A:=Av bL Z) (Eo:=ow) (tG:=fun _=>False) (Ip:=fun _=>0) hT hi fc ho h1 rfl rfl (aJ azv _ (fun _ _ _=>rfl) (fun _ h _=>h) (fun _ h=>h) hM) qZ (fun k fV=>nE hme (um k fV)) (fun _ _ h=>h) (fun g hg=>?_) Iq
  rw[hn]
  exact hk.now g (hg.resolve_right id)
 |false=>
  rw[hme] at e
  simp only[cond_false] at e
  split at e
  case h_2=>cases e
  rename_i t' m' ys S2 hy
  split at e
  case isFalse=>cases e
  rename_i htt
  subst htt
  split at e
  case isFalse=>cases e
  rename_i hmi
  simp only[Option.some.injEq,Prod.mk.injEq,decide_eq_true_eq] at e
  obtain⟨Iq,rfl⟩:=e
  unfold St.take at hy
  split at hy
  case h_2=>cases hy
  rename_i av2 Rz
  obtain⟨dN,cs2,oW,h2,hm2,hM2,Q3,hn2⟩:=eB h1 Rz hy
  rw[hn] at Q3 hn2
  have gC:cs2=[a.eval y]:=by simpa[ax,isAgg] using hm2
  subst gC
  have atp:aU w w (Av bL Z) (Av dN Z):=⟨fun _ _ _=>rfl,fun g _ hg=>Q3.Av.1 hg⟩
  have axP:M w (Av dN Z) H (.sl t') m' ys [a.eval y] oW []:=aJ atp _ (fun _ _ _=>rfl) (fun _ h _=>h) (fun _ h=>h) hM2
  have hM':M w (Av dN Z) H (.sl t') (.o i.e tag me) xs [a.eval x] ow []:=aJ ⟨fun _ _ _=>rfl,fun g _ hg=>hk.Av.1 (Q3.Av.1 hg)⟩ _ (fun _ _ _=>rfl) (fun _ h _=>h) (fun _ h=>h) hM
  have xd:∀ g,ow g∨oW g→∃ i,S.length≤i∧dN g=some i:=fun g hg=>(hk.trans Q3).now g hg
  simp only[M] at axP
  rcases axP with⟨hn0,_⟩ |⟨hK,_⟩ |⟨T2,Zw,me2,X,c,rfl,e2,hle,ajl,um⟩
  ·simp at hn0
  ·rw[←hmi] at hme
   rw[oJ hK] at hme
   cases hme
  ·simp only[Md.GQ] at hmi
   subst hmi
   simp only[List.cons.injEq,and_true] at e2
   have qZ:∃ (tG:Nat→Prop) (Ip:Nat→Nat) (news:List Value),Src P t'.size T' (a.eval y) ys.length news w∧(∀ g,tG g→oW g)∧
     ∀ (k:Nat) (hk:k<ys.length),M w (Av dN Z) H t' me2 ys[k] ((news.drop (k*t'.size)).take t'.size) (fun g=>tG g∧Ip g=k) []:=by
    rcases um with⟨hys,_⟩ |⟨g,cur,τ,hX,qm,hw,iB,axO,um⟩
    ·subst hys
     obtain⟨news,s1,_⟩:=RC (P:=P) (w:=w) (t:=t') (ys:=([]:List t'.I)) (vy:=a.eval y) u1 rfl ⟨X,c,e2,fun hp=>by simp at hp⟩
     exact⟨fun _=>False,fun _=>0,news,s1,fun _ h=>h.elim,fun k hk=>by simp at hk⟩
    ·subst hX
     have jq:cur.toList.length=cur.size:=Array.length_toList
     have hb:=Nat.mul_le_mul_right t'.size hle
     obtain⟨news,s1,s2⟩:=RC (P:=P) (w:=w) (t:=t') (ys:=ys) (vy:=a.eval y) u1 rfl ⟨some ⟨g,0,none⟩,c,e2,fun hp=>⟨g,0,cur,T2,(0,0),rfl,hw,by omega,nY _ fun j hj u hu=>by
      rw[List.drop_zero] at hu
      exact(eo t' (um j hj)).2 u hu⟩⟩
     refine⟨fun g'=>oW g'∧g'≠g,τ,news,s1,fun _ h=>h.1,fun k hk=>?_⟩
     rw[s2 g 0 cur T2 (0,0) _ c e2 rfl hw (by omega),nX hk,List.drop_zero]
     exact aJ (aU.refl _ _) t' (fun _ _ _=>rfl) (fun g' bo _=>⟨⟨bo.1,bo.2.1⟩,bo.2.2⟩) (fun _ h=>h) (um k hk)
   obtain⟨tG,Ip,news,s1,s2,s3⟩:=qZ
   exact uq (n:=S.length) (A:=Av dN Z) (Eo:=ow) (tG:=tG) (Ip:=Ip) hT hi fc ho h2 hn2 rfl hM' s1 s3 (fun g hg qC=>hk.apart Q3 hg (s2 g qC)) (fun g hg=>xd g (hg.imp id (s2 g))) Iq
end Go.Pv
namespace Go.Pv
set_option linter.unusedVariables false
set_option linter.unusedSimpArgs false
variable {P:Program} {w w':World} {A A' Wr:Nat→Prop} {H:Nat→Value} {tm qH:Nat→Value} {S S' S1:St} {σ bL:Nat→Option Nat} {w0:World} {W0 Z:Nat→Prop} {a:Act} {own:Nat→Prop} {v:Value} {Θ:db} {dst:Option Nat}
theorem Ep {p:Path} {ex:List Path} (h:∀ q∈ex,oA q p=false):wL p ex=[]:=by
 have key:∀ (p r:Path),oA (p++r) p=true:=by
  intro p
  induction p with
  |nil=>intro r;cases r<;>rfl
  |cons a p ih=>intro r;cases a<;>simp[oA,ih]
 apply List.eq_nil_iff_forall_not_mem.2
 intro q hq
 have:=h _ (DM.1 hq)
 rw[key] at this
 cases this
theorem q8 (h:a6 σ w0 W0 Z H S a w) {vv:Value} {t:Ty} {s:Nat} {p:Path} (hpc:p≠[]) {r:TV} {ex:List Path} {b:TV} (hh:Holds w (Av σ Z) H (bZ a) S own (.al t s p) vv) (hs:S.at s=.v r ex) (hg:a8 p r.t r.m r.x=some b) (hk:b.m.bM=false) (jq:∀ q∈ex,oA q p=false):
  ∃ bL cs ow,a6 bL w0 W0 Z H (((S.weaken s).cover s p).set s (.v r (ex++[p]))) a w∧ax b.t vv cs∧M w (Av bL Z) H b.t b.m b.x cs ow []∧fT σ bL S.length ow∧(((S.weaken s).cover s p).set s (.v r (ex++[p]))).length=S.length:=by
 obtain⟨r0,cM,cs,hr,hc,hm⟩:=hh
 obtain⟨ex0,b2,cK,ow0,j1,j2,j3,j4,hM,j5,j6,j7⟩:=fE h hr
 rw[hs] at j1
 injection j1 with j1 j1'
 subst j1 j1'
 have j1:=hs
 rw[hg] at j3
 injection j3 with j3
 subst j3
 have j3:=hg
 obtain⟨cs2,cC,k1,k2,k3,k4⟩:=Hd p hM j2 hr.val j3 hk
 rw[hc] at k1
 injection k1 with k1
 subst k1
 rw[Ep jq] at k3
 -- the ownership without what is taken
 have acM:s<S.length:=dZ (by rw[j1];exact fun e=>by cases e)
 let bL:Nat→Option Nat:=fun g=>open Classical in if cC g then some S.length else σ g
 have Eg:∀ g i,bL g=some i→∃ k,σ g=some k:=by
  intro g i hg
  simp only[bL] at hg
  split at hg
  ·exact⟨s,k2 g (by assumption)⟩
  ·exact⟨i,hg⟩
 have Eh:∀ g i,σ g=some i→¬cC g→bL g=some i:=by
  intro g i hg hn
  simp only[bL,if_neg hn,hg]
 have bU:aU w w (Av σ Z) (Av bL Z):=⟨fun _ _ _=>rfl,fun g _ hg=>by
  rcases hg with⟨i,hg⟩ |hg
  ·exact .inl (Eg g i hg)
  ·exact .inr hg⟩
 have acN:fT σ bL S.length cC:=by
  refine⟨fun g hg=>⟨s,acM,k2 g hg⟩,fun g hg=>⟨_,Nat.le_refl _,by simp only[bL,if_pos hg]⟩,fun g i hg hi=>?_,fun g=>⟨fun⟨i,hg⟩=>Eg g i hg,fun⟨i,hg⟩=>?_⟩,fun g i hg hi=>Eh g i hg (fun hx=>?_)⟩
  ·simp only[bL] at hg
   split at hg
   ·injection hg with hg;omega
   ·exact hg
  ·simp only[bL]
   split
   ·exact⟨_,rfl⟩
   ·exact⟨i,hg⟩
  ·have:=k2 g hx
   rw[hg] at this
   injection this with this
   omega
 refine⟨bL,cs,cC,?_,by rw[j4];exact hm,aJ bU _ (fun _ _ _=>rfl) (fun _ h _=>h) (fun _ h=>h) k3,acN,by simp[St.weaken,St.cover]⟩
 have hlen:((S.weaken s).cover s p).length=S.length:=by simp[St.weaken,St.cover]
 have Gv:s<S.length:=by
  rcases Nat.lt_or_ge s S.length with hl |hl
  ·exact hl
  ·unfold St.at at j1
   rw[List.getD_eq_getElem?_getD,List.getElem?_eq_none hl] at j1
   cases j1
 have Aj:St.at (((S.weaken s).cover s p).set s (.v r (ex++[p]))) s=.v r (ex++[p]):=by rw[cQ,if_pos ⟨rfl,by rw[hlen];exact Gv⟩]
 have kI:∀ i,i≠s→St.at (((S.weaken s).cover s p).set s (.v r (ex++[p]))) i=(match (bif (S.at i).eJ s then AV.dead else S.at i) with
   | .ad t s' q=>bif Nat.beq s' s&&under p q then .dead else .ad t s' q
   |a=>a):=by
  intro i hi
  rw[cQ,if_neg (fun e=>hi e.1),Ef,jF]
  try (cases (bif AV.eJ s (S.at i) then AV.dead else S.at i)<;>rfl)
 refine⟨by simp only[List.length_set,hlen];exact h.len,h.defers,h.fr,fun g i hg=>(Eg g i hg).elim fun k hk=>h.new g k hk,fun g i hg=>(Eg g i hg).elim fun k hk=>h.lt g k hk,fun g hg=>⟨?_,(h.old g hg).2⟩,fun i=>?_⟩
 ·simp only[bL]
  split
  ·rename_i hx
   have:=k2 g hx
   rw[(h.old g hg).1] at this
   cases this
  ·exact(h.old g hg).1
 ·by_cases Q4:i=s
  ·subst Q4
   rw[Aj]
   exact⟨cM,hr.mat,aJ bU _ (fun _ _ _=>rfl) (fun g hg _=>Eh g _ hg.1 hg.2) (fun _ h=>h) k4⟩
  ·rw[kI i Q4]
   cases qo:(S.at i).eJ s with
   |true=>trivial
   |false=>
    simp only[cond_false]
    have hi:=h.holds i
    have base:Holds w (Av bL Z) H (bZ a) S (fun g=>bL g=some i) (S.at i) (bZ a i):=
     hi.kept bU (fun g hg _=>⟨rfl,Eh g i hg (fun hx=>Q4 (by have:=k2 g hx;rw[hg] at this;injection this))⟩) (fun s' _=>⟨fun _ _ h=>h,rfl,_,h.holds s',fun _ _ _=>rfl⟩)
    have hSv:∀ j r' Dc,j≠s→S.at j=.v r' Dc→St.at (((S.weaken s).cover s p).set s (.v r (ex++[p]))) j=.v r' Dc:=by
     intro j r' Dc hj hv
     rw[kI j hj,hv]
     simp[AV.eJ]
    cases e7:S.at i with
    |v b3 ex3=>
     rw[e7] at base
     obtain⟨c3,l1,l2⟩:=base
     exact⟨c3,l1,l2⟩
    |th l=>
     rw[e7] at base
     exact base
    |ad t' s' q=>
     rw[e7] at base qo
     simp only
     cases atf:(Nat.beq s' s&&under p q) with
     |true=>trivial
     |false=>
      simp only[cond_false]
      refine gd j1 hSv Aj qo (fun t2 q2 e2=>?_) base (fun _ _ e=>by cases e) (fun _ e=>by cases e)
      injection e2 with _ e3 e4
      subst e3 e4
      simpa using atf
    |dead=>trivial
    |undef=>rw[e7] at base;exact base
    |al t' s' q=>
     rw[e7] at base qo
     exact gd j1 hSv Aj qo (fun t2 q2 e2=>by cases e2) base (fun _ _ e=>by cases e) (fun _ e=>by cases e)
    |cut t' s' q lo Mh=>
     rw[e7] at base qo
     exact gd j1 hSv Aj qo (fun t2 q2 e2=>by cases e2) base (fun _ _ e=>by cases e) (fun _ e=>by cases e)
    |k8 f cw=>
     rw[e7] at base qo
     exact gd j1 hSv Aj qo (fun t2 q2 e2=>by cases e2) base (fun _ _ e=>by cases e) (fun _ e=>by cases e)
theorem RE (h:a6 σ w0 W0 Z H S a w) {x:Operand} {t:Ty} {s:Nat} {p:Path} (hpc:p≠[]) {r:TV} {ex:List Path} {b:TV} (hh:Holds w (Av σ Z) H (bZ a) S own (.al t s p) (a.eval x)) (hs:S.at s=.v r ex) (hg:a8 p r.t r.m r.x=some b) (hk:b.m.bM=false) (jq:∀ q∈ex,oA q p=false):
  ∃ bL cs ow,a6 bL w0 W0 Z H (((S.weaken s).cover s p).set s (.v r (ex++[p]))) a w∧ax b.t (a.eval x) cs∧M w (Av bL Z) H b.t b.m b.x cs ow []∧fT σ bL S.length ow∧(((S.weaken s).cover s p).set s (.v r (ex++[p]))).length=S.length:=q8 h hpc hh hs hg hk jq
theorem RF (hT:cN P Θ=true) (h:a6 σ w0 W0 Z H S a w) {o:Oper} {as:Array Operand} {ts:Array TypeId} (ho:o.op=.call { callee:=.builtin .append,args:=as,argTypes:=ts }) (e:fD Θ S o.dst ts.toList as.toList=some (true,S')):Ii P w0 W0 Z H S' a o.dst w (execOp a.eval o):=by
 obtain⟨as⟩:=as
 obtain⟨ts⟩:=ts
 simp only at e
 unfold fD at e
 split at e
 case h_2=>cases e
 rename_i x y T T'
 split at e
 case h_2=>cases e
 rename_i tt s st pp dz
 split at e
 case h_2=>cases e
 rename_i r ex hs
 split at e
 case h_2=>cases e
 rename_i t e0 tag me xs i hg hi
 cases hc:(decide (i.ty=.sl t)&&Nat.beq i.e e0&&Θ.is T' (.sl t)&&me.bM) with
 |false=>rw[hc] at e;cases e
 |true=>
 rw[hc] at e
 simp only[cond_true] at e
 simp only[Bool.and_eq_true,decide_eq_true_eq] at hc
 obtain⟨⟨⟨fc,hee⟩,hT'⟩,hme⟩:=hc
 have hee:=Nat.eq_of_beq_eq_true hee
 subst hee
 split at e
 case h_2=>cases e
 rename_i t' m' ys hy
 cases hmi:m'.GQ.bM with
 |false=>rw[hmi] at e;cases e
 |true=>
 rw[hmi] at e
 simp only[cond_true] at e
 split at e
 case isFalse=>cases e
 rename_i htt
 subst htt
 simp only[Option.some.injEq,Prod.mk.injEq,Bool.and_eq_true,decide_eq_true_eq] at e
 obtain⟨⟨jq,Iq⟩,rfl⟩:=e
 obtain⟨bL,cs,ow,h1,hm,hM,hk,hn⟩:=RE (x:=x) h (by simp) (bC h dz) hs hg (by simp[Md.bM]) (fun q hq=>by simpa using List.all_eq_true.1 jq q hq)
 have gC:cs=[a.eval x]:=by simpa[ax,isAgg] using hm
 subst gC
 obtain⟨i',Mh,acV⟩:=dL hT'
 obtain⟨_,su,hT1⟩:=cR hT Mh
 obtain⟨u1,_,_⟩:=kL su acV
 rw[hT1] at u1
 unfold St.rd at hy
 split at hy
 case h_2=>cases hy
 rename_i av2 Rz
 have hKS:=MO h1 (bC h1 Rz) hy hmi
 obtain⟨news,qZ,um⟩:=ac1 (P:=P) u1 hKS
 refine uq (n:=S.length) (A:=Av bL Z) (Eo:=ow) (tG:=fun _=>False) (Ip:=fun _=>0) hT hi fc ho h1 hn rfl hM qZ (fun k fV=>nE hme (um k fV)) (fun _ _ h=>h) (fun g hg=>?_) Iq
 exact hk.now g (hg.resolve_right id)
end Go.Pv
