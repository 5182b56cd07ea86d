/- A verified evaluator of the program's form over pure values, part 2: what it tells of a function holds. -/
import Derived.Test.YtcpakhaogbempaaGreatPv1
import Derived.Deep.AppendSrc
import Derived.Deep.Upon
import Derived.Laws.Cells
import Derived.Laws.CopyRow
import Derived.Laws.MakeOwn
import Derived.Laws.OwnMore
import Derived.Laws.Tables
import Derived.Maps.AppendAt
namespace Go.Pv
set_option linter.unusedVariables false
set_option linter.unusedSimpArgs false
variable {P:Program} {w w':World} {A A':Nat→Prop} {H:Nat→Value} {tm qP:Nat→Value} {S S':St} {σ:Nat→Option Nat} {w0:World} {W0 Z:Nat→Prop} {a:Act} {own:Nat→Prop} {v:Value} {Θ:de} {dst:Option Nat}
theorem fa:∀ (p q:Path) (t:Ty) (m:Md) (x:t.I),bd (p++q) t m x=(bd p t m x).bind fun b=>bd q b.t b.m b.x
 |[],q,t,m,x=>rfl
 | .deref::p,q,t,m,x=>by cases t<;>simp only[List.cons_append,bd,Option.bind_none]<;>exact fa p q _ _ _
 | .fst::p,q,t,m,x=>by cases t<;>simp only[List.cons_append,bd,Option.bind_none]<;>exact fa p q _ _ _
 | .snd::p,q,t,m,x=>by cases t<;>simp only[List.cons_append,bd,Option.bind_none]<;>exact fa p q _ _ _
 | .idx i::p,q,t,m,x=>by cases t<;>simp only[List.cons_append,bd,Option.bind_none]<;>exact fa p q _ _ _
theorem fi:∀ (p q:Path) {t:Ty} {m:Md} {x:t.I} {b:TV},bd p t m x=some b→valid p t x→valid q b.t b.x→valid (p++q) t x
 |[],q,t,m,x,b,hg,_,h=>by simp only[bd,Option.some.injEq] at hg;subst hg;exact h
 | .deref::p,q,.ptr t,m,x,b,hg,h1,h2=>by simp only[bd] at hg;simp only[valid] at h1;simp only[List.cons_append,valid];exact fi p q hg h1 h2
 | .fst::p,q,.pair _ _,m,x,b,hg,h1,h2=>by simp only[bd] at hg;simp only[valid] at h1;simp only[List.cons_append,valid];exact fi p q hg h1 h2
 | .snd::p,q,.pair _ _,m,x,b,hg,h1,h2=>by simp only[bd] at hg;simp only[valid] at h1;simp only[List.cons_append,valid];exact fi p q hg h1 h2
 | .idx i::p,q,.sl t,m,x,b,hg,h1,h2=>by simp only[bd] at hg;simp only[valid] at h1;simp only[List.cons_append,valid];exact⟨h1.1,fi p q hg h1.2 h2⟩
theorem Ct (cs:List Value):(∃ g off,cs=[.pointer (some ⟨g,off,none⟩)])∨((∀ (w:World) (p:Path) (t:Ty),aT w (.deref::p) (.ptr t) cs=none)∧∀ (w:World) (p:Path) (t:Ty) (l:Option (Nat×Nat)),addrAt w (.deref::p) (.ptr t) cs l=none):=by
 rcases cs with _ |⟨v,_ |⟨_,_⟩⟩
 ·exact .inr ⟨fun _ _ _=>rfl,fun _ _ _ _=>rfl⟩
 ·cases v<;>try exact .inr ⟨fun _ _ _=>rfl,fun _ _ _ _=>rfl⟩
  rename_i x
  rcases x with _ |⟨g,off,_ |_⟩
  ·exact .inr ⟨fun _ _ _=>rfl,fun _ _ _ _=>rfl⟩
  ·exact .inl ⟨g,off,rfl⟩
  ·exact .inr ⟨fun _ _ _=>rfl,fun _ _ _ _=>rfl⟩
 ·cases v<;>try exact .inr ⟨fun _ _ _=>rfl,fun _ _ _ _=>rfl⟩
  rename_i x
  rcases x with _ |⟨g,off,_ |_⟩<;>exact .inr ⟨fun _ _ _=>rfl,fun _ _ _ _=>rfl⟩
theorem HO (cs:List Value):(∃ g off n c,cs=[.slice (some ⟨g,off,none⟩) n c])∨((∀ (w:World) (i:Nat) (p:Path) (t:Ty),aT w (.idx i::p) (.sl t) cs=none)∧∀ (w:World) (i:Nat) (p:Path) (t:Ty) (l:Option (Nat×Nat)),addrAt w (.idx i::p) (.sl t) cs l=none):=by
 rcases cs with _ |⟨v,_ |⟨_,_⟩⟩
 ·exact .inr ⟨fun _ _ _ _=>rfl,fun _ _ _ _ _=>rfl⟩
 ·cases v<;>try exact .inr ⟨fun _ _ _ _=>rfl,fun _ _ _ _ _=>rfl⟩
  rename_i x n c
  rcases x with _ |⟨g,off,_ |_⟩
  ·exact .inr ⟨fun _ _ _ _=>rfl,fun _ _ _ _ _=>rfl⟩
  ·exact .inl ⟨g,off,n,c,rfl⟩
  ·exact .inr ⟨fun _ _ _ _=>rfl,fun _ _ _ _ _=>rfl⟩
 ·cases v<;>try exact .inr ⟨fun _ _ _ _=>rfl,fun _ _ _ _ _=>rfl⟩
  rename_i x n c
  rcases x with _ |⟨g,off,_ |_⟩<;>exact .inr ⟨fun _ _ _ _=>rfl,fun _ _ _ _ _=>rfl⟩
theorem fj:∀ (p q:Path) {t:Ty} {m:Md} {x:t.I} {b:TV} (cs:List Value) (l:Option (Nat×Nat)),bd p t m x=some b→
  aT w (p++q) t cs=(aT w p t cs).bind (aT w q b.t)∧addrAt w (p++q) t cs l=(aT w p t cs).bind fun c=>addrAt w q b.t c (addrAt w p t cs l)
 |[],q,t,m,x,b,cs,l,hg=>by simp only[bd,Option.some.injEq] at hg;subst hg;exact⟨rfl,rfl⟩
 | .fst::p,q,.pair a' b',m,x,b,cs,l,hg=>by simp only[bd] at hg;simp only[List.cons_append,aT,addrAt];exact fj p q _ _ hg
 | .snd::p,q,.pair a' b',m,x,b,cs,l,hg=>by simp only[bd] at hg;simp only[List.cons_append,aT,addrAt];exact fj p q _ _ hg
 | .deref::p,q,.ptr t,m,x,b,cs,l,hg=>by
  simp only[bd] at hg
  have ih:=fun c l'=>fj p q c l' hg
  rw[List.cons_append]
  rcases Ct cs with⟨g,off,rfl⟩ |⟨h1,h2⟩
  ·simp only[aT,addrAt]
   cases hr:rowAt w g off t.size with
   |none=>simp
   |some c=>simp only[Option.bind_some];exact ih c _
  ·simp only[h1,h2,Option.bind_none,and_self]
 | .idx i::p,q,.sl t,m,x,b,cs,l,hg=>by
  simp only[bd] at hg
  have ih:=fun c l'=>fj p q c l' hg
  rw[List.cons_append]
  rcases HO cs with⟨g,off,n,c,rfl⟩ |⟨h1,h2⟩
  ·simp only[aT,addrAt]
   cases hr:rowAt w g (off+i*t.size) t.size with
   |none=>simp
   |some c=>simp only[Option.bind_some];exact ih c _
  ·simp only[h1,h2,Option.bind_none,and_self]
theorem nT {g off n:Nat} {cs:List Value} (h:rowAt w g off n=some cs):cs.length=n∧∃ cur T fr,w.heap[g]?=some (.cells cur T fr)∧off+n≤cur.size∧cs=(cur.toList.drop off).take n:=by
 unfold rowAt at h
 split at h
 ·rename_i cur T fr hw
  split at h
  ·rename_i hl
   injection h with h
   subst h
   refine⟨by simp;omega,cur,T,fr,hw,hl,rfl⟩
  ·cases h
 ·cases h
theorem EH {g off n a b:Nat} {cs:List Value} (h:rowAt w g off n=some cs) (Ry:a+b≤n):rowAt w g (off+a) b=some ((cs.drop a).take b):=by
 obtain⟨_,cur,T,fr,hw,hl,rfl⟩:=nT h
 rw[bA hw (by omega),List.drop_take,List.take_take,List.drop_drop,Nat.min_eq_left (by omega)]
theorem rh:∀ (p:Path) {t:Ty} {m:Md} {x:t.I} {b:TV} {cs cM:List Value} {l:Option (Nat×Nat)} {g off:Nat},bd p t m x=some b→cs.length=t.size→(∀ g o,l=some (g,o)→rowAt w g o t.size=some cs)→
  aT w p t cs=some cM→addrAt w p t cs l=some (g,off)→rowAt w g off b.t.size=some cM
 |[],t,m,x,b,cs,cM,l,g,off,hg,hl,hr,hc,ha=>by
  simp only[bd,Option.some.injEq] at hg;subst hg
  simp only[aT,Option.some.injEq] at hc;subst hc
  exact hr g off ha
 | .fst::p,.pair a' b',m,x,b,cs,cM,l,g,off,hg,hl,hr,hc,ha=>by
  simp only[bd] at hg;simp only[aT] at hc;simp only[addrAt] at ha;simp only[Ty.size] at hl hr
  refine rh p hg (by rw[List.length_take];omega) (fun g o e=>?_) hc ha
  have:=EH (a:=0) (b:=a'.size) (hr g o e) (by omega)
  rw[Nat.add_zero,List.drop_zero] at this
  exact this
 | .snd::p,.pair a' b',m,x,b,cs,cM,l,g,off,hg,hl,hr,hc,ha=>by
  simp only[bd] at hg;simp only[aT] at hc;simp only[addrAt] at ha;simp only[Ty.size] at hl hr
  refine rh p hg (by rw[List.length_drop];omega) (fun g o e=>?_) hc ha
  cases l with
  |none=>simp at e
  |some q=>
   simp only[Option.map_some,Option.some.injEq,Prod.mk.injEq] at e
   obtain⟨rfl,rfl⟩:=e
   have:=EH (a:=a'.size) (b:=b'.size) (hr q.1 q.2 rfl) (by omega)
   rw[List.take_of_length_le (by rw[List.length_drop];omega)] at this
   exact this
 | .deref::p,.ptr t,m,x,b,cs,cM,l,g,off,hg,hl,hr,hc,ha=>by
  simp only[bd] at hg
  rcases Ct cs with⟨g1,aus,rfl⟩ |⟨h1,h2⟩
  ·simp only[aT] at hc
   simp only[addrAt] at ha
   cases gE:rowAt w g1 aus t.size with
   |none=>rw[gE] at hc;simp at hc
   |some c=>
    rw[gE] at hc ha
    simp only[Option.bind_some] at hc ha
    exact rh p hg (nT gE).1 (fun g o e=>by injection e with e;injection e with e1 e2;subst e1 e2;exact gE) hc ha
  ·rw[h1] at hc;cases hc
 | .idx i::p,.sl t,m,x,b,cs,cM,l,g,off,hg,hl,hr,hc,ha=>by
  simp only[bd] at hg
  rcases HO cs with⟨g1,aus,n,c1,rfl⟩ |⟨h1,h2⟩
  ·simp only[aT] at hc
   simp only[addrAt] at ha
   cases gE:rowAt w g1 (aus+i*t.size) t.size with
   |none=>rw[gE] at hc;simp at hc
   |some c=>
    rw[gE] at hc ha
    simp only[Option.bind_some] at hc ha
    exact rh p hg (nT gE).1 (fun g o e=>by injection e with e;injection e with e1 e2;subst e1 e2;exact gE) hc ha
  ·rw[h1] at hc;cases hc
theorem EJ (hT:cP P Θ=true) {T:TypeId} {t:Ty} {g off:Nat} {cs:List Value} (ht:Θ.is T t=true) (h:rowAt w g off t.size=some cs):
  ∃ v,(∀ w2,Ext w w2→(Instr.loadAt T (.pointer (some ⟨g,off,none⟩))).run P w2=.ok v w2)∧az t v cs:=by
 suffices hs:∀ w2,Ext w w2→∃ v,(Instr.loadAt T (.pointer (some ⟨g,off,none⟩))).run P w2=.ok v w2∧az t v cs by
  obtain⟨v,_,h2⟩:=hs w (Ext.refl w)
  refine⟨v,fun w2 hw=>?_,h2⟩
  obtain⟨v',k1,k2⟩:=hs w2 hw
  rw[k1]
  unfold az at h2 k2
  split at h2
  ·rename_i ha;rw[if_pos ha] at k2;rw[h2,k2]
  ·rename_i ha;rw[if_neg ha] at k2;rw[h2] at k2;injection k2 with k2;rw[k2]
 intro w2 qT
 have h:rowAt w2 g off t.size=some cs:=by
  obtain⟨_,cur,T',fr,hw,_,_⟩:=nT h
  unfold rowAt at h ⊢
  rw[qT g (bn hw)]
  exact h
 clear qT
 revert h
 generalize w2=w
 intro h
 obtain⟨hl,cur,T',fr,hw,hs,rfl⟩:=nT h
 obtain⟨inf,hi,iD,_⟩:=gY hT ht
 have tM:∀ j v,((cur.toList.drop off).take t.size)[j]?=some v→w.cell? ((⟨g,off,none⟩:Addr).add j)=some v:=by
  intro j v hj
  rw[iO]
  unfold World.cell?
  simp only[hw,Option.isSome_none,Bool.false_eq_true,if_false]
  rw[List.getElem?_take] at hj
  split at hj
  ·rw[List.getElem?_drop] at hj
   simpa using hj
  ·cases hj
 have aA3:=R3 hT ht w
 simp only[Instr.loadAt,Instr.sureAddr,loadVar,Sem.run_bind,Sem.run_pure,Result.andThen_ok,aA3]
 cases hb:isAgg t with
 |true=>
  refine⟨.agg ((cur.toList.drop off).take t.size).toArray,?_,by simp[az,hb]⟩
  have hlc:=run_loadCells_list (P:=P) (w:=w) ⟨g,off,none⟩ _ tM
  rw[hl] at hlc
  simp only[if_true,Sem.run_bind,sizeOf,typeInfo,run_program,Result.andThen_ok,hi,Sem.run_pure,iD,hlc]
 |false=>
  have h1:t.size=1:=by cases t<;>simp[isAgg] at hb<;>rfl
  rw[h1] at hl tM ⊢
  obtain⟨u,hu⟩:∃ u,(cur.toList.drop off).take 1=[u]:=by
   cases hx:(cur.toList.drop off).take 1 with
   |nil=>rw[hx] at hl;simp at hl
   |cons u r=>
    rw[hx] at hl
    cases r with
    |nil=>exact⟨u,rfl⟩
    |cons _ _=>simp at hl
  refine⟨u,?_,by simp[az,hb,hu]⟩
  have:=tM 0 u (by rw[hu];rfl)
  rw[Addr.add_zero'] at this
  simp[load,Sem.run,this]
end Go.Pv
namespace Go.Pv
set_option linter.unusedVariables false
set_option linter.unusedSimpArgs false
variable {P:Program} {w w':World} {A A':Nat→Prop} {H:Nat→Value} {tm qP:Nat→Value} {S S':St} {σ:Nat→Option Nat} {w0:World} {W0 Z:Nat→Prop} {a:Act} {own:Nat→Prop} {v:Value} {Θ:de} {dst:Option Nat}
def WM (w:World) (A:Nat→Prop) (tm:Nat→Value) (S:St):Tgt→Value→Prop
 | .k b,v=>∃ cs,az (.ptr b.t) v cs∧K w A (.ptr b.t) b.x cs
 | .pl t s p,v=>∃ r ex,S.at s=.v r ex∧(open_ p ex→∃ cO g off,Ref tm S t s p r cO∧addrAt w p r.t cO none=some (g,off)∧v=.pointer (some ⟨g,off,none⟩))
theorem adw (h:a7 σ w0 W0 Z H S a w) {i:Nat} {t:Ty} {T:TypeId} {tag:Option Nat} {me:Md} {y:t.I} {ex:List Path} (hi:S.at i=.v ⟨.ptr t,.o T tag me,y⟩ ex):
  WM w (Av σ Z) (b9 a) S (.pl t i [.deref]) (b9 a i):=by
 refine⟨_,ex,hi,fun ho=>?_⟩
 have hh:=h.holds i
 rw[hi] at hh
 obtain⟨cs,h1,h2⟩:=hh
 simp only[M] at h2
 rcases h2 with⟨hn,_⟩ |⟨hk,_⟩ |⟨T',adx,me',g,cur,e,rfl,ht,hg,hw,hM⟩
 ·exact absurd hn ho.not_nil
 ·simp[Md.bP] at hk
 ·have hlen:=(er t hM).1
  refine⟨_,g,0,⟨⟨ex,hi,ho⟩,trivial,⟨_,rfl,rfl⟩,h1⟩,?_,by simpa[az,isAgg] using h1.symm⟩
  have hs:0+t.size≤cur.size:=by rw[←hlen];simp
  simp only[addrAt,bA hw hs,Option.bind_some]
theorem aal {p q:Path} {ex:List Path} (h:open_ (p++q) ex):open_ p ex:=fun r hr s u e=>h r hr s (u++q) (by rw[e];simp)
theorem xh {p:Path} {s:Step} {q:Path} {ex:List Path} (h:open_ (p++s::q) ex):[]∉wX p ex:=fun hm=>by
 have:=Ea.1 hm
 rw[List.append_nil] at this
 exact h p this s q rfl
theorem rk (h:a7 σ w0 W0 Z H S a w) {T:TypeId} {x:Operand} {av:AV} {g:Tgt} (ho:S.dP Θ T x=some av) (e:S.Hr x av=some g):WM w (Av σ Z) (b9 a) S g (a.eval x):=by
 have hh:=bD h ho
 have nU:∀ {t:Ty} {T:TypeId} {tag:Option Nat} {me:Md} {y:t.I} {ex:List Path} {i:Nat},av=.v ⟨.ptr t,.o T tag me,y⟩ ex→x=.tmp i→WM w (Av σ Z) (b9 a) S (.pl t i [.deref]) (a.eval x):=by
  intro t T tag me y ex i e1 e2
  subst e2
  simp only[St.dP,Option.some.injEq] at ho
  rw[e1] at ho
  exact adw h ho
 unfold St.Hr at e
 split at e
 ·rename_i t m y
  split at e
  ·injection e with e;subst e
   obtain⟨cs,h1,h2⟩:=hh
   exact⟨cs,h1,fv _ rfl h2⟩
  ·injection e with e;subst e
   exact nU rfl rfl
  ·cases e
 ·split at e
  ·injection e with e;subst e
   exact nU rfl rfl
  ·cases e
 ·rename_i t s p
  obtain⟨r,cO,cs,hr,hc,hm⟩:=hh
  split at e
  ·rename_i t' y Cr
   injection e with e;subst e
   obtain⟨ex,b,cM,cE,k1,k2,k3,k4,hM,k5,k6,k7⟩:=fF h hr
   obtain⟨r',DB,q1,q2,q3⟩:=dG Cr
   rw[k1] at q1
   injection q1 with q1 EG
   subst q1 EG
   rw[k3] at q3
   injection q3 with q3
   subst q3
   rw[k5] at hc
   injection hc with hc
   subst hc
   simp only at k4
   rw[←k4] at hm
   exact⟨_,hm,fv _ rfl k7⟩
  ·rename_i t' T' adx me' y Cr
   injection e with e;subst e
   obtain⟨ex,b,cM,cE,k1,k2,k3,k4,hM,k5,k6,k7⟩:=fF h hr
   obtain⟨r',DB,q1,q2,q3⟩:=dG Cr
   rw[k1] at q1
   injection q1 with q1 EG
   subst q1 EG
   rw[k3] at q3
   injection q3 with q3
   subst q3
   rw[k5] at hc
   injection hc with hc
   subst hc
   simp only at k4
   injection k4 with k4
   subst k4
   refine⟨r,ex,k1,fun bU=>?_⟩
   simp only[M] at k7
   rcases k7 with⟨hn,_⟩ |⟨hk,_⟩ |⟨T',adx,me',g,cur,e,rfl,ht,hg,hw,hM'⟩
   ·exact absurd hn (xh bU)
   ·simp[Md.bP] at hk
   ·have hlen:=(er _ hM').1
    have hs:0+Ty.size t'≤cur.size:=by rw[←hlen];simp
    refine⟨cO,g,0,⟨⟨ex,k1,bU⟩,fi p [.deref] k3 hr.val trivial,⟨_,by rw[fa,k3];rfl,rfl⟩,hr.mat⟩,?_,by simpa[az,isAgg] using hm.symm⟩
    rw[(fj p [.deref] cO none k3).2,k5]
    simp only[Option.bind_some,addrAt,bA hw hs]
  ·cases e
 ·rename_i t s p
  injection e with e;subst e
  obtain⟨r,cO,g,off,hr,hc,hm⟩:=hh
  obtain⟨ex,k1,k2⟩:=hr.at_
  exact⟨r,ex,k1,fun _=>⟨cO,g,off,hr,hc,hm⟩⟩
 ·cases e
theorem M4 (h:a7 σ w0 W0 Z H S a w) {o:Oper} {x:Operand} (ho:o.op=.nilCheck x) (e:uh Θ S o.dst x=some (true,S')):gL P w0 W0 Z H S' a o.dst w (execOp a.eval o):=by
 unfold uh at e
 split at e
 ·rename_i av dA
  split at e
  ·rename_i g hg
   split at e
   ·rename_i r _ hr Cr
    injection e with e;injection e with _ e;subst e
    have hc:=oX h dA hr
    have hl:=rk h dA hg
    have hp:(∃ ad,a.eval x=.pointer (some ad)):=by
     cases g with
     |k b=>
      obtain⟨cs,h1,h2⟩:=hl
      simp only[K] at h2
      obtain⟨g,off,cur,T,fr,rfl,_⟩:=h2
      exact⟨_,by simpa[az,isAgg] using h1.symm⟩
     |pl t s p=>
      obtain⟨r',ex,k1,k2⟩:=hl
      simp only at Cr
      split at Cr
      ·rename_i b hb
       obtain⟨r2,ex2,q1,q2,q3⟩:=dG hb
       rw[k1] at q1
       injection q1 with q1 EG
       subst q1 EG
       obtain⟨cO,g,off,_,_,e3⟩:=k2 (eC q2)
       exact⟨_,e3⟩
      ·cases Cr
    obtain⟨ad,hp⟩:=hp
    exact cw h (v:=a.eval x) (fun w2 _=>by simp only[execOp,ho,hp];rfl) hc
   ·cases e
  ·cases e
 ·cases e
theorem M5 (hT:cP P Θ=true) (h:a7 σ w0 W0 Z H S a w) {T:TypeId} {g:Tgt} {r:AV} {v:Value} (hl:WM w (Av σ Z) (b9 a) S g v) (e:S.loadAt g=some r) (ht:Θ.is T g.ty=true):
  ∃ u,(∀ w2,Ext w w2→(Instr.loadAt T v).run P w2=.ok u w2)∧Holds w (Av σ Z) H (b9 a) S (fun _=>False) r u:=by
 cases g with
 |k b=>
  simp only[St.loadAt,Option.some.injEq] at e
  subst e
  obtain⟨cs,h1,h2⟩:=hl
  simp only[K] at h2
  obtain⟨g,off,cur,T',fr,rfl,hg,hw,hs,hk⟩:=h2
  obtain rfl:v=.pointer (some ⟨g,off,none⟩):=by simpa[az,isAgg] using h1.symm
  obtain⟨u,k1,k2⟩:=EJ hT ht (bA hw hs)
  exact⟨u,k1,_,k2,fJ _ hk⟩
 |pl t s p=>
  simp only[St.loadAt] at e
  obtain⟨r',ex,k1,k2⟩:=hl
  split at e
  ·rename_i b hb
   obtain⟨r2,ex2,q1,q2,q3⟩:=dG hb
   rw[k1] at q1
   injection q1 with q1 EG
   subst q1 EG
   obtain⟨cO,g,off,hr,ha,rfl⟩:=k2 (eC q2)
   obtain⟨DB,b',cM,cE,j1,j2,j3,j4,hM,j5,j6,j7⟩:=fF h hr
   rw[k1] at j1
   injection j1 with j1 j1'
   subst j1'
   rw[q3] at j3
   injection j3 with j3
   subst j3
   subst j4
   have gE:=rh p q3 (er _ hM).1 (fun g o e=>by cases e) j5 ha
   obtain⟨u,l1,l2⟩:=EJ hT ht gE
   refine⟨u,l1,?_⟩
   cases hk:b.m.bP with
   |true=>
    rw[hk] at e
    simp only[cond_true] at e
    split at e
    ·rename_i c hc
     injection e with e;subst e
     obtain⟨_,oZ,_,hM2⟩:=da h hr j5 hc
     have hcb:c=b:=by
      obtain⟨r3,ex3,p1,p2,p3⟩:=oY hc
      rw[k1] at p1
      injection p1 with p1 p1'
      subst p1
      rw[q3] at p3
      injection p3 with p3
      exact p3.symm
     subst hcb
     exact⟨_,l2,fJ _ (fv _ hk hM2)⟩
    ·cases e
   |false=>
    rw[hk] at e
    simp only[cond_false,Option.some.injEq] at e
    subst e
    exact⟨r',cO,cM,hr,j5,l2⟩
  ·cases e
theorem ako (hT:cP P Θ=true) (h:a7 σ w0 W0 Z H S a w) {o:Oper} {T:TypeId} {x:Operand} (ho:o.op=.load T x) (e:fZ Θ S o.dst T x=some (true,S')):gL P w0 W0 Z H S' a o.dst w (execOp a.eval o):=by
 unfold fZ at e
 split at e
 ·rename_i av dA
  split at e
  ·rename_i g hg
   split at e
   ·rename_i r hr
    have hl:=rk h dA hg
    cases hc:Θ.is T g.ty with
    |false=>rw[hc] at e;cases e
    |true=>
     rw[hc] at e
     simp only[cond_true,Option.some.injEq,Prod.mk.injEq,true_and] at e
     subst e
     obtain⟨u,h1,h2⟩:=M5 hT h hl hr hc
     refine cw h (v:=u) (fun w2 hw=>?_) h2
     simp only[execOp,ho,Sem.run_bind,h1 w2 hw]
     rfl
   ·cases e
  ·cases e
 ·cases e
end Go.Pv
namespace Go.Pv
set_option linter.unusedVariables false
set_option linter.unusedSimpArgs false
variable {P:Program} {w w':World} {A A':Nat→Prop} {H:Nat→Value} {tm qP:Nat→Value} {S S':St} {σ:Nat→Option Nat} {w0:World} {W0 Z:Nat→Prop} {a:Act} {own:Nat→Prop} {v:Value} {Θ:de} {dst:Option Nat}
theorem iP:∀ (p:Path) {t:Ty} {m:Md} {x:t.I} {b:TV},m.bP=true→bd p t m x=some b→b.m.bP=true
 |[],t,m,x,b,hk,hg=>by simp only[bd,Option.some.injEq] at hg;subst hg;exact hk
 | .deref::p,.ptr t,m,x,b,hk,hg=>by simp only[bd] at hg;exact iP p (oN hk) hg
 | .fst::p,.pair _ _,m,x,b,hk,hg=>by simp only[bd] at hg;exact iP p (MH hk) hg
 | .snd::p,.pair _ _,m,x,b,hk,hg=>by simp only[bd] at hg;exact iP p (MI hk) hg
 | .idx i::p,.sl t,m,x,b,hk,hg=>by simp only[bd] at hg;exact iP p (oN hk) hg
theorem gM:∀ (p:Path) {t:Ty} {m:Md} {x:t.I} {b:TV},aN p=true→bd p t m x=some b→valid p t x
 |[],_,_,_,_,_,_=>trivial
 | .fst::p,.pair _ _,m,x,b,h,hg=>by simp only[bd] at hg;simp only[valid];exact gM p (by simpa[aN] using h) hg
 | .snd::p,.pair _ _,m,x,b,h,hg=>by simp only[bd] at hg;simp only[valid];exact gM p (by simpa[aN] using h) hg
theorem o6:∀ (p:Path) {t:Ty} {m:Md} {x:t.I} {b:TV},aN p=true→bd p t m x=some b→fT p t=some b.t
 |[],_,_,_,_,_,hg=>by simp only[bd,Option.some.injEq] at hg;subst hg;rfl
 | .fst::p,.pair _ _,m,x,b,h,hg=>by simp only[bd] at hg;simp only[fT];exact o6 p (by simpa[aN] using h) hg
 | .snd::p,.pair _ _,m,x,b,h,hg=>by simp only[bd] at hg;simp only[fT];exact o6 p (by simpa[aN] using h) hg
theorem iQ:∀ (p q:Path),aN p=true→aN q=true→aN (p++q)=true
 |[],_,_,h=>h
 | .fst::p,q,h,h'=>by simp only[List.cons_append,aN];exact iQ p q (by simpa[aN] using h) h'
 | .snd::p,q,h,h'=>by simp only[List.cons_append,aN];exact iQ p q (by simpa[aN] using h) h'
theorem ll:∀ n,aN (List.replicate n .snd)=true
 |0=>rfl
 |n+1=>by rw[List.replicate_succ];simp only[aN];exact ll n
theorem iA (i n:Nat):aN (mL i n)=true:=by
 unfold mL
 cases Nat.beq (i+1) n<;>cases Nat.beq n 1<;>simp only[cond_true,cond_false]
 ·exact iQ _ _ (ll _) rfl
 ·exact iQ _ _ (ll _) rfl
 ·exact ll _
 ·rfl
theorem aut {t:Ty} {x:t.I} {p:Path} {b:TV} {cs:List Value} {v:Value} (hm:az (.ptr t) v cs) (h:K w A (.ptr t) x cs) (hp:aN p=true) (hg:bd p t .k x=some b):
  ∃ g off,v=.pointer (some ⟨g,off,none⟩)∧K w A (.ptr b.t) b.x [.pointer (some ⟨g,off+aQ p t,none⟩)]:=by
 simp only[K] at h
 obtain⟨g,off,cur,T',fr,rfl,hA,hw,hs,hk⟩:=h
 refine⟨g,off,by simpa[az,isAgg] using hm.symm,?_⟩
 have hl:=(kK t hk).1
 obtain⟨cM,cE,k1,k2,k3⟩:=focus (w:=w) (Wr:=A) (H:=fun _=>undef) (ow:=fun _=>False) (hs:=[]) p (fJ t hk) (fun _ h=>by simp at h) (gM p hp hg) hg
 rw[ey p hp hg hl] at k1
 injection k1 with k1
 subst k1
 have hf:=dY p hp hg
 simp only[K]
 refine⟨g,off+aQ p t,cur,T',fr,rfl,hA,hw,by omega,?_⟩
 have:=fv _ (iP p rfl hg) k3
 rw[List.drop_take,List.take_take,List.drop_drop,Nat.min_eq_left (by omega)] at this
 exact this
theorem xi {p:Path} {t:Ty} {m:Md} {x:t.I} {b:TV} (hp:p≠[]) (h:aN p=true) (hg:bd p t m x=some b):∃ a' b',t=.pair a' b':=by
 cases p with
 |nil=>exact absurd rfl hp
 |cons s p=>cases s<;>cases t<;>simp_all [bd,aN]
theorem ady {i n:Nat} (h:i<n):mL i n≠[]:=by
 unfold mL
 cases hb:Nat.beq (i+1) n with
 |false=>simp
 |true=>
  cases hc:Nat.beq n 1 with
  |true=>simp
  |false=>
   simp only[cond_true,cond_false]
   have h1:=Nat.eq_of_beq_eq_true hb
   have h2:=Nat.ne_of_beq_eq_false hc
   cases i with
   |zero=>omega
   |succ i=>simp[List.replicate_succ]
theorem xj (hT:cP P Θ=true) (h:a7 σ w0 W0 Z H S a w) {o:Oper} {T:TypeId} {x:Operand} {f:Nat} (ho:o.op=.fieldAddr T x f) (e:ga Θ S o.dst T x f=some (true,S')):lX P w0 W0 Z H S' a o.dst w (execOp a.eval o):=by
 unfold ga at e
 split at e
 ·rename_i av i dA hi
  cases cR:Nat.blt f i.fs.length with
  |false=>rw[cR] at e;cases e
  |true=>
   rw[cR] at e
   simp only[cond_true] at e
   have hf:f<i.fs.length:=Nat.lt_of_succ_le (Nat.le_of_ble_eq_true cR)
   obtain⟨_,hu,z7⟩:=cT hT hi
   -- the address of the field
   have run:∀ (w2:World) (g off:Nat) (b:TV) (t:Ty) (m:Md) (y:t.I),i.ty=t→bd (mL f i.fs.length) t m y=some b→
     (Instr.fieldAt T (.pointer (some ⟨g,off,none⟩)) f).run P w2=.ok (.pointer (some ⟨g,off+aQ (mL f i.fs.length) t,none⟩)) w2:=by
    intro w2 g off b t m y fh hg
    have nH:∃ a' b',i.ty=.pair a' b':=by
     subst fh
     exact xi (ady hf) (iA _ _) hg
    obtain⟨a',b',hp⟩:=nH
    obtain⟨fs,hfs,Cs,hfo,_⟩:=lW hu hp
    rw[z7] at hfs
    have hlen:i.fs.length=fs.size:=by rw[←Cs];simp
    obtain⟨fl,azo⟩:∃ fl,fs[f]?=some fl:=⟨fs[f]'(by omega),by simp[show f<fs.size from by omega]⟩
    obtain⟨tf,h1,h2,h3,h4⟩:=iy hfo f fl (by simpa using azo)
    rw[Nat.zero_add,←hlen] at h1 h3
    subst fh
    rw[o6 _ (iA _ _) hg] at h1
    injection h1 with h1
    obtain⟨inf,k1,k2,_⟩:=gY hT h2
    simp only[Instr.fieldAt,Sem.run_bind,run_underlying hfs,Result.andThen_ok,azo,Instr.sureAddr,Sem.run_pure,fieldPlace,sizeOf,typeInfo,run_program,k1,k2]
    rw[if_neg (by omega)]
    simp only[Sem.run_pure,Result.andThen_ok,iO,h3]
   split at e
   ·rename_i t m y hg
    cases fh:decide (i.ty=t) with
    |false=>rw[fh] at e;cases e
    |true=>
     rw[fh] at e
     simp only[cond_true] at e
     split at e
     ·rename_i b hb
      injection e with e;injection e with _ e;subst e
      obtain⟨cs,h1,h2⟩:=rk h dA hg
      obtain⟨g',off,hv,hk⟩:=aut h1 h2 (iA _ _) hb
      refine cn h (v:=.pointer (some ⟨g',off+aQ (mL f i.fs.length) t,none⟩)) (fun w2=>?_) ⟨[_],by simp[az,isAgg],fJ (.ptr b.t) hk⟩
      simp only[execOp,ho,hv,Sem.run_bind,run w2 g' off b t .k y (by simpa using fh) hb]
      rfl
     ·cases e
   ·rename_i t s p hg
    cases fh:decide (i.ty=t) with
    |false=>rw[fh] at e;cases e
    |true=>
     rw[fh] at e
     simp only[cond_true] at e
     split at e
     ·rename_i b hb
      injection e with e;injection e with _ e;subst e
      obtain⟨r,ex,k1,k2⟩:=rk h dA hg
      obtain⟨r2,ex2,q1,q2,q3⟩:=dG hb
      rw[k1] at q1
      injection q1 with q1 EG
      subst q1 EG
      have bU:=eC q2
      obtain⟨cO,g',off,hr,ha,hv⟩:=k2 (aal bU)
      obtain⟨DB,b',cM,cE,j1,j2,j3,j4,hM,j5,j6,j7⟩:=fF h hr
      rw[fa,j3] at q3
      simp only[Option.bind_some] at q3
      refine cn h (v:=.pointer (some ⟨g',off+aQ (mL f i.fs.length) t,none⟩)) (fun w2=>?_) ⟨r,cO,g',off+aQ (mL f i.fs.length) t,⟨⟨ex,k1,bU⟩,fi p _ j3 hr.val (gM _ (iA _ _) q3),⟨b,by rw[fa,j3];exact q3,rfl⟩,hr.mat⟩,?_,rfl⟩
      ·subst j4
       simp only[execOp,ho,hv,Sem.run_bind,run w2 g' off b b'.t b'.m b'.x (by simpa using fh) q3]
       rfl
      ·rw[(fj p _ cO none j3).2,j5,ha]
       simp only[Option.bind_some]
       rw[iJ _ (iA _ _) q3,j4]
     ·cases e
   ·cases e
 ·cases e
theorem WN {α:Type} (xs:List α) (i:Nat) (d:α) (h:i<xs.length):List.getD xs i d=xs[i]:=by simp[List.getD_eq_getElem?_getD,List.getElem?_eq_getElem h]
theorem mR (hT:cP P Θ=true) {T:TypeId} {t:Ty} {g off len c:Nat} {k:IntKind} {n:Int} (ht:Θ.is T (.sl t)=true) (h0:0≤n) (h1:n<(len:Int)):
  (Instr.indexAt T (.slice (some ⟨g,off,none⟩) len c) (.int k n)).run P w=.ok (.pointer (some ⟨g,off+n.toNat*t.size,none⟩)) w:=by
 obtain⟨i,hi,fh⟩:=dN ht
 obtain⟨_,hu,z7⟩:=cT hT hi
 obtain⟨u1,u2,_⟩:=kP hu fh
 rw[z7] at u1
 obtain⟨inf,k1,k2,_⟩:=gY hT u2
 simp[Instr.indexAt,asIntOf,run_underlying u1,h0,h1,sizeOf,typeInfo,run_program,k1,k2,iO]
theorem adz {t:Ty} {xs:List t.I} {v:Value} {cs:List Value} {n:Nat} (hm:az (.sl t) v cs) (h:K w A (.sl t) xs cs) (hn:n<xs.length):
  ∃ g off c,v=.slice (some ⟨g,off,none⟩) xs.length c∧K w A (.ptr t) (List.getD xs n t.z) [.pointer (some ⟨g,off+n*t.size,none⟩)]:=by
 simp only[K] at h
 obtain⟨X,c,rfl,hc,h⟩:=h
 obtain⟨g,off,cur,T',fr,rfl,hA,hw,hs,hk⟩:=h (by omega)
 refine⟨g,off,c,by simpa[az,isAgg] using hm.symm,?_⟩
 simp only[K]
 have hb:off+n*t.size+t.size≤cur.size:=by
  have:=Nat.mul_le_mul_right t.size (show n+1≤xs.length from hn)
  rw[Nat.add_mul,Nat.one_mul] at this
  omega
 exact⟨g,_,cur,T',fr,rfl,hA,hw,hb,by rw[WN _ _ _ hn];exact hk n hn⟩
theorem xk (hT:cP P Θ=true) (h:a7 σ w0 W0 Z H S a w) {o:Oper} {T:TypeId} {x ix:Operand} (ho:o.op=.indexAddr T x ix) (e:ck Θ S o.dst T x ix=some (true,S')):lX P w0 W0 Z H S' a o.dst w (execOp a.eval o):=by
 unfold ck at e
 split at e
 ·rename_i t m xs ex n dA hn
  obtain⟨k,hk⟩:=ic h hn
  cases hc:Θ.is T (.sl t) with
  |false=>rw[hc] at e;cases e
  |true=>
   rw[hc] at e
   simp only[cond_true] at e
   split at e
   ·injection e with e;injection e with e1 e;subst e
    obtain⟨b1,b2⟩:=rf e1
    obtain⟨cs,h1,h2⟩:=bD h dA
    have hK:=fv _ rfl h2
    obtain⟨g,off,c,hv,Rz⟩:=adz (n:=n.toNat) h1 hK (by have b2':n<(List.length xs:Int):=b2;show n.toNat<List.length xs;omega)
    refine cn h (v:=.pointer (some ⟨g,off+n.toNat*t.size,none⟩)) (fun w2=>?_) ⟨[_],by simp[az,isAgg],fJ (.ptr t) Rz⟩
    simp only[execOp,ho,hv,hk,Sem.run_bind,mR hT hc b1 b2]
    rfl
   ·rename_i T' tag me j
    split at e
    ·rename_i b hb
     injection e with e;injection e with e1 e;subst e
     obtain⟨b1,b2⟩:=rf e1
     have du:S.at j=.v ⟨.sl t,.o T' tag me,xs⟩ ex:=by simpa[St.dP] using dA
     obtain⟨r2,ex2,q1,q2,q3⟩:=dG hb
     rw[du] at q1
     injection q1 with q1 EG
     subst q1 EG
     have bU:=eC q2
     obtain⟨cs,h1,h2⟩:=bD h dA
     simp only[M] at h2
     rcases h2 with⟨nH,_⟩ |⟨fW,_⟩ |⟨T2,aam,me2,X,c,e2,rfl,hcc,akp,h2⟩
     ·exact absurd nH bU.not_nil
     ·simp[Md.bP] at fW
     ·have hv:a.eval (.tmp j)=.slice X xs.length c:=by simpa[az,isAgg] using h1.symm
      rcases h2 with⟨rfl,_⟩ |⟨g,cur,τ,rfl,hg,hw,iD,hm,hj⟩
      ·simp at b2;omega
      ·have cR:n.toNat<xs.length:=by omega
       have hbound:0+n.toNat*t.size+t.size≤cur.size:=by
        have h1:=Nat.mul_le_mul_right t.size (show n.toNat+1≤xs.length from cR)
        have h2:=Nat.mul_le_mul_right t.size hcc
        rw[Nat.add_mul,Nat.one_mul] at h1
        omega
       refine cn h (v:=.pointer (some ⟨g,0+n.toNat*t.size,none⟩)) (fun w2=>?_) ⟨_,[.slice (some ⟨g,0,none⟩) xs.length c],g,0+n.toNat*t.size,⟨⟨ex,du,bU⟩,⟨cR,trivial⟩,⟨_,rfl,rfl⟩,h1⟩,?_,rfl⟩
       ·simp only[execOp,ho,hv,hk,Sem.run_bind,mR hT hc b1 b2]
        rfl
       ·simp only[addrAt,bA hw hbound,Option.bind_some]
    ·cases e
   ·cases e
 ·rename_i t s p n dA hn
  obtain⟨k,hk⟩:=ic h hn
  cases hc:Θ.is T (.sl t) with
  |false=>rw[hc] at e;cases e
  |true=>
   rw[hc] at e
   simp only[cond_true] at e
   obtain⟨r,cO,cs,hr,jq,hm⟩:=bD h dA
   obtain⟨ex,b,cM,cE,j1,j2,j3,j4,hM,j5,j6,j7⟩:=fF h hr
   rw[jq] at j5
   injection j5 with j5
   subst j5
   split at e
   ·rename_i t' xs Cr
    injection e with e;injection e with e1 e;subst e
    obtain⟨b1,b2⟩:=rf e1
    obtain⟨r2,ex2,q1,q2,q3⟩:=dG Cr
    rw[j1] at q1
    injection q1 with q1 EG
    subst q1 EG
    rw[j3] at q3
    injection q3 with q3
    subst q3
    injection j4 with j4
    subst j4
    have hK:=fv _ rfl j7
    obtain⟨g,off,c,hv,Rz⟩:=adz (n:=n.toNat) hm hK (by have b2':n<(List.length xs:Int):=b2;show n.toNat<List.length xs;omega)
    refine cn h (v:=.pointer (some ⟨g,off+n.toNat*Ty.size t',none⟩)) (fun w2=>?_) ⟨[_],by simp[az,isAgg],fJ (.ptr _) Rz⟩
    simp only[execOp,ho,hv,hk,Sem.run_bind,mR hT hc b1 b2]
    rfl
   ·rename_i t' T' tag me xs Cr
    split at e
    ·rename_i b2' hb
     injection e with e;injection e with e1 e;subst e
     obtain⟨b1,b2⟩:=rf e1
     obtain⟨r2,ex2,q1,q2,q3⟩:=dG Cr
     rw[j1] at q1
     injection q1 with q1 EG
     subst q1 EG
     rw[j3] at q3
     injection q3 with q3
     subst q3
     injection j4 with j4
     subst j4
     obtain⟨r3,ex3,p1,p2,p3⟩:=dG hb
     rw[j1] at p1
     injection p1 with p1 p1'
     subst p1 p1'
     have bU:=eC p2
     simp only[M] at j7
     rcases j7 with⟨nH,_⟩ |⟨fW,_⟩ |⟨T2,aam,me2,X,c,e2,rfl,hcc,akp,h2⟩
     ·exact absurd nH (xh bU)
     ·simp[Md.bP] at fW
     ·have hv:a.eval x=.slice X (List.length xs) c:=by simpa[az,isAgg] using hm.symm
      rcases h2 with⟨rfl,_⟩ |⟨g,cur,τ,rfl,hg,hw,iD,hm',hj⟩
      ·simp at b2;omega
      ·have cR:n.toNat<List.length xs:=by omega
       have hbound:0+n.toNat*Ty.size t'+Ty.size t'≤cur.size:=by
        have h1:=Nat.mul_le_mul_right (Ty.size t') (show n.toNat+1≤List.length xs from cR)
        have h2:=Nat.mul_le_mul_right (Ty.size t') hcc
        rw[Nat.add_mul,Nat.one_mul] at h1
        omega
       refine cn h (v:=.pointer (some ⟨g,0+n.toNat*Ty.size t',none⟩)) (fun w2=>?_) ⟨r,cO,g,0+n.toNat*Ty.size t',⟨⟨ex,j1,bU⟩,fi p _ j3 hr.val ⟨cR,trivial⟩,⟨_,by rw[fa,j3];rfl,rfl⟩,hr.mat⟩,?_,rfl⟩
       ·simp only[execOp,ho,hv,hk,Sem.run_bind,mR hT hc b1 b2]
        rfl
       ·rw[(fj p _ cO none j3).2,jq]
        simp only[Option.bind_some,addrAt,bA hw hbound]
    ·cases e
   ·cases e
 ·cases e
end Go.Pv
namespace Go.Pv
set_option linter.unusedVariables false
set_option linter.unusedSimpArgs false
variable {P:Program} {w w':World} {A A':Nat→Prop} {H:Nat→Value} {tm qP:Nat→Value} {S S':St} {σ:Nat→Option Nat} {w0:World} {W0 Z:Nat→Prop} {a:Act} {own:Nat→Prop} {v:Value} {Θ:de} {dst:Option Nat}
theorem sF {k:IntKind} {i:Int} {y:Nat} {code:BoundsCode} (h0:0≤i) (h1:i≤y):(Instr.sliceBound (.int k i) y code).run P w=.ok i.toNat w:=by
 simp[Instr.sliceBound,asIntOf,h0,h1]
theorem EK {sl:Bool} {len cap:Nat} {lo hi:Option Value} {l h:Int} (hlo:(lo=none∧l=0)∨∃ k,lo=some (.int k l)) (Et:(hi=none∧h=len)∨∃ k,hi=some (.int k h))
  (h0:0≤l) (h1:l≤h) (h2:h≤len) (h3:len≤cap):(Instr.sliceBounds sl len cap lo hi none).run P w=.ok (l.toNat,h.toNat,cap) w:=by
 have e1:∀ k code,(Instr.sliceBound (.int k l) h.toNat code).run P w=.ok l.toNat w:=fun k code=>sF h0 (by omega)
 have e2:∀ k code,(Instr.sliceBound (.int k h) cap code).run P w=.ok h.toNat w:=fun k code=>sF (by omega) (by omega)
 unfold Instr.sliceBounds
 rcases hlo with⟨rfl,rfl⟩ |⟨k,rfl⟩<;>rcases Et with⟨rfl,rfl⟩ |⟨k',rfl⟩
 ·simp
 ·simp[e2]
 ·have Aw:∀ k code,(Instr.sliceBound (.int k l) len code).run P w=.ok l.toNat w:=fun k code=>sF h0 (by omega)
  simp[Aw]
 ·simp[e1,e2]
theorem iB (h:a7 σ w0 W0 Z H S a w) {x:Option Operand} {d n:Int} (e:gD Θ S d x=some n):(x.map a.eval=none∧n=d)∨∃ k,x.map a.eval=some (.int k n):=by
 cases x with
 |none=>simp only[gD,Option.some.injEq] at e;exact .inl ⟨rfl,e.symm⟩
 |some x=>
  obtain⟨k,hk⟩:=ic h e
  exact .inr ⟨k,by simp[hk]⟩
theorem M6 (hT:cP P Θ=true) (h:a7 σ w0 W0 Z H S a w) {o:Oper} {T:TypeId} {x:Operand} {lo hi mx:Option Operand} (ho:o.op=.slice T x lo hi mx) (e:dX Θ S o.dst T x lo hi mx=some (true,S')):lX P w0 W0 Z H S' a o.dst w (execOp a.eval o):=by
 unfold dX at e
 split at e
 ·rename_i av m s l dA WC hl
  split at e
  ·rename_i hh Et
   cases hc:Θ.is T .str with
   |false=>rw[hc] at e;cases e
   |true=>
    rw[hc] at e
    simp only[cond_true,Option.some.injEq,Prod.mk.injEq,Bool.and_eq_true,decide_eq_true_eq] at e
    obtain⟨⟨⟨b1,b2⟩,b3⟩,e⟩:=e
    subst e
    obtain⟨cs,h1,h2,_⟩:=gZ h WC
    have hv:=eP h1 h2
    obtain⟨i,ML,fh⟩:=dN hc
    obtain⟨_,hu,z7⟩:=cT hT ML
    have sC:=oV hu fh
    rw[z7] at sC
    refine cn h (v:=.string (s.extract l.toNat hh.toNat)) (fun w2=>?_) (HM _)
    have hb:=EK (P:=P) (w:=w2) (sl:=false) (iB h hl) (iB h Et) b1 b2 b3 (Nat.le_refl _)
    simp[execOp,ho,hv,Instr.sliceAt,Instr.slice,run_underlying sC,hb]
  ·cases e
 ·rename_i av t m xs l dA WC hl
  cases hc:Θ.is T (.sl t) with
  |false=>rw[hc] at e;cases e
  |true=>
   rw[hc] at e
   simp only[cond_true] at e
   obtain⟨i,ML,fh⟩:=dN hc
   obtain⟨_,hu,z7⟩:=cT hT ML
   obtain⟨u1,u2,_⟩:=kP hu fh
   rw[z7] at u1
   obtain⟨inf,q1,q2,_⟩:=gY hT u2
   obtain⟨cs,h1,h2,h3⟩:=gZ h WC
   obtain⟨X,c,hv,gH,hlc⟩:=nQ h1 h2
   have run:∀ (hh:Int),gD Θ S (xs.length:Int) hi=some hh→mx=none→0≤l→l≤hh→hh≤(xs.length:Int)→
     ∀ w2,(execOp a.eval o).run P w2=.ok (.value (.slice (if c=l.toNat then X else X.map (·.add (l.toNat*t.size))) (hh.toNat - l.toNat) (c - l.toNat))) w2:=by
    intro hh Et hmx b1 b2 b3 w2
    subst hmx
    have hb:=EK (P:=P) (w:=w2) (sl:=true) (iB h hl) (iB h Et) b1 b2 b3 hlc
    simp[execOp,ho,hv,Instr.sliceAt,Instr.slice,run_underlying u1,hb,sizeOf,typeInfo,run_program,q1,q2]
   split at e
   ·rename_i _ hh Et
    split at e
    ·simp only[Option.some.injEq,Prod.mk.injEq,Bool.and_eq_true,decide_eq_true_eq] at e
     obtain⟨⟨⟨b1,b2⟩,b3⟩,e⟩:=e
     subst e
     have hK:=h3 rfl
     subst gH
     exact cn h (run hh Et rfl b1 b2 b3) ⟨[_],by simp[az,isAgg],fJ (.sl t) (WI hK (by omega) (by omega))⟩
    ·rename_i b ex i _
     simp only[Option.some.injEq,Prod.mk.injEq,Bool.and_eq_true,decide_eq_true_eq] at e
     obtain⟨⟨⟨b1,b2⟩,b3⟩,e⟩:=e
     subst e
     have du:S.at i=.v b ex:=by simpa[St.dP] using dA
     unfold St.rd at WC
     rw[dA] at WC
     cases ex with
     |cons _ _=>simp[St.sy] at WC
     |nil=>
      simp only[St.sy,Option.some.injEq] at WC
      subst WC
      subst gH
      refine cn h (run hh Et rfl b1 b2 b3) ⟨_,_,t,X,List.length xs,c,⟨⟨[],du,fun q hq=>by simp at hq⟩,trivial,⟨_,rfl,rfl⟩,h1⟩,rfl,rfl,by omega,by omega,rfl⟩
    ·rename_i _ s p hm
     simp only[Option.some.injEq,Prod.mk.injEq,Bool.and_eq_true,decide_eq_true_eq] at e
     obtain⟨⟨⟨b1,b2⟩,b3⟩,e⟩:=e
     subst e
     obtain⟨r,cO,cM,hr,jq,hmm⟩:=bD h dA
     unfold St.rd at WC
     rw[dA] at WC
     simp only[St.sy] at WC
     obtain⟨Ab,_⟩:=da h hr jq WC
     simp only at Ab
     subst Ab
     obtain rfl:=eB h1 hmm
     subst gH
     refine cn h (run hh Et rfl b1 b2 b3) ⟨r,cO,t,X,List.length xs,c,hr,rfl,jq,by omega,by omega,rfl⟩
    ·cases e
   ·rename_i _ hh z ii Et adA
    split at e
    ·rename_i c' hx hz
     simp only[Option.some.injEq,Prod.mk.injEq,Bool.and_eq_true,decide_eq_true_eq] at e
     obtain⟨⟨⟨rfl,rfl⟩,rfl⟩,e⟩:=e
     subst e
     obtain⟨kz,hkz⟩:=ic h hz
     refine cn h (v:=.slice X 0 0) (fun w2=>?_) ⟨[.slice X 0 0],by simp[az,isAgg],?_⟩
     ·have WO:=iB h hl
      have hh':=iB h Et
      have hb:(Instr.sliceBounds true xs.length c (lo.map a.eval) (some (a.eval hx)) (some (.int kz 0))).run P w2=.ok (0,0,0) w2:=by
       have e0:∀ k y code,(Instr.sliceBound (.int k 0) y code).run P w2=.ok 0 w2:=fun k y code=>sF (by omega) (by omega)
       have hh2:∃ k,a.eval hx=.int k 0:=by
        rcases hh' with⟨hh',_⟩ |⟨k,hh'⟩
        ·simp at hh'
        ·exact⟨k,by simpa using hh'⟩
       obtain⟨k2,Rz⟩:=hh2
       unfold Instr.sliceBounds
       rcases WO with⟨WO,_⟩ |⟨k1,WO⟩<;>rw[WO,Rz]<;>simp[e0]
      simp[execOp,ho,hv,Instr.sliceAt,Instr.slice,run_underlying u1,hkz,hb,sizeOf,typeInfo,run_program,q1,q2]
     ·simp only[M]
      exact .inr (.inr ⟨_,_,_,X,0,rfl,rfl,Nat.le_refl _,fun h hh=>(by cases hh),.inl (by simp)⟩)
    ·cases e
   ·cases e
 ·cases e
end Go.Pv
namespace Go.Pv
set_option linter.unusedVariables false
set_option linter.unusedSimpArgs false
variable {P:Program} {w w':World} {A A' Wr:Nat→Prop} {H:Nat→Value} {tm qP:Nat→Value} {S S' S1:St} {σ:Nat→Option Nat} {w0:World} {W0 Z:Nat→Prop} {a:Act} {own:Nat→Prop} {v:Value} {Θ:de} {dst:Option Nat}
theorem HP:∀ (p:Path) {t:Ty} {m:Md} {x:t.I} {cs:List Value} {ow:Nat→Prop} {hs:List Path} {b:TV},M w Wr H t m x cs ow hs→open_ p hs→valid p t x→bd p t m x=some b→b.m.bP=false→
  ∃ cM cE,aT w p t cs=some cM∧(∀ g,cE g→ow g)∧M w Wr H b.t b.m b.x cM cE (wX p hs)∧M w Wr H t m x cs (fun g=>ow g∧ ¬cE g) (hs++[p])
 |[],t,m,x,cs,ow,hs,b,h,ho,hv,hg,hk=>by
  simp only[bd,Option.some.injEq] at hg
  subst hg
  refine⟨cs,ow,rfl,fun _ h=>h,h,?_⟩
  simp only at hk
  have iz:=er t h
  cases t<;>simp only[M] at h ⊢<;>first
   |(rw[hk] at h;exact absurd h.1 (by simp))
   |(exact .inl ⟨by simp,hk,iz⟩)
   |(
     rcases h with⟨_,_,h⟩ |⟨fW,_⟩ |⟨T,tag,me,A,c,_,rfl,_⟩
     ·exact .inl ⟨by simp,hk,h⟩
     ·rw[hk] at fW;cases fW
     ·exact .inl ⟨by simp,hk,A,c,rfl⟩)
 | .deref::p,.ptr t,m,x,cs,ow,hs,b,h,ho,hv,hg,hk=>by
  simp only[bd] at hg
  simp only[valid] at hv
  simp only[M] at h
  rcases h with⟨hn,_⟩ |⟨fW,h⟩ |⟨T,tag,me,g,cur,rfl,rfl,ht,qv,hw,h⟩
  ·exact absurd hn ho.not_nil
  ·rw[iP p (oN fW) hg] at hk;cases hk
  ·have hlen:=(er t h).1
   obtain⟨cM,cE,h1,h2,h3,h4⟩:=HP p h ho.sub hv hg hk
   have iD:0+t.size≤cur.size:=by rw[←hlen];simp
   refine⟨cM,cE,?_,fun g hg=>(h2 g hg).1,h3,?_⟩
   ·simp only[aT,bA hw iD,Option.bind_some,List.drop_zero]
    rw[List.take_of_length_le (by omega)]
    exact h1
   ·simp only[M]
    exact .inr (.inr ⟨T,tag,me,g,cur,rfl,rfl,ht,⟨qv,fun hx=>(h2 g hx).2 rfl⟩,hw,aK (aU.refl _ _) t (fun _ _ _=>rfl) (fun g' bp _=>⟨⟨bp.1.1,bp.2⟩,bp.1.2⟩) (fun q hq=>by
     rcases List.mem_append.1 hq with hq |hq
     ·exact dk.2 (List.mem_append_left _ (dk.1 hq))
     ·rw[List.mem_singleton.1 hq];exact dk.2 (List.mem_append_right _ (by simp))) h4⟩)
 | .fst::p,.pair a b',m,x,cs,ow,hs,b,h,ho,hv,hg,hk=>by
  simp only[bd] at hg
  simp only[valid] at hv
  simp only[M] at h
  rcases h with⟨hn,_⟩ |⟨fW,h⟩ |⟨ma,mb,c0,c1,s,rfl,rfl,h0,h1⟩
  ·exact absurd hn ho.not_nil
  ·rw[iP p (MH fW) hg] at hk;cases hk
  ·obtain⟨cM,cE,k1,k2,k3,k4⟩:=HP p h0 ho.sub hv hg hk
   refine⟨cM,cE,by simp only[aT];rw[←(er a h0).1,List.take_left];exact k1,fun g hg=>(k2 g hg).1,k3,?_⟩
   simp only[M]
   refine .inr (.inr ⟨ma,mb,c0,c1,s,rfl,rfl,aK (aU.refl _ _) a (fun _ _ _=>rfl) (fun g' bp _=>⟨⟨bp.1.1,bp.2⟩,bp.1.2⟩) (fun q hq=>?_) k4,aK (aU.refl _ _) b' (fun _ _ _=>rfl) (fun g' bp _=>⟨⟨bp.1,fun hx=>bp.2 (k2 g' hx).2⟩,bp.2⟩) (lO (fun q hq=>List.mem_append_left _ hq)) h1⟩)
   rcases List.mem_append.1 hq with hq |hq
   ·exact dk.2 (List.mem_append_left _ (dk.1 hq))
   ·rw[List.mem_singleton.1 hq];exact dk.2 (List.mem_append_right _ (by simp))
 | .snd::p,.pair a b',m,x,cs,ow,hs,b,h,ho,hv,hg,hk=>by
  simp only[bd] at hg
  simp only[valid] at hv
  simp only[M] at h
  rcases h with⟨hn,_⟩ |⟨fW,h⟩ |⟨ma,mb,c0,c1,s,rfl,rfl,h0,h1⟩
  ·exact absurd hn ho.not_nil
  ·rw[iP p (MI fW) hg] at hk;cases hk
  ·obtain⟨cM,cE,k1,k2,k3,k4⟩:=HP p h1 ho.sub hv hg hk
   refine⟨cM,cE,by simp only[aT];rw[←(er a h0).1,List.drop_left];exact k1,fun g hg=>(k2 g hg).1,k3,?_⟩
   simp only[M]
   refine .inr (.inr ⟨ma,mb,c0,c1,s,rfl,rfl,aK (aU.refl _ _) a (fun _ _ _=>rfl) (fun g' bp _=>⟨⟨bp.1,fun hx=>(k2 g' hx).2 bp.2⟩,bp.2⟩) (lO (fun q hq=>List.mem_append_left _ hq)) h0,aK (aU.refl _ _) b' (fun _ _ _=>rfl) (fun g' bp _=>⟨⟨bp.1.1,bp.2⟩,bp.1.2⟩) (fun q hq=>?_) k4⟩)
   rcases List.mem_append.1 hq with hq |hq
   ·exact dk.2 (List.mem_append_left _ (dk.1 hq))
   ·rw[List.mem_singleton.1 hq];exact dk.2 (List.mem_append_right _ (by simp))
 | .idx i::p,.sl t,m,xs,cs,ow,hs,b,h,ho,hv,hg,hk=>by
  simp only[bd] at hg
  simp only[valid] at hv
  obtain⟨hi,hv⟩:=hv
  have eH:List.getD xs i t.z=xs[i]:=WN _ _ _ hi
  simp only[M] at h
  rcases h with⟨hn,_⟩ |⟨fW,h⟩ |⟨T,tag,me,X,c,rfl,rfl,hc,ht,h⟩
  ·exact absurd hn ho.not_nil
  ·rw[iP p (oN fW) hg] at hk;cases hk
  ·rcases h with⟨rfl,_⟩ |⟨g,cur,τ,rfl,qv,hw,iD,hm,h⟩
   ·simp at hi
   ·have hbound:0+i*t.size+t.size≤cur.size:=by
     have h1:=Nat.mul_le_mul_right t.size (show i+1≤xs.length from hi)
     have h2:=Nat.mul_le_mul_right t.size hc
     rw[Nat.add_mul,Nat.one_mul] at h1
     omega
    have hM:=h i hi
    rw[←eH] at hM
    obtain⟨cM,cE,h1,h2,h3,h4⟩:=HP p hM ho.sub hv hg hk
    refine⟨cM,cE,by simp only[aT,bA hw hbound,Option.bind_some];rw[Nat.zero_add];exact h1,fun g hg=>(h2 g hg).1,h3,?_⟩
    simp only[M]
    refine .inr (.inr ⟨T,tag,me,some ⟨g,0,none⟩,c,rfl,rfl,hc,ht,.inr ⟨g,cur,τ,rfl,⟨qv,fun hx=>(h2 g hx).2.1 rfl⟩,hw,iD,hm,fun j hj=>?_⟩⟩)
    by_cases lg:j=i
    ·subst lg
     rw[eH] at h4
     refine aK (aU.refl _ _) t (fun _ _ _=>rfl) (fun g' bp _=>⟨⟨bp.1.1,bp.2⟩,bp.1.2⟩) (fun q hq=>?_) h4
     rcases List.mem_append.1 hq with hq |hq
     ·exact dk.2 (List.mem_append_left _ (dk.1 hq))
     ·rw[List.mem_singleton.1 hq];exact dk.2 (List.mem_append_right _ (by simp))
    ·exact aK (aU.refl _ _) t (fun _ _ _=>rfl) (fun g' bp _=>⟨⟨bp.1,fun hx=>lg (by rw[←bp.2.2];exact(h2 g' hx).2.2)⟩,bp.2⟩) (lO (fun q hq=>List.mem_append_left _ hq)) (h j hj)
theorem lY (a:Act) (i:Nat):a.put (some i) (b9 a i)=a:=by
 unfold Act.put b9
 simp only
 have:a.tmps.setIfInBounds i (a.tmps.getD i undef)=a.tmps:=by
  apply Array.ext_getElem?
  intro j
  rw[Array.getElem?_setIfInBounds,Array.getD_eq_getD_getElem?]
  by_cases h:i=j
  ·subst h
   by_cases hl:i<a.tmps.size
   ·simp[hl]
   ·simp[hl]
  ·simp[h]
 rw[this]
def jt (σ:Nat→Option Nat) (q s:Nat) (g:Nat):Option Nat:=if σ g=some s then some q else σ g
theorem WQ {σ:Nat→Option Nat} {Z:Nat→Prop} {q s g:Nat}:Av (jt σ q s) Z g↔Av σ Z g:=by
 unfold Av jt
 by_cases h:σ g=some s
 ·rw[if_pos h,h];exact⟨fun _=>.inl ⟨s,rfl⟩,fun _=>.inl ⟨q,rfl⟩⟩
 ·rw[if_neg h]
structure fU (σ bO:Nat→Option Nat) (n:Nat) (ow:Nat→Prop):Prop where
 M7:∀ g,ow g→∃ i,i<n∧σ g=some i
 now:∀ g,ow g→∃ i,n≤i∧bO g=some i
 sub:∀ g i,bO g=some i→i<n→σ g=some i
 dom:∀ g,(∃ i,bO g=some i)↔∃ i,σ g=some i
 par:∀ g i,σ g=some i→n≤i→bO g=some i
theorem fU.none (σ:Nat→Option Nat) (n:Nat):fU σ σ n fun _=>False:=⟨fun _ h=>h.elim,fun _ h=>h.elim,fun _ _ h _=>h,fun _=>Iff.rfl,fun _ _ h _=>h⟩
theorem fU.jt (σ:Nat→Option Nat) {n s:Nat} (hs:s<n) {ow:Nat→Prop} (h:∀ g,ow g→σ g=some s):fU σ (jt σ n s) n ow:=by
 refine⟨fun g hg=>⟨s,hs,h g hg⟩,fun g hg=>⟨n,Nat.le_refl _,by unfold Go.Pv.jt;rw[if_pos (h g hg)]⟩,fun g i hg hi=>?_,fun g=>?_,fun g i hg hi=>?_⟩
 ·unfold Go.Pv.jt at hg
  split at hg
  ·injection hg with hg;omega
  ·exact hg
 ·unfold Go.Pv.jt
  split
  ·rename_i h;rw[h];exact⟨fun _=>⟨s,rfl⟩,fun _=>⟨n,rfl⟩⟩
  ·exact Iff.rfl
 ·unfold Go.Pv.jt
  rw[if_neg (by rw[hg];intro e;injection e with e;omega)]
  exact hg
theorem fU.Av {σ bO:Nat→Option Nat} {n:Nat} {ow:Nat→Prop} (h:fU σ bO n ow) {Z:Nat→Prop} {g:Nat}:Av bO Z g↔Av σ Z g:=by
 unfold Go.Pv.Av
 rw[h.dom g]
theorem ee {S:St} {i:Nat} (h:S.at i≠ .dead):i<S.length:=by
 rcases Nat.lt_or_ge i S.length with hl |hl
 ·exact hl
 ·refine absurd ?_ h
  unfold St.at
  rw[List.getD_eq_getElem?_getD,List.getElem?_eq_none hl]
  rfl
theorem a7.jt (h:a7 σ w0 W0 Z H S a w) (i:Nat):a7 (jt σ S.length i) w0 W0 Z H (S.put (some i) .dead) a w:=by
 have b5:aU w w (Av σ Z) (Av (Go.Pv.jt σ S.length i) Z):=⟨fun _ _ _=>rfl,fun g _ hg=>WQ.1 hg⟩
 have hs:∀ g j,Go.Pv.jt σ S.length i g=some j→∃ k,σ g=some k:=fun g j hg=>by
  unfold Go.Pv.jt at hg
  split at hg
  ·exact⟨_,by assumption⟩
  ·exact⟨_,hg⟩
 have:=h.put (dst:=some i) (av:=.dead) (v:=b9 a i) b5 h.fr (fun g j hg=>by
  obtain⟨k,hk⟩:=hs g j hg
  exact⟨h.new g k hk,h.lt g k hk⟩) (fun g hg=>by unfold Go.Pv.jt;rw[(h.old g hg).1];simp) (fun j g _ hd hg=>⟨rfl,by unfold Go.Pv.jt;rw[if_neg (by rw[hg];intro e;exact hd e.symm)];exact hg⟩) (fun _ _ _ _=>trivial)
 rw[lY] at this
 exact this
theorem EL (S:St) (d:Nat) (p:Path) (i:Nat):(S.cover d p).at i=match S.at i with
  | .ad t s q=>bif Nat.beq s d&&under p q then .dead else .ad t s q
  |a=>a:=Eo S _ rfl i
theorem Ref.re {t:Ty} {s:Nat} {p:Path} {r:TV} {cO:List Value} (h:Ref tm S t s p r cO) (hk:∀ ex,S.at s=.v r ex→open_ p ex→∃ DB,S'.at s=.v r DB∧open_ p DB):Ref tm S' t s p r cO:=by
 obtain⟨⟨ex,h1,h2⟩,h3,h4,h5⟩:=h
 exact⟨hk ex h1 h2,h3,h4,h5⟩
theorem gf {d:Nat} {p:Path} {r:TV} {ex:List Path} (hd:S.at d=.v r ex) (hS:∀ i r' DB,i≠d→S.at i=.v r' DB→S'.at i=.v r' DB) (hS':S'.at d=.v r (ex++[p])) {own:Nat→Prop} {av:AV} {v:Value}
  (hf:av.eL d=false) (hc:∀ t q,av=.ad t d q→under p q=false) (h:Holds w A H tm S own av v) (hnv:∀ b ex,av≠ .v b ex) (hnt:∀ l,av≠ .tz l):Holds w A H tm S' own av v:=by
 have hre:∀ {t:Ty} {s:Nat} {q:Path} {r':TV} {cO:List Value},Ref tm S t s q r' cO→(s=d→under p q=false)→Ref tm S' t s q r' cO:=by
  intro t s q r' cO hr hu
  refine hr.re (fun ex1 h1 h2=>?_)
  by_cases Af:s=d
  ·subst Af
   rw[hd] at h1
   injection h1 with h1 h1'
   subst h1 h1'
   refine⟨ex++[p],hS',fun q' qM s' r' e=>?_⟩
   rcases List.mem_append.1 qM with qM |qM
   ·exact h2 q' qM s' r' e
   ·rw[List.mem_singleton.1 qM] at e
    have:=hu rfl
    rw[e,lM] at this
    cases this
  ·exact⟨ex1,hS s r' ex1 Af h1,h2⟩
 have akq:under p []=false:=by cases p<;>rfl
 cases av with
 |dead=>trivial
 |undef=>exact h
 |v b ex=>exact absurd rfl (hnv _ _)
 |tz l=>exact absurd rfl (hnt _)
 |al t s q=>
  obtain⟨r',cO,cs,h1,h2,h3⟩:=h
  refine⟨r',cO,cs,hre h1 (fun e=>?_),h2,h3⟩
  subst e
  cases q with
  |nil=>exact akq
  |cons _ _=>simp[AV.eL] at hf
 |ad t s q=>
  obtain⟨r',cO,g,off,h1,h2,h3⟩:=h
  exact⟨r',cO,g,off,hre h1 (fun e=>by subst e;exact hc _ _ rfl),h2,h3⟩
 |cut t s q lo hi=>
  obtain⟨r',cO,t',X,n,c,h1,h2⟩:=h
  refine⟨r',cO,t',X,n,c,hre h1 (fun e=>?_),h2⟩
  subst e
  simp[AV.eL] at hf
 |ld f cy=>
  obtain⟨vs,h1,h2,h3⟩:=h
  refine⟨vs,h1,h2,fun j c hj=>?_⟩
  obtain⟨u,k1,k2⟩:=h3 j c hj
  refine⟨u,k1,?_⟩
  cases c with
  |kv b=>exact k2
  |pl t s q=>
   obtain⟨r',cO,cs,l1,l2,l3⟩:=k2
   refine⟨r',cO,cs,hre l1 (fun e=>?_),l2,l3⟩
   subst e
   cases q with
   |nil=>exact akq
   |cons a' q'=>
    simp only[AV.eL] at hf
    have nH:=List.any_eq_false.1 hf _ (List.mem_of_getElem? hj)
    simp at nH
theorem eD (h:a7 σ w0 W0 Z H S a w) {T:TypeId} {x:Operand} {av:AV} {b:TV} (ho:S.dP Θ T x=some av) (e:S.dD x av=some (b,S1)):
  ∃ bO cs ow,a7 bO w0 W0 Z H S1 a w∧az b.t (a.eval x) cs∧M w (Av σ Z) H b.t b.m b.x cs ow []∧fU σ bO S.length ow∧S1.length=S.length:=by
 have hh:=bD h ho
 cases av with
 |v b0 ex=>
  simp only[St.dD] at e
  cases hk:b0.m.bP with
  |true=>
   rw[hk] at e
   simp only[cond_true,Option.some.injEq,Prod.mk.injEq] at e
   obtain⟨rfl,rfl⟩:=e
   obtain⟨cs,h1,h2⟩:=hh
   exact⟨σ,cs,fun _=>False,h,h1,nG hk (fv _ hk h2),fU.none _ _,rfl⟩
  |false=>
   rw[hk] at e
   simp only[cond_false] at e
   split at e
   ·rename_i i
    simp only[Option.some.injEq,Prod.mk.injEq] at e
    obtain⟨rfl,rfl⟩:=e
    obtain⟨cs,h1,h2⟩:=hh
    refine⟨_,cs,_,h.jt i,h1,h2,fU.jt σ (ee ?_) (fun g hg=>?_),cd _ _ _⟩
    ·simp only[St.dP,Option.some.injEq] at ho
     rw[ho]
     exact fun e=>by cases e
    ·obtain⟨j,hj,hg⟩:=hg
     injection hj with hj
     subst hj
     exact hg
   ·rename_i hx
    simp only[Option.some.injEq,Prod.mk.injEq] at e
    obtain⟨rfl,rfl⟩:=e
    obtain⟨cs,h1,h2⟩:=hh
    refine⟨σ,cs,fun _=>False,h,h1,aK (aU.refl _ _) _ (fun _ _ _=>rfl) (fun g hg _=>?_) (fun _ h=>h) h2,fU.none _ _,rfl⟩
    obtain⟨j,hj,_⟩:=hg
    exact hx j hj
   ·cases e
 |al t s p=>
  simp only[St.dD] at e
  obtain⟨r,cO,cs,hr,hc,hm⟩:=hh
  split at e
  ·rename_i b' hb
   cases hk:b'.m.bP with
   |true=>
    rw[hk] at e
    simp only[cond_true,Option.some.injEq,Prod.mk.injEq] at e
    obtain⟨rfl,rfl⟩:=e
    obtain⟨Ab,cE,_,hM⟩:=da h hr hc hb
    exact⟨σ,cs,fun _=>False,h,by rw[Ab];exact hm,nG hk (fv _ hk hM),fU.none _ _,rfl⟩
   |false=>
    rw[hk] at e
    simp only[cond_false] at e
    cases hp:p with
    |nil=>
     subst hp
     simp only[Option.some.injEq,Prod.mk.injEq] at e
     obtain⟨rfl,rfl⟩:=e
     obtain⟨Ab,cE,qO,hM⟩:=da h hr hc hb
     obtain⟨ex0,WR,_⟩:=hr.at_
     exact⟨_,cs,cE,h.jt s,by rw[Ab];exact hm,hM,fU.jt σ (ee (by rw[WR];exact fun e=>by cases e)) qO,cd _ _ _⟩
    |cons EA pp=>
     rw[hp] at e
     obtain⟨ex,b2,cM,ow0,j1,j2,j3,j4,hM,j5,j6,j7⟩:=fF h hr
     rw[j1] at e
     simp only[Option.some.injEq,Prod.mk.injEq] at e
     rw[←hp] at e
     obtain⟨rfl,rfl⟩:=e
     obtain⟨r3,ex3,q1,q2,q3⟩:=oY hb
     rw[j1] at q1
     injection q1 with q1 EG
     subst q1 EG
     rw[j3] at q3
     injection q3 with q3
     subst q3
     obtain⟨cs2,cE,k1,k2,k3,k4⟩:=HP p hM j2 hr.val j3 hk
     rw[hc] at k1
     injection k1 with k1
     subst k1
     rw[tL q2] at k3
     -- the ownership without what is taken
     have adB:s<S.length:=ee (by rw[j1];exact fun e=>by cases e)
     let bO:Nat→Option Nat:=fun g=>open Classical in if cE g then some S.length else σ g
     have EM:∀ g i,bO g=some i→∃ k,σ g=some k:=by
      intro g i hg
      simp only[bO] at hg
      split at hg
      ·exact⟨s,k2 g (by assumption)⟩
      ·exact⟨i,hg⟩
     have EN:∀ g i,σ g=some i→¬cE g→bO g=some i:=by
      intro g i hg hn
      simp only[bO,if_neg hn,hg]
     have b5:aU w w (Av σ Z) (Av bO Z):=⟨fun _ _ _=>rfl,fun g _ hg=>by
      rcases hg with⟨i,hg⟩ |hg
      ·exact .inl (EM g i hg)
      ·exact .inr hg⟩
     have adC:fU σ bO S.length cE:=by
      refine⟨fun g hg=>⟨s,adB,k2 g hg⟩,fun g hg=>⟨_,Nat.le_refl _,by simp only[bO,if_pos hg]⟩,fun g i hg hi=>?_,fun g=>⟨fun⟨i,hg⟩=>EM g i hg,fun⟨i,hg⟩=>?_⟩,fun g i hg hi=>EN g i hg (fun hx=>?_)⟩
      ·simp only[bO] at hg
       split at hg
       ·injection hg with hg;omega
       ·exact hg
      ·simp only[bO]
       split
       ·exact⟨_,rfl⟩
       ·exact⟨i,hg⟩
      ·have:=k2 g hx
       rw[hg] at this
       injection this with this
       omega
     refine⟨bO,cs,cE,?_,by rw[j4];exact hm,k3,adC,by simp[St.weaken,St.cover]⟩
     have hlen:((S.weaken s).cover s p).length=S.length:=by simp[St.weaken,St.cover]
     have G5:s<S.length:=by
      rcases Nat.lt_or_ge s S.length with hl |hl
      ·exact hl
      ·unfold St.at at j1
       rw[List.getD_eq_getElem?_getD,List.getElem?_eq_none hl] at j1
       cases j1
     have Ax:St.at (((S.weaken s).cover s p).set s (.v r (ex++[p]))) s=.v r (ex++[p]):=by rw[cS,if_pos ⟨rfl,by rw[hlen];exact G5⟩]
     have kM:∀ i,i≠s→St.at (((S.weaken s).cover s p).set s (.v r (ex++[p]))) i=(match (bif (S.at i).eL s then AV.dead else S.at i) with
       | .ad t s' q=>bif Nat.beq s' s&&under p q then .dead else .ad t s' q
       |a=>a):=by
      intro i hi
      rw[cS,if_neg (fun e=>hi e.1),EL,jH]
     refine⟨by simp only[List.length_set,hlen];exact h.len,h.defers,h.fr,fun g i hg=>(EM g i hg).elim fun k hk=>h.new g k hk,fun g i hg=>(EM g i hg).elim fun k hk=>h.lt g k hk,fun g hg=>⟨?_,(h.old g hg).2⟩,fun i=>?_⟩
     ·simp only[bO]
      split
      ·rename_i hx
       have:=k2 g hx
       rw[(h.old g hg).1] at this
       cases this
      ·exact(h.old g hg).1
     ·by_cases RA:i=s
      ·subst RA
       rw[Ax]
       exact⟨cO,hr.mat,aK b5 _ (fun _ _ _=>rfl) (fun g hg _=>EN g _ hg.1 hg.2) (fun _ h=>h) k4⟩
      ·rw[kM i RA]
       cases qx:(S.at i).eL s with
       |true=>trivial
       |false=>
        simp only[cond_false]
        have hi:=h.holds i
        have base:Holds w (Av bO Z) H (b9 a) S (fun g=>bO g=some i) (S.at i) (b9 a i):=
         hi.kept b5 (fun g hg _=>⟨rfl,EN g i hg (fun hx=>RA (by have:=k2 g hx;rw[hg] at this;injection this))⟩) (fun s' _=>⟨fun _ _ h=>h,rfl,_,h.holds s',fun _ _ _=>rfl⟩)
        have hSv:∀ j r' DB,j≠s→S.at j=.v r' DB→St.at (((S.weaken s).cover s p).set s (.v r (ex++[p]))) j=.v r' DB:=by
         intro j r' DB hj hv
         rw[kM j hj,hv]
         simp[AV.eL]
        cases fb:S.at i with
        |v b3 ex3=>
         rw[fb] at base
         obtain⟨c3,l1,l2⟩:=base
         exact⟨c3,l1,l2⟩
        |tz l=>
         rw[fb] at base
         exact base
        |ad t' s' q=>
         rw[fb] at base qx
         simp only
         cases auu:(Nat.beq s' s&&under p q) with
         |true=>trivial
         |false=>
          simp only[cond_false]
          refine gf j1 hSv Ax qx (fun t2 q2 e2=>?_) base (fun _ _ e=>by cases e) (fun _ e=>by cases e)
          injection e2 with _ e3 e4
          subst e3 e4
          simpa using auu
        |dead=>trivial
        |undef=>rw[fb] at base;exact base
        |al t' s' q=>
         rw[fb] at base qx
         exact gf j1 hSv Ax qx (fun t2 q2 e2=>by cases e2) base (fun _ _ e=>by cases e) (fun _ e=>by cases e)
        |cut t' s' q lo ML=>
         rw[fb] at base qx
         exact gf j1 hSv Ax qx (fun t2 q2 e2=>by cases e2) base (fun _ _ e=>by cases e) (fun _ e=>by cases e)
        |ld f cy=>
         rw[fb] at base qx
         exact gf j1 hSv Ax qx (fun t2 q2 e2=>by cases e2) base (fun _ _ e=>by cases e) (fun _ e=>by cases e)
  ·cases e
 |cut t s p lo hi=>
  cases p with
  |cons _ _=>simp[St.dD] at e
  |nil=>
   simp only[St.dD] at e
   obtain⟨r,cO,t',X,n,c,hr,rfl,hc,hlo,Et,hv⟩:=hh
   split at e
   ·rename_i t2 T2 tag me xs hb
    cases auv:Nat.beq lo 0 with
    |false=>rw[auv] at e;cases e
    |true=>
     rw[auv] at e
     have hl0:=Nat.eq_of_beq_eq_true auv
     subst hl0
     simp only[cond_true,Option.some.injEq,Prod.mk.injEq] at e
     obtain⟨rfl,rfl⟩:=e
     obtain⟨Ab,cE,qO,hM⟩:=da h hr hc hb
     injection Ab with Ab
     subst Ab
     simp only[M] at hM
     rcases hM with⟨hn,_⟩ |⟨hk,_⟩ |⟨T3,aBV,me3,X3,c3,e3,e4,hcc,akp,hM⟩
     ·simp at hn
     ·simp[Md.bP] at hk
     ·injection e3 with e3 e3' aA4
      subst e3 e3' aA4
      simp only[List.cons.injEq,Value.slice.injEq,and_true] at e4
      obtain⟨rfl,hn,rfl⟩:=e4
      have hv':a.eval x=.slice X hi c:=by
       rw[hv]
       have:(if c=0 then X else X.map fun x=>x.add (0*Ty.size t2))=X:=by
        split
        ·rfl
        ·cases X with
         |none=>rfl
         |some ad=>simp[Addr.add]
       rw[this]
       simp
      have hlen:(List.take hi xs).length=hi:=by rw[List.length_take];omega
      obtain⟨ex0,WR,_⟩:=hr.at_
      refine⟨_,[.slice X hi c],cE,h.jt s,by simp[az,isAgg,hv'],?_,fU.jt σ (ee (by rw[WR];exact fun e=>by cases e)) qO,cd _ _ _⟩
      simp only[M]
      refine .inr (.inr ⟨T2,none,me,X,c,rfl,by rw[hlen],by rw[hlen];omega,fun h hh=>(by cases hh),?_⟩)
      rcases hM with⟨rfl,rfl⟩ |⟨g,cur,τ,rfl,hg,hw,iD,hm,hj⟩
      ·left
       simp
      ·right
       refine⟨g,cur,τ,rfl,hg,hw,iD,hm,fun j G2=>?_⟩
       rw[hlen] at G2
       have:=hj j (by omega)
       rw[List.getElem_take]
       exact this
   ·cases e
 |_=>simp[St.dD] at e
noncomputable def gg (σ:Nat→Option Nat) (dst:Option Nat) (ow:Nat→Prop) (g:Nat):Option Nat:=open Classical in if ow g then dst else release σ dst g
theorem a7.WS (h:a7 σ w0 W0 Z H S a w) {av:AV} {ow:Nat→Prop} (iD:w.heap.size≤w'.heap.size) (kx:∀ g,g<w.heap.size→(∀ i,S.length≤i→σ g≠some i)→w'.heap[g]?=w.heap[g]?) (qx:Fr w0 W0 w')
  (qO:∀ g,ow g→g<w'.heap.size∧((∃ i,S.length≤i∧σ g=some i)∨w.heap.size≤g))
  (hH:∀ d,dst=some d→(∀ g,ow g→gg σ dst ow g=some d)→(∀ g,Av (gg σ dst ow) Z g→Av σ Z g∨ow g)→Holds w' (Av (gg σ dst ow) Z) H (b9 (a.put dst v)) (S.put dst av) (fun g=>gg σ dst ow g=some d) av v):
  a7 (gg σ dst ow) w0 W0 Z H (S.put dst av) (a.put dst v) w':=by
 have hw0:w0.heap.size≤w.heap.size:=h.fr.size
 have fb:∀ g i,gg σ dst ow g=some i→(ow g∧dst=some i)∨(¬ow g∧σ g=some i∧dst≠some i):=fun g i hg=>by
  unfold gg at hg
  split at hg
  ·exact .inl ⟨by assumption,hg⟩
  ·exact .inr ⟨by assumption,fg hg⟩
 have hAv:∀ g,Av (gg σ dst ow) Z g→Av σ Z g∨ow g:=fun g hg=>by
  rcases hg with⟨i,hg⟩ |hg
  ·rcases fb g i hg with⟨h1,_⟩ |⟨_,h1,_⟩
   ·exact .inr h1
   ·exact .inl (.inl ⟨i,h1⟩)
  ·exact .inl (.inr hg)
 have b5:aU w w' (Av σ Z) (Av (gg σ dst ow) Z):=⟨fun g hn hg=>kx g hg (fun i _ hi=>hn (.inl ⟨i,hi⟩)),fun g hg hx=>by
  rcases hAv g hx with h1 |h1
  ·exact h1
  ·rcases(qO g h1).2 with⟨i,_,hi⟩ |h2
   ·exact .inl ⟨i,hi⟩
   ·omega⟩
 refine h.put b5 qx (fun g i hg=>?_) (fun g hg=>?_) (fun i g hi hd hg=>⟨kx g (h.lt g i hg) (fun j hj oH=>by rw[hg] at oH;injection oH with oH;omega),?_⟩) (fun d hd hl _=>hH d hd (fun g hg=>by unfold gg;rw[if_pos hg];exact hd) hAv)
 ·rcases fb g i hg with⟨h1,_⟩ |⟨_,h1,_⟩
  ·rcases qO g h1 with⟨h2,⟨j,_,hj⟩ |h3⟩
   ·exact⟨h.new g j hj,h2⟩
   ·exact⟨.inl (by omega),h2⟩
  ·exact⟨h.new g i h1,by have:=h.lt g i h1;omega⟩
 ·obtain⟨h1,h2⟩:=h.old g hg
  unfold gg
  split
  ·rename_i hx
   rcases(qO g hx).2 with⟨i,_,hi⟩ |h3
   ·rw[h1] at hi;cases hi
   ·omega
  ·unfold release
   split
   ·rfl
   ·exact h1
 ·have hn: ¬ow g:=fun hx=>by
   rcases(qO g hx).2 with⟨j,hj,oH⟩ |h3
   ·rw[hg] at oH;injection oH with oH;omega
   ·have:=h.lt g i hg;omega
  unfold gg
  rw[if_neg hn]
  exact lh hd hg
theorem a7.asT (h:a7 σ w0 W0 Z H S a w) {b:TV} {cs:List Value} {ow:Nat→Prop} {A':Nat→Prop} (iD:w.heap.size≤w'.heap.size) (kx:∀ g,g<w.heap.size→(∀ i,S.length≤i→σ g≠some i)→w'.heap[g]?=w.heap[g]?) (qx:Fr w0 W0 w')
  (qO:∀ g,ow g→g<w'.heap.size∧((∃ i,S.length≤i∧σ g=some i)∨w.heap.size≤g)) (hA:∀ g,g<w'.heap.size→Av σ Z g∨ow g→A' g)
  (hm:az b.t v cs) (hM:M w' A' H b.t b.m b.x cs ow []):
  a7 (gg σ dst ow) w0 W0 Z H (S.put dst (.v b [])) (a.put dst v) w':=
 h.WS iD kx qx qO fun d _ h1 h2=>⟨cs,hm,aK ⟨fun _ _ _=>rfl,fun g hg hx=>hA g hg (h2 g hx)⟩ _ (fun _ _ _=>rfl) (fun g hg _=>h1 g hg) (fun _ h=>h) hM⟩
theorem a7.M8 (h:a7 σ w0 W0 Z H S a w) {b:TV} {cs:List Value} {ow:Nat→Prop} {A':Nat→Prop} (kx:∀ g,g<w.heap.size→w'.heap[g]?=w.heap[g]?) (qx:Fr w0 W0 w')
  (qO:∀ g,ow g→g<w'.heap.size∧((∃ i,S.length≤i∧σ g=some i)∨w.heap.size≤g)) (hA:∀ g,g<w'.heap.size→Av σ Z g∨ow g→A' g)
  (hm:az b.t v cs) (hM:M w' A' H b.t b.m b.x cs ow []):
  a7 (gg σ dst ow) w0 W0 Z H (S.put dst (.v b [])) (a.put dst v) w':=by
 refine h.asT ?_ (fun g hg _=>kx g hg) qx qO hA hm hM
 rcases Nat.eq_zero_or_pos w.heap.size with h0 |h0
 ·omega
 ·have:=kx (w.heap.size - 1) (by omega)
  rw[Array.getElem?_eq_getElem (show w.heap.size - 1<w.heap.size by omega)] at this
  have:=bn this
  omega
end Go.Pv
namespace Go.Pv
set_option linter.unusedVariables false
set_option linter.unusedSimpArgs false
variable {P:Program} {w w':World} {A A' Wr:Nat→Prop} {H:Nat→Value} {tm qP:Nat→Value} {S S' S1:St} {σ bO:Nat→Option Nat} {w0:World} {W0 Z:Nat→Prop} {a:Act} {own:Nat→Prop} {v:Value} {Θ:de} {dst:Option Nat}
theorem iR:∀ (t:Ty),ko t=true→K w A t t.z (zc t)
 | .int k,_=>by simp[K,zc,Ty.z]
 | .bool,_=>by simp[K,zc,Ty.z]
 | .str,_=>by simp[K,zc,Ty.z]
 | .unit,_=>by simp[K,zc]
 | .sl t,_=>by simp only[K,zc,Ty.z];exact⟨none,0,rfl,Nat.le_refl _,fun h=>absurd h (Nat.lt_irrefl _)⟩
 | .pair a b,h=>by
  simp only[ko,Bool.and_eq_true] at h
  simp only[K,zc,Ty.z]
  exact⟨_,_,rfl,iR a h.1,iR b h.2⟩
 | .ptr t,h=>by simp[ko] at h
 | .arr n t,h=>by simp[ko] at h
theorem IV {t:Ty} {x:t.I} {m:Md} {cs:List Value} {ow:Nat→Prop} (h:M w A H t m x cs (fun _=>False) []):M w A H t m x cs ow []:=aK (aU.refl _ _) t (fun _ _ _=>rfl) (fun _ h _=>h.elim) (fun _ h=>h) h
theorem EO:∀ (t:Ty) {m:Md},ug t m=true→M w A H t m t.z (zc t) (fun _=>False) []
 | .pair a b,.p ma mb,h=>by
  simp only[ug,Bool.or_eq_true,Bool.and_eq_true] at h
  rcases h with h |h
  ·simp only[M]
   exact .inr (.inr ⟨ma,mb,zc a,zc b,fun _=>True,rfl,rfl,IV (EO a h.1),IV (EO b h.2)⟩)
  ·exact nG (by simp[Md.bP,h.1.1.1,h.1.1.2]) (by simp only[K,zc,Ty.z];exact⟨_,_,rfl,iR a h.1.2,iR b h.2⟩)
 | .sl t,.o T none me,_=>by
  simp only[M]
  exact .inr (.inr ⟨T,none,me,none,0,rfl,rfl,Nat.le_refl _,fun h hh=>(by cases hh),.inl ⟨rfl,rfl⟩⟩)
 | .pair a b,.k,h=>by
  simp only[ug,Bool.and_eq_true] at h
  exact nG h.1 (iR _ h.2)
 | .pair a b,.o ..,h=>by simp[ug,Md.bP] at h
 | .sl t,.k,h=>by
  simp only[ug,Bool.and_eq_true] at h
  exact nG h.1 (iR _ h.2)
 | .sl t,.o _ (some _) _,h=>by simp[ug,Md.bP] at h
 | .sl t,.p a b,h=>by
  simp only[ug,Bool.and_eq_true] at h
  exact nG h.1 (iR _ h.2)
 | .int k,m,h=>by
  have h:(m.bP&&ko (.int k))=true:=by cases m<;>exact h
  simp only[Bool.and_eq_true] at h
  exact nG h.1 (iR _ h.2)
 | .bool,m,h=>by
  have h:(m.bP&&ko .bool)=true:=by cases m<;>exact h
  simp only[Bool.and_eq_true] at h
  exact nG h.1 (iR _ h.2)
 | .str,m,h=>by
  have h:(m.bP&&ko .str)=true:=by cases m<;>exact h
  simp only[Bool.and_eq_true] at h
  exact nG h.1 (iR _ h.2)
 | .unit,m,h=>by
  have h:(m.bP&&ko .unit)=true:=by cases m<;>exact h
  simp only[Bool.and_eq_true] at h
  exact nG h.1 (iR _ h.2)
 | .ptr t,m,h=>by
  have h:(m.bP&&ko (.ptr t))=true:=by cases m<;>exact h
  simp[ko] at h
 | .arr n t,m,h=>by
  have h:(m.bP&&ko (.arr n t))=true:=by cases m<;>exact h
  simp[ko] at h
theorem Ay (hT:cP P Θ=true) {T:TypeId} {z:TV} (h:qQ Θ T=some z):
  ∃ i inf zv,Θ.find T=some i∧i.ty=z.t∧z.x=z.t.z∧ug z.t z.m=true∧P.info? T=some inf∧inf.size=z.t.size∧inf.zero=some zv∧az z.t zv (zc z.t)∧inf.bytes≤32*z.t.size∧inf.bytes≤256:=by
 unfold qQ at h
 split at h
 ·rename_i i hi
  cases hz:ug i.ty (MG Θ 9 T) with
  |false=>rw[hz] at h;cases h
  |true=>
   rw[hz] at h
   simp only[cond_true,Option.some.injEq] at h
   subst h
   obtain⟨⟨_,inf,zv,h1,h2,h3,h4,h5,h6,h7⟩,_,rfl⟩:=cT hT hi
   exact⟨i,inf,zv,hi,rfl,rfl,hz,h1,h2,h6,h7,h3,h4⟩
 ·cases h
theorem Fr.alloc (h:Fr w0 W0 w) (o:Obj):Fr w0 W0 (w.alloc o):=by
 refine⟨h.os,h.tape,h.output,?_,fun g hg hn=>?_⟩
 ·have:=h.size
  simp only[World.alloc,Array.size_push];omega
 ·rw[heap_alloc_old w o g (by have:=h.size;omega)]
  exact h.block g hg hn
theorem ig {t:Ty} {v:Value} {cs:List Value} (h:az t v cs) (h1:∀ u∈cs,u.oneCell'=true):v.cells=cs.toArray:=by
 have:=IJ h h1
 rw[←this]
theorem M9 {t:Ty} {m:Md} {x:t.I} {cs:List Value} {ow:Nat→Prop} (T:TypeId) (hM:M w A H t m x cs ow []) (cR:∀ g,ow g→g<w.heap.size):
  M (w.alloc (.cells cs.toArray T)) (fun g=>A g∨w.heap.size≤g) H (.ptr t) (.o T none m) x [.pointer (some ⟨w.heap.size,0,none⟩)] (fun g=>ow g∨g=w.heap.size) []:=by
 simp only[M]
 refine .inr (.inr ⟨T,none,m,w.heap.size,cs.toArray,rfl,rfl,fun h hh=>(by cases hh),.inr rfl,heap_alloc_new w _,?_⟩)
 refine aK (w:=w) ⟨fun g _ hg=>heap_alloc_old w _ g hg,fun g hg hx=>?_⟩ t (fun g hg hl=>heap_alloc_old w _ g hl) (fun g hg hl=>⟨.inl hg,by omega⟩) (fun _ h=>(by simp at h)) hM
 rcases hx with hx |hx
 ·exact hx
 ·omega
def Cu (P:Program) (w0:World) (W0 Z:Nat→Prop) (H:Nat→Value) (S':St) (a:Act) (dst:Option Nat) (w:World) (s:Sem Next):Prop:=
 ∃ w' v,s.run P w=.ok (.value v) w'∧Ext w w'∧Rel w0 W0 Z H S' (a.put dst v) w'
theorem Cu.azk {s:Sem Next} (h:Cu P w0 W0 Z H S' a dst w s):IT P w0 W0 Z H S' a dst w s:=by
 obtain⟨w',v,h1,_,h2⟩:=h
 exact⟨w',v,.inl h1,h2⟩
theorem gL.Du {s:Sem Next} (h:gL P w0 W0 Z H S' a dst w s):Cu P w0 W0 Z H S' a dst w s:=by
 obtain⟨v,h1,h2⟩:=h
 exact⟨w,v,h1 w (Ext.refl w),Ext.refl w,h2⟩
theorem adD (hT:cP P Θ=true) (h:a7 σ w0 W0 Z H S a w) {hn:Hn} {o:Oper} {T:TypeId} (ho:o.op=.alloc T) (e:oK Θ hn S o.dst T=some (true,S')):Cu P w0 W0 Z H S' a o.dst w (execOp a.eval o):=by
 unfold oK at e
 split at e
 ·rename_i z hz
  cases hf:ug z.t (hn.find o.dst z.m) with
  |false=>rw[hf] at e;cases e
  |true=>
   rw[hf] at e
   simp only[cond_true,Option.some.injEq,Prod.mk.injEq,true_and] at e
   subst e
   obtain⟨i,inf,zv,_,_,_,_,h1,h2,h3,h4,_⟩:=Ay hT hz
   have hM:M w (Av σ Z) H z.t (hn.find o.dst z.m) z.t.z (zc z.t) (fun _=>False) []:=EO z.t hf
   have auw:=M9 T hM (fun _ h=>h.elim)
   refine⟨w.alloc (.cells (zc z.t).toArray T),.pointer (some ⟨w.heap.size,0,none⟩),?_,fun g hg=>heap_alloc_old w _ g hg,_,h.M8 (b:=⟨.ptr z.t,.o T none (hn.find o.dst z.m),z.t.z⟩) (cs:=[.pointer (some ⟨w.heap.size,0,none⟩)]) (fun g hg=>heap_alloc_old w _ g hg) (h.fr.alloc _) (fun g hg=>?_) (fun g hg hx=>?_) (by simp[az,isAgg]) auw⟩
   ·simp[execOp,ho,Instr.alloc,zeroValue,typeInfo,h1,h3,newVar,newRow,ig h4 (er _ hM).2]
   ·rcases hg with hg |rfl
    ·exact hg.elim
    ·exact⟨by simp only[World.alloc,Array.size_push];omega,.inr (Nat.le_refl _)⟩
   ·rcases hx with hx |hx |rfl
    ·exact .inl hx
    ·exact hx.elim
    ·exact .inr (Nat.le_refl _)
 ·cases e
theorem nV {b:TV} {cs:List Value} {ow:Nat→Prop} {s:Sem Next} {n:Nat} (h:a7 bO w0 W0 Z H S1 a w) (hk:fU σ bO n ow) (hn:S1.length=n) (hr:∀ w2,Ext w w2→s.run P w2=.ok (.value v) w2) (hm:az b.t v cs) (hM:M w (Av σ Z) H b.t b.m b.x cs ow []):
  gL P w0 W0 Z H (S1.put dst (.v b [])) a dst w s:=by
 refine⟨v,hr,_,h.M8 (b:=b) (cs:=cs) (fun _ _=>rfl) h.fr (fun g hg=>?_) (fun g hg hx=>?_) hm hM⟩
 ·obtain⟨i,hi,bp⟩:=hk.now g hg
  exact⟨h.lt g i bp,.inl ⟨i,by omega,bp⟩⟩
 ·rcases hx with hx |hx
  ·exact hk.Av.1 hx
  ·obtain⟨i,hi,bp⟩:=hk.M7 g hx
   exact .inl ⟨i,bp⟩
theorem auy (hT:cP P Θ=true) (h:a7 σ w0 W0 Z H S a w) {o:Oper} {T:TypeId} {x:Operand} (ho:o.op=.box T x) (e:ac4 Θ S o.dst T x=some (true,S')):Cu P w0 W0 Z H S' a o.dst w (execOp a.eval o):=by
 unfold ac4 St.take at e
 split at e
 ·rename_i b S1 hb
  split at hb
  ·rename_i av dA
   obtain⟨bO,cs,ow,h1,hm,hM,hk,hn⟩:=eD h dA hb
   cases hc:Θ.is T b.t with
   |false=>rw[hc] at e;cases e
   |true=>
    rw[hc] at e
    simp only[cond_true,Option.some.injEq,Prod.mk.injEq,true_and] at e
    subst e
    have cR:∀ g,ow g→g<w.heap.size:=fun g hg=>by
     obtain⟨i,_,hi⟩:=hk.M7 g hg
     exact h.lt g i hi
    have auw:=M9 T hM cR
    refine⟨w.alloc (.cells cs.toArray T),.pointer (some ⟨w.heap.size,0,none⟩),?_,fun g hg=>heap_alloc_old w _ g hg,_,h1.M8 (b:=⟨.ptr b.t,.o T none b.m,b.x⟩) (cs:=[.pointer (some ⟨w.heap.size,0,none⟩)]) (fun g hg=>heap_alloc_old w _ g hg) (h1.fr.alloc _) (fun g hg=>?_) (fun g hg hx=>?_) (by simp[az,isAgg]) auw⟩
    ·simp[execOp,ho,Instr.box,newVar,newRow,ig hm (er _ hM).2]
    ·rcases hg with hg |rfl
     ·obtain⟨i,hi,bp⟩:=hk.now g hg
      have:=cR g hg
      exact⟨by simp only[World.alloc,Array.size_push];omega,.inl ⟨i,by omega,bp⟩⟩
     ·exact⟨by simp only[World.alloc,Array.size_push];omega,.inr (Nat.le_refl _)⟩
    ·rcases hx with hx |hx |rfl
     ·exact .inl (hk.Av.1 hx)
     ·obtain⟨i,_,hi⟩:=hk.M7 g hx
      exact .inl (.inl ⟨i,hi⟩)
     ·exact .inr (Nat.le_refl _)
  ·cases hb
 ·cases e
end Go.Pv
namespace Go.Pv
set_option linter.unusedVariables false
set_option linter.unusedSimpArgs false
variable {P:Program} {w w':World} {A A' Wr:Nat→Prop} {H:Nat→Value} {tm qP:Nat→Value} {S S' S1:St} {σ bO:Nat→Option Nat} {w0:World} {W0 Z:Nat→Prop} {a:Act} {own:Nat→Prop} {v:Value} {Θ:de} {dst:Option Nat}
theorem sG:∀ (p:Path) {t:Ty} {m:Md} {x:t.I} {b b0:TV} {r:Md×t.I},fX b p t m x=some r→bd p t m x=some b0→b.t=b0.t
 |[],t,m,x,b,b0,r,h,hg=>by
  simp only[bd,Option.some.injEq] at hg
  subst hg
  simp only[fX] at h
  split at h
  ·assumption
  ·cases h
 | .deref::p,.ptr t,.o T tag me,x,b,b0,r,h,hg=>by
  simp only[fX] at h
  simp only[bd] at hg
  split at h
  ·rename_i r1 h1
   exact sG p h1 hg
  ·cases h
 | .fst::p,.pair t u,m,x,b,b0,r,h,hg=>by
  simp only[fX] at h
  simp only[bd] at hg
  split at h
  ·rename_i r1 h1
   exact sG p h1 hg
  ·cases h
 | .snd::p,.pair t u,m,x,b,b0,r,h,hg=>by
  simp only[fX] at h
  simp only[bd] at hg
  split at h
  ·rename_i r1 h1
   exact sG p h1 hg
  ·cases h
 | .idx i::p,.sl t,.o T tag me,xs,b,b0,r,h,hg=>by
  obtain⟨r1,h1,_⟩:=Eb h
  simp only[bd] at hg
  exact sG p h1 hg
theorem iS:∀ (q:Path) {t:Ty} {x y:t.I},aN q=true→valid q t x→valid q t y
 |[],_,_,_,_,_=>trivial
 | .fst::q,.pair a b,x,y,h,hv=>by
  simp only[valid] at hv ⊢
  exact iS q (by simpa[aN] using h) hv
 | .snd::q,.pair a b,x,y,h,hv=>by
  simp only[valid] at hv ⊢
  exact iS q (by simpa[aN] using h) hv
theorem fG:∀ (q:Path),depth q=0→aN q=true
 |[],_=>rfl
 | .fst::q,h=>by simp only[aN];exact fG q (by simpa[depth] using h)
 | .snd::q,h=>by simp only[aN];exact fG q (by simpa[depth] using h)
 | .deref::q,h=>by simp[depth] at h
 | .idx i::q,h=>by simp[depth] at h
theorem dW:∀ (q:Path) {t:Ty} {cs cM:List Value} {l:Option (Nat×Nat)},aN q=true→addrAt w q t cs l=addrAt w' q t cM l
 |[],_,_,_,_,_=>rfl
 | .fst::q,.pair a b,cs,cM,l,h=>by
  simp only[addrAt]
  exact dW q (by simpa[aN] using h)
 | .snd::q,.pair a b,cs,cM,l,h=>by
  simp only[addrAt]
  exact dW q (by simpa[aN] using h)
 | .fst::q,.int _,_,_,_,_=>by simp[addrAt]
 | .fst::q,.bool,_,_,_,_=>by simp[addrAt]
 | .fst::q,.str,_,_,_,_=>by simp[addrAt]
 | .fst::q,.sl _,_,_,_,_=>by simp[addrAt]
 | .fst::q,.ptr _,_,_,_,_=>by simp[addrAt]
 | .fst::q,.unit,_,_,_,_=>by simp[addrAt]
 | .fst::q,.arr _ _,_,_,_,_=>by simp[addrAt]
 | .snd::q,.int _,_,_,_,_=>by simp[addrAt]
 | .snd::q,.bool,_,_,_,_=>by simp[addrAt]
 | .snd::q,.str,_,_,_,_=>by simp[addrAt]
 | .snd::q,.sl _,_,_,_,_=>by simp[addrAt]
 | .snd::q,.ptr _,_,_,_,_=>by simp[addrAt]
 | .snd::q,.unit,_,_,_,_=>by simp[addrAt]
 | .snd::q,.arr _ _,_,_,_,_=>by simp[addrAt]
theorem uz:∀ (q p:Path) {t:Ty} {m:Md} {x:t.I} {b:TV} {r:Md×t.I},fX b p t m x=some r→aN p=false→depth q≤1→valid q t x→valid q t r.2
 |[],_,_,_,_,_,_,_,_,_,_=>trivial
 | .deref::q,p,.ptr t,m,x,b,r,h,hp,hd,hv=>by
  simp only[valid] at hv ⊢
  exact iS q (fG q (by simp[depth] at hd;omega)) hv
 | .idx i::q,p,.sl t,m,xs,b,r,h,hp,hd,hv=>by
  simp only[valid] at hv ⊢
  refine⟨?_,iS q (fG q (by simp[depth] at hd;omega)) hv.2⟩
  cases p with
  |nil=>simp[aN] at hp
  |cons s p=>
   cases s<;>cases m<;>simp[fX] at h
   rename_i j T tag me
   have h':fX b (.idx j::p) (.sl t) (.o T tag me) xs=some r:=by simp only[fX];exact h
   obtain⟨r1,_,_,rfl⟩:=Eb h'
   simpa using hv.1
 | .fst::q,p,.pair t u,m,x,b,r,h,hp,hd,hv=>by
  simp only[valid] at hv ⊢
  cases p with
  |nil=>simp[aN] at hp
  |cons s p=>
   cases s<;>simp only[fX,reduceCtorEq] at h
   ·split at h
    ·rename_i r1 h1
     injection h with h
     subst h
     exact uz q p h1 (by simpa[aN] using hp) (by simpa[depth] using hd) hv
    ·cases h
   ·split at h
    ·rename_i r1 h1
     injection h with h
     subst h
     exact hv
    ·cases h
 | .snd::q,p,.pair t u,m,x,b,r,h,hp,hd,hv=>by
  simp only[valid] at hv ⊢
  cases p with
  |nil=>simp[aN] at hp
  |cons s p=>
   cases s<;>simp only[fX,reduceCtorEq] at h
   ·split at h
    ·rename_i r1 h1
     injection h with h
     subst h
     exact hv
    ·cases h
   ·split at h
    ·rename_i r1 h1
     injection h with h
     subst h
     exact uz q p h1 (by simpa[aN] using hp) (by simpa[depth] using hd) hv
    ·cases h
theorem nW:∀ (q:Path) {t:Ty} {m:Md} {x:t.I} {cs:List Value} {ow:Nat→Prop} {hs:List Path} {l:Option (Nat×Nat)} {g:Nat×Nat},
  M w' A' H t m x cs ow hs→open_ q hs→valid q t x→depth q≤1→addrAt w q t cs l=some g→addrAt w' q t cs l=some g
 |[],_,_,_,_,_,_,_,_,_,_,_,_,e=>e
 | .deref::q,.ptr t,m,x,cs,ow,hs,l,g0,h,ho,hv,hd,e=>by
  have hq:aN q=true:=fG q (by simp[depth] at hd;omega)
  simp only[M] at h
  rcases h with⟨hn,_⟩ |⟨hk,h⟩ |⟨T,tag,me,g,cur,rfl,rfl,ht,qv,hw,h⟩
  ·exact absurd hn ho.not_nil
  ·simp only[K] at h
   obtain⟨g,off,cur,T,fr,rfl,hng,hw,hl,h⟩:=h
   simp only[addrAt,bA hw hl,Option.bind_some] at e ⊢
   cases hr:rowAt w g off t.size with
   |none=>rw[hr] at e;cases e
   |some row=>
    rw[hr,Option.bind_some] at e
    rw[←e]
    exact dW q hq
  ·have iD:0+t.size≤cur.size:=by rw[←(er t h).1];simp
   simp only[addrAt,bA hw iD,Option.bind_some] at e ⊢
   cases hr:rowAt w g 0 t.size with
   |none=>rw[hr] at e;cases e
   |some row=>
    rw[hr,Option.bind_some] at e
    rw[←e]
    exact dW q hq
 | .fst::q,.pair a b',m,x,cs,ow,hs,l,g0,h,ho,hv,hd,e=>by
  simp only[valid] at hv
  simp only[M] at h
  simp only[addrAt] at e ⊢
  rcases h with⟨hn,_⟩ |⟨hk,h⟩ |⟨ma,mb,c0,c1,s,rfl,rfl,h0,h1⟩
  ·exact absurd hn ho.not_nil
  ·simp only[K] at h
   obtain⟨c0,c1,rfl,h0,h1⟩:=h
   rw[←(kK a h0).1,List.take_left] at e ⊢
   exact nW q (fJ (H:=H) (ow:=fun _=>False) (hs:=sub .fst hs) a h0) ho.sub hv (by simpa[depth] using hd) e
  ·rw[←(er a h0).1,List.take_left] at e ⊢
   exact nW q h0 ho.sub hv (by simpa[depth] using hd) e
 | .snd::q,.pair a b',m,x,cs,ow,hs,l,g0,h,ho,hv,hd,e=>by
  simp only[valid] at hv
  simp only[M] at h
  simp only[addrAt] at e ⊢
  rcases h with⟨hn,_⟩ |⟨hk,h⟩ |⟨ma,mb,c0,c1,s,rfl,rfl,h0,h1⟩
  ·exact absurd hn ho.not_nil
  ·simp only[K] at h
   obtain⟨c0,c1,rfl,h0,h1⟩:=h
   rw[←(kK a h0).1,List.drop_left] at e ⊢
   exact nW q (fJ (H:=H) (ow:=fun _=>False) (hs:=sub .snd hs) b' h1) ho.sub hv (by simpa[depth] using hd) e
  ·rw[←(er a h0).1,List.drop_left] at e ⊢
   exact nW q h1 ho.sub hv (by simpa[depth] using hd) e
 | .idx i::q,.sl t,m,xs,cs,ow,hs,l,g0,h,ho,hv,hd,e=>by
  have hq:aN q=true:=fG q (by simp[depth] at hd;omega)
  simp only[valid] at hv
  obtain⟨hi,hv⟩:=hv
  simp only[M] at h
  rcases h with⟨hn,_⟩ |⟨hk,h⟩ |⟨T,tag,me,X,c,rfl,rfl,hc,ht,h⟩
  ·exact absurd hn ho.not_nil
  ·simp only[K] at h
   obtain⟨X,c,rfl,hc,h⟩:=h
   obtain⟨g,off,cur,T,fr,rfl,hng,hw,hl,h⟩:=h (by omega)
   have hbound:off+i*t.size+t.size≤cur.size:=by
    have:=Nat.mul_le_mul_right t.size (show i+1≤xs.length from hi)
    rw[Nat.add_mul,Nat.one_mul] at this
    omega
   simp only[addrAt,bA hw hbound,Option.bind_some] at e ⊢
   cases hr:rowAt w g (off+i*t.size) t.size with
   |none=>rw[hr] at e;cases e
   |some row=>
    rw[hr,Option.bind_some] at e
    rw[←e]
    exact dW q hq
  ·rcases h with⟨rfl,_⟩ |⟨g,cur,τ,rfl,qv,hw,iD,hm,h⟩
   ·simp at hi
   ·have hbound:0+i*t.size+t.size≤cur.size:=by
     have h1:=Nat.mul_le_mul_right t.size (show i+1≤xs.length from hi)
     have h2:=Nat.mul_le_mul_right t.size hc
     rw[Nat.add_mul,Nat.one_mul] at h1
     omega
    simp only[addrAt,bA hw hbound,Option.bind_some] at e ⊢
    cases hr:rowAt w g (0+i*t.size) t.size with
    |none=>rw[hr] at e;cases e
    |some row=>
     rw[hr,Option.bind_some] at e
     rw[←e]
     exact dW q hq
theorem adE:∀ (q p:Path) {t:Ty} {m:Md} {x:t.I} {b b1:TV} {r:Md×t.I},fX b p t m x=some r→bd q t m x=some b1→∀ m',∃ b2,bd q t m' r.2=some b2∧b2.t=b1.t:=by
 have key:∀ (q:Path) {t:Ty} {m m':Md} {x y:t.I} {b1:TV},bd q t m x=some b1→∃ b2,bd q t m' y=some b2∧b2.t=b1.t:=by
  intro q
  induction q with
  |nil=>intro t m m' x y b1 h;simp only[bd,Option.some.injEq] at h;subst h;exact⟨_,rfl,rfl⟩
  |cons s q ih=>
   intro t m m' x y b1 h
   cases s<;>cases t<;>simp only[bd,reduceCtorEq] at h ⊢
   all_goals exact ih h
 intro q p t m x b b1 r _ h m'
 exact key q h
theorem Hc (b5:aU w w' A A') {d:Nat} {r r':TV} {ex DB:List Path} (Cv:r'.t=r.t) (hd:S.at d=.v r ex) (WJ:S'.at d=.v r' DB) (hS:∀ i r1 ex1,i≠d→S.at i=.v r1 ex1→S'.at i=.v r1 ex1)
  (hM:∃ cO II,az r.t (tm d) cO∧M w' A' H r'.t r'.m r'.x cO II DB) (hex:∀ q∈DB,q∈ex)
  (iM:∀ q,depth q≤1→valid q r.t r.x→valid q r'.t r'.x) (eH:∀ q b1,bd q r.t r.m r.x=some b1→∃ b2,bd q r'.t r'.m r'.x=some b2∧b2.t=b1.t)
  (hk:∀ s,s≠d→∃ own,Holds w A H tm S own (S.at s) (tm s)∧∀ g,own g→g<w.heap.size→w'.heap[g]?=w.heap[g]?)
  {own II:Nat→Prop} (nU:∀ g,own g→g<w.heap.size→w'.heap[g]?=w.heap[g]? ∧II g) {av:AV} {v:Value} (hf:av.eL d=false) (h:Holds w A H tm S own av v):Holds w' A' H tm S' II av v:=by
 have WT:∀ s,s≠d→Kept w w' A H tm tm S S' s:=fun s hs=>⟨fun r1 ex1=>hS s r1 ex1 hs,rfl,hk s hs⟩
 have auz:∀ {t:Ty} {q:Path} {r1:TV} {cO:List Value},depth q≤1→Ref tm S t d q r1 cO→r1=r∧Ref tm S' t d q r' cO:=by
  intro t q r1 cO hq hr
  obtain⟨⟨ex1,h1,h2⟩,h3,⟨b1,h4,h5⟩,h6⟩:=hr
  rw[hd] at h1
  injection h1 with h1 h1'
  subst h1 h1'
  obtain⟨b2,k1,k2⟩:=eH q b1 h4
  exact⟨rfl,⟨DB,WJ,fun p hp=>h2 p (hex p hp)⟩,iM q hq h3,⟨b2,k1,k2.trans h5⟩,by rw[Cv];exact h6⟩
 cases av with
 |dead=>trivial
 |undef=>exact h
 |v b ex1=>
  obtain⟨cs,h1,h2⟩:=h
  exact⟨cs,h1,aK b5 _ (fun g hg hl=>(nU g hg hl).1) (fun g hg hl=>(nU g hg hl).2) (fun _ h=>h) h2⟩
 |tz l=>
  obtain⟨vs,τ,h1,h2,h3⟩:=h
  refine⟨vs,τ,h1,h2,fun j b hj=>?_⟩
  obtain⟨u,cs,k1,k2,k3⟩:=h3 j b hj
  exact⟨u,cs,k1,k2,aK b5 _ (fun g hg hl=>(nU g hg.1 hl).1) (fun g hg hl=>⟨(nU g hg.1 hl).2,hg.2⟩) (fun _ h=>h) k3⟩
 |al t s p=>
  obtain⟨r1,cO,cs,hr,hc,hm⟩:=h
  by_cases Af:s=d
  ·subst Af
   cases p with
   |cons _ _=>simp[AV.eL] at hf
   |nil=>
    obtain⟨rfl,Aj⟩:=auz (by simp[depth]) hr
    exact⟨r',cO,cs,Aj,hc,hm⟩
  ·obtain⟨h1,h2⟩:=hr.kept b5 (WT s Af)
   exact⟨r1,cO,cs,h1,by rw[(h2 none).1];exact hc,hm⟩
 |ad t s p=>
  obtain⟨r1,cO,g,off,hr,hc,hm⟩:=h
  by_cases Af:s=d
  ·subst Af
   have azp:depth p≤1:=by
    simp only[AV.eL,Nat.beq_refl,Bool.true_and] at hf
    have: ¬ 2≤depth p:=fun h2=>by rw[Nat.ble_eq_true_of_le h2] at hf;cases hf
    omega
   obtain⟨rfl,Aj⟩:=auz azp hr
   obtain⟨cs1,akc,m1,m2⟩:=hM
   obtain rfl:=eB m1 hr.mat
   obtain⟨ex1,e1,e2⟩:=Aj.at_
   rw[WJ] at e1
   injection e1 with _ e1
   subst e1
   refine⟨r',cs1,g,off,Aj,nW (w:=w) p m2 e2 Aj.val azp (by rw[Cv];exact hc),hm⟩
  ·obtain⟨h1,h2⟩:=hr.kept b5 (WT s Af)
   exact⟨r1,cO,g,off,h1,by rw[(h2 none).2];exact hc,hm⟩
 |cut t s p lo hi=>
  obtain⟨r1,cO,t',A1,n,c,hr,ht,hc,hm⟩:=h
  by_cases Af:s=d
  ·subst Af
   simp[AV.eL] at hf
  ·obtain⟨h1,h2⟩:=hr.kept b5 (WT s Af)
   exact⟨r1,cO,t',A1,n,c,h1,ht,by rw[(h2 none).1];exact hc,hm⟩
 |ld f cy=>
  obtain⟨vs,h1,h2,h3⟩:=h
  refine⟨vs,h1,h2,fun j c hj=>?_⟩
  obtain⟨u,k1,k2⟩:=h3 j c hj
  refine⟨u,k1,?_⟩
  cases c with
  |kv b=>exact b6 b5 _ k2
  |pl t s p=>
   by_cases Af:s=d
   ·subst Af
    obtain⟨r1,cO,cs,hr,hc,hm⟩:=k2
    cases p with
    |cons _ _=>
     have nH:=List.any_eq_false.1 hf _ (List.mem_of_getElem? hj)
     simp at nH
    |nil=>
     obtain⟨rfl,Aj⟩:=auz (by simp[depth]) hr
     exact⟨r',cO,cs,Aj,hc,hm⟩
   ·exact lT.kept b5 (fun t1 s1 p1 e1=>by injection e1 with _ e1 _;subst e1;exact WT _ Af) k2
theorem IW:∀ (p h:Path),pre p h=true→∃ q,h=p++q
 |[],h,_=>⟨h,rfl⟩
 | .deref::p,.deref::h,e=>by obtain⟨q,rfl⟩:=IW p h (by simpa[pre] using e);exact⟨q,rfl⟩
 | .fst::p,.fst::h,e=>by obtain⟨q,rfl⟩:=IW p h (by simpa[pre] using e);exact⟨q,rfl⟩
 | .snd::p,.snd::h,e=>by obtain⟨q,rfl⟩:=IW p h (by simpa[pre] using e);exact⟨q,rfl⟩
theorem take_at {x:Operand} {av:AV} {b:TV} {s:Nat} {r:TV} {ex:List Path} (e:S.dD x av=some (b,S1)) (hs:S1.at s=.v r ex):∃ ex0,S.at s=.v r ex0∧∀ q∈ex0,q∈ex:=by
 have aan:∀ i,(S.put (some i) .dead).at s=.v r ex→S.at s=.v r ex:=by
  intro i h
  rw[dF] at h
  split at h
  ·simp[AV.refs] at h
  ·cases hr:(S.at s).refs i&&(S.at i).z8 with
   |true=>rw[hr] at h;cases h
   |false=>rw[hr] at h;exact h
 cases av with
 |v b0 ex0=>
  simp only[St.dD] at e
  cases hk:b0.m.bP with
  |true=>
   rw[hk] at e
   simp only[cond_true,Option.some.injEq,Prod.mk.injEq] at e
   obtain⟨_,rfl⟩:=e
   exact⟨ex,hs,fun _ h=>h⟩
  |false=>
   rw[hk] at e
   simp only[cond_false] at e
   split at e
   ·simp only[Option.some.injEq,Prod.mk.injEq] at e
    obtain⟨_,rfl⟩:=e
    exact⟨ex,aan _ hs,fun _ h=>h⟩
   ·simp only[Option.some.injEq,Prod.mk.injEq] at e
    obtain⟨_,rfl⟩:=e
    exact⟨ex,hs,fun _ h=>h⟩
   ·cases e
 |al t s0 p=>
  simp only[St.dD] at e
  split at e
  ·rename_i b' hb
   cases hk:b'.m.bP with
   |true=>
    rw[hk] at e
    simp only[cond_true,Option.some.injEq,Prod.mk.injEq] at e
    obtain⟨_,rfl⟩:=e
    exact⟨ex,hs,fun _ h=>h⟩
   |false=>
    rw[hk] at e
    simp only[cond_false] at e
    split at e
    ·simp only[Option.some.injEq,Prod.mk.injEq] at e
     obtain⟨_,rfl⟩:=e
     exact⟨ex,aan _ hs,fun _ h=>h⟩
    ·rename_i r2 ex2 _ du
     simp only[Option.some.injEq,Prod.mk.injEq] at e
     obtain⟨_,rfl⟩:=e
     rw[cS] at hs
     split at hs
     ·rename_i hx
      injection hs with h1 h2
      subst h1 h2
      rw[hx.1]
      exact⟨ex2,du,fun q hq=>List.mem_append_left _ hq⟩
     ·rw[EL,jH] at hs
      cases qx:(S.at s).eL s0 with
      |true=>rw[qx] at hs;simp at hs
      |false=>
       rw[qx] at hs
       simp only[cond_false] at hs
       split at hs
       ·cases hx:(Nat.beq _ s0&&under _ _) with
        |true=>rw[hx] at hs;cases hs
        |false=>rw[hx] at hs;cases hs
       ·exact⟨ex,hs,fun _ h=>h⟩
    ·cases e
  ·cases e
 |cut t s0 p lo hi=>
  cases p with
  |cons _ _=>simp[St.dD] at e
  |nil=>
   simp only[St.dD] at e
   split at e
   ·cases hl:Nat.beq lo 0 with
    |false=>rw[hl] at e;cases e
    |true=>
     rw[hl] at e
     simp only[cond_true,Option.some.injEq,Prod.mk.injEq] at e
     obtain⟨_,rfl⟩:=e
     exact⟨ex,aan _ hs,fun _ h=>h⟩
   ·cases e
 |_=>simp[St.dD] at e
end Go.Pv
namespace Go.Pv
set_option linter.unusedVariables false
set_option linter.unusedSimpArgs false
variable {P:Program} {w w':World} {A A' Wr:Nat→Prop} {H:Nat→Value} {tm qP:Nat→Value} {S S' S1:St} {σ bO:Nat→Option Nat} {w0:World} {W0 Z:Nat→Prop} {a:Act} {own:Nat→Prop} {v:Value} {Θ:de} {dst:Option Nat}
theorem Fr.setRow (h:Fr w0 W0 w) {g:Nat} {cs:Array Value} (hg:w0.heap.size≤g∨W0 g):Fr w0 W0 (w.setRow g cs):=by
 refine⟨h.os,h.tape,h.output,by rw[setRow_size];exact h.size,fun k hk hn=>?_⟩
 rw[setRow_other w g k _ (fun e=>by subst e;rcases hg with hg |hg;omega;exact hn hg)]
 exact h.block k hk hn
theorem aao (hT:cP P Θ=true) {T:TypeId} {t:Ty} {g off:Nat} {cs:List Value} {v:Value} {cur:Array Value} {T':TypeId} (ht:Θ.is T t=true) (hm:az t v cs) (hl:cs.length=t.size) (h1:∀ u∈cs,u.oneCell'=true)
  (hw:w.heap[g]?=some (.cells cur T' (0,0))) (hb:off+cs.length≤cur.size):
  (Instr.storeAt T (.pointer (some ⟨g,off,none⟩)) v).run P w=.ok () (w.setRow g (putCells cur.toList off cs).toArray):=by
 obtain⟨inf,hi,hs,_⟩:=gY hT ht
 have:=run_storeCells_at (P:=P) g off T' cs 0 cur w hw (by omega) h1
 simp only[Nat.add_zero] at this
 simp[Instr.storeAt,Instr.sureAddr,storeVar,sizeOf,typeInfo,hi,hs,ig hm h1,hl]
 rw[hl] at this
 unfold putCells
 rw[hl]
 simpa using this
theorem xl:∀ (p h:Path),fI p h=true→Ck p h=true→h=p
 |[],[],_,_=>rfl
 | .idx i::p,.idx j::h,e,e2=>by
  simp only[Ck,Bool.and_eq_true] at e2
  rw[xl p h (by simpa[fI] using e) e2.1,Nat.eq_of_beq_eq_true e2.2]
 | .deref::p,.deref::h,e,e2=>by rw[xl p h (by simpa[fI] using e) (by simpa[Ck] using e2)]
 | .fst::p,.fst::h,e,e2=>by rw[xl p h (by simpa[fI] using e) (by simpa[Ck] using e2)]
 | .snd::p,.snd::h,e,e2=>by rw[xl p h (by simpa[fI] using e) (by simpa[Ck] using e2)]
 |[],.idx _::_,e,_ |[],.deref::_,e,_ |[],.fst::_,e,_ |[],.snd::_,e,_=>by simp[fI] at e
 | .idx _::_,[],e,_ | .deref::_,[],e,_ | .fst::_,[],e,_ | .snd::_,[],e,_=>by simp[fI] at e
 | .idx _::_,.deref::_,e,_ | .idx _::_,.fst::_,e,_ | .idx _::_,.snd::_,e,_=>by simp[fI] at e
 | .deref::_,.idx _::_,e,_ | .deref::_,.fst::_,e,_ | .deref::_,.snd::_,e,_=>by simp[fI] at e
 | .fst::_,.idx _::_,e,_ | .fst::_,.deref::_,e,_ | .fst::_,.snd::_,e,_=>by simp[fI] at e
 | .snd::_,.idx _::_,e,_ | .snd::_,.deref::_,e,_ | .snd::_,.fst::_,e,_=>by simp[fI] at e
theorem xm {p q:Path}:∀ {l:List Path},q∈(dC p l).2→q∈l
 |[],h=>h
 |x::r,h=>by
  simp only[dC] at h
  cases ha:fI p x with
  |true=>rw[ha] at h;exact List.mem_cons_of_mem _ h
  |false=>
   rw[ha] at h
   simp only[cond_false,List.mem_cons] at h
   rcases h with h |h
   ·rw[h];exact List.mem_cons_self
   ·exact List.mem_cons_of_mem _ (xm h)
theorem tO {p q:Path}:∀ {l:List Path},(dC p l).1=true→(∀ q',q≠p++q')→q∈l→q∈(dC p l).2
 |[],_,_,h=>h
 |x::r,hc,hn,h=>by
  simp only[dC] at hc ⊢
  cases ha:fI p x with
  |true=>
   rw[ha] at hc
   simp only[cond_true] at hc ⊢
   rcases List.mem_cons.1 h with h |h
   ·subst h
    exact absurd ((xl p q ha hc).trans (List.append_nil p).symm) (hn [])
   ·exact h
  |false=>
   rw[ha] at hc
   simp only[cond_false] at hc ⊢
   rcases List.mem_cons.1 h with h |h
   ·rw[h];exact List.mem_cons_self
   ·exact List.mem_cons_of_mem _ (tO hc hn h)
theorem adF (hT:cP P Θ=true) (h:a7 σ w0 W0 Z H S a w) {o:Oper} {T:TypeId} {x y:Operand} (ho:o.op=.store T x y) (mH:o.dst=none) (e:lf Θ S T x y=some (true,S')):IT P w0 W0 Z H S' a o.dst w (execOp a.eval o):=by
 unfold lf at e
 split at e
 case h_2=>cases e
 rename_i av dA
 split at e
 case h_2=>cases e
 rename_i t s p aA5
 unfold St.take at e
 split at e
 case h_2=>cases e
 rename_i b S1 hb
 split at hb
 case h_2=>cases hb
 rename_i av2 R6
 cases hc:Θ.is T b.t with
 |false=>rw[hc] at e;cases e
 |true=>
 rw[hc] at e
 simp only[cond_true] at e
 split at e
 case h_2=>cases e
 rename_i r ex hs1
 split at e
 case h_2=>cases e
 rename_i m z ny
 cases hex:ex.all (fun q=>!under q p) with
 |false=>rw[hex] at e;cases e
 |true=>
 rw[hex] at e
 simp only[cond_true,Option.some.injEq,Prod.mk.injEq] at e
 obtain⟨hds,e⟩:=e
 have xn:open_ p ex:=eC (fun q hq=>by simpa using List.all_eq_true.1 hex q hq)
 obtain⟨r0,ex0,q1,q2⟩:=rk h dA aA5
 obtain⟨bO,cs,ow,h1,hm,hM,hk,hn⟩:=eD h R6 hb
 obtain⟨aBW,q3,q4⟩:=take_at hb hs1
 rw[q1] at q3
 injection q3 with q3 q3'
 subst q3 q3'
 obtain⟨cO,g,off,hr,nI,hx⟩:=q2 (fun q hq=>xn q (q4 q hq))
 obtain⟨b0,hb0,Ab⟩:=hr.get
 -- the slot,behind the take
 have hh:=h1.holds s
 rw[hs1] at hh
 obtain⟨azq,hm0,MJ⟩:=hh
 obtain rfl:=eB hr.mat hm0
 have G5:s<S1.length:=ee (by rw[hs1];exact fun e=>by cases e)
 obtain⟨cM,cE,c1,c2,c3,ku⟩:=Aa p MJ xn hr.val hb0
 have fh:b.t=b0.t:=sG p ny hb0
 obtain⟨oP,ku⟩:=ku b (m,z) fh ny
 have hpm:aN p=false:=by
  cases hp:aN p with
  |false=>rfl
  |true=>rw[dZ p hp] at nI;cases nI
 -- the address is the same: the world is
 have adG:addrAt w p r0.t cO none=some (g,off):=nI
 obtain⟨ep,qK,cur,T',hw,hbound,_⟩:=oP g off adG
 obtain⟨hlen,akr⟩:=er _ hM
 have wY:off+cs.length≤cur.size:=by rw[hlen,fh];exact hbound
 have cp:=aao (P:=P) (w:=w) hT hc hm hlen akr hw wY
 have xo:∀ g',ow g'→bO g'≠some s:=fun g' bp e'=>by
  obtain⟨i,hi,mI⟩:=hk.now g' bp
  rw[e'] at mI
  injection mI with mI
  omega
 let dQ:Nat→Option Nat:=fun g'=>open Classical in if ow g' then some s else bO g'
 have M':∀ g' i,dQ g'=some i→(ow g'∧i=s)∨(¬ow g'∧bO g'=some i):=fun g' i bp=>by
  simp only[dQ] at bp
  split at bp
  ·injection bp with bp;exact .inl ⟨by assumption,bp.symm⟩
  ·exact .inr ⟨by assumption,bp⟩
 have HQ:∀ g' i,¬ow g'→bO g'=some i→dQ g'=some i:=fun g' i hn bp=>by simp only[dQ,if_neg hn,bp]
 have aks:∀ g',Av dQ Z g'→Av bO Z g':=fun g' bp=>by
  rcases bp with⟨i,bp⟩ |bp
  ·rcases M' g' i bp with⟨hx,_⟩ |⟨_,hx⟩
   ·obtain⟨j,_,hj⟩:=hk.now g' hx
    exact .inl ⟨j,hj⟩
   ·exact .inl ⟨i,hx⟩
  ·exact .inr bp
 have fP:∀ k,k≠g→(w.setRow g (putCells cur.toList off cs).toArray).heap[k]?=w.heap[k]?:=fun k hk=>setRow_other w g k _ hk
 have b5:aU w (w.setRow g (putCells cur.toList off cs).toArray) (Av bO Z) (Av dQ Z):=⟨fun k hk _=>fP k (fun e'=>hk (by rw[e'];exact .inl ⟨s,ep⟩)),fun k _ hk=>aks k hk⟩
 have hMb:M (w.setRow g (putCells cur.toList off cs).toArray) (Av dQ Z) H b.t b.m b.x cs ow (wX p (dC p (ex.filter fun q=>!pre p q)).2):=by
  refine aK ⟨fun k fW _=>fP k (fun e'=>fW (by rw[e'];exact hk.Av.1 (.inl ⟨s,ep⟩))),fun k _ fW=>hk.Av.1 (aks k fW)⟩ _ (fun k fW _=>fP k (fun e'=>xo k fW (by rw[e'];exact ep))) (fun k fW _=>fW) (fun _ h=>by simp at h) hM
 have EP:=ku (w.setRow g (putCells cur.toList off cs).toArray) (Av dQ Z) cs ow (dC p (ex.filter fun q=>!pre p q)).2 b5 (by rw[hlen,fh]) (fun k RB Rz _=>by
   rw[adG]
   simp only[kL]
   split
   ·rename_i hkg
    subst hkg
    exact⟨cur,T',hw,setRow_heap w k cur _ T' (0,0) hw⟩
   ·rename_i hkg
    exact fP k hkg) hMb (fun k RB _ Rz=>absurd Rz (xo k RB)) (fun q hq1 HC=>by
   refine tO hds hq1 (List.mem_filter.2 ⟨HC,?_⟩)
   cases hp:pre p q with
   |false=>rfl
   |true=>
    obtain⟨q',rfl⟩:=IW p q hp
    exact absurd rfl (hq1 q'))
 rw[jC p hpm] at EP
 have asU:M (w.setRow g (putCells cur.toList off cs).toArray) (Av dQ Z) H r0.t m z cO (fun g'=>dQ g'=some s) (dC p (ex.filter fun q=>!pre p q)).2:=by
  refine aK (aU.refl _ _) _ (fun _ _ _=>rfl) (fun k fW _=>?_) (fun _ h=>h) EP
  rcases fW with⟨k1,_⟩ |k1
  ·exact HQ k s (fun hx=>xo k hx k1) k1
  ·simp only[dQ,if_pos k1]
 refine⟨w.setRow g (putCells cur.toList off cs).toArray,undef,.inr ⟨rfl,?_⟩,dQ,?_⟩
 ·simp only[execOp,ho,hx,Sem.run_bind,cp,Result.andThen_ok]
  rfl
 ·rw[mH]
  show a7 dQ w0 W0 Z H S' a (w.setRow g (putCells cur.toList off cs).toArray)
  have azr:((S1.weaken s).set s (.v ⟨r0.t,m,z⟩ (dC p (ex.filter fun q=>!pre p q)).2)).length=S1.length:=by simp[St.weaken]
  have du:∀ i,S'.at i=if i=s then .v ⟨r0.t,m,z⟩ (dC p (ex.filter fun q=>!pre p q)).2 else bif (S1.at i).eL s then .dead else S1.at i:=by
   intro i
   rw[←e,cS]
   by_cases hi:i=s
   ·rw[if_pos hi,if_pos ⟨hi,by simp[St.weaken];exact G5⟩]
   ·rw[if_neg hi,if_neg (fun h=>hi h.1),jH]
  refine⟨by rw[←e,azr];exact h1.len,h1.defers,h1.fr.setRow (h1.new g s ep),fun g' i bp=>?_,fun g' i bp=>?_,fun g' bp=>⟨?_,(h1.old g' bp).2⟩,fun i=>?_⟩
  ·rcases M' g' i bp with⟨hx,_⟩ |⟨_,hx⟩
   ·obtain⟨j,_,hj⟩:=hk.now g' hx
    exact h1.new g' j hj
   ·exact h1.new g' i hx
  ·rw[setRow_size]
   rcases M' g' i bp with⟨hx,_⟩ |⟨_,hx⟩
   ·obtain⟨j,_,hj⟩:=hk.now g' hx
    exact h1.lt g' j hj
   ·exact h1.lt g' i hx
  ·have:=(h1.old g' bp).1
   simp only[dQ]
   split
   ·rename_i hx
    obtain⟨j,_,hj⟩:=hk.now g' hx
    rw[this] at hj
    cases hj
   ·exact this
  ·rw[du i]
   by_cases RA:i=s
   ·subst RA
    rw[if_pos rfl]
    exact⟨cO,hr.mat,asU⟩
   ·rw[if_neg RA]
    by_cases Hy:i<S1.length
    rotate_left
    ·have:S1.at i=.dead:=Classical.byContradiction fun hx=>Hy (ee hx)
     rw[this]
     trivial
    cases qx:(S1.at i).eL s with
    |true=>trivial
    |false=>
     simp only[cond_false]
     refine Hc (r:=r0) (r':=⟨r0.t,m,z⟩) (ex:=ex) (DB:=(dC p (ex.filter fun q=>!pre p q)).2) b5 rfl hs1 (by rw[du s,if_pos rfl]) (fun j r1 ex1 hj hv=>by rw[du j,if_neg hj,hv];simp[AV.eL]) ⟨cO,_,hr.mat,asU⟩ (fun q hq=>(List.mem_filter.1 (xm hq)).1)
      (fun q hq hv=>uz q p ny hpm hq hv) (fun q b1 hq=>adE q p ny hq m) (fun j hj=>⟨_,h1.holds j,fun g' bp _=>fP g' (fun e'=>by subst e';rw[ep] at bp;injection bp with bp;exact hj bp.symm)⟩)
      (fun g' bp _=>⟨fP g' (fun e'=>by subst e';rw[ep] at bp;injection bp with bp;exact RA bp.symm),HQ g' i (fun hx=>?_) bp⟩) qx (h1.holds i)
     obtain⟨j,G2,oH⟩:=hk.now g' hx
     rw[bp] at oH
     injection oH with oH
     omega
end Go.Pv
namespace Go.Pv
set_option linter.unusedVariables false
set_option linter.unusedSimpArgs false
variable {P:Program} {w w':World} {A A' Wr:Nat→Prop} {H:Nat→Value} {tm qP:Nat→Value} {S S' S1:St} {σ bO dQ:Nat→Option Nat} {w0:World} {W0 Z:Nat→Prop} {a:Act} {own:Nat→Prop} {v:Value} {Θ:de} {dst:Option Nat}
theorem Na (off:Nat):∀ (l:List Value) (k:Nat) (cells:Array Value),off+k+l.length≤cells.size→
  ((l.zipIdx k).foldl (fun(cs:Array Value) (x:Value×Nat)=>cs.setIfInBounds (off+x.2) x.1) cells).toList=putCells cells.toList (off+k) l
 |[],k,cells,h=>by simp[putCells]
 |c::l,k,cells,h=>by
  simp only[List.zipIdx_cons,List.foldl_cons]
  simp only[List.length_cons] at h
  rw[Na off l (k+1) (cells.setIfInBounds (off+k) c) (by simp;omega)]
  have h1:off+k<cells.toList.length:=by simp;omega
  apply List.ext_getElem?
  intro j
  rw[gV _ _ _ _ (by simp;omega),gV _ _ _ _ (by simp;omega)]
  simp only[Array.toList_setIfInBounds,List.length_cons]
  by_cases hj:j<off+k
  ·rw[if_pos (by omega),if_pos hj,List.getElem?_set_ne (by omega)]
  ·by_cases oH:j=off+k
   ·subst oH
    rw[if_pos (by omega),if_neg (by omega),if_pos (by omega),List.getElem?_set_self h1]
    simp
   ·by_cases hj3:j<off+k+1+l.length
    ·rw[if_neg (by omega),if_pos (by omega),if_neg (by omega),if_pos (by omega),show j - (off+k)=(j - (off+(k+1)))+1 from by omega]
     simp
    ·rw[if_neg (by omega),if_neg (by omega),if_neg (by omega),if_neg (by omega),List.getElem?_set_ne (by omega)]
def nX (cH:List (List Value)) (i:Nat):Nat:=((cH.take i).map List.length).sum
theorem o7 (cH:List (List Value)) (i:Nat) (h:i<cH.length):cH.flatten=(cH.take i).flatten++(cH[i]++(cH.drop (i+1)).flatten):=by
 conv=>lhs;rw[←List.take_append_drop i cH]
 rw[List.flatten_append,List.drop_eq_getElem_cons h,List.flatten_cons]
theorem ER (cH:List (List Value)) (i:Nat):(cH.take i).flatten.length=nX cH i:=by simp[nX,List.length_flatten]
theorem akt (cH:List (List Value)) (i:Nat) (c:List Value) (h:i<cH.length) (hc:c.length=cH[i].length):putCells cH.flatten (nX cH i) c=(cH.set i c).flatten:=by
 have e1:=o7 cH i h
 have e2:=o7 (cH.set i c) i (by simpa using h)
 rw[e2]
 simp only[List.getElem_set_self]
 rw[List.take_set_of_le (by omega),List.drop_set_of_lt (by omega)]
 have hd:cH.flatten.drop (nX cH i+c.length)=(cH.drop (i+1)).flatten:=by
  rw[e1,←ER,hc,←List.append_assoc,←List.length_append,List.drop_left]
 have ht:cH.flatten.take (nX cH i)=(cH.take i).flatten:=by
  rw[e1,←ER,List.take_left]
 unfold putCells
 rw[hd,ht,List.append_assoc]
theorem adH (cH:List (List Value)) (i j:Nat) (c:List Value) (h:i<cH.length) (hc:c.length=cH[i].length):nX (cH.set i c) j=nX cH j:=by
 unfold nX
 congr 1
 apply List.ext_getElem?
 intro k
 simp only[List.getElem?_map,List.getElem?_take,List.getElem?_set]
 split
 ·by_cases hk:i=k
  ·subst hk
   simp[h,hc]
  ·simp[hk]
 ·rfl
theorem adI (cH:List (List Value)) (i:Nat) (h:i<cH.length):nX cH i+cH[i].length≤cH.flatten.length:=by
 rw[o7 cH i h,List.length_append,List.length_append,ER]
 omega
def Nb (f:Nat→Option (List Value)) (cH:List (List Value)):List (List Value):=cH.mapIdx fun i c=>(f i).getD c
theorem HR (place:Nat→Option (Nat×Nat)):∀ (parts:List (Nat×Value)) (cH:List (List Value)),(∀ i (h:i<cH.length),place i=some (nX cH i,cH[i].length))→
  (∀ q∈parts,∃ h:q.1<cH.length,q.2.cells.size=cH[q.1].length)→(parts.map (·.1)).Nodup→
  Instr.fill place cH.flatten.toArray parts=some (Nb (fun i=>(parts.find? (fun q=>Nat.beq q.1 i)).map (·.2.cells.toList)) cH).flatten.toArray
 |[],cH,_,_,_=>by
  have:Nb (fun i=>(([]:List (Nat×Value)).find? (fun q=>Nat.beq q.1 i)).map (·.2.cells.toList)) cH=cH:=by
   unfold Nb
   apply List.ext_getElem?
   intro k
   simp[List.getElem?_mapIdx]
  rw[this];rfl
 |(i,v)::rest,cH,hp,hs,hn=>by
  obtain⟨hi,hv⟩:=hs (i,v) (by simp)
  simp only at hi hv
  have wY:=adI cH i hi
  simp only[Instr.fill,hp i hi]
  have azs:=wY
  rw[List.length_flatten] at azs
  rw[if_neg (by simp[hv];omega)]
  have hlen:v.cells.toList.length=cH[i].length:=by simpa using hv
  have azt:v.cells.zipIdx.foldl (fun cs (x:Value×Nat)=>cs.setIfInBounds (nX cH i+x.2) x.1) cH.flatten.toArray=(cH.set i v.cells.toList).flatten.toArray:=by
   have:=Na (nX cH i) v.cells.toList 0 cH.flatten.toArray (by simp only[hlen,List.size_toArray];omega)
   rw[←akt cH i v.cells.toList hi hlen]
   apply Array.toList_inj.1
   rw[←Array.foldl_toList,Array.toList_zipIdx]
   simpa using this
  simp only[List.map_cons,List.nodup_cons] at hn
  have ny:∀ (k:Nat) (hk:k<(cH.set i v.cells.toList).length),(cH.set i v.cells.toList)[k].length=(cH[k]'(by simpa using hk)).length:=by
   intro k hk
   rw[List.getElem_set]
   split
   ·rename_i e;subst e;exact hlen
   ·rfl
  have ih:=HR place rest (cH.set i v.cells.toList) (fun k hk=>by rw[adH cH i k _ hi hlen,ny k hk];exact hp k (by simpa using hk)) (fun q hq=>by
   obtain⟨h1,h2⟩:=hs q (by simp[hq])
   exact⟨by simpa using h1,by rw[ny];exact h2⟩) hn.2
  refine(congrArg (fun c=>Instr.fill place c rest) azt).trans (ih.trans ?_)
  congr 3
  unfold Nb
  apply List.ext_getElem?
  intro k
  simp only[List.getElem?_mapIdx,List.getElem?_set]
  by_cases hk:i=k
  ·subst hk
   have:rest.find? (fun q=>Nat.beq q.1 i)=none:=List.find?_eq_none.2 fun q hq e=>hn.1 (List.mem_map.2 ⟨q,hq,Nat.eq_of_beq_eq_true e⟩)
   simp[hi,this]
  ·have:Nat.beq i k=false:=by
    cases hb:Nat.beq i k with
    |false=>rfl
    |true=>exact absurd (Nat.eq_of_beq_eq_true hb) hk
   simp[hk,this]
end Go.Pv
namespace Go.Pv
set_option linter.unusedVariables false
set_option linter.unusedSimpArgs false
variable {P:Program} {w w':World} {A A' Wr:Nat→Prop} {H:Nat→Value} {tm qP:Nat→Value} {S S' S1:St} {σ bO dQ:Nat→Option Nat} {w0:World} {W0 Z:Nat→Prop} {a:Act} {own:Nat→Prop} {v:Value} {Θ:de} {dst:Option Nat}
theorem fU.trans {n:Nat} {ow1 oZ:Nat→Prop} (h1:fU σ bO n ow1) (h2:fU bO dQ n oZ):fU σ dQ n (fun g=>ow1 g∨oZ g):=by
 refine⟨fun g hg=>?_,fun g hg=>?_,fun g i hg hi=>h1.sub g i (h2.sub g i hg hi) hi,fun g=>(h2.dom g).trans (h1.dom g),fun g i hg hi=>h2.par g i (h1.par g i hg hi) hi⟩
 ·rcases hg with hg |hg
  ·exact h1.M7 g hg
  ·obtain⟨i,hi,mI⟩:=h2.M7 g hg
   exact⟨i,hi,h1.sub g i mI hi⟩
 ·rcases hg with hg |hg
  ·obtain⟨i,hi,mI⟩:=h1.now g hg
   exact⟨i,hi,h2.par g i mI hi⟩
  ·exact h2.now g hg
theorem fU.apart {n:Nat} {ow1 oZ:Nat→Prop} (h1:fU σ bO n ow1) (h2:fU bO dQ n oZ) {g:Nat} (hg:ow1 g): ¬oZ g:=fun qK=>by
 obtain⟨i,hi,mI⟩:=h1.now g hg
 obtain⟨j,hj,oH⟩:=h2.M7 g qK
 rw[mI] at oH
 injection oH with oH
 omega
theorem lZ:∀ (t:Ty),(zc t).length=t.size
 | .int _=>rfl | .bool=>rfl | .str=>rfl | .sl _=>rfl | .ptr _=>rfl | .unit=>rfl
 | .pair a b=>by simp[zc,Ty.size,lZ a,lZ b]
 | .arr n t=>by simp[zc,Ty.size,List.length_flatten,lZ t]
theorem o8 (hT:cP P Θ=true) (ps:List (Nat×Operand)):∀ (Ts:List TypeId) (j:Nat) {S S1:St} {σ:Nat→Option Nat} {l:List TV},a7 σ w0 W0 Z H S a w→S.parts Θ ps Ts j=some (l,S1)→
  ∃ (bO:Nat→Option Nat) (ow:Nat→Prop) (τ:Nat→Nat) (eK:List (List Value)),a7 bO w0 W0 Z H S1 a w∧S1.length=S.length∧fU σ bO S.length ow∧eK.length=l.length∧l.length=Ts.length∧(∀ g,ow g→j≤τ g)∧
   ∀ (k:Nat) (b:TV),l[k]?=some b→∃ cs,eK[k]?=some cs∧M w (Av σ Z) H b.t b.m b.x cs (fun g=>ow g∧τ g=j+k) []∧
    ((∃ q,ps.find? (fun q=>Nat.beq q.1 (j+k))=some q∧az b.t (a.eval q.2) cs)∨(ps.find? (fun q=>Nat.beq q.1 (j+k))=none∧cs=zc b.t))
 |[],j,S,S1,σ,l,h,e=>by
  simp only[St.parts,Option.some.injEq,Prod.mk.injEq] at e
  obtain⟨rfl,rfl⟩:=e
  exact⟨σ,fun _=>False,fun _=>j,[],h,rfl,fU.none _ _,rfl,rfl,fun _ h=>h.elim,fun k b hk=>by simp at hk⟩
 |T::Ts,j,S,S1,σ,l,h,e=>by
  simp only[St.parts] at e
  split at e
  ·rename_i q hq
   unfold St.take at e
   split at e
   case h_2=>cases e
   rename_i b S2 hb
   split at hb
   case h_2=>cases hb
   rename_i av dA
   split at e
   case h_2=>cases e
   rename_i l2 S3 hl2
   simp only[Option.some.injEq,Prod.mk.injEq] at e
   obtain⟨rfl,rfl⟩:=e
   obtain⟨bO,cs,ow,h1,hm,hM,hk,hn⟩:=eD h dA hb
   obtain⟨dQ,oZ,τ,eK,r1,r2,r3,r4,r5,r6,r7⟩:=o8 hT ps Ts (j+1) h1 hl2
   rw[hn] at r3
   have R7:∀ g,ow g→¬oZ g:=fun g hg=>hk.apart r3 hg
   let WU:Nat→Nat:=fun g=>open Classical in if ow g then j else τ g
   refine⟨dQ,fun g=>ow g∨oZ g,WU,cs::eK,r1,by omega,hk.trans r3,by simp[r4],by simp[r5],fun g hg=>?_,fun k b' fW=>?_⟩
   ·simp only[WU]
    split
    ·exact Nat.le_refl _
    ·rename_i hx
     have:=r6 g (hg.resolve_left hx)
     omega
   ·cases k with
    |zero=>
     simp only[List.getElem?_cons_zero,Option.some.injEq] at fW
     subst fW
     refine⟨cs,rfl,aK (aU.refl _ _) _ (fun _ _ _=>rfl) (fun g hg _=>⟨.inl hg,by simp only[WU,if_pos hg,Nat.add_zero]⟩) (fun _ h=>h) hM,.inl ⟨q,hq,hm⟩⟩
    |succ k=>
     simp only[List.getElem?_cons_succ] at fW ⊢
     obtain⟨c2,d1,d2,d3⟩:=r7 k b' fW
     refine⟨c2,d1,aK ⟨fun _ _ _=>rfl,fun g _ hg=>hk.Av.2 hg⟩ _ (fun _ _ _=>rfl) (fun g hg _=>⟨.inr hg.1,?_⟩) (fun _ h=>h) d2,by rw[show j+(k+1)=j+1+k from by omega];exact d3⟩
     simp only[WU]
     rw[if_neg (fun hx=>R7 g hx hg.1),hg.2]
     omega
  ·rename_i hq
   split at e
   case h_2=>cases e
   rename_i b hb
   split at e
   case h_2=>cases e
   rename_i l2 S3 hl2
   simp only[Option.some.injEq,Prod.mk.injEq] at e
   obtain⟨rfl,rfl⟩:=e
   obtain⟨i,inf,zv,_,_,hx,wY,_⟩:=Ay hT hb
   obtain⟨dQ,oZ,τ,eK,r1,r2,r3,r4,r5,r6,r7⟩:=o8 hT ps Ts (j+1) h hl2
   refine⟨dQ,oZ,τ,zc b.t::eK,r1,r2,r3,by simp[r4],by simp[r5],fun g hg=>by have:=r6 g hg;omega,fun k b' fW=>?_⟩
   cases k with
   |zero=>
    simp only[List.getElem?_cons_zero,Option.some.injEq] at fW
    subst fW
    refine⟨_,rfl,IV ?_,.inr ⟨hq,rfl⟩⟩
    rw[hx]
    exact EO _ wY
   |succ k=>
    simp only[List.getElem?_cons_succ] at fW ⊢
    obtain⟨c2,d1,d2,d3⟩:=r7 k b' fW
    exact⟨c2,d1,aK (aU.refl _ _) _ (fun _ _ _=>rfl) (fun g hg _=>⟨hg.1,by rw[hg.2];omega⟩) (fun _ h=>h) d2,by rw[show j+(k+1)=j+1+k from by omega];exact d3⟩
theorem ES {ps:List (Nat×Operand)} {l:List TV} {eK:List (List Value)} {place:Nat→Option (Nat×Nat)} (hl:eK.length=l.length) (hpl:jX l.length ps=true)
  (hlen:∀ (k:Nat) (b:TV) (cs:List Value),l[k]?=some b→eK[k]?=some cs→cs.length=b.t.size∧∀ u∈cs,u.oneCell'=true)
  (gH:∀ (k:Nat) (b:TV),l[k]?=some b→∃ cs,eK[k]?=some cs∧((∃ q,ps.find? (fun q=>Nat.beq q.1 k)=some q∧az b.t (a.eval q.2) cs)∨(ps.find? (fun q=>Nat.beq q.1 k)=none∧cs=zc b.t)))
  (azu:∀ i (h:i<l.length),place i=some (nX (l.map fun b=>zc b.t) i,l[i].t.size)):
  Instr.fill place (l.map fun b=>zc b.t).flatten.toArray (ps.map fun q=>(q.1,a.eval q.2))=some eK.flatten.toArray:=by
 have hp:∀ {n:Nat} {ps:List (Nat×Operand)},jX n ps=true→(∀ q∈ps,q.1<n)∧(ps.map (·.1)).Nodup:=by
  intro n ps
  induction ps with
  |nil=>intro _;exact⟨fun _ h=>by simp at h,by simp⟩
  |cons q r ih=>
   intro h
   simp only[jX,Bool.and_eq_true] at h
   obtain⟨⟨h1,h2⟩,h3⟩:=h
   obtain⟨i1,i2⟩:=ih h3
   refine⟨fun q' qM=>?_,?_⟩
   ·rcases List.mem_cons.1 qM with rfl |qM
    ·exact Nat.lt_of_succ_le (Nat.le_of_ble_eq_true h1)
    ·exact i1 q' qM
   ·simp only[List.map_cons,List.nodup_cons]
    refine⟨fun hm=>?_,i2⟩
    obtain⟨q',qM,e⟩:=List.mem_map.1 hm
    have:(r.any fun q'=>Nat.beq q'.1 q.1)=true:=List.any_eq_true.2 ⟨q',qM,by rw[e];exact Nat.beq_refl _⟩
    rw[this] at h2
    cases h2
 obtain⟨cR,MN⟩:=hp hpl
 have eH:∀ i (h:i<l.length),l[i]?=some l[i]:=fun i h=>List.getElem?_eq_getElem h
 have adA:∀ (i:Nat) (q:Nat×Operand),q∈ps→q.1=i→ps.find? (fun q=>Nat.beq q.1 i)=some q:=by
  intro i q hq hi
  subst hi
  clear gH hlen azu hpl cR
  induction ps with
  |nil=>simp at hq
  |cons q' r ih=>
   simp only[List.map_cons,List.nodup_cons] at MN
   rcases List.mem_cons.1 hq with rfl |hq
   ·simp
   ·have:Nat.beq q'.1 q.1=false:=by
     cases hb:Nat.beq q'.1 q.1 with
     |false=>rfl
     |true=>exact absurd (List.mem_map.2 ⟨q,hq,(Nat.eq_of_beq_eq_true hb).symm⟩) MN.1
    rw[List.find?_cons,this]
    exact ih MN.2 hq
 rw[HR place _ (l.map fun b=>zc b.t) (fun i h=>by
   rw[azu i (by simpa using h)]
   simp[lZ]) (fun q hq=>by
   obtain⟨q0,hq0,rfl⟩:=List.mem_map.1 hq
   have hi:=cR q0 hq0
   refine⟨by simpa using hi,?_⟩
   obtain⟨cs,h1,h2⟩:=gH q0.1 _ (eH q0.1 hi)
   obtain⟨h3,h4⟩:=hlen _ _ _ (eH q0.1 hi) h1
   rcases h2 with⟨q,qM,hm⟩ |⟨qM,_⟩
   ·rw[adA q0.1 q0 hq0 rfl] at qM
    injection qM with qM
    subst qM
    rw[ig hm h4]
    simp[h3,lZ]
   ·rw[adA q0.1 q0 hq0 rfl] at qM;cases qM) (by simpa[List.map_map,Function.comp_def] using MN)]
 congr 3
 unfold Nb
 apply List.ext_getElem?
 intro k
 rw[List.getElem?_mapIdx]
 by_cases hk:k<l.length
 ·simp only[List.getElem?_map,eH k hk,Option.map_some]
  obtain⟨cs,h1,h2⟩:=gH k _ (eH k hk)
  obtain⟨h3,h4⟩:=hlen _ _ _ (eH k hk) h1
  rw[h1]
  rw[List.find?_map]
  simp only[Function.comp_def]
  rcases h2 with⟨q,qM,hm⟩ |⟨qM,he⟩
  ·rw[qM]
   simp only[Option.map_some,Option.getD_some]
   rw[ig hm h4]
  ·rw[qM]
   simp[he]
 ·rw[List.getElem?_eq_none (by simpa using hk),List.getElem?_eq_none (by omega)]
  rfl
end Go.Pv
namespace Go.Pv
set_option linter.unusedVariables false
set_option linter.unusedSimpArgs false
variable {P:Program} {w w':World} {A A' Wr:Nat→Prop} {H:Nat→Value} {tm qP:Nat→Value} {S S' S1:St} {σ bO dQ:Nat→Option Nat} {w0:World} {W0 Z:Nat→Prop} {a:Act} {own:Nat→Prop} {v:Value} {Θ:de} {dst:Option Nat}
theorem asV {ow:Nat→Prop} {τ:Nat→Nat}:∀ (l:List TV) (eK:List (List Value)) (j:Nat),eK.length=l.length→
  (∀ (k:Nat) (b:TV),l[k]?=some b→∃ cs,eK[k]?=some cs∧M w A H b.t b.m b.x cs (fun g=>ow g∧τ g=j+k) [])→
  M w A H (G1 l).t (G1 l).m (G1 l).x eK.flatten (fun g=>ow g∧j≤τ g) []
 |[],eK,j,hl,_=>by
  obtain rfl:eK=[]:=List.eq_nil_of_length_eq_zero (by simpa using hl)
  simp[G1,M,K,Md.bP]
 |[a],eK,j,hl,h=>by
  obtain⟨cs,h1,h2⟩:=h 0 a rfl
  match eK,hl with
  |[c],_=>
   simp only[List.getElem?_cons_zero,Option.some.injEq] at h1
   subst h1
   simp only[G1,List.flatten_cons,List.flatten_nil,List.append_nil]
   exact aK (aU.refl _ _) _ (fun _ _ _=>rfl) (fun g hg _=>⟨hg.1,by rw[hg.2];omega⟩) (fun _ h=>h) h2
 |a::b::r,eK,j,hl,h=>by
  match eK,hl with
  |c::cs,hl=>
   obtain⟨c',h1,h2⟩:=h 0 a rfl
   simp only[List.getElem?_cons_zero,Option.some.injEq] at h1
   subst h1
   have ih:=asV (ow:=ow) (τ:=τ) (b::r) cs (j+1) (by simpa using hl) (fun k b' hk=>by
    obtain⟨c',h1,h2⟩:=h (k+1) b' (by simpa using hk)
    exact⟨c',by simpa using h1,aK (aU.refl _ _) _ (fun _ _ _=>rfl) (fun g hg _=>⟨hg.1,by rw[hg.2];omega⟩) (fun _ h=>h) h2⟩)
   simp only[G1,List.flatten_cons]
   refine wW (s:=fun g=>τ g=j) ?_ ?_
   ·exact aK (aU.refl _ _) _ (fun _ _ _=>rfl) (fun g hg _=>⟨⟨hg.1,by rw[hg.2];omega⟩,by rw[hg.2];rfl⟩) (fun _ h=>by simp at h) h2
   ·exact aK (aU.refl _ _) _ (fun _ _ _=>rfl) (fun g hg _=>⟨⟨hg.1,by omega⟩,by omega⟩) (fun _ h=>by simp at h) ih
theorem R8 {ow:Nat→Prop} {τ:Nat→Nat} {l:List TV} {eK:List (List Value)} (hl:eK.length=l.length)
  (h:∀ (k:Nat) (b:TV),l[k]?=some b→∃ cs,eK[k]?=some cs∧M w A H b.t b.m b.x cs (fun g=>ow g∧τ g=0+k) []):
  M w A H (dE l).t (dE l).m (dE l).x eK.flatten ow []:=by
 have h0:=asV (ow:=ow) (τ:=τ) l eK 0 hl h
 have h1:M w A H (G1 l).t (G1 l).m (G1 l).x eK.flatten ow []:=aK (aU.refl _ _) _ (fun _ _ _=>rfl) (fun g hg _=>hg.1) (fun _ h=>h) h0
 cases l with
 |nil=>exact h1
 |cons a r=>
  cases r with
  |cons b r=>exact h1
  |nil=>
   have:M w A H (.pair a.t .unit) (mkM a.m .k) (a.x,()) (eK.flatten++[]) ow []:=wW (s:=fun _=>True) (aK (aU.refl _ _) _ (fun _ _ _=>rfl) (fun g hg _=>⟨hg,trivial⟩) (fun _ h=>by simp at h) h1) (by simp[M,K,Md.bP])
   rw[List.append_nil] at this
   exact this
theorem WV:∀ (l:List TV) (k:Nat) (h:k<l.length),fT (if k+1=l.length then List.replicate k .snd else List.replicate k .snd++[.fst]) (G1 l).t=some l[k].t∧
  aQ (if k+1=l.length then List.replicate k .snd else List.replicate k .snd++[.fst]) (G1 l).t=nX (l.map fun b=>zc b.t) k
 |[a],k,h=>by
  obtain rfl:k=0:=by simpa using h
  simp[G1,fT,aQ,nX]
 |a::b::r,0,h=>by simp[G1,fT,aQ,nX]
 |a::b::r,k+1,h=>by
  obtain⟨h1,h2⟩:=WV (b::r) k (by simpa using h)
  have e:(if k+1+1=(a::b::r).length then List.replicate (k+1) Step.snd else List.replicate (k+1) .snd++[.fst])=.snd::(if k+1=(b::r).length then List.replicate k Step.snd else List.replicate k .snd++[.fst]):=by
   simp only[List.length_cons]
   by_cases hk:k=r.length
   ·rw[if_pos (by omega),if_pos (by omega)];rfl
   ·rw[if_neg (by omega),if_neg (by omega)];rfl
  rw[e]
  simp only[G1,fT,aQ]
  refine⟨h1,?_⟩
  rw[h2]
  simp only[List.map_cons,nX,List.take_succ_cons,List.map_cons,List.sum_cons,lZ]
theorem IX (l:List TV) (k:Nat) (h:k<l.length):fT (mL k l.length) (dE l).t=some l[k].t∧aQ (mL k l.length) (dE l).t=nX (l.map fun b=>zc b.t) k:=by
 match l,h with
 |[a],h=>
  obtain rfl:k=0:=by simpa using h
  simp[dE,mL,fT,aQ,nX]
 |a::b::r,h=>
  have:=WV (a::b::r) k h
  have e:mL k (a::b::r).length=if k+1=(a::b::r).length then List.replicate k .snd else List.replicate k .snd++[.fst]:=by
   unfold mL
   by_cases hk:k+1=(a::b::r).length
   ·have h1:Nat.beq (k+1) (a::b::r).length=true:=by rw[←hk];exact Nat.beq_refl _
    rw[if_pos hk,h1]
    have:Nat.beq (a::b::r).length 1=false:=by
     simp only[List.length_cons]
     rfl
    rw[this]
    rfl
   ·rw[if_neg hk]
    have:Nat.beq (k+1) (a::b::r).length=false:=by
     cases hb:Nat.beq (k+1) (a::b::r).length with
     |false=>rfl
     |true=>exact absurd (Nat.eq_of_beq_eq_true hb) hk
    rw[this]
    rfl
  rw[e]
  exact this
theorem Nc (l:List TV):zc (dE l).t=(l.map fun b=>zc b.t).flatten:=by
 have h:∀ l:List TV,zc (G1 l).t=(l.map fun b=>zc b.t).flatten:=by
  intro l
  induction l with
  |nil=>simp[G1,zc]
  |cons a r ih=>
   cases r with
   |nil=>simp[G1]
   |cons b r=>simp only[G1,zc,List.map_cons,List.flatten_cons];rw[ih];simp
 unfold dE
 split
 ·simp[zc]
 ·exact h l
theorem mapM_some {α β:Type} {g:α→Option β} {h:α→β}:∀ (l:List α),(∀ f∈l,g f=some (h f))→l.mapM g=some (l.map h)
 |[],_=>by simp
 |f::r,hf=>by
  rw[List.mapM_cons,hf f (by simp),mapM_some r fun f hf'=>hf f (by simp[hf'])]
  rfl
theorem adJ (hT:cP P Θ=true) (h:a7 σ w0 W0 Z H S a w) {o:Oper} {T:TypeId} {ps:Array (Nat×Operand)} (ho:o.op=.build T ps) (e:Dz Θ S o.dst T ps.toList=some (true,S')):gL P w0 W0 Z H S' a o.dst w (execOp a.eval o):=by
 unfold Dz at e
 split at e
 case h_2=>cases e
 rename_i i hi
 split at e
 case h_2=>cases e
 rename_i l S1 hl
 cases hc:(decide ((dE l).t=i.ty)&&Dz.ac5 i.ty&&jX l.length ps.toList) with
 |false=>rw[hc] at e;cases e
 |true=>
 rw[hc] at e
 simp only[cond_true,Option.some.injEq,Prod.mk.injEq,true_and] at e
 simp only[Bool.and_eq_true,decide_eq_true_eq] at hc
 obtain⟨⟨fh,asW⟩,hpl⟩:=hc
 obtain⟨bO,ow,τ,eK,h1,hn,hk,jq,hll,hj,jE⟩:=o8 hT ps.toList i.fs 0 h hl
 obtain⟨⟨_,inf,z,k1,k2,_,_,_,k3,k4⟩,hu,rfl⟩:=cT hT hi
 obtain⟨pa,pb,hpp⟩:∃ pa pb,i.ty=.pair pa pb:=by
  cases adK:i.ty<;>rw[adK] at asW<;>first |exact⟨_,_,rfl⟩ |cases asW
 obtain⟨fs,f1,f2,f3,_⟩:=lW hu hpp
 have Cs:fs.toList.length=l.length:=by rw[hll,←f2,List.length_map]
 have hM:M w (Av σ Z) H (dE l).t (dE l).m (dE l).x eK.flatten ow []:=R8 jq (fun k b hb=>by obtain⟨cs,c1,c2,_⟩:=jE k b hb;exact⟨cs,c1,c2⟩)
 have aku:∀ f∈fs.toList,(P.info? f.type).map (fun i=>(f.offset,i.size))=some (f.offset,P.cellsOf f.type):=by
  intro f hf
  obtain⟨k,hk,rfl⟩:=List.mem_iff_getElem.1 hf
  obtain⟨t,_,ht,_⟩:=iy f3 k _ (List.getElem?_eq_getElem hk)
  obtain⟨aBX,i1,i2,i3⟩:=gY hT ht
  rw[i1,Option.map_some,i2,i3]
 have adL:=ES (a:=a) (ps:=ps.toList) (l:=l) (eK:=eK) (place:=fun k=>(fs.toList.map fun f=>(f.offset,P.cellsOf f.type)).toArray[k]?) jq hpl (fun k b cs hb gH=>by
   obtain⟨cM,c1,c2,_⟩:=jE k b hb
   rw[c1] at gH
   injection gH with gH
   subst gH
   exact er _ c2) (fun k b hb=>by
   obtain⟨cM,c1,_,c3⟩:=jE k b hb
   simp only[Nat.zero_add] at c3
   exact⟨cM,c1,c3⟩) (fun k hk=>by
   obtain⟨q1,q2⟩:=IX l k hk
   obtain⟨t,t1,t2,t3,_⟩:=iy f3 k (fs.toList[k]'(by omega)) (List.getElem?_eq_getElem (by omega))
   have hfs:fs.size=l.length:=by rw[←Cs,Array.length_toList]
   rw[Nat.zero_add,←fh,hfs] at t1 t3
   rw[q1] at t1
   injection t1 with t1
   subst t1
   obtain⟨_,_,_,c3⟩:=gY hT t2
   rw[q2] at t3
   simp only[List.getElem?_toArray,List.getElem?_map,List.getElem?_eq_getElem (show k<fs.toList.length by omega),Option.map_some,c3,t3])
 have auA:P.built i.T (ps.map fun(j,x)=>(j,a.eval x)).toList=some eK.flatten.toArray:=by
  unfold Program.built
  have hz:z.cells=(l.map fun b=>zc b.t).flatten.toArray:=by
   rw[←Nc,fh]
   have RS:isAgg i.ty=true:=by rw[hpp];rfl
   unfold az at k4
   rw[if_pos RS] at k4
   rw[k4]
   rfl
  rw[k1,f1]
  simp only[k3,mapM_some _ aku,hz]
  rw[Array.toList_map]
  exact adL
 have cp:=fun w=>run_build (P:=P) w i.T _ _ auA
 rw[←e]
 refine nV (b:=dE l) (cs:=eK.flatten) (v:=.agg eK.flatten.toArray) h1 hk hn (fun w2 _=>?_) ?_ hM
 ·simp only[execOp,ho,Sem.run_bind,cp w2,Result.andThen_ok]
  rfl
 ·unfold az
  rw[if_pos (by rw[fh,hpp];rfl)]
end Go.Pv
namespace Go.Pv
set_option linter.unusedVariables false
set_option linter.unusedSimpArgs false
variable {P:Program} {w w':World} {A A' Wr:Nat→Prop} {H:Nat→Value} {tm qP:Nat→Value} {S S' S1:St} {σ bO dQ:Nat→Option Nat} {w0:World} {W0 Z:Nat→Prop} {a:Act} {own:Nat→Prop} {v:Value} {Θ:de} {dst:Option Nat}
theorem Nd {s:Nat} (eK:List (List Value)) (h:∀ c∈eK,c.length=s) (j:Nat) (hj:j<eK.length):(eK.flatten.drop (j*s)).take s=eK[j]:=by
 have h1:(eK.take j).flatten.length=j*s:=by
  rw[kr s (fun c hc=>h c (List.mem_of_mem_take hc)),List.length_take,Nat.min_eq_left (by omega)]
 rw[o7 eK j hj,←h1,List.drop_left,←h (eK[j]) (List.getElem_mem hj),List.take_left]
theorem asX {t:Ty} {m:Md} {xs:List t.I} {eK:List (List Value)} {ow:Nat→Prop} {τ:Nat→Nat} (e:TypeId) (hl:eK.length=xs.length)
  (hM:∀ (j:Nat) (hj:j<xs.length),M w A H t m xs[j] (eK[j]'(by omega)) (fun g=>ow g∧τ g=j) []) (cR:∀ g,ow g→g<w.heap.size) (azv:xs.length≤maxLen):
  M (w.alloc (.cells eK.flatten.toArray e)) (fun g=>A g∨w.heap.size≤g) H (.sl t) (.o e none m) xs [.slice (some ⟨w.heap.size,0,none⟩) xs.length xs.length] (fun g=>ow g∨g=w.heap.size) []:=by
 have gq:∀ c∈eK,c.length=t.size:=fun c hc=>by
  obtain⟨j,hj,rfl⟩:=List.mem_iff_getElem.1 hc
  exact(er t (hM j (by omega))).1
 simp only[M]
 refine .inr (.inr ⟨e,none,m,some ⟨w.heap.size,0,none⟩,xs.length,rfl,rfl,Nat.le_refl _,fun h hh=>(by cases hh),.inr ⟨w.heap.size,eK.flatten.toArray,τ,rfl,.inr rfl,heap_alloc_new w _,?_,azv,fun j hj=>?_⟩⟩)
 ·rw[List.size_toArray,kr t.size gq,hl]
 ·rw[List.toList_toArray,Nd eK gq j (by omega)]
  refine aK (w:=w) ⟨fun g _ hg=>heap_alloc_old w _ g hg,fun g hg hx=>?_⟩ t (fun g hg hl=>heap_alloc_old w _ g hl) (fun g hg hl=>⟨.inl hg.1,by omega,hg.2⟩) (fun _ h=>by simp at h) (hM j hj)
  rcases hx with hx |hx
  ·exact hx
  ·omega
theorem HS (zl:List Value):∀ n,madeCells zl.toArray (n*zl.length)=(List.replicate n zl).flatten.toArray:=by
 intro n
 unfold madeCells
 apply Array.toList_inj.1
 simp only[Array.toList_map,Array.toList_range,List.toList_toArray]
 induction n with
 |zero=>simp
 |succ n ih=>
  rw[Nat.add_mul,Nat.one_mul,List.range_add,List.map_append,ih,List.replicate_succ',List.flatten_append]
  congr 1
  simp only[List.map_map,List.flatten_cons,List.flatten_nil,List.append_nil]
  apply List.ext_getElem?
  intro k
  by_cases hk:k<zl.length
  ·simp[hk,Function.comp_def,Nat.mod_eq_of_lt hk]
  ·simp[hk]
theorem Cw {t:Ty} {m:Md}:∀ {l:List TV} {xs:List t.I},qR t m l=some xs→xs.length=l.length∧∀ (k:Nat) (hk:k<xs.length),l[k]?=some ⟨t,m,xs[k]⟩
 |[],xs,h=>by
  simp only[qR,Option.some.injEq] at h
  subst h
  exact⟨rfl,fun k hk=>by simp at hk⟩
 |b::r,xs,h=>by
  simp only[qR] at h
  split at h
  ·rename_i ht
   split at h
   ·rename_i hm
    split at h
    ·rename_i l hl
     injection h with h
     subst h
     obtain⟨h1,h2⟩:=Cw hl
     obtain⟨bt,bm,bx⟩:=b
     simp only at ht hm
     subst ht hm
     refine⟨by simp[h1],fun k hk=>?_⟩
     cases k with
     |zero=>rfl
     |succ k=>simpa using h2 k (by simpa using hk)
    ·cases h
   ·cases h
  ·cases h
theorem Hd (hT:cP P Θ=true) (h:a7 σ w0 W0 Z H S a w) {hn:Hn} {o:Oper} {T:TypeId} {n:Nat} {ps:Array (Nat×Operand)} (ho:o.op=.buildSlice T n ps) (e:bH Θ hn S o.dst T n ps.toList=some (true,S')):Cu P w0 W0 Z H S' a o.dst w (execOp a.eval o):=by
 unfold bH at e
 split at e
 case h_2=>cases e
 rename_i T0 t te fs0 hi
 cases hc:(jX n ps.toList&&Nat.ble n 1800) with
 |false=>rw[hc] at e;cases e
 |true=>
 rw[hc] at e
 simp only[cond_true] at e
 simp only[Bool.and_eq_true] at hc
 obtain⟨hpl,auB⟩:=hc
 have auB:=Nat.le_of_ble_eq_true auB
 split at e
 case h_2=>cases e
 rename_i l S1 hl
 obtain⟨bO,ow,τ,eK,h1,hnn,hk,jq,hll,hj,jE⟩:=o8 hT ps.toList _ 0 h hl
 rw[List.length_replicate] at hll
 obtain⟨_,hu,hT0⟩:=cT hT hi
 simp only at hT0
 subst hT0
 obtain⟨u1,u2,u3⟩:=kP hu rfl
 simp only at u1 u2
 obtain⟨i2,mI,ht2⟩:=dN u2
 obtain⟨⟨sm,inf,z,k1,k2,_,_,_,k3,k4⟩,_,hte⟩:=cT hT mI
 rw[hte] at k1
 rw[ht2] at k2 k4 sm
 have cR:∀ g,ow g→g<w.heap.size:=fun g hg=>by
  obtain⟨i,_,hi⟩:=hk.M7 g hg
  exact h.lt g i hi
 -- all parts are of the type
 have gq:(∃ m xs m',qR t m l=some xs∧(m'=.o te none m∨(m'=.k∧m.bP=true))∧S'=S1.put o.dst (.v ⟨.sl t,m',xs⟩ [])):=by
  split at e
  ·simp only[Option.some.injEq,Prod.mk.injEq,true_and] at e
   cases hf:hn.Z1 o.dst with
   |true=>exact⟨.k,[],_,rfl,.inr ⟨by rw[hf];rfl,rfl⟩,e.symm⟩
   |false=>exact⟨_,[],_,rfl,.inl (by rw[hf];rfl),e.symm⟩
  ·split at e
   ·rename_i xs hxs
    simp only[Option.some.injEq,Prod.mk.injEq,true_and] at e
    refine⟨_,xs,_,hxs,?_,e.symm⟩
    generalize hf:(hn.Z1 o.dst&&_)=q
    cases q with
    |true=>
     simp only[Bool.and_eq_true] at hf
     exact .inr ⟨rfl,hf.2⟩
    |false=>exact .inl rfl
   ·cases e
 obtain⟨m,xs,m',hxs,hm',rfl⟩:=gq
 obtain⟨x1,x2⟩:=Cw hxs
 have fh:∀ (k:Nat) (b:TV),l[k]?=some b→b.t=t:=fun k b hb=>by
  have hkl:k<xs.length:=by rw[x1];exact(List.getElem?_eq_some_iff.1 hb).1
  rw[x2 k hkl] at hb
  injection hb with hb
  rw[←hb]
 have hzl:(l.map fun b=>zc b.t)=List.replicate n (zc t):=by
  apply List.ext_getElem?
  intro k
  rw[List.getElem?_map,List.getElem?_replicate]
  by_cases hkl:k<l.length
  ·rw[if_pos (by omega),List.getElem?_eq_getElem hkl,Option.map_some,fh k _ (List.getElem?_eq_getElem hkl)]
  ·rw[if_neg (by omega),List.getElem?_eq_none (by omega)]
   rfl
 have adL:=ES (a:=a) (ps:=ps.toList) (l:=l) (eK:=eK) (place:=fun k=>some (k*t.size,t.size)) jq (by rw[hll];exact hpl) (fun k b cs hb gH=>by
   obtain⟨cM,c1,c2,_⟩:=jE k b hb
   rw[c1] at gH
   injection gH with gH
   subst gH
   exact er _ c2) (fun k b hb=>by
   obtain⟨cM,c1,_,c3⟩:=jE k b hb
   simp only[Nat.zero_add] at c3
   exact⟨cM,c1,c3⟩) (fun k hk=>by
   rw[fh k _ (List.getElem?_eq_getElem hk),hzl]
   congr 2
   unfold nX
   rw[List.take_replicate,Nat.min_eq_left (by omega),List.map_replicate,List.sum_replicate_nat,lZ])
 have Nf:z.cells=(zc t).toArray:=ig k4 (fun u hu=>?_)
 rotate_left
 ·-- one cell each
  have:∀ (t:Ty),∀ u∈zc t,u.oneCell'=true:=by
   intro t
   induction t with
   |pair a b iha ihb=>intro u hu;simp only[zc,List.mem_append] at hu;rcases hu with hu |hu;exact iha u hu;exact ihb u hu
   |arr n t ih=>intro u hu;simp only[zc,List.mem_flatten] at hu;obtain⟨c,hc,hu⟩:=hu;rw[List.eq_of_mem_replicate hc] at hu;exact ih u hu
   |unit=>intro u hu;simp[zc] at hu
   |_=>intro u hu;simp only[zc,List.mem_singleton] at hu;subst hu;rfl
  exact this t u hu
 have hlc:eK.length=xs.length:=by omega
 have Ng:=asX (w:=w) (A:=Av σ Z) (H:=H) (t:=t) (m:=m) (xs:=xs) (eK:=eK) (ow:=ow) (τ:=τ) te hlc (fun j hj=>by
   have sD:=x2 j hj
   obtain⟨cM,c1,c2,_⟩:=jE j _ sD
   rw[List.getElem?_eq_getElem (by omega)] at c1
   injection c1 with c1
   rw[c1]
   simpa using c2) cR (by simp only[maxLen];omega)
 have cp:(Instr.buildSlice T0 n (ps.map fun(j,x)=>(j,a.eval x))).run P w=.ok (.slice (some ⟨w.heap.size,0,none⟩) n n) (w.alloc (.cells eK.flatten.toArray te)):=by
  have iD: ¬n*t.size>2^24:=by
   have:=Nat.mul_le_mul auB sm
   omega
  have adM:Instr.fill (fun i=>some (i*t.size,t.size)) ((Array.range (n*t.size)).map (z.cells[· %z.cells.size]!)) (ps.map fun x=>(x.1,a.eval x.2)).toList=some eK.flatten.toArray:=by
   have:=HS (zc t) n
   unfold madeCells at this
   rw[Nf,Array.toList_map]
   rw[lZ] at this
   rw[this,←hzl]
   exact adL
  have hso:(sizeOf te).run P w=.ok t.size w:=by
   simp[sizeOf,typeInfo,k1,k2]
  have hzv:(zeroValue te).run P w=.ok z w:=by
   simp[zeroValue,typeInfo,k1,k3]
  by_cases h0:n*t.size=0
  ·have auC:Instr.fill (fun i=>some (i*t.size,t.size)) ((Array.range (n*t.size)).map ((#[]:Array Value)[· %(#[]:Array Value).size]!)) (ps.map fun x=>(x.1,a.eval x.2)).toList=some eK.flatten.toArray:=by
    rw[←adM,h0]
    simp[Array.range_zero']
   unfold Instr.buildSlice
   simp only[Sem.run_bind,run_underlying u1,Result.andThen_ok,hso,iD,if_false]
   rw[if_pos h0]
   simp only[Sem.run_bind,Sem.run_pure,Result.andThen_ok,auC]
   simp[newRow]
  ·unfold Instr.buildSlice
   simp only[Sem.run_bind,run_underlying u1,Result.andThen_ok,hso,iD,if_false]
   rw[if_neg h0]
   simp only[Sem.run_bind,Sem.run_pure,hzv,Result.andThen_ok,adM]
   simp[newRow]
 have hex:(execOp a.eval o).run P w=.ok (.value (.slice (some ⟨w.heap.size,0,none⟩) n n)) (w.alloc (.cells eK.flatten.toArray te)):=by
  simp only[execOp,ho,Sem.run_bind,cp,Result.andThen_ok]
  rfl
 have aA6:∀ g,Av bO Z g→g<w.heap.size:=fun g hg=>by
  rcases hg with⟨i,hi⟩ |hz
  ·exact h1.lt g i hi
  ·have:=(h1.old g hz).2;have:=h1.fr.size;omega
 rcases hm' with rfl |⟨rfl,hmk⟩
 ·refine⟨w.alloc (.cells eK.flatten.toArray te),.slice (some ⟨w.heap.size,0,none⟩) n n,hex,fun g hg=>heap_alloc_old w _ g hg,_,h1.M8 (b:=⟨.sl t,.o te none m,xs⟩) (cs:=[.slice (some ⟨w.heap.size,0,none⟩) n n]) (fun g hg=>heap_alloc_old w _ g hg) (h1.fr.alloc _) (fun g hg=>?_) (fun g hg hx=>?_) (by simp[az,isAgg]) (by
   have:xs.length=n:=by omega
   rw[this] at Ng
   exact Ng)⟩
  ·rcases hg with hg |rfl
   ·obtain⟨i,hi,bp⟩:=hk.now g hg
    have:=cR g hg
    exact⟨by simp only[World.alloc,Array.size_push];omega,.inl ⟨i,by omega,bp⟩⟩
   ·exact⟨by simp only[World.alloc,Array.size_push];omega,.inr (Nat.le_refl _)⟩
  ·rcases hx with hx |hx |rfl
   ·exact .inl (hk.Av.1 hx)
   ·obtain⟨i,_,hi⟩:=hk.M7 g hx
    exact .inl (.inl ⟨i,hi⟩)
   ·exact .inr (Nat.le_refl _)
 ·refine⟨w.alloc (.cells eK.flatten.toArray te),.slice (some ⟨w.heap.size,0,none⟩) n n,hex,fun g hg=>heap_alloc_old w _ g hg,_,h1.M8 (b:=⟨.sl t,.k,xs⟩) (cs:=[.slice (some ⟨w.heap.size,0,none⟩) n n]) (ow:=fun _=>False) (A':=Av bO Z) (fun g hg=>heap_alloc_old w _ g hg) (h1.fr.alloc _) (fun g hg=>hg.elim) (fun g hg hx=>hx.resolve_right id) (by simp[az,isAgg]) (nG (t:=.sl t) rfl ?_)⟩
  have hxn:xs.length=n:=by omega
  show K _ _ (.sl t) xs _
  have akv:∀ c∈eK,c.length=t.size:=fun c hc=>by
   obtain⟨j,hj,rfl⟩:=List.getElem_of_mem hc
   obtain⟨cM,c1,c2,_⟩:=jE j _ (x2 j (by omega))
   rw[List.getElem?_eq_getElem hj] at c1
   injection c1 with c1
   rw[c1]
   exact(er _ c2).1
  have Cs:eK.flatten.length=n*t.size:=by rw[kr t.size akv,hlc,hxn]
  simp only[K]
  refine⟨some ⟨w.heap.size,0,none⟩,n,by rw[hxn],by omega,fun _=>⟨w.heap.size,0,eK.flatten.toArray,te,(0,0),rfl,fun hx=>absurd (aA6 _ hx) (Nat.lt_irrefl _),heap_alloc_new w _,by simp only[List.size_toArray,Cs,hxn];omega,fun j hj'=>?_⟩⟩
  obtain⟨cM,c1,c2,_⟩:=jE j _ (x2 j hj')
  rw[List.getElem?_eq_getElem (by omega)] at c1
  injection c1 with c1
  have gE:=Nd eK akv j (by omega)
  simp only[Nat.zero_add]
  rw[gE,c1]
  refine b6 ⟨fun g _ hg=>heap_alloc_old w _ g hg,fun g _ hg=>hk.Av.1 hg⟩ t (fv t hmk c2)
theorem IY (hT:cP P Θ=true) (h:a7 σ w0 W0 Z H S a w) {o:Oper} {T:TypeId} {l c:Operand} (ho:o.op=.makeSlice T l c) (e:gb Θ S o.dst T l c=some (true,S')):Cu P w0 W0 Z H S' a o.dst w (execOp a.eval o):=by
 unfold gb at e
 split at e
 case h_2=>cases e
 rename_i T0 t te fs0 n n' hi hl hc
 split at e
 case h_2=>cases e
 rename_i z hz
 split at e
 case isFalse=>cases e
 rename_i hzt
 simp only[Option.some.injEq,Prod.mk.injEq,Bool.and_eq_true,decide_eq_true_eq] at e
 obtain⟨⟨⟨rfl,h0⟩,h40⟩,rfl⟩:=e
 obtain⟨kl,hl⟩:=ic h hl
 obtain⟨kc,hc⟩:=ic h hc
 obtain⟨_,hu,hT0⟩:=cT hT hi
 simp only at hT0
 subst hT0
 obtain⟨u1,u2,u3⟩:=kP hu rfl
 simp only at u1
 obtain⟨i,inf,zv,mI,fh,hx,wY,q1,q2,q3,q4,q5,q6⟩:=Ay hT hz
 have MJ:M w (Av σ Z) H z.t z.m z.t.z (zc z.t) (fun _=>False) []:=EO z.t wY
 have hzc:zv.cells=(zc z.t).toArray:=ig q4 (er _ MJ).2
 have cp:=run_make (P:=P) w T0 te inf zv u1 q1 q3 kl kc n n h0 (Int.le_refl _) (by
  have h1:(inf.bytes:Int)≤256:=by omega
  calc (inf.bytes:Int)*n≤256*n:=Int.mul_le_mul_of_nonneg_right h1 h0
   _≤281474976710656:=by omega) (by omega)
 rw[q2,hzc,←lZ,HS] at cp
 have Ng:=asX (w:=w) (A:=Av σ Z) (H:=H) (t:=t) (m:=z.m) (xs:=List.replicate n.toNat t.z) (eK:=List.replicate n.toNat (zc z.t)) (ow:=fun _=>False) (τ:=fun _=>0) te (by simp) (fun j hj=>by
   subst hzt
   simp only[List.getElem_replicate]
   exact IV MJ) (fun _ h=>h.elim) (by simp only[List.length_replicate,maxLen];omega)
 refine⟨w.alloc (.cells (List.replicate n.toNat (zc z.t)).flatten.toArray te),_,?_,fun g hg=>heap_alloc_old w _ g hg,_,h.M8 (b:=⟨.sl t,.o te none z.m,List.replicate n.toNat t.z⟩) (cs:=[.slice (some ⟨w.heap.size,0,none⟩) n.toNat n.toNat]) (w':=w.alloc (.cells (List.replicate n.toNat (zc z.t)).flatten.toArray te)) (v:=.slice (some ⟨w.heap.size,0,none⟩) n.toNat n.toNat) (fun g hg=>heap_alloc_old w _ g hg) (h.fr.alloc _) (fun g hg=>?_) (fun g hg hx=>?_) (by simp[az,isAgg]) (by
   rw[List.length_replicate] at Ng
   exact Ng)⟩
 ·simp only[execOp,ho,hl,hc,Sem.run_bind,cp,Result.andThen_ok]
  rfl
 ·rcases hg with hg |rfl
  ·exact hg.elim
  ·exact⟨by simp only[World.alloc,Array.size_push];omega,.inr (Nat.le_refl _)⟩
 ·rcases hx with hx |hx |rfl
  ·exact .inl hx
  ·exact hx.elim
  ·exact .inr (Nat.le_refl _)
end Go.Pv
namespace Go.Pv
set_option linter.unusedVariables false
set_option linter.unusedSimpArgs false
variable {P:Program} {w w':World} {A A' Wr:Nat→Prop} {H:Nat→Value} {tm qP:Nat→Value} {S S' S1:St} {σ bO dQ:Nat→Option Nat} {w0:World} {W0 Z:Nat→Prop} {a:Act} {own:Nat→Prop} {v:Value} {Θ:de} {dst:Option Nat}
theorem xp {olds news:List Value} {s n j:Nat} (hl:olds.length=n*s) (hj:j<n):((olds++news).drop (j*s)).take s=(olds.drop (j*s)).take s:=by
 have h1:(j+1)*s≤n*s:=Nat.mul_le_mul_right s hj
 rw[Nat.add_mul,Nat.one_mul] at h1
 rw[List.drop_append_of_le_length (by omega),List.take_append_of_le_length (by rw[List.length_drop];omega)]
theorem HT {olds news:List Value} {s n j:Nat} (hl:olds.length=n*s):((olds++news).drop ((n+j)*s)).take s=(news.drop (j*s)).take s:=by
 rw[Nat.add_mul,←hl,List.drop_append,Nat.add_sub_cancel_left,List.drop_eq_nil_of_le (Nat.le_add_right _ _),List.nil_append]
theorem nY {cur:List Value} {s n j:Nat} (hj:j<n):((cur.take (n*s)).drop (j*s)).take s=(cur.drop (j*s)).take s:=by
 have h1:(j+1)*s≤n*s:=Nat.mul_le_mul_right s hj
 rw[Nat.add_mul,Nat.one_mul] at h1
 rw[List.drop_take,List.take_take,Nat.min_eq_left (by omega)]
theorem c6 {g o:Nat} {t:TypeId} {cur:Array Value} {vs:List Value} (hw:w.heap[g]?=some (.cells cur t (0,0))) (hb:o+vs.length≤cur.size) (h1:∀ u∈vs,u.oneCell'=true):
  w.setCells g o vs=w.setRow g (putCells cur.toList o vs).toArray:=by
 have e1:=run_storeCells_at (P:=(default:Program)) g o t vs 0 cur w hw (by omega) h1
 have e2:=run_storeCells_cells (P:=(default:Program)) g o vs 0 w (fun j hj=>by
  have:o+j<cur.size:=by omega
  simp[World.cell?,hw,this]) (fun j hj=>by simp[World.frozen?,hw]) h1
 rw[e1] at e2
 simp only[Nat.add_zero,Result.ok.injEq,true_and] at e2
 exact e2.symm
theorem R9 {T' e':TypeId} {size:Nat} {t:Ty} {ys:List t.I} {vy:Value} (hk:P.underlying T'=some (.slice e')) (hs:size=t.size)
  (h:∃ X c,vy=.slice X ys.length c∧(0<ys.length→∃ g off cur T fr,X=some ⟨g,off,none⟩∧w.heap[g]?=some (.cells cur T fr)∧off+ys.length*t.size≤cur.size∧∀ u∈(cur.toList.drop off).take (ys.length*t.size),u.oneCell'=true)):
  ∃ news,Src P size T' vy ys.length news w∧(∀ g off cur T fr X c,vy=.slice X ys.length c→X=some ⟨g,off,none⟩→w.heap[g]?=some (.cells cur T fr)→0<ys.length→news=(cur.toList.drop off).take (ys.length*t.size)):=by
 subst hs
 obtain⟨X,c,rfl,h⟩:=h
 rcases Nat.eq_zero_or_pos ys.length with h0 |h0
 ·refine⟨[],?_,fun _ _ _ _ _ _ _ _ _ _ hp=>by omega⟩
  rw[h0]
  cases X with
  |none=>exact Src.ofNil w hk c
  |some ad=>exact Src.ofSlice w hk ad 0 c [] (by simp) (fun j u hu=>by simp at hu) (fun u hu=>by simp at hu)
 ·obtain⟨g,off,cur,T,fr,rfl,hw,hb,h1⟩:=h h0
  refine⟨(cur.toList.drop off).take (ys.length*t.size),Src.ofSlice w hk ⟨g,off,none⟩ ys.length c _ (by have hc:cur.toList.length=cur.size:=Array.length_toList;rw[List.length_take,List.length_drop];omega) (fun j u hu=>?_) h1,?_⟩
  ·have hj:j<ys.length*t.size:=by
    have:=(List.getElem?_eq_some_iff.1 hu).1
    rw[List.length_take] at this
    omega
   rw[List.getElem?_take,if_pos hj,List.getElem?_drop] at hu
   rw[iO]
   simp only[World.cell?,hw]
   rw[←Array.getElem?_toList]
   exact hu
  ·intro g' aBY Sa T' fr' X' c' e1 e2 G7 _
   injection e1 with e1
   subst e2
   injection e1 with e1
   injection e1 with e1 Aw
   subst e1 Aw
   rw[hw] at G7
   injection G7 with G7
   injection G7 with G7
   rw[G7]
noncomputable def join (tP:Nat→Prop) (n:Nat) (IZ τ:Nat→Nat) (g:Nat):Nat:=open Classical in if tP g then n+IZ g else τ g
theorem WW {tP:Nat→Prop} {n:Nat} {IZ τ:Nat→Nat} {g:Nat} (h:tP g):join tP n IZ τ g=n+IZ g:=if_pos h
theorem Nh {tP:Nat→Prop} {n:Nat} {IZ τ:Nat→Nat} {g:Nat} (h: ¬tP g):join tP n IZ τ g=τ g:=if_neg h
theorem xq (hT:cP P Θ=true) {T T' e ty:TypeId} {t:Ty} {tag:Option Nat} {me:Md} {xs ys:List t.I} {vx vy:Value} {ET tP:Nat→Prop} {IZ:Nat→Nat} {news:List Value} {inf:TypeInfo} {z:Value}
  (hu:P.underlying T=some (.slice e)) (hi:P.info? e=some inf) (hz:inf.zero=some z) (iD:inf.size=t.size) (hby:inf.bytes≤32*t.size) (hzs:z.cells.size=t.size) (Dv:0<t.size)
  (hx:M w A H (.sl t) (.o e tag me) xs [vx] ET []) (rn:Src P t.size T' vy ys.length news w)
  (hN:∀ (k:Nat) (hk:k<ys.length),M w A H t me ys[k] ((news.drop (k*t.size)).take t.size) (fun g=>tP g∧IZ g=k) [])
  (adN:∀ g,ET g→¬tP g) (hxA:∀ g,ET g→A g) (hlx:∀ g,ET g→g<w.heap.size) (hlN:∀ g,tP g→g<w.heap.size) (I0:(xs.length+ys.length)*t.size≤4398046511104):
  ∃ v' w' cE,(Builtin.append_ #[T,T'] ty #[vx,vy]).run P w=.ok v' w'∧M w' (fun g=>A g∨w.heap.size≤g) H (.sl t) (.o e none me) (xs++ys) [v'] cE []∧
   (∀ g,g<w.heap.size→¬ET g→w'.heap[g]?=w.heap[g]?)∧(∀ g,cE g→g<w'.heap.size∧(ET g∨tP g∨w.heap.size≤g))∧w.heap.size≤w'.heap.size∧w'.os=w.os∧w'.tape=w.tape∧w'.output=w.output:=by
 have adO:xs.length+ys.length≤4398046511104:=Nat.le_trans (Nat.le_mul_of_pos_right _ Dv) I0
 have adP:(xs.length+ys.length)*inf.bytes≤140737488355328:=by
  have:(xs.length+ys.length)*inf.bytes≤(xs.length+ys.length)*(32*t.size):=Nat.mul_le_mul_left _ hby
  have e2:(xs.length+ys.length)*(32*t.size)=32*((xs.length+ys.length)*t.size):=by rw[Nat.mul_left_comm]
  omega
 have WX:Src P inf.size T' vy ys.length news w:=by rw[iD];exact rn
 have akr:=rn.one
 have hnl:=rn.newsLen
 -- the grown row
 have grown:∀ (base:Option Addr) (c:Nat) (olds:List Value) (owo:Nat→Prop) (τ:Nat→Nat),vx=.slice base xs.length c→c<xs.length+ys.length→olds.length=xs.length*t.size→
   (Builtin.firstCells inf.size xs.length vx).run P w.drew=.ok olds.toArray w.drew→(∀ g,owo g→ET g)→
   (∀ (k:Nat) (hk:k<xs.length),M w A H t me xs[k] ((olds.drop (k*t.size)).take t.size) (fun g=>owo g∧τ g=k) [])→
   ∃ v' w' cE,(Builtin.append_ #[T,T'] ty #[vx,vy]).run P w=.ok v' w'∧M w' (fun g=>A g∨w.heap.size≤g) H (.sl t) (.o e none me) (xs++ys) [v'] cE []∧
   (∀ g,g<w.heap.size→¬ET g→w'.heap[g]?=w.heap[g]?)∧(∀ g,cE g→g<w'.heap.size∧(ET g∨tP g∨w.heap.size≤g))∧w.heap.size≤w'.heap.size∧w'.os=w.os∧w'.tape=w.tape∧w'.output=w.output:=by
  intro base c olds owo τ hv hc hol I1 G8 uy
  subst hv
  have cp:=run_append_grow_src (P:=P) w T T' ty e inf z hu hi hz base xs.length c olds I1 vy ys.length news WX hc (by omega) (by
   have h1:=nextslicecap_le hc
   have h2:=Nat.mul_le_mul_right inf.bytes h1
   rw[Nat.mul_assoc] at h2
   omega)
  have hge:=grownCap_ge w (xs.length+ys.length) c e
  have hle:=grownCap_le_maxLen w (xs.length+ys.length) c e (by simp only[maxLen];omega)
  let pad:=Builtin.zeroCells z.cells (grownCap w (xs.length+ys.length) c e - (xs.length+ys.length))
  have fP:∀ g,g<w.heap.size→(w.drew.alloc (.cells ((olds++news).toArray++pad) e)).heap[g]?=w.heap[g]?:=fun g hg=>heap_alloc_old w.drew _ g hg
  refine⟨_,w.drew.alloc (.cells ((olds++news).toArray++pad) e),fun g=>owo g∨tP g∨g=w.heap.size,cp,?_,fun g hg _=>fP g hg,fun g hg=>?_,by simp,rfl,rfl,rfl⟩
  ·simp only[M]
   refine .inr (.inr ⟨e,none,me,some ⟨w.heap.size,0,none⟩,grownCap w (xs.length+ys.length) c e,rfl,by rw[List.length_append],by rw[List.length_append];exact hge,fun h hh=>(by cases hh),.inr ⟨w.heap.size,(olds++news).toArray++pad,join tP xs.length IZ τ,rfl,.inr (.inr rfl),heap_alloc_new w.drew _,?_,hle,fun j hj=>?_⟩⟩)
   ·simp only[pad,Array.size_append,List.size_toArray,List.length_append,size_zeroCells,hzs,hol,hnl,←Nat.add_mul]
    congr 1
    omega
   ·have b5:aU w (w.drew.alloc (.cells ((olds++news).toArray++pad) e)) A (fun g=>A g∨w.heap.size≤g):=⟨fun g _ hg=>fP g hg,fun g hg hx=>hx.resolve_right (by omega)⟩
    rw[Array.toList_append,List.toList_toArray]
    rcases Nat.lt_or_ge j xs.length with hjx |hjx
    ·rw[List.getElem_append_left hjx,List.append_assoc,xp hol hjx]
     refine aK b5 t (fun g hg hl=>fP g hl) (fun g hg hl=>⟨.inl hg.1,by omega,?_⟩) (fun _ h=>by simp at h) (uy j hjx)
     rw[Nh (adN g (G8 g hg.1))]
     exact hg.2
    ·have hjy:j - xs.length<ys.length:=by rw[List.length_append] at hj;omega
     rw[List.getElem_append_right hjx]
     have e1:=HT (olds:=olds) (news:=news++pad.toList) (s:=t.size) (n:=xs.length) (j:=j - xs.length) hol
     rw[show xs.length+(j - xs.length)=j from by omega,←List.append_assoc,xp hnl hjy] at e1
     rw[e1]
     refine aK b5 t (fun g hg hl=>fP g hl) (fun g hg hl=>⟨.inr (.inl hg.1),by omega,?_⟩) (fun _ h=>by simp at h) (hN (j - xs.length) hjy)
     rw[WW hg.1,hg.2]
     omega
  ·have:(w.drew.alloc (.cells ((olds++news).toArray++pad) e)).heap.size=w.heap.size+1:=by simp
   rcases hg with hg |hg |rfl
   ·exact⟨by have:=hlx g (G8 g hg);omega,.inl (G8 g hg)⟩
   ·exact⟨by have:=hlN g hg;omega,.inr (.inl hg)⟩
   ·exact⟨by omega,.inr (.inr (Nat.le_refl _))⟩
 -- nothing to append
 have nothing:∀ (base:Option Addr) (c:Nat),vx=.slice base xs.length c→xs.length≤c→ys.length=0→
   ∃ v' w' cE,(Builtin.append_ #[T,T'] ty #[vx,vy]).run P w=.ok v' w'∧M w' (fun g=>A g∨w.heap.size≤g) H (.sl t) (.o e none me) (xs++ys) [v'] cE []∧
   (∀ g,g<w.heap.size→¬ET g→w'.heap[g]?=w.heap[g]?)∧(∀ g,cE g→g<w'.heap.size∧(ET g∨tP g∨w.heap.size≤g))∧w.heap.size≤w'.heap.size∧w'.os=w.os∧w'.tape=w.tape∧w'.output=w.output:=by
  intro base c hv hle h0
  have hys:ys=[]:=List.eq_nil_of_length_eq_zero h0
  subst hys
  have hn0:news=[]:=List.eq_nil_of_length_eq_zero (by simpa using hnl)
  rw[hn0] at WX
  rw[hv] at hx ⊢
  have cp:=run_append_nothing (P:=P) w T T' ty e inf hu hi base xs.length c hle vy WX
  refine⟨_,w,ET,cp,?_,fun _ _ _=>rfl,fun g hg=>⟨hlx g hg,.inl hg⟩,Nat.le_refl _,rfl,rfl,rfl⟩
  rw[List.append_nil]
  have xa:M w A H (.sl t) (.o e none me) xs [.slice base xs.length c] ET []:=by
   simp only[M] at hx ⊢
   rcases hx with⟨hn,_⟩ |⟨hk,_⟩ |⟨T1,aA7,me1,X,c1,e1,e2,h1,h2,h3⟩
   ·simp at hn
   ·simp[Md.bP] at hk
   ·injection e1 with e1 Aw o9
    subst e1 Aw o9
    exact .inr (.inr ⟨e,none,me,X,c1,rfl,e2,h1,fun h hh=>(by cases hh),h3⟩)
  exact aK (w:=w) ⟨fun _ _ _=>rfl,fun g hg hx=>hx.resolve_right (by omega)⟩ (.sl t) (fun _ _ _=>rfl) (fun g hg _=>hg) (fun _ h=>h) xa
 have hx0:=hx
 simp only[M] at hx
 rcases hx with⟨hn,_⟩ |⟨hk,_⟩ |⟨T1,aA7,me1,X,c,e1,e2,hle,akp,hx⟩
 ·simp at hn
 ·simp[Md.bP] at hk
 ·injection e1 with e1 Aw o9
  subst e1 Aw o9
  simp only[List.cons.injEq,and_true] at e2
  rcases Nat.eq_zero_or_pos ys.length with h0 |h0
  ·exact nothing X c e2 hle h0
  ·rcases hx with⟨hxs,hc⟩ |⟨g,cur,τ,rfl,qv,hw,gH,hcm,uy⟩
   ·subst hxs hc
    refine grown X 0 [] (fun _=>False) (fun _=>0) e2 (by simpa using h0) (by simp) ?_ (fun _ h=>h.elim) (fun k hk=>by simp at hk)
    rw[e2]
    cases X with
    |none=>exact run_firstCells_none w.drew _ _ _ _
    |some ad=>exact run_firstCells_some w.drew _ _ ad _ _ [] (by simp) (fun j u hu=>by simp at hu)
   ·have hbx:xs.length*t.size≤cur.toList.length:=by
     have h1:cur.toList.length=cur.size:=Array.length_toList
     have h2:=Nat.mul_le_mul_right t.size hle
     omega
    have jq:cur.toList.length=cur.size:=Array.length_toList
    by_cases rp:xs.length+ys.length≤c
    ·-- room
     have wY:xs.length*t.size+news.length≤cur.size:=by
      rw[hnl,gH,←Nat.add_mul]
      exact Nat.mul_le_mul_right _ rp
     have cp:=run_append_room_src (P:=P) w T T' ty e inf hu hi g 0 xs.length c vy ys.length news WX rp (fun j hj=>by
      have:xs.length*inf.size+j<cur.size:=by rw[iD];omega
      simp[World.cell?,hw,this]) (fun j hj=>by simp[World.frozen?,hw])
     rw[Nat.zero_add,iD,c6 hw wY akr] at cp
     have fP:∀ k,k≠g→(w.setRow g (putCells cur.toList (xs.length*t.size) news).toArray).heap[k]?=w.heap[k]?:=fun k hk=>setRow_other w g k _ hk
     refine⟨_,w.setRow g (putCells cur.toList (xs.length*t.size) news).toArray,fun k=>ET k∨tP k,by rw[e2];exact cp,?_,fun k _ hk=>fP k (fun e'=>hk (by rw[e'];exact qv)),fun k hk=>?_,by rw[setRow_size];exact Nat.le_refl _,rfl,rfl,rfl⟩
     ·simp only[M]
      refine .inr (.inr ⟨e,none,me,some ⟨g,0,none⟩,c,rfl,by rw[List.length_append],by rw[List.length_append];exact rp,fun h hh=>(by cases hh),.inr ⟨g,(putCells cur.toList (xs.length*t.size) news).toArray,join tP xs.length IZ τ,rfl,.inl qv,setRow_heap w g cur _ e (0,0) hw,?_,hcm,fun j hj=>?_⟩⟩)
      ·rw[List.size_toArray,gW _ _ _ (by omega),jq,gH]
      ·have b5:aU w (w.setRow g (putCells cur.toList (xs.length*t.size) news).toArray) A (fun g=>A g∨w.heap.size≤g):=⟨fun k hk _=>fP k (fun e'=>hk (by rw[e'];exact hxA g qv)),fun k hk hx=>hx.resolve_right (by omega)⟩
       rw[List.toList_toArray]
       have htl:(cur.toList.take (xs.length*t.size)).length=xs.length*t.size:=by rw[List.length_take];omega
       have aan:putCells cur.toList (xs.length*t.size) news=cur.toList.take (xs.length*t.size)++(news++cur.toList.drop (xs.length*t.size+news.length)):=by unfold putCells;rw[List.append_assoc]
       rcases Nat.lt_or_ge j xs.length with hjx |hjx
       ·have gE:((putCells cur.toList (xs.length*t.size) news).drop (j*t.size)).take t.size=(cur.toList.drop (j*t.size)).take t.size:=by rw[aan,xp htl hjx,nY hjx]
        rw[List.getElem_append_left hjx,gE]
        refine aK b5 t (fun k hk hl=>fP k hk.2.1) (fun k hk hl=>⟨.inl hk.1,hk.2.1,?_⟩) (fun _ h=>h) (uy j hjx)
        rw[Nh (adN k hk.1)]
        exact hk.2.2
       ·have hjy:j - xs.length<ys.length:=by rw[List.length_append] at hj;omega
        rw[List.getElem_append_right hjx]
        have e1:=HT (olds:=cur.toList.take (xs.length*t.size)) (news:=news++cur.toList.drop (xs.length*t.size+news.length)) (s:=t.size) (n:=xs.length) (j:=j - xs.length) htl
        rw[show xs.length+(j - xs.length)=j from by omega,xp hnl hjy] at e1
        rw[←aan] at e1
        rw[e1]
        have hgN:∀ k,tP k→k≠g:=fun k hk e'=>adN g qv (by rw[←e'];exact hk)
        refine aK b5 t (fun k hk hl=>fP k (hgN k hk.1)) (fun k hk hl=>⟨.inr hk.1,hgN k hk.1,?_⟩) (fun _ h=>by simp at h) (hN (j - xs.length) hjy)
        rw[WW hk.1,hk.2]
        omega
     ·rw[setRow_size]
      rcases hk with hk |hk
      ·exact⟨hlx k hk,.inl hk⟩
      ·exact⟨hlN k hk,.inr (.inl hk)⟩
    ·refine grown (some ⟨g,0,none⟩) c (cur.toList.take (xs.length*t.size)) (fun k=>ET k∧k≠g) τ e2 (by omega) (by rw[List.length_take];omega) ?_ (fun k hk=>hk.1) (fun k hk=>?_)
     ·rw[e2,iD]
      refine run_firstCells_some w.drew _ _ ⟨g,0,none⟩ _ _ _ (by rw[List.length_take];omega) (fun j u hu=>?_)
      rw[iO]
      have hj:j<xs.length*t.size:=by
       have:=(List.getElem?_eq_some_iff.1 hu).1
       rw[List.length_take] at this
       omega
      rw[List.getElem?_take,if_pos hj] at hu
      have G7:w.drew.heap[g]?=some (.cells cur e (0,0)):=hw
      simp only[World.cell?,G7,Nat.zero_add]
      rw[←Array.getElem?_toList]
      exact hu
     ·rw[nY hk]
      exact aK (aU.refl _ _) t (fun _ _ _=>rfl) (fun g' bp _=>⟨⟨bp.1,bp.2.1⟩,bp.2.2⟩) (fun _ h=>h) (uy k hk)
end Go.Pv
namespace Go.Pv
set_option linter.unusedVariables false
set_option linter.unusedSimpArgs false
variable {P:Program} {w w':World} {A A' Wr:Nat→Prop} {H:Nat→Value} {tm qP:Nat→Value} {S S' S1:St} {σ bO dQ:Nat→Option Nat} {w0:World} {W0 Z:Nat→Prop} {a:Act} {own:Nat→Prop} {v:Value} {Θ:de} {dst:Option Nat}
def KS (w:World) (A:Nat→Prop) (t:Ty) (xs:List t.I) (cs:List Value):Prop:=
 ∃ X c,cs=[.slice X xs.length c]∧xs.length≤c∧(0<xs.length→∃ g off cur T fr,X=some ⟨g,off,none⟩∧w.heap[g]?=some (.cells cur T fr)∧off+xs.length*t.size≤cur.size∧∀ j (h:j<xs.length),K w A t xs[j] ((cur.toList.drop (off+j*t.size)).take t.size))
theorem auD {t:Ty} {m:Md} {xs:List t.I} {cs:List Value} {ow:Nat→Prop} (hk:m.Hq.bP=true) (h:M w A H (.sl t) m xs cs ow []):KS w A t xs cs:=by
 simp only[M] at h
 rcases h with⟨hn,_⟩ |⟨_,h⟩ |⟨T,tag,me,X,c,rfl,rfl,hc,ht,h⟩
 ·simp at hn
 ·simp only[K] at h
  obtain⟨X,c,rfl,hc,h⟩:=h
  refine⟨X,c,rfl,hc,fun hp=>?_⟩
  obtain⟨g,off,cur,T,fr,h1,_,h2,h3,h4⟩:=h hp
  exact⟨g,off,cur,T,fr,h1,h2,h3,h4⟩
 ·refine⟨X,c,rfl,hc,fun hp=>?_⟩
  rcases h with⟨rfl,_⟩ |⟨g,cur,τ,rfl,qv,hw,iD,hm,h⟩
  ·simp at hp
  ·refine⟨g,0,cur,T,(0,0),rfl,hw,?_,fun j hj=>?_⟩
   ·have:=Nat.mul_le_mul_right t.size hc
    omega
   ·rw[Nat.zero_add]
    exact fv t hk (h j hj)
theorem auE {t:Ty} {xs:List t.I} {X:Option Addr} {c lo hi:Nat} (h:KS w A t xs [.slice X xs.length c]) (h1:lo≤hi) (h2:hi≤xs.length):
  KS w A t ((xs.take hi).drop lo) [.slice (if c=lo then X else X.map (·.add (lo*t.size))) (hi - lo) (c - lo)]:=by
 obtain⟨X',c',e,hc,h⟩:=h
 simp only[List.cons.injEq,Value.slice.injEq,and_true,true_and] at e
 obtain⟨rfl,rfl⟩:=e
 have hl:((xs.take hi).drop lo).length=hi - lo:=by rw[List.length_drop,List.length_take];omega
 refine⟨_,_,by rw[hl],by omega,fun hp=>?_⟩
 rw[hl] at hp
 obtain⟨g,off,cur,T,fr,rfl,hw,ho,hj⟩:=h (by omega)
 have e1:(lo+(hi - lo))*t.size≤xs.length*t.size:=Nat.mul_le_mul_right _ (by omega)
 rw[Nat.add_mul] at e1
 refine⟨g,off+lo*t.size,cur,T,fr,?_,hw,by rw[hl];omega,fun j G2=>?_⟩
 rotate_left
 ·have oH:j<hi - lo:=by rw[←hl];exact G2
  have:=hj (lo+j) (by omega)
  rw[show((xs.take hi).drop lo)[j]=xs[lo+j]'(by omega) from by simp]
  rw[show off+lo*t.size+j*t.size=off+(lo+j)*t.size from by rw[Nat.add_mul];omega]
  exact this
 ·rw[if_neg (by omega)]
  simp only[Option.map_some,iO]
theorem Ni (h:a7 σ w0 W0 Z H S a w) {av:AV} {t:Ty} {m:Md} {ys:List t.I} (hh:Holds w (Av σ Z) H (b9 a) S own av v) (e:S.sy av=some ⟨.sl t,m,ys⟩) (hk:m.Hq.bP=true):
  KS w (Av σ Z) t ys [v]:=by
 cases av with
 |v a ex=>
  cases ex with
  |cons _ _=>simp[St.sy] at e
  |nil=>
   simp only[St.sy,Option.some.injEq] at e
   subst e
   obtain⟨cs,h1,h2⟩:=hh
   have:cs=[v]:=by simpa[az,isAgg] using h1
   subst this
   exact auD hk h2
 |al t1 s p=>
  simp only[St.sy] at e
  obtain⟨r,cO,cs,hr,hc,hm⟩:=hh
  obtain⟨rfl,cE,k2,k3⟩:=da h hr hc e
  have:cs=[v]:=by simpa[az,isAgg] using hm
  subst this
  exact auD hk k3
 |cut t1 s p lo hi=>
  simp only[St.sy] at e
  obtain⟨r,cO,t',X,n,c,hr,rfl,hc,hlo,Et,rfl⟩:=hh
  cases hp:S.place s p with
  |none=>rw[hp] at e;cases e
  |some b'=>
   obtain⟨ht,cE,k2,k3⟩:=da h hr hc hp
   obtain⟨bt,bm,bx⟩:=b'
   simp only at ht
   subst ht
   rw[hp] at e
   simp only[Option.some.injEq] at e
   injection e with e1 e2 e3
   injection e1 with e1
   subst e1 e2
   simp only[heq_eq_eq] at e3
   subst e3
   have hK:=auD hk k3
   have hn:n=List.length bx:=by
    obtain⟨_,_,e,_⟩:=hK
    simp only[List.cons.injEq,Value.slice.injEq,and_true] at e
    exact e.2.1
   subst hn
   exact auE hK hlo Et
 |_=>simp[St.sy] at e
theorem nZ {s:Nat} {Q:Value→Prop} {l:List Value}:∀ (n:Nat),(∀ j,j<n→∀ u∈(l.drop (j*s)).take s,Q u)→∀ u∈l.take (n*s),Q u
 |0,_,u,hu=>by simp at hu
 |n+1,h,u,hu=>by
  rw[Nat.add_mul,Nat.one_mul,List.take_add] at hu
  rcases List.mem_append.1 hu with hu |hu
  ·exact nZ n (fun j hj=>h j (by omega)) u hu
  ·exact h n (by omega) u hu
theorem adQ {T' e':TypeId} {t:Ty} {ys:List t.I} {vy:Value} (hk:P.underlying T'=some (.slice e')) (h:KS w A t ys [vy]):
  ∃ news,Src P t.size T' vy ys.length news w∧∀ (k:Nat) (hk:k<ys.length),K w A t ys[k] ((news.drop (k*t.size)).take t.size):=by
 obtain⟨X,c,e,hc,h⟩:=h
 simp only[List.cons.injEq,and_true] at e
 obtain⟨news,h1,h2⟩:=R9 (P:=P) (w:=w) (t:=t) (ys:=ys) (vy:=vy) hk rfl ⟨X,c,e,fun hp=>by
  obtain⟨g,off,cur,T,fr,rfl,hw,hb,hj⟩:=h hp
  refine⟨g,off,cur,T,fr,rfl,hw,hb,nZ _ fun j G2 u hu=>?_⟩
  rw[List.drop_drop] at hu
  exact(kK t (hj j G2)).2 u hu⟩
 refine⟨news,h1,fun k hk=>?_⟩
 obtain⟨g,off,cur,T,fr,rfl,hw,hb,hj⟩:=h (by omega)
 rw[h2 g off cur T fr _ c e rfl hw (by omega),nY hk,List.drop_drop]
 exact hj k hk
theorem uA (hT:cP P Θ=true) {T0:TypeId} {i:TI} (hi:Θ.find T0=some i) {t:Ty} (fh:i.ty=.sl t) {o:Oper} {x y:Operand} {T':TypeId} {tag:Option Nat} {me:Md} {xs ys:List t.I} {ET tP:Nat→Prop} {IZ:Nat→Nat} {news:List Value} {n:Nat}
  (ho:o.op=.call { callee:=.builtin .append,args:=#[x,y],argTypes:=#[T0,T'] })
  (h2:a7 dQ w0 W0 Z H S1 a w) (hS1:S1.length=n) (hA:A=Av dQ Z)
  (hx:M w A H (.sl t) (.o i.e tag me) xs [a.eval x] ET []) (rn:Src P t.size T' (a.eval y) ys.length news w)
  (hN:∀ (k:Nat) (hk:k<ys.length),M w A H t me ys[k] ((news.drop (k*t.size)).take t.size) (fun g=>tP g∧IZ g=k) [])
  (adN:∀ g,ET g→¬tP g) (xo:∀ g,ET g∨tP g→∃ i,n≤i∧dQ g=some i) (I0:(xs.length+ys.length)*t.size≤4398046511104):
  IT P w0 W0 Z H (S1.put o.dst (.v ⟨.sl t,.o i.e none me,xs++ys⟩ [])) a o.dst w (execOp a.eval o):=by
 subst hA hS1
 obtain⟨_,hu,hT0⟩:=cT hT hi
 obtain⟨u1,u2,u3⟩:=kP hu fh
 rw[hT0] at u1
 obtain⟨i2,mI,ht2⟩:=dN u2
 obtain⟨⟨sm,inf,z,k1,k2,kb,_,_,k3,k4⟩,_,hte⟩:=cT hT mI
 rw[hte] at k1
 rw[ht2] at k2 k4 kb
 have cR:∀ g,ET g∨tP g→g<w.heap.size:=fun g hg=>by
  obtain⟨i,_,hi⟩:=xo g hg
  exact h2.lt g i hi
 have Nf:z.cells.size=t.size:=by
  unfold az at k4
  split at k4
  ·rw[k4,Value.cells,List.size_toArray,lZ]
  ·rename_i RS
   have hl:=lZ t
   rw[k4] at hl
   have hv:∀ (t:Ty),∀ u∈zc t,u.oneCell'=true:=by
    intro t
    induction t with
    |pair a b iha ihb=>intro u hu;simp only[zc,List.mem_append] at hu;rcases hu with hu |hu;exact iha u hu;exact ihb u hu
    |arr n t ih=>intro u hu;simp only[zc,List.mem_flatten] at hu;obtain⟨c,hc,hu⟩:=hu;rw[List.eq_of_mem_replicate hc] at hu;exact ih u hu
    |unit=>intro u hu;simp[zc] at hu
    |_=>intro u hu;simp only[zc,List.mem_singleton] at hu;subst hu;rfl
   have h1:=hv t z (by rw[k4];simp)
   have:z.cells=#[z]:=by cases z<;>first |rfl |simp[Value.oneCell'] at h1
   rw[this]
   simpa using hl
 obtain⟨v',w',cE,r1,r2,r3,r4,r5,r6,r7,r8⟩:=xq (ty:=o.type) hT u1 k1 k3 k2 kb Nf u3 hx rn hN adN (fun g hg=>by
  obtain⟨i,_,hi⟩:=xo g (.inl hg)
  exact .inl ⟨i,hi⟩) (fun g hg=>cR g (.inl hg)) (fun g hg=>cR g (.inr hg)) I0
 refine⟨w',v',.inl ?_,_,h2.asT (b:=⟨.sl t,.o i.e none me,xs++ys⟩) (cs:=[v']) (ow:=cE) (A':=fun g=>Av dQ Z g∨w.heap.size≤g) r5 (fun g hg hn=>r3 g hg (fun hx=>?_)) ?_ (fun g hg=>?_) (fun g hg hx=>?_) (by simp[az,isAgg]) r2⟩
 ·simp[execOp,ho,resolve,invoke,builtin,r1]
 ·obtain⟨i,hi1,mI⟩:=xo g (.inl hx)
  exact hn i hi1 mI
 ·refine⟨by rw[r6];exact h2.fr.os,by rw[r7];exact h2.fr.tape,by rw[r8];exact h2.fr.output,Nat.le_trans h2.fr.size r5,fun g hg hn=>?_⟩
  rw[r3 g (by have:=h2.fr.size;omega) (fun hx=>?_)]
  ·exact h2.fr.block g hg hn
  ·obtain⟨i,_,hi⟩:=xo g (.inl hx)
   rcases h2.new g i hi with h1 |h1
   ·omega
   ·exact hn h1
 ·obtain⟨q1,q2⟩:=r4 g hg
  refine⟨q1,?_⟩
  rcases q2 with q2 |q2 |q2
  ·exact .inl (xo g (.inl q2))
  ·exact .inl (xo g (.inr q2))
  ·exact .inr q2
 ·rcases hx with hx |hx
  ·exact .inl hx
  ·rcases(r4 g hx).2 with q2 |q2 |q2
   ·obtain⟨i,_,hi⟩:=xo g (.inl q2)
    exact .inl (.inl ⟨i,hi⟩)
   ·obtain⟨i,_,hi⟩:=xo g (.inr q2)
    exact .inl (.inl ⟨i,hi⟩)
   ·exact .inr q2
theorem aap (hT:cP P Θ=true) (h:a7 σ w0 W0 Z H S a w) {o:Oper} {as:Array Operand} {ts:Array TypeId} (ho:o.op=.call { callee:=.builtin .append,args:=as,argTypes:=ts }) (e:cl Θ S o.dst ts.toList as.toList=some (true,S')):IT P w0 W0 Z H S' a o.dst w (execOp a.eval o):=by
 obtain⟨as⟩:=as
 obtain⟨ts⟩:=ts
 simp only at e
 unfold cl at e
 split at e
 case h_2=>cases e
 rename_i x y T T'
 split at e
 case h_2=>cases e
 rename_i t e0 tag me xs S1 i hb hi
 unfold St.take at hb
 split at hb
 case h_2=>cases hb
 rename_i av dA
 obtain⟨bO,cs,ow,h1,hm,hM,hk,hn⟩:=eD h dA hb
 cases hc:(decide (i.ty=.sl t)&&Nat.beq i.e e0&&Θ.is T' (.sl t)) with
 |false=>rw[hc] at e;cases e
 |true=>
 rw[hc] at e
 simp only[cond_true] at e
 simp only[Bool.and_eq_true,decide_eq_true_eq] at hc
 obtain⟨⟨fh,hee⟩,hT'⟩:=hc
 have hee:=Nat.eq_of_beq_eq_true hee
 subst hee
 have gH:cs=[a.eval x]:=by simpa[az,isAgg] using hm
 subst gH
 obtain⟨i',ML,adK⟩:=dN hT'
 obtain⟨_,sC,hT1⟩:=cT hT ML
 obtain⟨u1,_,_⟩:=kP sC adK
 rw[hT1] at u1
 have aA8:aU w w (Av σ Z) (Av bO Z):=⟨fun _ _ _=>rfl,fun g _ hg=>hk.Av.1 hg⟩
 cases hme:me.bP with
 |true=>
  rw[hme] at e
  simp only[cond_true] at e
  split at e
  case h_2=>cases e
  rename_i t' m' ys hy
  cases hmi:m'.Hq.bP with
  |false=>rw[hmi] at e;cases e
  |true=>
  rw[hmi] at e
  simp only[cond_true] at e
  split at e
  case isFalse=>cases e
  rename_i htt
  subst htt
  simp only[Option.some.injEq,Prod.mk.injEq,decide_eq_true_eq] at e
  obtain⟨I0,rfl⟩:=e
  unfold St.rd at hy
  split at hy
  case h_2=>cases hy
  rename_i av2 R6
  have hKS:=Ni h1 (bD h1 R6) hy hmi
  obtain⟨news,rn,uy⟩:=adQ (P:=P) u1 hKS
  refine uA (n:=S1.length) (A:=Av bO Z) (ET:=ow) (tP:=fun _=>False) (IZ:=fun _=>0) hT hi fh ho h1 rfl rfl (aK aA8 _ (fun _ _ _=>rfl) (fun _ h _=>h) (fun _ h=>h) hM) rn (fun k fW=>nG hme (uy k fW)) (fun _ _ h=>h) (fun g hg=>?_) I0
  rw[hn]
  exact hk.now g (hg.resolve_right id)
 |false=>
  rw[hme] at e
  simp only[cond_false] at e
  split at e
  case h_2=>cases e
  rename_i t' m' ys S2 hy
  split at e
  case isFalse=>cases e
  rename_i htt
  subst htt
  split at e
  case isFalse=>cases e
  rename_i hmi
  simp only[Option.some.injEq,Prod.mk.injEq,decide_eq_true_eq] at e
  obtain⟨I0,rfl⟩:=e
  unfold St.take at hy
  split at hy
  case h_2=>cases hy
  rename_i av2 R6
  obtain⟨dQ,cs2,oZ,h2,hm2,hM2,Rz,hn2⟩:=eD h1 R6 hy
  rw[hn] at Rz hn2
  have gH:cs2=[a.eval y]:=by simpa[az,isAgg] using hm2
  subst gH
  have auF:aU w w (Av bO Z) (Av dQ Z):=⟨fun _ _ _=>rfl,fun g _ hg=>Rz.Av.1 hg⟩
  have azw:M w (Av dQ Z) H (.sl t') m' ys [a.eval y] oZ []:=aK auF _ (fun _ _ _=>rfl) (fun _ h _=>h) (fun _ h=>h) hM2
  have hM':M w (Av dQ Z) H (.sl t') (.o i.e tag me) xs [a.eval x] ow []:=aK ⟨fun _ _ _=>rfl,fun g _ hg=>hk.Av.1 (Rz.Av.1 hg)⟩ _ (fun _ _ _=>rfl) (fun _ h _=>h) (fun _ h=>h) hM
  have xo:∀ g,ow g∨oZ g→∃ i,S.length≤i∧dQ g=some i:=fun g hg=>(hk.trans Rz).now g hg
  simp only[M] at azw
  rcases azw with⟨hn0,_⟩ |⟨hK,_⟩ |⟨T2,aam,me2,X,c,rfl,e2,hle,akp,uy⟩
  ·simp at hn0
  ·rw[←hmi] at hme
   rw[oN hK] at hme
   cases hme
  ·simp only[Md.Hq] at hmi
   subst hmi
   simp only[List.cons.injEq,and_true] at e2
   have rn:∃ (tP:Nat→Prop) (IZ:Nat→Nat) (news:List Value),Src P t'.size T' (a.eval y) ys.length news w∧(∀ g,tP g→oZ g)∧
     ∀ (k:Nat) (hk:k<ys.length),M w (Av dQ Z) H t' me2 ys[k] ((news.drop (k*t'.size)).take t'.size) (fun g=>tP g∧IZ g=k) []:=by
    rcases uy with⟨hys,_⟩ |⟨g,cur,τ,hX,qv,hw,iD,azv,uy⟩
    ·subst hys
     obtain⟨news,s1,_⟩:=R9 (P:=P) (w:=w) (t:=t') (ys:=([]:List t'.I)) (vy:=a.eval y) u1 rfl ⟨X,c,e2,fun hp=>by simp at hp⟩
     exact⟨fun _=>False,fun _=>0,news,s1,fun _ h=>h.elim,fun k hk=>by simp at hk⟩
    ·subst hX
     have jq:cur.toList.length=cur.size:=Array.length_toList
     have hb:=Nat.mul_le_mul_right t'.size hle
     obtain⟨news,s1,s2⟩:=R9 (P:=P) (w:=w) (t:=t') (ys:=ys) (vy:=a.eval y) u1 rfl ⟨some ⟨g,0,none⟩,c,e2,fun hp=>⟨g,0,cur,T2,(0,0),rfl,hw,by omega,nZ _ fun j hj u hu=>by
      rw[List.drop_zero] at hu
      exact(er t' (uy j hj)).2 u hu⟩⟩
     refine⟨fun g'=>oZ g'∧g'≠g,τ,news,s1,fun _ h=>h.1,fun k hk=>?_⟩
     rw[s2 g 0 cur T2 (0,0) _ c e2 rfl hw (by omega),nY hk,List.drop_zero]
     exact aK (aU.refl _ _) t' (fun _ _ _=>rfl) (fun g' bp _=>⟨⟨bp.1,bp.2.1⟩,bp.2.2⟩) (fun _ h=>h) (uy k hk)
   obtain⟨tP,IZ,news,s1,s2,s3⟩:=rn
   exact uA (n:=S.length) (A:=Av dQ Z) (ET:=ow) (tP:=tP) (IZ:=IZ) hT hi fh ho h2 hn2 rfl hM' s1 s3 (fun g hg qK=>hk.apart Rz hg (s2 g qK)) (fun g hg=>xo g (hg.imp id (s2 g))) I0
end Go.Pv
namespace Go.Pv
set_option linter.unusedVariables false
set_option linter.unusedSimpArgs false
variable {P:Program} {w w':World} {A A' Wr:Nat→Prop} {H:Nat→Value} {tm qP:Nat→Value} {S S' S1:St} {σ bO:Nat→Option Nat} {w0:World} {W0 Z:Nat→Prop} {a:Act} {own:Nat→Prop} {v:Value} {Θ:de} {dst:Option Nat}
theorem EU {p:Path} {ex:List Path} (h:∀ q∈ex,oI q p=false):wX p ex=[]:=by
 have key:∀ (p r:Path),oI (p++r) p=true:=by
  intro p
  induction p with
  |nil=>intro r;cases r<;>rfl
  |cons a p ih=>intro r;cases a<;>simp[oI,ih]
 apply List.eq_nil_iff_forall_not_mem.2
 intro q hq
 have:=h _ (Ea.1 hq)
 rw[key] at this
 cases this
theorem rq (h:a7 σ w0 W0 Z H S a w) {vv:Value} {t:Ty} {s:Nat} {p:Path} (hpc:p≠[]) {r:TV} {ex:List Path} {b:TV} (hh:Holds w (Av σ Z) H (b9 a) S own (.al t s p) vv) (hs:S.at s=.v r ex) (hg:bd p r.t r.m r.x=some b) (hk:b.m.bP=false) (jq:∀ q∈ex,oI q p=false):
  ∃ bO cs ow,a7 bO w0 W0 Z H (((S.weaken s).cover s p).set s (.v r (ex++[p]))) a w∧az b.t vv cs∧M w (Av bO Z) H b.t b.m b.x cs ow []∧fU σ bO S.length ow∧(((S.weaken s).cover s p).set s (.v r (ex++[p]))).length=S.length:=by
 obtain⟨r0,cO,cs,hr,hc,hm⟩:=hh
 obtain⟨ex0,b2,cM,ow0,j1,j2,j3,j4,hM,j5,j6,j7⟩:=fF h hr
 rw[hs] at j1
 injection j1 with j1 j1'
 subst j1 j1'
 have j1:=hs
 rw[hg] at j3
 injection j3 with j3
 subst j3
 have j3:=hg
 obtain⟨cs2,cE,k1,k2,k3,k4⟩:=HP p hM j2 hr.val j3 hk
 rw[hc] at k1
 injection k1 with k1
 subst k1
 rw[EU jq] at k3
 -- the ownership without what is taken
 have adB:s<S.length:=ee (by rw[j1];exact fun e=>by cases e)
 let bO:Nat→Option Nat:=fun g=>open Classical in if cE g then some S.length else σ g
 have EM:∀ g i,bO g=some i→∃ k,σ g=some k:=by
  intro g i hg
  simp only[bO] at hg
  split at hg
  ·exact⟨s,k2 g (by assumption)⟩
  ·exact⟨i,hg⟩
 have EN:∀ g i,σ g=some i→¬cE g→bO g=some i:=by
  intro g i hg hn
  simp only[bO,if_neg hn,hg]
 have b5:aU w w (Av σ Z) (Av bO Z):=⟨fun _ _ _=>rfl,fun g _ hg=>by
  rcases hg with⟨i,hg⟩ |hg
  ·exact .inl (EM g i hg)
  ·exact .inr hg⟩
 have adC:fU σ bO S.length cE:=by
  refine⟨fun g hg=>⟨s,adB,k2 g hg⟩,fun g hg=>⟨_,Nat.le_refl _,by simp only[bO,if_pos hg]⟩,fun g i hg hi=>?_,fun g=>⟨fun⟨i,hg⟩=>EM g i hg,fun⟨i,hg⟩=>?_⟩,fun g i hg hi=>EN g i hg (fun hx=>?_)⟩
  ·simp only[bO] at hg
   split at hg
   ·injection hg with hg;omega
   ·exact hg
  ·simp only[bO]
   split
   ·exact⟨_,rfl⟩
   ·exact⟨i,hg⟩
  ·have:=k2 g hx
   rw[hg] at this
   injection this with this
   omega
 refine⟨bO,cs,cE,?_,by rw[j4];exact hm,aK b5 _ (fun _ _ _=>rfl) (fun _ h _=>h) (fun _ h=>h) k3,adC,by simp[St.weaken,St.cover]⟩
 have hlen:((S.weaken s).cover s p).length=S.length:=by simp[St.weaken,St.cover]
 have G5:s<S.length:=by
  rcases Nat.lt_or_ge s S.length with hl |hl
  ·exact hl
  ·unfold St.at at j1
   rw[List.getD_eq_getElem?_getD,List.getElem?_eq_none hl] at j1
   cases j1
 have Ax:St.at (((S.weaken s).cover s p).set s (.v r (ex++[p]))) s=.v r (ex++[p]):=by rw[cS,if_pos ⟨rfl,by rw[hlen];exact G5⟩]
 have kM:∀ i,i≠s→St.at (((S.weaken s).cover s p).set s (.v r (ex++[p]))) i=(match (bif (S.at i).eL s then AV.dead else S.at i) with
   | .ad t s' q=>bif Nat.beq s' s&&under p q then .dead else .ad t s' q
   |a=>a):=by
  intro i hi
  rw[cS,if_neg (fun e=>hi e.1),EL,jH]
  try (cases (bif AV.eL s (S.at i) then AV.dead else S.at i)<;>rfl)
 refine⟨by simp only[List.length_set,hlen];exact h.len,h.defers,h.fr,fun g i hg=>(EM g i hg).elim fun k hk=>h.new g k hk,fun g i hg=>(EM g i hg).elim fun k hk=>h.lt g k hk,fun g hg=>⟨?_,(h.old g hg).2⟩,fun i=>?_⟩
 ·simp only[bO]
  split
  ·rename_i hx
   have:=k2 g hx
   rw[(h.old g hg).1] at this
   cases this
  ·exact(h.old g hg).1
 ·by_cases RA:i=s
  ·subst RA
   rw[Ax]
   exact⟨cO,hr.mat,aK b5 _ (fun _ _ _=>rfl) (fun g hg _=>EN g _ hg.1 hg.2) (fun _ h=>h) k4⟩
  ·rw[kM i RA]
   cases qx:(S.at i).eL s with
   |true=>trivial
   |false=>
    simp only[cond_false]
    have hi:=h.holds i
    have base:Holds w (Av bO Z) H (b9 a) S (fun g=>bO g=some i) (S.at i) (b9 a i):=
     hi.kept b5 (fun g hg _=>⟨rfl,EN g i hg (fun hx=>RA (by have:=k2 g hx;rw[hg] at this;injection this))⟩) (fun s' _=>⟨fun _ _ h=>h,rfl,_,h.holds s',fun _ _ _=>rfl⟩)
    have hSv:∀ j r' DB,j≠s→S.at j=.v r' DB→St.at (((S.weaken s).cover s p).set s (.v r (ex++[p]))) j=.v r' DB:=by
     intro j r' DB hj hv
     rw[kM j hj,hv]
     simp[AV.eL]
    cases fb:S.at i with
    |v b3 ex3=>
     rw[fb] at base
     obtain⟨c3,l1,l2⟩:=base
     exact⟨c3,l1,l2⟩
    |tz l=>
     rw[fb] at base
     exact base
    |ad t' s' q=>
     rw[fb] at base qx
     simp only
     cases auu:(Nat.beq s' s&&under p q) with
     |true=>trivial
     |false=>
      simp only[cond_false]
      refine gf j1 hSv Ax qx (fun t2 q2 e2=>?_) base (fun _ _ e=>by cases e) (fun _ e=>by cases e)
      injection e2 with _ e3 e4
      subst e3 e4
      simpa using auu
    |dead=>trivial
    |undef=>rw[fb] at base;exact base
    |al t' s' q=>
     rw[fb] at base qx
     exact gf j1 hSv Ax qx (fun t2 q2 e2=>by cases e2) base (fun _ _ e=>by cases e) (fun _ e=>by cases e)
    |cut t' s' q lo ML=>
     rw[fb] at base qx
     exact gf j1 hSv Ax qx (fun t2 q2 e2=>by cases e2) base (fun _ _ e=>by cases e) (fun _ e=>by cases e)
    |ld f cy=>
     rw[fb] at base qx
     exact gf j1 hSv Ax qx (fun t2 q2 e2=>by cases e2) base (fun _ _ e=>by cases e) (fun _ e=>by cases e)
theorem Sb (h:a7 σ w0 W0 Z H S a w) {x:Operand} {t:Ty} {s:Nat} {p:Path} (hpc:p≠[]) {r:TV} {ex:List Path} {b:TV} (hh:Holds w (Av σ Z) H (b9 a) S own (.al t s p) (a.eval x)) (hs:S.at s=.v r ex) (hg:bd p r.t r.m r.x=some b) (hk:b.m.bP=false) (jq:∀ q∈ex,oI q p=false):
  ∃ bO cs ow,a7 bO w0 W0 Z H (((S.weaken s).cover s p).set s (.v r (ex++[p]))) a w∧az b.t (a.eval x) cs∧M w (Av bO Z) H b.t b.m b.x cs ow []∧fU σ bO S.length ow∧(((S.weaken s).cover s p).set s (.v r (ex++[p]))).length=S.length:=rq h hpc hh hs hg hk jq
theorem Sc (hT:cP P Θ=true) (h:a7 σ w0 W0 Z H S a w) {o:Oper} {as:Array Operand} {ts:Array TypeId} (ho:o.op=.call { callee:=.builtin .append,args:=as,argTypes:=ts }) (e:fE Θ S o.dst ts.toList as.toList=some (true,S')):IT P w0 W0 Z H S' a o.dst w (execOp a.eval o):=by
 obtain⟨as⟩:=as
 obtain⟨ts⟩:=ts
 simp only at e
 unfold fE at e
 split at e
 case h_2=>cases e
 rename_i x y T T'
 split at e
 case h_2=>cases e
 rename_i tt s st pp dA
 split at e
 case h_2=>cases e
 rename_i r ex hs
 split at e
 case h_2=>cases e
 rename_i t e0 tag me xs i hg hi
 cases hc:(decide (i.ty=.sl t)&&Nat.beq i.e e0&&Θ.is T' (.sl t)&&me.bP) with
 |false=>rw[hc] at e;cases e
 |true=>
 rw[hc] at e
 simp only[cond_true] at e
 simp only[Bool.and_eq_true,decide_eq_true_eq] at hc
 obtain⟨⟨⟨fh,hee⟩,hT'⟩,hme⟩:=hc
 have hee:=Nat.eq_of_beq_eq_true hee
 subst hee
 split at e
 case h_2=>cases e
 rename_i t' m' ys hy
 cases hmi:m'.Hq.bP with
 |false=>rw[hmi] at e;cases e
 |true=>
 rw[hmi] at e
 simp only[cond_true] at e
 split at e
 case isFalse=>cases e
 rename_i htt
 subst htt
 simp only[Option.some.injEq,Prod.mk.injEq,Bool.and_eq_true,decide_eq_true_eq] at e
 obtain⟨⟨jq,I0⟩,rfl⟩:=e
 obtain⟨bO,cs,ow,h1,hm,hM,hk,hn⟩:=Sb (x:=x) h (by simp) (bD h dA) hs hg (by simp[Md.bP]) (fun q hq=>by simpa using List.all_eq_true.1 jq q hq)
 have gH:cs=[a.eval x]:=by simpa[az,isAgg] using hm
 subst gH
 obtain⟨i',ML,adK⟩:=dN hT'
 obtain⟨_,sC,hT1⟩:=cT hT ML
 obtain⟨u1,_,_⟩:=kP sC adK
 rw[hT1] at u1
 unfold St.rd at hy
 split at hy
 case h_2=>cases hy
 rename_i av2 R6
 have hKS:=Ni h1 (bD h1 R6) hy hmi
 obtain⟨news,rn,uy⟩:=adQ (P:=P) u1 hKS
 refine uA (n:=S.length) (A:=Av bO Z) (ET:=ow) (tP:=fun _=>False) (IZ:=fun _=>0) hT hi fh ho h1 hn rfl hM rn (fun k fW=>nG hme (uy k fW)) (fun _ _ h=>h) (fun g hg=>?_) I0
 exact hk.now g (hg.resolve_right id)
end Go.Pv
