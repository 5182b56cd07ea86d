/- A verified evaluator of the program's form over pure values, part 2: what it tells of a function holds. -/
import Derived.Test.YtcpakhaogbempaaGreatPv1
import Derived.Deep.AppendSrc
import Derived.Deep.Upon
import Derived.Laws.Cells
import Derived.Laws.CopyRow
import Derived.Laws.MakeOwn
import Derived.Laws.OwnMore
import Derived.Laws.Tables
import Derived.Maps.AppendAt
namespace Go.Pv
set_option linter.unusedVariables false
set_option linter.unusedSimpArgs false
variable {P:Program} {w w':World} {A A':Nat→Prop} {H:Nat→Value} {tm rH:Nat→Value} {S S':St} {σ:Nat→Option Nat} {w0:World} {W0 Z:Nat→Prop} {a:Act} {own:Nat→Prop} {v:Value} {Θ:dq} {dst:Option Nat}
theorem fw:∀ (p q:Path) (t:Ty) (m:Md) (x:t.I),aX (p++q) t m x=(aX p t m x).bind fun b=>aX q b.t b.m b.x
 |[],q,t,m,x=>rfl
 | .deref::p,q,t,m,x=>by cases t<;>simp only[List.cons_append,aX,Option.bind_none]<;>exact fw p q _ _ _
 | .fst::p,q,t,m,x=>by cases t<;>simp only[List.cons_append,aX,Option.bind_none]<;>exact fw p q _ _ _
 | .snd::p,q,t,m,x=>by cases t<;>simp only[List.cons_append,aX,Option.bind_none]<;>exact fw p q _ _ _
 | .idx i::p,q,t,m,x=>by cases t<;>simp only[List.cons_append,aX,Option.bind_none]<;>exact fw p q _ _ _
theorem fI:∀ (p q:Path) {t:Ty} {m:Md} {x:t.I} {b:TV},aX p t m x=some b→valid p t x→valid q b.t b.x→valid (p++q) t x
 |[],q,t,m,x,b,hg,_,h=>by simp only[aX,Option.some.injEq] at hg;subst hg;exact h
 | .deref::p,q,.ptr t,m,x,b,hg,h1,h2=>by simp only[aX] at hg;simp only[valid] at h1;simp only[List.cons_append,valid];exact fI p q hg h1 h2
 | .fst::p,q,.pair _ _,m,x,b,hg,h1,h2=>by simp only[aX] at hg;simp only[valid] at h1;simp only[List.cons_append,valid];exact fI p q hg h1 h2
 | .snd::p,q,.pair _ _,m,x,b,hg,h1,h2=>by simp only[aX] at hg;simp only[valid] at h1;simp only[List.cons_append,valid];exact fI p q hg h1 h2
 | .idx i::p,q,.sl t,m,x,b,hg,h1,h2=>by simp only[aX] at hg;simp only[valid] at h1;simp only[List.cons_append,valid];exact⟨h1.1,fI p q hg h1.2 h2⟩
theorem Cd (cs:List Value):(∃ g off,cs=[.pointer (some ⟨g,off,none⟩)])∨((∀ (w:World) (p:Path) (t:Ty),aN w (.deref::p) (.ptr t) cs=none)∧∀ (w:World) (p:Path) (t:Ty) (l:Option (Nat×Nat)),addrAt w (.deref::p) (.ptr t) cs l=none):=by
 rcases cs with _ |⟨v,_ |⟨_,_⟩⟩
 ·exact .inr ⟨fun _ _ _=>rfl,fun _ _ _ _=>rfl⟩
 ·cases v<;>try exact .inr ⟨fun _ _ _=>rfl,fun _ _ _ _=>rfl⟩
  rename_i x
  rcases x with _ |⟨g,off,_ |_⟩
  ·exact .inr ⟨fun _ _ _=>rfl,fun _ _ _ _=>rfl⟩
  ·exact .inl ⟨g,off,rfl⟩
  ·exact .inr ⟨fun _ _ _=>rfl,fun _ _ _ _=>rfl⟩
 ·cases v<;>try exact .inr ⟨fun _ _ _=>rfl,fun _ _ _ _=>rfl⟩
  rename_i x
  rcases x with _ |⟨g,off,_ |_⟩<;>exact .inr ⟨fun _ _ _=>rfl,fun _ _ _ _=>rfl⟩
theorem HM (cs:List Value):(∃ g off n c,cs=[.slice (some ⟨g,off,none⟩) n c])∨((∀ (w:World) (i:Nat) (p:Path) (t:Ty),aN w (.idx i::p) (.sl t) cs=none)∧∀ (w:World) (i:Nat) (p:Path) (t:Ty) (l:Option (Nat×Nat)),addrAt w (.idx i::p) (.sl t) cs l=none):=by
 rcases cs with _ |⟨v,_ |⟨_,_⟩⟩
 ·exact .inr ⟨fun _ _ _ _=>rfl,fun _ _ _ _ _=>rfl⟩
 ·cases v<;>try exact .inr ⟨fun _ _ _ _=>rfl,fun _ _ _ _ _=>rfl⟩
  rename_i x n c
  rcases x with _ |⟨g,off,_ |_⟩
  ·exact .inr ⟨fun _ _ _ _=>rfl,fun _ _ _ _ _=>rfl⟩
  ·exact .inl ⟨g,off,n,c,rfl⟩
  ·exact .inr ⟨fun _ _ _ _=>rfl,fun _ _ _ _ _=>rfl⟩
 ·cases v<;>try exact .inr ⟨fun _ _ _ _=>rfl,fun _ _ _ _ _=>rfl⟩
  rename_i x n c
  rcases x with _ |⟨g,off,_ |_⟩<;>exact .inr ⟨fun _ _ _ _=>rfl,fun _ _ _ _ _=>rfl⟩
theorem fJ:∀ (p q:Path) {t:Ty} {m:Md} {x:t.I} {b:TV} (cs:List Value) (l:Option (Nat×Nat)),aX p t m x=some b→
  aN w (p++q) t cs=(aN w p t cs).bind (aN w q b.t)∧addrAt w (p++q) t cs l=(aN w p t cs).bind fun c=>addrAt w q b.t c (addrAt w p t cs l)
 |[],q,t,m,x,b,cs,l,hg=>by simp only[aX,Option.some.injEq] at hg;subst hg;exact⟨rfl,rfl⟩
 | .fst::p,q,.pair a' b',m,x,b,cs,l,hg=>by simp only[aX] at hg;simp only[List.cons_append,aN,addrAt];exact fJ p q _ _ hg
 | .snd::p,q,.pair a' b',m,x,b,cs,l,hg=>by simp only[aX] at hg;simp only[List.cons_append,aN,addrAt];exact fJ p q _ _ hg
 | .deref::p,q,.ptr t,m,x,b,cs,l,hg=>by
  simp only[aX] at hg
  have ih:=fun c l'=>fJ p q c l' hg
  rw[List.cons_append]
  rcases Cd cs with⟨g,off,rfl⟩ |⟨h1,h2⟩
  ·simp only[aN,addrAt]
   cases hr:rowAt w g off t.size with
   |none=>simp
   |some c=>simp only[Option.bind_some];exact ih c _
  ·simp only[h1,h2,Option.bind_none,and_self]
 | .idx i::p,q,.sl t,m,x,b,cs,l,hg=>by
  simp only[aX] at hg
  have ih:=fun c l'=>fJ p q c l' hg
  rw[List.cons_append]
  rcases HM cs with⟨g,off,n,c,rfl⟩ |⟨h1,h2⟩
  ·simp only[aN,addrAt]
   cases hr:rowAt w g (off+i*t.size) t.size with
   |none=>simp
   |some c=>simp only[Option.bind_some];exact ih c _
  ·simp only[h1,h2,Option.bind_none,and_self]
theorem oI {g off n:Nat} {cs:List Value} (h:rowAt w g off n=some cs):cs.length=n∧∃ cur T fr,w.heap[g]?=some (.cells cur T fr)∧off+n≤cur.size∧cs=(cur.toList.drop off).take n:=by
 unfold rowAt at h
 split at h
 ·rename_i cur T fr hw
  split at h
  ·rename_i hl
   injection h with h
   subst h
   refine⟨by simp;omega,cur,T,fr,hw,hl,rfl⟩
  ·cases h
 ·cases h
theorem Es {g off n a b:Nat} {cs:List Value} (h:rowAt w g off n=some cs) (nz:a+b≤n):rowAt w g (off+a) b=some ((cs.drop a).take b):=by
 obtain⟨_,cur,T,fr,hw,hl,rfl⟩:=oI h
 rw[bh hw (by omega),List.drop_take,List.take_take,List.drop_drop,Nat.min_eq_left (by omega)]
theorem rZ:∀ (p:Path) {t:Ty} {m:Md} {x:t.I} {b:TV} {cs cJ:List Value} {l:Option (Nat×Nat)} {g off:Nat},aX p t m x=some b→cs.length=t.size→(∀ g o,l=some (g,o)→rowAt w g o t.size=some cs)→
  aN w p t cs=some cJ→addrAt w p t cs l=some (g,off)→rowAt w g off b.t.size=some cJ
 |[],t,m,x,b,cs,cJ,l,g,off,hg,hl,hr,hc,ha=>by
  simp only[aX,Option.some.injEq] at hg;subst hg
  simp only[aN,Option.some.injEq] at hc;subst hc
  exact hr g off ha
 | .fst::p,.pair a' b',m,x,b,cs,cJ,l,g,off,hg,hl,hr,hc,ha=>by
  simp only[aX] at hg;simp only[aN] at hc;simp only[addrAt] at ha;simp only[Ty.size] at hl hr
  refine rZ p hg (by rw[List.length_take];omega) (fun g o e=>?_) hc ha
  have:=Es (a:=0) (b:=a'.size) (hr g o e) (by omega)
  rw[Nat.add_zero,List.drop_zero] at this
  exact this
 | .snd::p,.pair a' b',m,x,b,cs,cJ,l,g,off,hg,hl,hr,hc,ha=>by
  simp only[aX] at hg;simp only[aN] at hc;simp only[addrAt] at ha;simp only[Ty.size] at hl hr
  refine rZ p hg (by rw[List.length_drop];omega) (fun g o e=>?_) hc ha
  cases l with
  |none=>simp at e
  |some q=>
   simp only[Option.map_some,Option.some.injEq,Prod.mk.injEq] at e
   obtain⟨rfl,rfl⟩:=e
   have:=Es (a:=a'.size) (b:=b'.size) (hr q.1 q.2 rfl) (by omega)
   rw[List.take_of_length_le (by rw[List.length_drop];omega)] at this
   exact this
 | .deref::p,.ptr t,m,x,b,cs,cJ,l,g,off,hg,hl,hr,hc,ha=>by
  simp only[aX] at hg
  rcases Cd cs with⟨g1,aqF,rfl⟩ |⟨h1,h2⟩
  ·simp only[aN] at hc
   simp only[addrAt] at ha
   cases gZ:rowAt w g1 aqF t.size with
   |none=>rw[gZ] at hc;simp at hc
   |some c=>
    rw[gZ] at hc ha
    simp only[Option.bind_some] at hc ha
    exact rZ p hg (oI gZ).1 (fun g o e=>by injection e with e;injection e with e1 e2;subst e1 e2;exact gZ) hc ha
  ·rw[h1] at hc;cases hc
 | .idx i::p,.sl t,m,x,b,cs,cJ,l,g,off,hg,hl,hr,hc,ha=>by
  simp only[aX] at hg
  rcases HM cs with⟨g1,aqF,n,c1,rfl⟩ |⟨h1,h2⟩
  ·simp only[aN] at hc
   simp only[addrAt] at ha
   cases gZ:rowAt w g1 (aqF+i*t.size) t.size with
   |none=>rw[gZ] at hc;simp at hc
   |some c=>
    rw[gZ] at hc ha
    simp only[Option.bind_some] at hc ha
    exact rZ p hg (oI gZ).1 (fun g o e=>by injection e with e;injection e with e1 e2;subst e1 e2;exact gZ) hc ha
  ·rw[h1] at hc;cases hc
theorem Et (hT:cP P Θ=true) {T:TypeId} {t:Ty} {g off:Nat} {cs:List Value} (ht:Θ.is T t=true) (h:rowAt w g off t.size=some cs):
  ∃ v,(∀ w2,Ext w w2→(Instr.loadAt T (.pointer (some ⟨g,off,none⟩))).run P w2=.ok v w2)∧aq t v cs:=by
 suffices hs:∀ w2,Ext w w2→∃ v,(Instr.loadAt T (.pointer (some ⟨g,off,none⟩))).run P w2=.ok v w2∧aq t v cs by
  obtain⟨v,_,h2⟩:=hs w (Ext.refl w)
  refine⟨v,fun w2 hw=>?_,h2⟩
  obtain⟨v',k1,k2⟩:=hs w2 hw
  rw[k1]
  unfold aq at h2 k2
  split at h2
  ·rename_i ha;rw[if_pos ha] at k2;rw[h2,k2]
  ·rename_i ha;rw[if_neg ha] at k2;rw[h2] at k2;injection k2 with k2;rw[k2]
 intro w2 rB
 have h:rowAt w2 g off t.size=some cs:=by
  obtain⟨_,cur,T',fr,hw,_,_⟩:=oI h
  unfold rowAt at h ⊢
  rw[rB g (a7 hw)]
  exact h
 clear rB
 revert h
 generalize w2=w
 intro h
 obtain⟨hl,cur,T',fr,hw,hs,rfl⟩:=oI h
 obtain⟨inf,hi,jg,_⟩:=iB hT ht
 have uv:∀ j v,((cur.toList.drop off).take t.size)[j]?=some v→w.cell? ((⟨g,off,none⟩:Addr).add j)=some v:=by
  intro j v hj
  rw[jy]
  unfold World.cell?
  simp only[hw,Option.isSome_none,Bool.false_eq_true,if_false]
  rw[List.getElem?_take] at hj
  split at hj
  ·rw[List.getElem?_drop] at hj
   simpa using hj
  ·cases hj
 have awS:=Ry hT ht w
 simp only[Instr.loadAt,Instr.sureAddr,loadVar,Sem.run_bind,Sem.run_pure,Result.andThen_ok,awS]
 cases hb:isAgg t with
 |true=>
  refine⟨.agg ((cur.toList.drop off).take t.size).toArray,?_,by simp[aq,hb]⟩
  have hlc:=run_loadCells_list (P:=P) (w:=w) ⟨g,off,none⟩ _ uv
  rw[hl] at hlc
  simp only[if_true,Sem.run_bind,sizeOf,typeInfo,run_program,Result.andThen_ok,hi,Sem.run_pure,jg,hlc]
 |false=>
  have h1:t.size=1:=by cases t<;>simp[isAgg] at hb<;>rfl
  rw[h1] at hl uv ⊢
  obtain⟨u,hu⟩:∃ u,(cur.toList.drop off).take 1=[u]:=by
   cases hx:(cur.toList.drop off).take 1 with
   |nil=>rw[hx] at hl;simp at hl
   |cons u r=>
    rw[hx] at hl
    cases r with
    |nil=>exact⟨u,rfl⟩
    |cons _ _=>simp at hl
  refine⟨u,?_,by simp[aq,hb,hu]⟩
  have:=uv 0 u (by rw[hu];rfl)
  rw[Addr.add_zero'] at this
  simp[load,Sem.run,this]
end Go.Pv
namespace Go.Pv
set_option linter.unusedVariables false
set_option linter.unusedSimpArgs false
variable {P:Program} {w w':World} {A A':Nat→Prop} {H:Nat→Value} {tm rH:Nat→Value} {S S':St} {σ:Nat→Option Nat} {w0:World} {W0 Z:Nat→Prop} {a:Act} {own:Nat→Prop} {v:Value} {Θ:dq} {dst:Option Nat}
def VA (w:World) (A:Nat→Prop) (tm:Nat→Value) (S:St):Tgt→Value→Prop
 | .k b,v=>∃ cs,aq (.ptr b.t) v cs∧K w A (.ptr b.t) b.x cs
 | .pl t s p,v=>∃ r ex,S.at s=.v r ex∧(open_ p ex→∃ cN g off,Ref tm S t s p r cN∧addrAt w p r.t cN none=some (g,off)∧v=.pointer (some ⟨g,off,none⟩))
theorem abX (h:aW σ w0 W0 Z H S a w) {i:Nat} {t:Ty} {T:TypeId} {tag:Option Nat} {me:Md} {y:t.I} {ex:List Path} (hi:S.at i=.v ⟨.ptr t,.o T tag me,y⟩ ex):
  VA w (Av σ Z) (bU a) S (.pl t i [.deref]) (bU a i):=by
 refine⟨_,ex,hi,fun ho=>?_⟩
 have hh:=h.holds i
 rw[hi] at hh
 obtain⟨cs,h1,h2⟩:=hh
 simp only[M] at h2
 rcases h2 with⟨hn,_⟩ |⟨hk,_⟩ |⟨T',abY,me',g,cur,e,rfl,ht,hg,hw,hM⟩
 ·exact absurd hn ho.not_nil
 ·simp[Md.bG] at hk
 ·have hlen:=(eP t hM).1
  refine⟨_,g,0,⟨⟨ex,hi,ho⟩,trivial,⟨_,rfl,rfl⟩,h1⟩,?_,by simpa[aq,isAgg] using h1.symm⟩
  have hs:0+t.size≤cur.size:=by rw[←hlen];simp
  simp only[addrAt,bh hw hs,Option.bind_some]
theorem YX {p q:Path} {ex:List Path} (h:open_ (p++q) ex):open_ p ex:=fun r hr s u e=>h r hr s (u++q) (by rw[e];simp)
theorem xp {p:Path} {s:Step} {q:Path} {ex:List Path} (h:open_ (p++s::q) ex):[]∉w8 p ex:=fun hm=>by
 have:=DY.1 hm
 rw[List.append_nil] at this
 exact h p this s q rfl
theorem r9 (h:aW σ w0 W0 Z H S a w) {T:TypeId} {x:Operand} {av:AV} {g:Tgt} (ho:S.dX Θ T x=some av) (e:S.Ho x av=some g):VA w (Av σ Z) (bU a) S g (a.eval x):=by
 have hh:=bo h ho
 have oJ:∀ {t:Ty} {T:TypeId} {tag:Option Nat} {me:Md} {y:t.I} {ex:List Path} {i:Nat},av=.v ⟨.ptr t,.o T tag me,y⟩ ex→x=.tmp i→VA w (Av σ Z) (bU a) S (.pl t i [.deref]) (a.eval x):=by
  intro t T tag me y ex i e1 e2
  subst e2
  simp only[St.dX,Option.some.injEq] at ho
  rw[e1] at ho
  exact abX h ho
 unfold St.Ho at e
 split at e
 ·rename_i t m y
  split at e
  ·injection e with e;subst e
   obtain⟨cs,h1,h2⟩:=hh
   exact⟨cs,h1,fP _ rfl h2⟩
  ·injection e with e;subst e
   exact oJ rfl rfl
  ·cases e
 ·split at e
  ·injection e with e;subst e
   exact oJ rfl rfl
  ·cases e
 ·rename_i t s p
  obtain⟨r,cN,cs,hr,hc,hm⟩:=hh
  split at e
  ·rename_i t' y Cb
   injection e with e;subst e
   obtain⟨ex,b,cJ,cB,k1,k2,k3,k4,hM,k5,k6,k7⟩:=fX h hr
   obtain⟨r',Dj,q1,q2,q3⟩:=dQ Cb
   rw[k1] at q1
   injection q1 with q1 Ep
   subst q1 Ep
   rw[k3] at q3
   injection q3 with q3
   subst q3
   rw[k5] at hc
   injection hc with hc
   subst hc
   simp only at k4
   rw[←k4] at hm
   exact⟨_,hm,fP _ rfl k7⟩
  ·rename_i t' T' abY me' y Cb
   injection e with e;subst e
   obtain⟨ex,b,cJ,cB,k1,k2,k3,k4,hM,k5,k6,k7⟩:=fX h hr
   obtain⟨r',Dj,q1,q2,q3⟩:=dQ Cb
   rw[k1] at q1
   injection q1 with q1 Ep
   subst q1 Ep
   rw[k3] at q3
   injection q3 with q3
   subst q3
   rw[k5] at hc
   injection hc with hc
   subst hc
   simp only at k4
   injection k4 with k4
   subst k4
   refine⟨r,ex,k1,fun bI=>?_⟩
   simp only[M] at k7
   rcases k7 with⟨hn,_⟩ |⟨hk,_⟩ |⟨T',abY,me',g,cur,e,rfl,ht,hg,hw,hM'⟩
   ·exact absurd hn (xp bI)
   ·simp[Md.bG] at hk
   ·have hlen:=(eP _ hM').1
    have hs:0+Ty.size t'≤cur.size:=by rw[←hlen];simp
    refine⟨cN,g,0,⟨⟨ex,k1,bI⟩,fI p [.deref] k3 hr.val trivial,⟨_,by rw[fw,k3];rfl,rfl⟩,hr.mat⟩,?_,by simpa[aq,isAgg] using hm.symm⟩
    rw[(fJ p [.deref] cN none k3).2,k5]
    simp only[Option.bind_some,addrAt,bh hw hs]
  ·cases e
 ·rename_i t s p
  injection e with e;subst e
  obtain⟨r,cN,g,off,hr,hc,hm⟩:=hh
  obtain⟨ex,k1,k2⟩:=hr.at_
  exact⟨r,ex,k1,fun _=>⟨cN,g,off,hr,hc,hm⟩⟩
 ·cases e
theorem M4 (h:aW σ w0 W0 Z H S a w) {o:Oper} {x:Operand} (ho:o.op=.nilCheck x) (e:uU Θ S o.dst x=some (true,S')):ij P w0 W0 Z H S' a o.dst w (execOp a.eval o):=by
 unfold uU at e
 split at e
 ·rename_i av dL
  split at e
  ·rename_i g hg
   split at e
   ·rename_i r _ hr Cb
    injection e with e;injection e with _ e;subst e
    have hc:=pQ h dL hr
    have hl:=r9 h dL hg
    have hp:(∃ ad,a.eval x=.pointer (some ad)):=by
     cases g with
     |k b=>
      obtain⟨cs,h1,h2⟩:=hl
      simp only[K] at h2
      obtain⟨g,off,cur,T,fr,rfl,_⟩:=h2
      exact⟨_,by simpa[aq,isAgg] using h1.symm⟩
     |pl t s p=>
      obtain⟨r',ex,k1,k2⟩:=hl
      simp only at Cb
      split at Cb
      ·rename_i b hb
       obtain⟨r2,ex2,q1,q2,q3⟩:=dQ hb
       rw[k1] at q1
       injection q1 with q1 Ep
       subst q1 Ep
       obtain⟨cN,g,off,_,_,e3⟩:=k2 (eU q2)
       exact⟨_,e3⟩
      ·cases Cb
    obtain⟨ad,hp⟩:=hp
    exact cr h (v:=a.eval x) (fun w2 _=>by simp only[execOp,ho,hp];rfl) hc
   ·cases e
  ·cases e
 ·cases e
theorem M5 (hT:cP P Θ=true) (h:aW σ w0 W0 Z H S a w) {T:TypeId} {g:Tgt} {r:AV} {v:Value} (hl:VA w (Av σ Z) (bU a) S g v) (e:S.loadAt g=some r) (ht:Θ.is T g.ty=true):
  ∃ u,(∀ w2,Ext w w2→(Instr.loadAt T v).run P w2=.ok u w2)∧Holds w (Av σ Z) H (bU a) S (fun _=>False) r u:=by
 cases g with
 |k b=>
  simp only[St.loadAt,Option.some.injEq] at e
  subst e
  obtain⟨cs,h1,h2⟩:=hl
  simp only[K] at h2
  obtain⟨g,off,cur,T',fr,rfl,hg,hw,hs,hk⟩:=h2
  obtain rfl:v=.pointer (some ⟨g,off,none⟩):=by simpa[aq,isAgg] using h1.symm
  obtain⟨u,k1,k2⟩:=Et hT ht (bh hw hs)
  exact⟨u,k1,_,k2,gb _ hk⟩
 |pl t s p=>
  simp only[St.loadAt] at e
  obtain⟨r',ex,k1,k2⟩:=hl
  split at e
  ·rename_i b hb
   obtain⟨r2,ex2,q1,q2,q3⟩:=dQ hb
   rw[k1] at q1
   injection q1 with q1 Ep
   subst q1 Ep
   obtain⟨cN,g,off,hr,ha,rfl⟩:=k2 (eU q2)
   obtain⟨Dj,b',cJ,cB,j1,j2,j3,j4,hM,j5,j6,j7⟩:=fX h hr
   rw[k1] at j1
   injection j1 with j1 j1'
   subst j1'
   rw[q3] at j3
   injection j3 with j3
   subst j3
   subst j4
   have gZ:=rZ p q3 (eP _ hM).1 (fun g o e=>by cases e) j5 ha
   obtain⟨u,l1,l2⟩:=Et hT ht gZ
   refine⟨u,l1,?_⟩
   cases hk:b.m.bG with
   |true=>
    rw[hk] at e
    simp only[cond_true] at e
    split at e
    ·rename_i c hc
     injection e with e;subst e
     obtain⟨_,pS,_,hM2⟩:=db h hr j5 hc
     have hcb:c=b:=by
      obtain⟨r3,ex3,p1,p2,p3⟩:=pR hc
      rw[k1] at p1
      injection p1 with p1 p1'
      subst p1
      rw[q3] at p3
      injection p3 with p3
      exact p3.symm
     subst hcb
     exact⟨_,l2,gb _ (fP _ hk hM2)⟩
    ·cases e
   |false=>
    rw[hk] at e
    simp only[cond_false,Option.some.injEq] at e
    subst e
    exact⟨r',cN,cJ,hr,j5,l2⟩
  ·cases e
theorem aie (hT:cP P Θ=true) (h:aW σ w0 W0 Z H S a w) {o:Oper} {T:TypeId} {x:Operand} (ho:o.op=.load T x) (e:gz Θ S o.dst T x=some (true,S')):ij P w0 W0 Z H S' a o.dst w (execOp a.eval o):=by
 unfold gz at e
 split at e
 ·rename_i av dL
  split at e
  ·rename_i g hg
   split at e
   ·rename_i r hr
    have hl:=r9 h dL hg
    cases hc:Θ.is T g.ty with
    |false=>rw[hc] at e;cases e
    |true=>
     rw[hc] at e
     simp only[cond_true,Option.some.injEq,Prod.mk.injEq,true_and] at e
     subst e
     obtain⟨u,h1,h2⟩:=M5 hT h hl hr hc
     refine cr h (v:=u) (fun w2 hw=>?_) h2
     simp only[execOp,ho,Sem.run_bind,h1 w2 hw]
     rfl
   ·cases e
  ·cases e
 ·cases e
end Go.Pv
namespace Go.Pv
set_option linter.unusedVariables false
set_option linter.unusedSimpArgs false
variable {P:Program} {w w':World} {A A':Nat→Prop} {H:Nat→Value} {tm rH:Nat→Value} {S S':St} {σ:Nat→Option Nat} {w0:World} {W0 Z:Nat→Prop} {a:Act} {own:Nat→Prop} {v:Value} {Θ:dq} {dst:Option Nat}
theorem jz:∀ (p:Path) {t:Ty} {m:Md} {x:t.I} {b:TV},m.bG=true→aX p t m x=some b→b.m.bG=true
 |[],t,m,x,b,hk,hg=>by simp only[aX,Option.some.injEq] at hg;subst hg;exact hk
 | .deref::p,.ptr t,m,x,b,hk,hg=>by simp only[aX] at hg;exact jz p (pH hk) hg
 | .fst::p,.pair _ _,m,x,b,hk,hg=>by simp only[aX] at hg;exact jz p (MJ hk) hg
 | .snd::p,.pair _ _,m,x,b,hk,hg=>by simp only[aX] at hg;exact jz p (MK hk) hg
 | .idx i::p,.sl t,m,x,b,hk,hg=>by simp only[aX] at hg;exact jz p (pH hk) hg
theorem ik:∀ (p:Path) {t:Ty} {m:Md} {x:t.I} {b:TV},aH p=true→aX p t m x=some b→valid p t x
 |[],_,_,_,_,_,_=>trivial
 | .fst::p,.pair _ _,m,x,b,h,hg=>by simp only[aX] at hg;simp only[valid];exact ik p (by simpa[aH] using h) hg
 | .snd::p,.pair _ _,m,x,b,h,hg=>by simp only[aX] at hg;simp only[valid];exact ik p (by simpa[aH] using h) hg
theorem pT:∀ (p:Path) {t:Ty} {m:Md} {x:t.I} {b:TV},aH p=true→aX p t m x=some b→gu p t=some b.t
 |[],_,_,_,_,_,hg=>by simp only[aX,Option.some.injEq] at hg;subst hg;rfl
 | .fst::p,.pair _ _,m,x,b,h,hg=>by simp only[aX] at hg;simp only[gu];exact pT p (by simpa[aH] using h) hg
 | .snd::p,.pair _ _,m,x,b,h,hg=>by simp only[aX] at hg;simp only[gu];exact pT p (by simpa[aH] using h) hg
theorem jA:∀ (p q:Path),aH p=true→aH q=true→aH (p++q)=true
 |[],_,_,h=>h
 | .fst::p,q,h,h'=>by simp only[List.cons_append,aH];exact jA p q (by simpa[aH] using h) h'
 | .snd::p,q,h,h'=>by simp only[List.cons_append,aH];exact jA p q (by simpa[aH] using h) h'
theorem lT:∀ n,aH (List.replicate n .snd)=true
 |0=>rfl
 |n+1=>by rw[List.replicate_succ];simp only[aH];exact lT n
theorem iZ (i n:Nat):aH (ns i n)=true:=by
 unfold ns
 cases Nat.beq (i+1) n<;>cases Nat.beq n 1<;>simp only[cond_true,cond_false]
 ·exact jA _ _ (lT _) rfl
 ·exact jA _ _ (lT _) rfl
 ·exact lT _
 ·rfl
theorem aqG {t:Ty} {x:t.I} {p:Path} {b:TV} {cs:List Value} {v:Value} (hm:aq (.ptr t) v cs) (h:K w A (.ptr t) x cs) (hp:aH p=true) (hg:aX p t .k x=some b):
  ∃ g off,v=.pointer (some ⟨g,off,none⟩)∧K w A (.ptr b.t) b.x [.pointer (some ⟨g,off+aI p t,none⟩)]:=by
 simp only[K] at h
 obtain⟨g,off,cur,T',fr,rfl,hA,hw,hs,hk⟩:=h
 refine⟨g,off,by simpa[aq,isAgg] using hm.symm,?_⟩
 have hl:=(lv t hk).1
 obtain⟨cJ,cB,k1,k2,k3⟩:=focus (w:=w) (Wr:=A) (H:=fun _=>undef) (ow:=fun _=>False) (hs:=[]) p (gb t hk) (fun _ h=>by simp at h) (ik p hp hg) hg
 rw[eQ p hp hg hl] at k1
 injection k1 with k1
 subst k1
 have hf:=eF p hp hg
 simp only[K]
 refine⟨g,off+aI p t,cur,T',fr,rfl,hA,hw,by omega,?_⟩
 have:=fP _ (jz p rfl hg) k3
 rw[List.drop_take,List.take_take,List.drop_drop,Nat.min_eq_left (by omega)] at this
 exact this
theorem xq {p:Path} {t:Ty} {m:Md} {x:t.I} {b:TV} (hp:p≠[]) (h:aH p=true) (hg:aX p t m x=some b):∃ a' b',t=.pair a' b':=by
 cases p with
 |nil=>exact absurd rfl hp
 |cons s p=>cases s<;>cases t<;>simp_all [aX,aH]
theorem abZ {i n:Nat} (h:i<n):ns i n≠[]:=by
 unfold ns
 cases hb:Nat.beq (i+1) n with
 |false=>simp
 |true=>
  cases hc:Nat.beq n 1 with
  |true=>simp
  |false=>
   simp only[cond_true,cond_false]
   have h1:=Nat.eq_of_beq_eq_true hb
   have h2:=Nat.ne_of_beq_eq_false hc
   cases i with
   |zero=>omega
   |succ i=>simp[List.replicate_succ]
theorem xr (hT:cP P Θ=true) (h:aW σ w0 W0 Z H S a w) {o:Oper} {T:TypeId} {x:Operand} {f:Nat} (ho:o.op=.fieldAddr T x f) (e:gA Θ S o.dst T x f=some (true,S')):mG P w0 W0 Z H S' a o.dst w (execOp a.eval o):=by
 unfold gA at e
 split at e
 ·rename_i av i dL hi
  cases b9:Nat.blt f i.fs.length with
  |false=>rw[b9] at e;cases e
  |true=>
   rw[b9] at e
   simp only[cond_true] at e
   have hf:f<i.fs.length:=Nat.lt_of_succ_le (Nat.le_of_ble_eq_true b9)
   obtain⟨_,hu,zR⟩:=cR hT hi
   -- the address of the field
   have run:∀ (w2:World) (g off:Nat) (b:TV) (t:Ty) (m:Md) (y:t.I),i.ty=t→aX (ns f i.fs.length) t m y=some b→
     (Instr.fieldAt T (.pointer (some ⟨g,off,none⟩)) f).run P w2=.ok (.pointer (some ⟨g,off+aI (ns f i.fs.length) t,none⟩)) w2:=by
    intro w2 g off b t m y fH hg
    have ly:∃ a' b',i.ty=.pair a' b':=by
     subst fH
     exact xq (abZ hf) (iZ _ _) hg
    obtain⟨a',b',hp⟩:=ly
    obtain⟨fs,YW,Cc,hfo,_⟩:=mF hu hp
    rw[zR] at YW
    have hlen:i.fs.length=fs.size:=by rw[←Cc];simp
    obtain⟨fl,auP⟩:∃ fl,fs[f]?=some fl:=⟨fs[f]'(by omega),by simp[show f<fs.size from by omega]⟩
    obtain⟨tf,h1,h2,h3,h4⟩:=iX hfo f fl (by simpa using auP)
    rw[Nat.zero_add,←hlen] at h1 h3
    subst fH
    rw[pT _ (iZ _ _) hg] at h1
    injection h1 with h1
    obtain⟨inf,k1,k2,_⟩:=iB hT h2
    simp only[Instr.fieldAt,Sem.run_bind,run_underlying YW,Result.andThen_ok,auP,Instr.sureAddr,Sem.run_pure,fieldPlace,sizeOf,typeInfo,run_program,k1,k2]
    rw[if_neg (by omega)]
    simp only[Sem.run_pure,Result.andThen_ok,jy,h3]
   split at e
   ·rename_i t m y hg
    cases fH:decide (i.ty=t) with
    |false=>rw[fH] at e;cases e
    |true=>
     rw[fH] at e
     simp only[cond_true] at e
     split at e
     ·rename_i b hb
      injection e with e;injection e with _ e;subst e
      obtain⟨cs,h1,h2⟩:=r9 h dL hg
      obtain⟨g',off,hv,hk⟩:=aqG h1 h2 (iZ _ _) hb
      refine cg h (v:=.pointer (some ⟨g',off+aI (ns f i.fs.length) t,none⟩)) (fun w2=>?_) ⟨[_],by simp[aq,isAgg],gb (.ptr b.t) hk⟩
      simp only[execOp,ho,hv,Sem.run_bind,run w2 g' off b t .k y (by simpa using fH) hb]
      rfl
     ·cases e
   ·rename_i t s p hg
    cases fH:decide (i.ty=t) with
    |false=>rw[fH] at e;cases e
    |true=>
     rw[fH] at e
     simp only[cond_true] at e
     split at e
     ·rename_i b hb
      injection e with e;injection e with _ e;subst e
      obtain⟨r,ex,k1,k2⟩:=r9 h dL hg
      obtain⟨r2,ex2,q1,q2,q3⟩:=dQ hb
      rw[k1] at q1
      injection q1 with q1 Ep
      subst q1 Ep
      have bI:=eU q2
      obtain⟨cN,g',off,hr,ha,hv⟩:=k2 (YX bI)
      obtain⟨Dj,b',cJ,cB,j1,j2,j3,j4,hM,j5,j6,j7⟩:=fX h hr
      rw[fw,j3] at q3
      simp only[Option.bind_some] at q3
      refine cg h (v:=.pointer (some ⟨g',off+aI (ns f i.fs.length) t,none⟩)) (fun w2=>?_) ⟨r,cN,g',off+aI (ns f i.fs.length) t,⟨⟨ex,k1,bI⟩,fI p _ j3 hr.val (ik _ (iZ _ _) q3),⟨b,by rw[fw,j3];exact q3,rfl⟩,hr.mat⟩,?_,rfl⟩
      ·subst j4
       simp only[execOp,ho,hv,Sem.run_bind,run w2 g' off b b'.t b'.m b'.x (by simpa using fH) q3]
       rfl
      ·rw[(fJ p _ cN none j3).2,j5,ha]
       simp only[Option.bind_some]
       rw[jq _ (iZ _ _) q3,j4]
     ·cases e
   ·cases e
 ·cases e
theorem VB {α:Type} (xs:List α) (i:Nat) (d:α) (h:i<xs.length):List.getD xs i d=xs[i]:=by simp[List.getD_eq_getElem?_getD,List.getElem?_eq_getElem h]
theorem nA (hT:cP P Θ=true) {T:TypeId} {t:Ty} {g off len c:Nat} {k:IntKind} {n:Int} (ht:Θ.is T (.sl t)=true) (h0:0≤n) (h1:n<(len:Int)):
  (Instr.indexAt T (.slice (some ⟨g,off,none⟩) len c) (.int k n)).run P w=.ok (.pointer (some ⟨g,off+n.toNat*t.size,none⟩)) w:=by
 obtain⟨i,hi,fH⟩:=dW ht
 obtain⟨_,hu,zR⟩:=cR hT hi
 obtain⟨u1,u2,_⟩:=lD hu fH
 rw[zR] at u1
 obtain⟨inf,k1,k2,_⟩:=iB hT u2
 simp[Instr.indexAt,asIntOf,run_underlying u1,h0,h1,sizeOf,typeInfo,run_program,k1,k2,jy]
theorem ab0 {t:Ty} {xs:List t.I} {v:Value} {cs:List Value} {n:Nat} (hm:aq (.sl t) v cs) (h:K w A (.sl t) xs cs) (hn:n<xs.length):
  ∃ g off c,v=.slice (some ⟨g,off,none⟩) xs.length c∧K w A (.ptr t) (List.getD xs n t.z) [.pointer (some ⟨g,off+n*t.size,none⟩)]:=by
 simp only[K] at h
 obtain⟨X,c,rfl,hc,h⟩:=h
 obtain⟨g,off,cur,T',fr,rfl,hA,hw,hs,hk⟩:=h (by omega)
 refine⟨g,off,c,by simpa[aq,isAgg] using hm.symm,?_⟩
 simp only[K]
 have hb:off+n*t.size+t.size≤cur.size:=by
  have:=Nat.mul_le_mul_right t.size (show n+1≤xs.length from hn)
  rw[Nat.add_mul,Nat.one_mul] at this
  omega
 exact⟨g,_,cur,T',fr,rfl,hA,hw,hb,by rw[VB _ _ _ hn];exact hk n hn⟩
theorem xt (hT:cP P Θ=true) (h:aW σ w0 W0 Z H S a w) {o:Oper} {T:TypeId} {x ix:Operand} (ho:o.op=.indexAddr T x ix) (e:cd Θ S o.dst T x ix=some (true,S')):mG P w0 W0 Z H S' a o.dst w (execOp a.eval o):=by
 unfold cd at e
 split at e
 ·rename_i t m xs ex n dL hn
  obtain⟨k,hk⟩:=iK h hn
  cases hc:Θ.is T (.sl t) with
  |false=>rw[hc] at e;cases e
  |true=>
   rw[hc] at e
   simp only[cond_true] at e
   split at e
   ·injection e with e;injection e with e1 e;subst e
    obtain⟨b1,b2⟩:=rY e1
    obtain⟨cs,h1,h2⟩:=bo h dL
    have hK:=fP _ rfl h2
    obtain⟨g,off,c,hv,Q2⟩:=ab0 (n:=n.toNat) h1 hK (by have b2':n<(List.length xs:Int):=b2;show n.toNat<List.length xs;omega)
    refine cg h (v:=.pointer (some ⟨g,off+n.toNat*t.size,none⟩)) (fun w2=>?_) ⟨[_],by simp[aq,isAgg],gb (.ptr t) Q2⟩
    simp only[execOp,ho,hv,hk,Sem.run_bind,nA hT hc b1 b2]
    rfl
   ·rename_i T' tag me j
    split at e
    ·rename_i b hb
     injection e with e;injection e with e1 e;subst e
     obtain⟨b1,b2⟩:=rY e1
     have dE:S.at j=.v ⟨.sl t,.o T' tag me,xs⟩ ex:=by simpa[St.dX] using dL
     obtain⟨r2,ex2,q1,q2,q3⟩:=dQ hb
     rw[dE] at q1
     injection q1 with q1 Ep
     subst q1 Ep
     have bI:=eU q2
     obtain⟨cs,h1,h2⟩:=bo h dL
     simp only[M] at h2
     rcases h2 with⟨ly,_⟩ |⟨eY,_⟩ |⟨T2,YY,me2,X,c,e2,rfl,hcc,aif,h2⟩
     ·exact absurd ly bI.not_nil
     ·simp[Md.bG] at eY
     ·have hv:a.eval (.tmp j)=.slice X xs.length c:=by simpa[aq,isAgg] using h1.symm
      rcases h2 with⟨rfl,_⟩ |⟨g,cur,τ,rfl,hg,hw,jg,hm,hj⟩
      ·simp at b2;omega
      ·have b9:n.toNat<xs.length:=by omega
       have hbound:0+n.toNat*t.size+t.size≤cur.size:=by
        have h1:=Nat.mul_le_mul_right t.size (show n.toNat+1≤xs.length from b9)
        have h2:=Nat.mul_le_mul_right t.size hcc
        rw[Nat.add_mul,Nat.one_mul] at h1
        omega
       refine cg h (v:=.pointer (some ⟨g,0+n.toNat*t.size,none⟩)) (fun w2=>?_) ⟨_,[.slice (some ⟨g,0,none⟩) xs.length c],g,0+n.toNat*t.size,⟨⟨ex,dE,bI⟩,⟨b9,trivial⟩,⟨_,rfl,rfl⟩,h1⟩,?_,rfl⟩
       ·simp only[execOp,ho,hv,hk,Sem.run_bind,nA hT hc b1 b2]
        rfl
       ·simp only[addrAt,bh hw hbound,Option.bind_some]
    ·cases e
   ·cases e
 ·rename_i t s p n dL hn
  obtain⟨k,hk⟩:=iK h hn
  cases hc:Θ.is T (.sl t) with
  |false=>rw[hc] at e;cases e
  |true=>
   rw[hc] at e
   simp only[cond_true] at e
   obtain⟨r,cN,cs,hr,gg,hm⟩:=bo h dL
   obtain⟨ex,b,cJ,cB,j1,j2,j3,j4,hM,j5,j6,j7⟩:=fX h hr
   rw[gg] at j5
   injection j5 with j5
   subst j5
   split at e
   ·rename_i t' xs Cb
    injection e with e;injection e with e1 e;subst e
    obtain⟨b1,b2⟩:=rY e1
    obtain⟨r2,ex2,q1,q2,q3⟩:=dQ Cb
    rw[j1] at q1
    injection q1 with q1 Ep
    subst q1 Ep
    rw[j3] at q3
    injection q3 with q3
    subst q3
    injection j4 with j4
    subst j4
    have hK:=fP _ rfl j7
    obtain⟨g,off,c,hv,Q2⟩:=ab0 (n:=n.toNat) hm hK (by have b2':n<(List.length xs:Int):=b2;show n.toNat<List.length xs;omega)
    refine cg h (v:=.pointer (some ⟨g,off+n.toNat*Ty.size t',none⟩)) (fun w2=>?_) ⟨[_],by simp[aq,isAgg],gb (.ptr _) Q2⟩
    simp only[execOp,ho,hv,hk,Sem.run_bind,nA hT hc b1 b2]
    rfl
   ·rename_i t' T' tag me xs Cb
    split at e
    ·rename_i b2' hb
     injection e with e;injection e with e1 e;subst e
     obtain⟨b1,b2⟩:=rY e1
     obtain⟨r2,ex2,q1,q2,q3⟩:=dQ Cb
     rw[j1] at q1
     injection q1 with q1 Ep
     subst q1 Ep
     rw[j3] at q3
     injection q3 with q3
     subst q3
     injection j4 with j4
     subst j4
     obtain⟨r3,ex3,p1,p2,p3⟩:=dQ hb
     rw[j1] at p1
     injection p1 with p1 p1'
     subst p1 p1'
     have bI:=eU p2
     simp only[M] at j7
     rcases j7 with⟨ly,_⟩ |⟨eY,_⟩ |⟨T2,YY,me2,X,c,e2,rfl,hcc,aif,h2⟩
     ·exact absurd ly (xp bI)
     ·simp[Md.bG] at eY
     ·have hv:a.eval x=.slice X (List.length xs) c:=by simpa[aq,isAgg] using hm.symm
      rcases h2 with⟨rfl,_⟩ |⟨g,cur,τ,rfl,hg,hw,jg,hm',hj⟩
      ·simp at b2;omega
      ·have b9:n.toNat<List.length xs:=by omega
       have hbound:0+n.toNat*Ty.size t'+Ty.size t'≤cur.size:=by
        have h1:=Nat.mul_le_mul_right (Ty.size t') (show n.toNat+1≤List.length xs from b9)
        have h2:=Nat.mul_le_mul_right (Ty.size t') hcc
        rw[Nat.add_mul,Nat.one_mul] at h1
        omega
       refine cg h (v:=.pointer (some ⟨g,0+n.toNat*Ty.size t',none⟩)) (fun w2=>?_) ⟨r,cN,g,0+n.toNat*Ty.size t',⟨⟨ex,j1,bI⟩,fI p _ j3 hr.val ⟨b9,trivial⟩,⟨_,by rw[fw,j3];rfl,rfl⟩,hr.mat⟩,?_,rfl⟩
       ·simp only[execOp,ho,hv,hk,Sem.run_bind,nA hT hc b1 b2]
        rfl
       ·rw[(fJ p _ cN none j3).2,gg]
        simp only[Option.bind_some,addrAt,bh hw hbound]
    ·cases e
   ·cases e
 ·cases e
end Go.Pv
namespace Go.Pv
set_option linter.unusedVariables false
set_option linter.unusedSimpArgs false
variable {P:Program} {w w':World} {A A':Nat→Prop} {H:Nat→Value} {tm rH:Nat→Value} {S S':St} {σ:Nat→Option Nat} {w0:World} {W0 Z:Nat→Prop} {a:Act} {own:Nat→Prop} {v:Value} {Θ:dq} {dst:Option Nat}
theorem tC {k:IntKind} {i:Int} {y:Nat} {code:BoundsCode} (h0:0≤i) (h1:i≤y):(Instr.sliceBound (.int k i) y code).run P w=.ok i.toNat w:=by
 simp[Instr.sliceBound,asIntOf,h0,h1]
theorem Eu {sl:Bool} {len cap:Nat} {lo hi:Option Value} {l h:Int} (YK:(lo=none∧l=0)∨∃ k,lo=some (.int k l)) (Ea:(hi=none∧h=len)∨∃ k,hi=some (.int k h))
  (h0:0≤l) (h1:l≤h) (h2:h≤len) (h3:len≤cap):(Instr.sliceBounds sl len cap lo hi none).run P w=.ok (l.toNat,h.toNat,cap) w:=by
 have e1:∀ k code,(Instr.sliceBound (.int k l) h.toNat code).run P w=.ok l.toNat w:=fun k code=>tC h0 (by omega)
 have e2:∀ k code,(Instr.sliceBound (.int k h) cap code).run P w=.ok h.toNat w:=fun k code=>tC (by omega) (by omega)
 unfold Instr.sliceBounds
 rcases YK with⟨rfl,rfl⟩ |⟨k,rfl⟩<;>rcases Ea with⟨rfl,rfl⟩ |⟨k',rfl⟩
 ·simp
 ·simp[e2]
 ·have Ao:∀ k code,(Instr.sliceBound (.int k l) len code).run P w=.ok l.toNat w:=fun k code=>tC h0 (by omega)
  simp[Ao]
 ·simp[e1,e2]
theorem ja (h:aW σ w0 W0 Z H S a w) {x:Option Operand} {d n:Int} (e:gY Θ S d x=some n):(x.map a.eval=none∧n=d)∨∃ k,x.map a.eval=some (.int k n):=by
 cases x with
 |none=>simp only[gY,Option.some.injEq] at e;exact .inl ⟨rfl,e.symm⟩
 |some x=>
  obtain⟨k,hk⟩:=iK h e
  exact .inr ⟨k,by simp[hk]⟩
theorem M6 (hT:cP P Θ=true) (h:aW σ w0 W0 Z H S a w) {o:Oper} {T:TypeId} {x:Operand} {lo hi mx:Option Operand} (ho:o.op=.slice T x lo hi mx) (e:eE Θ S o.dst T x lo hi mx=some (true,S')):mG P w0 W0 Z H S' a o.dst w (execOp a.eval o):=by
 unfold eE at e
 split at e
 ·rename_i av m s l dL Vr hl
  split at e
  ·rename_i hh Ea
   cases hc:Θ.is T .str with
   |false=>rw[hc] at e;cases e
   |true=>
    rw[hc] at e
    simp only[cond_true,Option.some.injEq,Prod.mk.injEq,Bool.and_eq_true,decide_eq_true_eq] at e
    obtain⟨⟨⟨b1,b2⟩,b3⟩,e⟩:=e
    subst e
    obtain⟨cs,h1,h2,_⟩:=iC h Vr
    have hv:=ff h1 h2
    obtain⟨i,nj,fH⟩:=dW hc
    obtain⟨_,hu,zR⟩:=cR hT nj
    have tu:=pO hu fH
    rw[zR] at tu
    refine cg h (v:=.string (s.extract l.toNat hh.toNat)) (fun w2=>?_) (HK _)
    have hb:=Eu (P:=P) (w:=w2) (sl:=false) (ja h hl) (ja h Ea) b1 b2 b3 (Nat.le_refl _)
    simp[execOp,ho,hv,Instr.sliceAt,Instr.slice,run_underlying tu,hb]
  ·cases e
 ·rename_i av t m xs l dL Vr hl
  cases hc:Θ.is T (.sl t) with
  |false=>rw[hc] at e;cases e
  |true=>
   rw[hc] at e
   simp only[cond_true] at e
   obtain⟨i,nj,fH⟩:=dW hc
   obtain⟨_,hu,zR⟩:=cR hT nj
   obtain⟨u1,u2,_⟩:=lD hu fH
   rw[zR] at u1
   obtain⟨inf,q1,q2,_⟩:=iB hT u2
   obtain⟨cs,h1,h2,h3⟩:=iC h Vr
   obtain⟨X,c,hv,hZ,hlc⟩:=oA h1 h2
   have run:∀ (hh:Int),gY Θ S (xs.length:Int) hi=some hh→mx=none→0≤l→l≤hh→hh≤(xs.length:Int)→
     ∀ w2,(execOp a.eval o).run P w2=.ok (.value (.slice (if c=l.toNat then X else X.map (·.add (l.toNat*t.size))) (hh.toNat - l.toNat) (c - l.toNat))) w2:=by
    intro hh Ea hmx b1 b2 b3 w2
    subst hmx
    have hb:=Eu (P:=P) (w:=w2) (sl:=true) (ja h hl) (ja h Ea) b1 b2 b3 hlc
    simp[execOp,ho,hv,Instr.sliceAt,Instr.slice,run_underlying u1,hb,sizeOf,typeInfo,run_program,q1,q2]
   split at e
   ·rename_i _ hh Ea
    split at e
    ·simp only[Option.some.injEq,Prod.mk.injEq,Bool.and_eq_true,decide_eq_true_eq] at e
     obtain⟨⟨⟨b1,b2⟩,b3⟩,e⟩:=e
     subst e
     have hK:=h3 rfl
     subst hZ
     exact cg h (run hh Ea rfl b1 b2 b3) ⟨[_],by simp[aq,isAgg],gb (.sl t) (Vw hK (by omega) (by omega))⟩
    ·rename_i b ex i _
     simp only[Option.some.injEq,Prod.mk.injEq,Bool.and_eq_true,decide_eq_true_eq] at e
     obtain⟨⟨⟨b1,b2⟩,b3⟩,e⟩:=e
     subst e
     have dE:S.at i=.v b ex:=by simpa[St.dX] using dL
     unfold St.rd at Vr
     rw[dL] at Vr
     cases ex with
     |cons _ _=>simp[St.tp] at Vr
     |nil=>
      simp only[St.tp,Option.some.injEq] at Vr
      subst Vr
      subst hZ
      refine cg h (run hh Ea rfl b1 b2 b3) ⟨_,_,t,X,List.length xs,c,⟨⟨[],dE,fun q hq=>by simp at hq⟩,trivial,⟨_,rfl,rfl⟩,h1⟩,rfl,rfl,by omega,by omega,rfl⟩
    ·rename_i _ s p hm
     simp only[Option.some.injEq,Prod.mk.injEq,Bool.and_eq_true,decide_eq_true_eq] at e
     obtain⟨⟨⟨b1,b2⟩,b3⟩,e⟩:=e
     subst e
     obtain⟨r,cN,cJ,hr,gg,hmm⟩:=bo h dL
     unfold St.rd at Vr
     rw[dL] at Vr
     simp only[St.tp] at Vr
     obtain⟨zX,_⟩:=db h hr gg Vr
     simp only at zX
     subst zX
     obtain rfl:=eT h1 hmm
     subst hZ
     refine cg h (run hh Ea rfl b1 b2 b3) ⟨r,cN,t,X,List.length xs,c,hr,rfl,gg,by omega,by omega,rfl⟩
    ·cases e
   ·rename_i _ hh z ii Ea ab1
    split at e
    ·rename_i c' hx hz
     simp only[Option.some.injEq,Prod.mk.injEq,Bool.and_eq_true,decide_eq_true_eq] at e
     obtain⟨⟨⟨rfl,rfl⟩,rfl⟩,e⟩:=e
     subst e
     obtain⟨kz,hkz⟩:=iK h hz
     refine cg h (v:=.slice X 0 0) (fun w2=>?_) ⟨[.slice X 0 0],by simp[aq,isAgg],?_⟩
     ·have VC:=ja h hl
      have hh':=ja h Ea
      have hb:(Instr.sliceBounds true xs.length c (lo.map a.eval) (some (a.eval hx)) (some (.int kz 0))).run P w2=.ok (0,0,0) w2:=by
       have e0:∀ k y code,(Instr.sliceBound (.int k 0) y code).run P w2=.ok 0 w2:=fun k y code=>tC (by omega) (by omega)
       have hh2:∃ k,a.eval hx=.int k 0:=by
        rcases hh' with⟨hh',_⟩ |⟨k,hh'⟩
        ·simp at hh'
        ·exact⟨k,by simpa using hh'⟩
       obtain⟨k2,Q2⟩:=hh2
       unfold Instr.sliceBounds
       rcases VC with⟨VC,_⟩ |⟨k1,VC⟩<;>rw[VC,Q2]<;>simp[e0]
      simp[execOp,ho,hv,Instr.sliceAt,Instr.slice,run_underlying u1,hkz,hb,sizeOf,typeInfo,run_program,q1,q2]
     ·simp only[M]
      exact .inr (.inr ⟨_,_,_,X,0,rfl,rfl,Nat.le_refl _,fun h hh=>(by cases hh),.inl (by simp)⟩)
    ·cases e
   ·cases e
 ·cases e
end Go.Pv
namespace Go.Pv
set_option linter.unusedVariables false
set_option linter.unusedSimpArgs false
variable {P:Program} {w w':World} {A A' Wr:Nat→Prop} {H:Nat→Value} {tm rH:Nat→Value} {S S' S1:St} {σ:Nat→Option Nat} {w0:World} {W0 Z:Nat→Prop} {a:Act} {own:Nat→Prop} {v:Value} {Θ:dq} {dst:Option Nat}
theorem HN:∀ (p:Path) {t:Ty} {m:Md} {x:t.I} {cs:List Value} {ow:Nat→Prop} {hs:List Path} {b:TV},M w Wr H t m x cs ow hs→open_ p hs→valid p t x→aX p t m x=some b→b.m.bG=false→
  ∃ cJ cB,aN w p t cs=some cJ∧(∀ g,cB g→ow g)∧M w Wr H b.t b.m b.x cJ cB (w8 p hs)∧M w Wr H t m x cs (fun g=>ow g∧ ¬cB g) (hs++[p])
 |[],t,m,x,cs,ow,hs,b,h,ho,hv,hg,hk=>by
  simp only[aX,Option.some.injEq] at hg
  subst hg
  refine⟨cs,ow,rfl,fun _ h=>h,h,?_⟩
  simp only at hk
  have iY:=eP t h
  cases t<;>simp only[M] at h ⊢<;>first
   |(rw[hk] at h;exact absurd h.1 (by simp))
   |(exact .inl ⟨by simp,hk,iY⟩)
   |(
     rcases h with⟨_,_,h⟩ |⟨eY,_⟩ |⟨T,tag,me,A,c,_,rfl,_⟩
     ·exact .inl ⟨by simp,hk,h⟩
     ·rw[hk] at eY;cases eY
     ·exact .inl ⟨by simp,hk,A,c,rfl⟩)
 | .deref::p,.ptr t,m,x,cs,ow,hs,b,h,ho,hv,hg,hk=>by
  simp only[aX] at hg
  simp only[valid] at hv
  simp only[M] at h
  rcases h with⟨hn,_⟩ |⟨eY,h⟩ |⟨T,tag,me,g,cur,rfl,rfl,ht,q8,hw,h⟩
  ·exact absurd hn ho.not_nil
  ·rw[jz p (pH eY) hg] at hk;cases hk
  ·have hlen:=(eP t h).1
   obtain⟨cJ,cB,h1,h2,h3,h4⟩:=HN p h ho.sub hv hg hk
   have jg:0+t.size≤cur.size:=by rw[←hlen];simp
   refine⟨cJ,cB,?_,fun g hg=>(h2 g hg).1,h3,?_⟩
   ·simp only[aN,bh hw jg,Option.bind_some,List.drop_zero]
    rw[List.take_of_length_le (by omega)]
    exact h1
   ·simp only[M]
    exact .inr (.inr ⟨T,tag,me,g,cur,rfl,rfl,ht,⟨q8,fun hx=>(h2 g hx).2 rfl⟩,hw,aG (aP.refl _ _) t (fun _ _ _=>rfl) (fun g' a8 _=>⟨⟨a8.1.1,a8.2⟩,a8.1.2⟩) (fun q hq=>by
     rcases List.mem_append.1 hq with hq |hq
     ·exact dx.2 (List.mem_append_left _ (dx.1 hq))
     ·rw[List.mem_singleton.1 hq];exact dx.2 (List.mem_append_right _ (by simp))) h4⟩)
 | .fst::p,.pair a b',m,x,cs,ow,hs,b,h,ho,hv,hg,hk=>by
  simp only[aX] at hg
  simp only[valid] at hv
  simp only[M] at h
  rcases h with⟨hn,_⟩ |⟨eY,h⟩ |⟨ma,mb,c0,c1,s,rfl,rfl,h0,h1⟩
  ·exact absurd hn ho.not_nil
  ·rw[jz p (MJ eY) hg] at hk;cases hk
  ·obtain⟨cJ,cB,k1,k2,k3,k4⟩:=HN p h0 ho.sub hv hg hk
   refine⟨cJ,cB,by simp only[aN];rw[←(eP a h0).1,List.take_left];exact k1,fun g hg=>(k2 g hg).1,k3,?_⟩
   simp only[M]
   refine .inr (.inr ⟨ma,mb,c0,c1,s,rfl,rfl,aG (aP.refl _ _) a (fun _ _ _=>rfl) (fun g' a8 _=>⟨⟨a8.1.1,a8.2⟩,a8.1.2⟩) (fun q hq=>?_) k4,aG (aP.refl _ _) b' (fun _ _ _=>rfl) (fun g' a8 _=>⟨⟨a8.1,fun hx=>a8.2 (k2 g' hx).2⟩,a8.2⟩) (mw (fun q hq=>List.mem_append_left _ hq)) h1⟩)
   rcases List.mem_append.1 hq with hq |hq
   ·exact dx.2 (List.mem_append_left _ (dx.1 hq))
   ·rw[List.mem_singleton.1 hq];exact dx.2 (List.mem_append_right _ (by simp))
 | .snd::p,.pair a b',m,x,cs,ow,hs,b,h,ho,hv,hg,hk=>by
  simp only[aX] at hg
  simp only[valid] at hv
  simp only[M] at h
  rcases h with⟨hn,_⟩ |⟨eY,h⟩ |⟨ma,mb,c0,c1,s,rfl,rfl,h0,h1⟩
  ·exact absurd hn ho.not_nil
  ·rw[jz p (MK eY) hg] at hk;cases hk
  ·obtain⟨cJ,cB,k1,k2,k3,k4⟩:=HN p h1 ho.sub hv hg hk
   refine⟨cJ,cB,by simp only[aN];rw[←(eP a h0).1,List.drop_left];exact k1,fun g hg=>(k2 g hg).1,k3,?_⟩
   simp only[M]
   refine .inr (.inr ⟨ma,mb,c0,c1,s,rfl,rfl,aG (aP.refl _ _) a (fun _ _ _=>rfl) (fun g' a8 _=>⟨⟨a8.1,fun hx=>(k2 g' hx).2 a8.2⟩,a8.2⟩) (mw (fun q hq=>List.mem_append_left _ hq)) h0,aG (aP.refl _ _) b' (fun _ _ _=>rfl) (fun g' a8 _=>⟨⟨a8.1.1,a8.2⟩,a8.1.2⟩) (fun q hq=>?_) k4⟩)
   rcases List.mem_append.1 hq with hq |hq
   ·exact dx.2 (List.mem_append_left _ (dx.1 hq))
   ·rw[List.mem_singleton.1 hq];exact dx.2 (List.mem_append_right _ (by simp))
 | .idx i::p,.sl t,m,xs,cs,ow,hs,b,h,ho,hv,hg,hk=>by
  simp only[aX] at hg
  simp only[valid] at hv
  obtain⟨hi,hv⟩:=hv
  have e6:List.getD xs i t.z=xs[i]:=VB _ _ _ hi
  simp only[M] at h
  rcases h with⟨hn,_⟩ |⟨eY,h⟩ |⟨T,tag,me,X,c,rfl,rfl,hc,ht,h⟩
  ·exact absurd hn ho.not_nil
  ·rw[jz p (pH eY) hg] at hk;cases hk
  ·rcases h with⟨rfl,_⟩ |⟨g,cur,τ,rfl,q8,hw,jg,hm,h⟩
   ·simp at hi
   ·have hbound:0+i*t.size+t.size≤cur.size:=by
     have h1:=Nat.mul_le_mul_right t.size (show i+1≤xs.length from hi)
     have h2:=Nat.mul_le_mul_right t.size hc
     rw[Nat.add_mul,Nat.one_mul] at h1
     omega
    have hM:=h i hi
    rw[←e6] at hM
    obtain⟨cJ,cB,h1,h2,h3,h4⟩:=HN p hM ho.sub hv hg hk
    refine⟨cJ,cB,by simp only[aN,bh hw hbound,Option.bind_some];rw[Nat.zero_add];exact h1,fun g hg=>(h2 g hg).1,h3,?_⟩
    simp only[M]
    refine .inr (.inr ⟨T,tag,me,some ⟨g,0,none⟩,c,rfl,rfl,hc,ht,.inr ⟨g,cur,τ,rfl,⟨q8,fun hx=>(h2 g hx).2.1 rfl⟩,hw,jg,hm,fun j hj=>?_⟩⟩)
    by_cases lA:j=i
    ·subst lA
     rw[e6] at h4
     refine aG (aP.refl _ _) t (fun _ _ _=>rfl) (fun g' a8 _=>⟨⟨a8.1.1,a8.2⟩,a8.1.2⟩) (fun q hq=>?_) h4
     rcases List.mem_append.1 hq with hq |hq
     ·exact dx.2 (List.mem_append_left _ (dx.1 hq))
     ·rw[List.mem_singleton.1 hq];exact dx.2 (List.mem_append_right _ (by simp))
    ·exact aG (aP.refl _ _) t (fun _ _ _=>rfl) (fun g' a8 _=>⟨⟨a8.1,fun hx=>lA (by rw[←a8.2.2];exact(h2 g' hx).2.2)⟩,a8.2⟩) (mw (fun q hq=>List.mem_append_left _ hq)) (h j hj)
theorem mH (a:Act) (i:Nat):a.put (some i) (bU a i)=a:=by
 unfold Act.put bU
 simp only
 have:a.tmps.setIfInBounds i (a.tmps.getD i undef)=a.tmps:=by
  apply Array.ext_getElem?
  intro j
  rw[Array.getElem?_setIfInBounds,Array.getD_eq_getD_getElem?]
  by_cases h:i=j
  ·subst h
   by_cases hl:i<a.tmps.size
   ·simp[hl]
   ·simp[hl]
  ·simp[h]
 rw[this]
def jV (σ:Nat→Option Nat) (q s:Nat) (g:Nat):Option Nat:=if σ g=some s then some q else σ g
theorem VE {σ:Nat→Option Nat} {Z:Nat→Prop} {q s g:Nat}:Av (jV σ q s) Z g↔Av σ Z g:=by
 unfold Av jV
 by_cases h:σ g=some s
 ·rw[if_pos h,h];exact⟨fun _=>.inl ⟨s,rfl⟩,fun _=>.inl ⟨q,rfl⟩⟩
 ·rw[if_neg h]
structure gv (σ bF:Nat→Option Nat) (n:Nat) (ow:Nat→Prop):Prop where
 M7:∀ g,ow g→∃ i,i<n∧σ g=some i
 now:∀ g,ow g→∃ i,n≤i∧bF g=some i
 sub:∀ g i,bF g=some i→i<n→σ g=some i
 dom:∀ g,(∃ i,bF g=some i)↔∃ i,σ g=some i
 par:∀ g i,σ g=some i→n≤i→bF g=some i
theorem gv.none (σ:Nat→Option Nat) (n:Nat):gv σ σ n fun _=>False:=⟨fun _ h=>h.elim,fun _ h=>h.elim,fun _ _ h _=>h,fun _=>Iff.rfl,fun _ _ h _=>h⟩
theorem gv.jV (σ:Nat→Option Nat) {n s:Nat} (hs:s<n) {ow:Nat→Prop} (h:∀ g,ow g→σ g=some s):gv σ (jV σ n s) n ow:=by
 refine⟨fun g hg=>⟨s,hs,h g hg⟩,fun g hg=>⟨n,Nat.le_refl _,by unfold Go.Pv.jV;rw[if_pos (h g hg)]⟩,fun g i hg hi=>?_,fun g=>?_,fun g i hg hi=>?_⟩
 ·unfold Go.Pv.jV at hg
  split at hg
  ·injection hg with hg;omega
  ·exact hg
 ·unfold Go.Pv.jV
  split
  ·rename_i h;rw[h];exact⟨fun _=>⟨s,rfl⟩,fun _=>⟨n,rfl⟩⟩
  ·exact Iff.rfl
 ·unfold Go.Pv.jV
  rw[if_neg (by rw[hg];intro e;injection e with e;omega)]
  exact hg
theorem gv.Av {σ bF:Nat→Option Nat} {n:Nat} {ow:Nat→Prop} (h:gv σ bF n ow) {Z:Nat→Prop} {g:Nat}:Av bF Z g↔Av σ Z g:=by
 unfold Go.Pv.Av
 rw[h.dom g]
theorem eH {S:St} {i:Nat} (h:S.at i≠ .dead):i<S.length:=by
 rcases Nat.lt_or_ge i S.length with hl |hl
 ·exact hl
 ·refine absurd ?_ h
  unfold St.at
  rw[List.getD_eq_getElem?_getD,List.getElem?_eq_none hl]
  rfl
theorem aW.jV (h:aW σ w0 W0 Z H S a w) (i:Nat):aW (jV σ S.length i) w0 W0 Z H (S.put (some i) .dead) a w:=by
 have bQ:aP w w (Av σ Z) (Av (Go.Pv.jV σ S.length i) Z):=⟨fun _ _ _=>rfl,fun g _ hg=>VE.1 hg⟩
 have hs:∀ g j,Go.Pv.jV σ S.length i g=some j→∃ k,σ g=some k:=fun g j hg=>by
  unfold Go.Pv.jV at hg
  split at hg
  ·exact⟨_,by assumption⟩
  ·exact⟨_,hg⟩
 have:=h.put (dst:=some i) (av:=.dead) (v:=bU a i) bQ h.fr (fun g j hg=>by
  obtain⟨k,hk⟩:=hs g j hg
  exact⟨h.new g k hk,h.lt g k hk⟩) (fun g hg=>by unfold Go.Pv.jV;rw[(h.old g hg).1];simp) (fun j g _ hd hg=>⟨rfl,by unfold Go.Pv.jV;rw[if_neg (by rw[hg];intro e;exact hd e.symm)];exact hg⟩) (fun _ _ _ _=>trivial)
 rw[mH] at this
 exact this
theorem Ev (S:St) (d:Nat) (p:Path) (i:Nat):(S.cover d p).at i=match S.at i with
  | .ad t s q=>bif Nat.beq s d&&under p q then .dead else .ad t s q
  |a=>a:=D8 S _ rfl i
theorem Ref.re {t:Ty} {s:Nat} {p:Path} {r:TV} {cN:List Value} (h:Ref tm S t s p r cN) (hk:∀ ex,S.at s=.v r ex→open_ p ex→∃ Dj,S'.at s=.v r Dj∧open_ p Dj):Ref tm S' t s p r cN:=by
 obtain⟨⟨ex,h1,h2⟩,h3,h4,h5⟩:=h
 exact⟨hk ex h1 h2,h3,h4,h5⟩
theorem gD {d:Nat} {p:Path} {r:TV} {ex:List Path} (hd:S.at d=.v r ex) (hS:∀ i r' Dj,i≠d→S.at i=.v r' Dj→S'.at i=.v r' Dj) (hS':S'.at d=.v r (ex++[p])) {own:Nat→Prop} {av:AV} {v:Value}
  (hf:av.e9 d=false) (hc:∀ t q,av=.ad t d q→under p q=false) (h:Holds w A H tm S own av v) (hnv:∀ b ex,av≠ .v b ex) (hnt:∀ l,av≠ .ud l):Holds w A H tm S' own av v:=by
 have hre:∀ {t:Ty} {s:Nat} {q:Path} {r':TV} {cN:List Value},Ref tm S t s q r' cN→(s=d→under p q=false)→Ref tm S' t s q r' cN:=by
  intro t s q r' cN hr hu
  refine hr.re (fun ex1 h1 h2=>?_)
  by_cases z':s=d
  ·subst z'
   rw[hd] at h1
   injection h1 with h1 h1'
   subst h1 h1'
   refine⟨ex++[p],hS',fun q' rE s' r' e=>?_⟩
   rcases List.mem_append.1 rE with rE |rE
   ·exact h2 q' rE s' r' e
   ·rw[List.mem_singleton.1 rE] at e
    have:=hu rfl
    rw[e,mo] at this
    cases this
  ·exact⟨ex1,hS s r' ex1 z' h1,h2⟩
 have aih:under p []=false:=by cases p<;>rfl
 cases av with
 |dead=>trivial
 |undef=>exact h
 |v b ex=>exact absurd rfl (hnv _ _)
 |ud l=>exact absurd rfl (hnt _)
 |al t s q=>
  obtain⟨r',cN,cs,h1,h2,h3⟩:=h
  refine⟨r',cN,cs,hre h1 (fun e=>?_),h2,h3⟩
  subst e
  cases q with
  |nil=>exact aih
  |cons _ _=>simp[AV.e9] at hf
 |ad t s q=>
  obtain⟨r',cN,g,off,h1,h2,h3⟩:=h
  exact⟨r',cN,g,off,hre h1 (fun e=>by subst e;exact hc _ _ rfl),h2,h3⟩
 |cut t s q lo hi=>
  obtain⟨r',cN,t',X,n,c,h1,h2⟩:=h
  refine⟨r',cN,t',X,n,c,hre h1 (fun e=>?_),h2⟩
  subst e
  simp[AV.e9] at hf
 |lu f cu=>
  obtain⟨vs,h1,h2,h3⟩:=h
  refine⟨vs,h1,h2,fun j c hj=>?_⟩
  obtain⟨u,k1,k2⟩:=h3 j c hj
  refine⟨u,k1,?_⟩
  cases c with
  |kv b=>exact k2
  |pl t s q=>
   obtain⟨r',cN,cs,l1,l2,l3⟩:=k2
   refine⟨r',cN,cs,hre l1 (fun e=>?_),l2,l3⟩
   subst e
   cases q with
   |nil=>exact aih
   |cons a' q'=>
    simp only[AV.e9] at hf
    have ly:=List.any_eq_false.1 hf _ (List.mem_of_getElem? hj)
    simp at ly
theorem eV (h:aW σ w0 W0 Z H S a w) {T:TypeId} {x:Operand} {av:AV} {b:TV} (ho:S.dX Θ T x=some av) (e:S.dN x av=some (b,S1)):
  ∃ bF cs ow,aW bF w0 W0 Z H S1 a w∧aq b.t (a.eval x) cs∧M w (Av σ Z) H b.t b.m b.x cs ow []∧gv σ bF S.length ow∧S1.length=S.length:=by
 have hh:=bo h ho
 cases av with
 |v b0 ex=>
  simp only[St.dN] at e
  cases hk:b0.m.bG with
  |true=>
   rw[hk] at e
   simp only[cond_true,Option.some.injEq,Prod.mk.injEq] at e
   obtain⟨rfl,rfl⟩:=e
   obtain⟨cs,h1,h2⟩:=hh
   exact⟨σ,cs,fun _=>False,h,h1,oh hk (fP _ hk h2),gv.none _ _,rfl⟩
  |false=>
   rw[hk] at e
   simp only[cond_false] at e
   split at e
   ·rename_i i
    simp only[Option.some.injEq,Prod.mk.injEq] at e
    obtain⟨rfl,rfl⟩:=e
    obtain⟨cs,h1,h2⟩:=hh
    refine⟨_,cs,_,h.jV i,h1,h2,gv.jV σ (eH ?_) (fun g hg=>?_),bW _ _ _⟩
    ·simp only[St.dX,Option.some.injEq] at ho
     rw[ho]
     exact fun e=>by cases e
    ·obtain⟨j,hj,hg⟩:=hg
     injection hj with hj
     subst hj
     exact hg
   ·rename_i hx
    simp only[Option.some.injEq,Prod.mk.injEq] at e
    obtain⟨rfl,rfl⟩:=e
    obtain⟨cs,h1,h2⟩:=hh
    refine⟨σ,cs,fun _=>False,h,h1,aG (aP.refl _ _) _ (fun _ _ _=>rfl) (fun g hg _=>?_) (fun _ h=>h) h2,gv.none _ _,rfl⟩
    obtain⟨j,hj,_⟩:=hg
    exact hx j hj
   ·cases e
 |al t s p=>
  simp only[St.dN] at e
  obtain⟨r,cN,cs,hr,hc,hm⟩:=hh
  split at e
  ·rename_i b' hb
   cases hk:b'.m.bG with
   |true=>
    rw[hk] at e
    simp only[cond_true,Option.some.injEq,Prod.mk.injEq] at e
    obtain⟨rfl,rfl⟩:=e
    obtain⟨zX,cB,_,hM⟩:=db h hr hc hb
    exact⟨σ,cs,fun _=>False,h,by rw[zX];exact hm,oh hk (fP _ hk hM),gv.none _ _,rfl⟩
   |false=>
    rw[hk] at e
    simp only[cond_false] at e
    cases hp:p with
    |nil=>
     subst hp
     simp only[Option.some.injEq,Prod.mk.injEq] at e
     obtain⟨rfl,rfl⟩:=e
     obtain⟨zX,cB,rG,hM⟩:=db h hr hc hb
     obtain⟨ex0,VF,_⟩:=hr.at_
     exact⟨_,cs,cB,h.jV s,by rw[zX];exact hm,hM,gv.jV σ (eH (by rw[VF];exact fun e=>by cases e)) rG,bW _ _ _⟩
    |cons G9 pp=>
     rw[hp] at e
     obtain⟨ex,b2,cJ,ow0,j1,j2,j3,j4,hM,j5,j6,j7⟩:=fX h hr
     rw[j1] at e
     simp only[Option.some.injEq,Prod.mk.injEq] at e
     rw[←hp] at e
     obtain⟨rfl,rfl⟩:=e
     obtain⟨r3,ex3,q1,q2,q3⟩:=pR hb
     rw[j1] at q1
     injection q1 with q1 Ep
     subst q1 Ep
     rw[j3] at q3
     injection q3 with q3
     subst q3
     obtain⟨cs2,cB,k1,k2,k3,k4⟩:=HN p hM j2 hr.val j3 hk
     rw[hc] at k1
     injection k1 with k1
     subst k1
     rw[uu q2] at k3
     -- the ownership without what is taken
     have ab2:s<S.length:=eH (by rw[j1];exact fun e=>by cases e)
     let bF:Nat→Option Nat:=fun g=>open Classical in if cB g then some S.length else σ g
     have Ew:∀ g i,bF g=some i→∃ k,σ g=some k:=by
      intro g i hg
      simp only[bF] at hg
      split at hg
      ·exact⟨s,k2 g (by assumption)⟩
      ·exact⟨i,hg⟩
     have Ey:∀ g i,σ g=some i→¬cB g→bF g=some i:=by
      intro g i hg hn
      simp only[bF,if_neg hn,hg]
     have bQ:aP w w (Av σ Z) (Av bF Z):=⟨fun _ _ _=>rfl,fun g _ hg=>by
      rcases hg with⟨i,hg⟩ |hg
      ·exact .inl (Ew g i hg)
      ·exact .inr hg⟩
     have ab3:gv σ bF S.length cB:=by
      refine⟨fun g hg=>⟨s,ab2,k2 g hg⟩,fun g hg=>⟨_,Nat.le_refl _,by simp only[bF,if_pos hg]⟩,fun g i hg hi=>?_,fun g=>⟨fun⟨i,hg⟩=>Ew g i hg,fun⟨i,hg⟩=>?_⟩,fun g i hg hi=>Ey g i hg (fun hx=>?_)⟩
      ·simp only[bF] at hg
       split at hg
       ·injection hg with hg;omega
       ·exact hg
      ·simp only[bF]
       split
       ·exact⟨_,rfl⟩
       ·exact⟨i,hg⟩
      ·have:=k2 g hx
       rw[hg] at this
       injection this with this
       omega
     refine⟨bF,cs,cB,?_,by rw[j4];exact hm,k3,ab3,by simp[St.weaken,St.cover]⟩
     have hlen:((S.weaken s).cover s p).length=S.length:=by simp[St.weaken,St.cover]
     have G1:s<S.length:=by
      rcases Nat.lt_or_ge s S.length with hl |hl
      ·exact hl
      ·unfold St.at at j1
       rw[List.getD_eq_getElem?_getD,List.getElem?_eq_none hl] at j1
       cases j1
     have Ap:St.at (((S.weaken s).cover s p).set s (.v r (ex++[p]))) s=.v r (ex++[p]):=by rw[cQ,if_pos ⟨rfl,by rw[hlen];exact G1⟩]
     have lz:∀ i,i≠s→St.at (((S.weaken s).cover s p).set s (.v r (ex++[p]))) i=(match (bif (S.at i).e9 s then AV.dead else S.at i) with
       | .ad t s' q=>bif Nat.beq s' s&&under p q then .dead else .ad t s' q
       |a=>a):=by
      intro i hi
      rw[cQ,if_neg (fun e=>hi e.1),Ev,kn]
     refine⟨by simp only[List.length_set,hlen];exact h.len,h.defers,h.fr,fun g i hg=>(Ew g i hg).elim fun k hk=>h.new g k hk,fun g i hg=>(Ew g i hg).elim fun k hk=>h.lt g k hk,fun g hg=>⟨?_,(h.old g hg).2⟩,fun i=>?_⟩
     ·simp only[bF]
      split
      ·rename_i hx
       have:=k2 g hx
       rw[(h.old g hg).1] at this
       cases this
      ·exact(h.old g hg).1
     ·by_cases Q3:i=s
      ·subst Q3
       rw[Ap]
       exact⟨cN,hr.mat,aG bQ _ (fun _ _ _=>rfl) (fun g hg _=>Ey g _ hg.1 hg.2) (fun _ h=>h) k4⟩
      ·rw[lz i Q3]
       cases ra:(S.at i).e9 s with
       |true=>trivial
       |false=>
        simp only[cond_false]
        have hi:=h.holds i
        have base:Holds w (Av bF Z) H (bU a) S (fun g=>bF g=some i) (S.at i) (bU a i):=
         hi.kept bQ (fun g hg _=>⟨rfl,Ey g i hg (fun hx=>Q3 (by have:=k2 g hx;rw[hg] at this;injection this))⟩) (fun s' _=>⟨fun _ _ h=>h,rfl,_,h.holds s',fun _ _ _=>rfl⟩)
        have hSv:∀ j r' Dj,j≠s→S.at j=.v r' Dj→St.at (((S.weaken s).cover s p).set s (.v r (ex++[p]))) j=.v r' Dj:=by
         intro j r' Dj hj hv
         rw[lz j hj,hv]
         simp[AV.e9]
        cases fz:S.at i with
        |v b3 ex3=>
         rw[fz] at base
         obtain⟨c3,l1,l2⟩:=base
         exact⟨c3,l1,l2⟩
        |ud l=>
         rw[fz] at base
         exact base
        |ad t' s' q=>
         rw[fz] at base ra
         simp only
         cases aqH:(Nat.beq s' s&&under p q) with
         |true=>trivial
         |false=>
          simp only[cond_false]
          refine gD j1 hSv Ap ra (fun t2 q2 e2=>?_) base (fun _ _ e=>by cases e) (fun _ e=>by cases e)
          injection e2 with _ e3 e4
          subst e3 e4
          simpa using aqH
        |dead=>trivial
        |undef=>rw[fz] at base;exact base
        |al t' s' q=>
         rw[fz] at base ra
         exact gD j1 hSv Ap ra (fun t2 q2 e2=>by cases e2) base (fun _ _ e=>by cases e) (fun _ e=>by cases e)
        |cut t' s' q lo nj=>
         rw[fz] at base ra
         exact gD j1 hSv Ap ra (fun t2 q2 e2=>by cases e2) base (fun _ _ e=>by cases e) (fun _ e=>by cases e)
        |lu f cu=>
         rw[fz] at base ra
         exact gD j1 hSv Ap ra (fun t2 q2 e2=>by cases e2) base (fun _ _ e=>by cases e) (fun _ e=>by cases e)
  ·cases e
 |cut t s p lo hi=>
  cases p with
  |cons _ _=>simp[St.dN] at e
  |nil=>
   simp only[St.dN] at e
   obtain⟨r,cN,t',X,n,c,hr,rfl,hc,YK,Ea,hv⟩:=hh
   split at e
   ·rename_i t2 T2 tag me xs hb
    cases aqI:Nat.beq lo 0 with
    |false=>rw[aqI] at e;cases e
    |true=>
     rw[aqI] at e
     have hl0:=Nat.eq_of_beq_eq_true aqI
     subst hl0
     simp only[cond_true,Option.some.injEq,Prod.mk.injEq] at e
     obtain⟨rfl,rfl⟩:=e
     obtain⟨zX,cB,rG,hM⟩:=db h hr hc hb
     injection zX with zX
     subst zX
     simp only[M] at hM
     rcases hM with⟨hn,_⟩ |⟨hk,_⟩ |⟨T3,axO,me3,X3,c3,e3,e4,hcc,aif,hM⟩
     ·simp at hn
     ·simp[Md.bG] at hk
     ·injection e3 with e3 e3' awT
      subst e3 e3' awT
      simp only[List.cons.injEq,Value.slice.injEq,and_true] at e4
      obtain⟨rfl,hn,rfl⟩:=e4
      have hv':a.eval x=.slice X hi c:=by
       rw[hv]
       have:(if c=0 then X else X.map fun x=>x.add (0*Ty.size t2))=X:=by
        split
        ·rfl
        ·cases X with
         |none=>rfl
         |some ad=>simp[Addr.add]
       rw[this]
       simp
      have hlen:(List.take hi xs).length=hi:=by rw[List.length_take];omega
      obtain⟨ex0,VF,_⟩:=hr.at_
      refine⟨_,[.slice X hi c],cB,h.jV s,by simp[aq,isAgg,hv'],?_,gv.jV σ (eH (by rw[VF];exact fun e=>by cases e)) rG,bW _ _ _⟩
      simp only[M]
      refine .inr (.inr ⟨T2,none,me,X,c,rfl,by rw[hlen],by rw[hlen];omega,fun h hh=>(by cases hh),?_⟩)
      rcases hM with⟨rfl,rfl⟩ |⟨g,cur,τ,rfl,hg,hw,jg,hm,hj⟩
      ·left
       simp
      ·right
       refine⟨g,cur,τ,rfl,hg,hw,jg,hm,fun j GY=>?_⟩
       rw[hlen] at GY
       have:=hj j (by omega)
       rw[List.getElem_take]
       exact this
   ·cases e
 |_=>simp[St.dN] at e
noncomputable def gE (σ:Nat→Option Nat) (dst:Option Nat) (ow:Nat→Prop) (g:Nat):Option Nat:=open Classical in if ow g then dst else release σ dst g
theorem aW.VG (h:aW σ w0 W0 Z H S a w) {av:AV} {ow:Nat→Prop} (jg:w.heap.size≤w'.heap.size) (jr:∀ g,g<w.heap.size→(∀ i,S.length≤i→σ g≠some i)→w'.heap[g]?=w.heap[g]?) (ra:Fr w0 W0 w')
  (rG:∀ g,ow g→g<w'.heap.size∧((∃ i,S.length≤i∧σ g=some i)∨w.heap.size≤g))
  (hH:∀ d,dst=some d→(∀ g,ow g→gE σ dst ow g=some d)→(∀ g,Av (gE σ dst ow) Z g→Av σ Z g∨ow g)→Holds w' (Av (gE σ dst ow) Z) H (bU (a.put dst v)) (S.put dst av) (fun g=>gE σ dst ow g=some d) av v):
  aW (gE σ dst ow) w0 W0 Z H (S.put dst av) (a.put dst v) w':=by
 have hw0:w0.heap.size≤w.heap.size:=h.fr.size
 have fz:∀ g i,gE σ dst ow g=some i→(ow g∧dst=some i)∨(¬ow g∧σ g=some i∧dst≠some i):=fun g i hg=>by
  unfold gE at hg
  split at hg
  ·exact .inl ⟨by assumption,hg⟩
  ·exact .inr ⟨by assumption,fG hg⟩
 have hAv:∀ g,Av (gE σ dst ow) Z g→Av σ Z g∨ow g:=fun g hg=>by
  rcases hg with⟨i,hg⟩ |hg
  ·rcases fz g i hg with⟨h1,_⟩ |⟨_,h1,_⟩
   ·exact .inr h1
   ·exact .inl (.inl ⟨i,h1⟩)
  ·exact .inl (.inr hg)
 have bQ:aP w w' (Av σ Z) (Av (gE σ dst ow) Z):=⟨fun g hn hg=>jr g hg (fun i _ hi=>hn (.inl ⟨i,hi⟩)),fun g hg hx=>by
  rcases hAv g hx with h1 |h1
  ·exact h1
  ·rcases(rG g h1).2 with⟨i,_,hi⟩ |h2
   ·exact .inl ⟨i,hi⟩
   ·omega⟩
 refine h.put bQ ra (fun g i hg=>?_) (fun g hg=>?_) (fun i g hi hd hg=>⟨jr g (h.lt g i hg) (fun j hj pC=>by rw[hg] at pC;injection pC with pC;omega),?_⟩) (fun d hd hl _=>hH d hd (fun g hg=>by unfold gE;rw[if_pos hg];exact hd) hAv)
 ·rcases fz g i hg with⟨h1,_⟩ |⟨_,h1,_⟩
  ·rcases rG g h1 with⟨h2,⟨j,_,hj⟩ |h3⟩
   ·exact⟨h.new g j hj,h2⟩
   ·exact⟨.inl (by omega),h2⟩
  ·exact⟨h.new g i h1,by have:=h.lt g i h1;omega⟩
 ·obtain⟨h1,h2⟩:=h.old g hg
  unfold gE
  split
  ·rename_i hx
   rcases(rG g hx).2 with⟨i,_,hi⟩ |h3
   ·rw[h1] at hi;cases hi
   ·omega
  ·unfold release
   split
   ·rfl
   ·exact h1
 ·have hn: ¬ow g:=fun hx=>by
   rcases(rG g hx).2 with⟨j,hj,pC⟩ |h3
   ·rw[hg] at pC;injection pC with pC;omega
   ·have:=h.lt g i hg;omega
  unfold gE
  rw[if_neg hn]
  exact lS hd hg
theorem aW.apc (h:aW σ w0 W0 Z H S a w) {b:TV} {cs:List Value} {ow:Nat→Prop} {A':Nat→Prop} (jg:w.heap.size≤w'.heap.size) (jr:∀ g,g<w.heap.size→(∀ i,S.length≤i→σ g≠some i)→w'.heap[g]?=w.heap[g]?) (ra:Fr w0 W0 w')
  (rG:∀ g,ow g→g<w'.heap.size∧((∃ i,S.length≤i∧σ g=some i)∨w.heap.size≤g)) (hA:∀ g,g<w'.heap.size→Av σ Z g∨ow g→A' g)
  (hm:aq b.t v cs) (hM:M w' A' H b.t b.m b.x cs ow []):
  aW (gE σ dst ow) w0 W0 Z H (S.put dst (.v b [])) (a.put dst v) w':=
 h.VG jg jr ra rG fun d _ h1 h2=>⟨cs,hm,aG ⟨fun _ _ _=>rfl,fun g hg hx=>hA g hg (h2 g hx)⟩ _ (fun _ _ _=>rfl) (fun g hg _=>h1 g hg) (fun _ h=>h) hM⟩
theorem aW.M8 (h:aW σ w0 W0 Z H S a w) {b:TV} {cs:List Value} {ow:Nat→Prop} {A':Nat→Prop} (jr:∀ g,g<w.heap.size→w'.heap[g]?=w.heap[g]?) (ra:Fr w0 W0 w')
  (rG:∀ g,ow g→g<w'.heap.size∧((∃ i,S.length≤i∧σ g=some i)∨w.heap.size≤g)) (hA:∀ g,g<w'.heap.size→Av σ Z g∨ow g→A' g)
  (hm:aq b.t v cs) (hM:M w' A' H b.t b.m b.x cs ow []):
  aW (gE σ dst ow) w0 W0 Z H (S.put dst (.v b [])) (a.put dst v) w':=by
 refine h.apc ?_ (fun g hg _=>jr g hg) ra rG hA hm hM
 rcases Nat.eq_zero_or_pos w.heap.size with h0 |h0
 ·omega
 ·have:=jr (w.heap.size - 1) (by omega)
  rw[Array.getElem?_eq_getElem (show w.heap.size - 1<w.heap.size by omega)] at this
  have:=a7 this
  omega
end Go.Pv
namespace Go.Pv
set_option linter.unusedVariables false
set_option linter.unusedSimpArgs false
variable {P:Program} {w w':World} {A A' Wr:Nat→Prop} {H:Nat→Value} {tm rH:Nat→Value} {S S' S1:St} {σ bF:Nat→Option Nat} {w0:World} {W0 Z:Nat→Prop} {a:Act} {own:Nat→Prop} {v:Value} {Θ:dq} {dst:Option Nat}
theorem jB:∀ (t:Ty),kV t=true→K w A t t.z (zc t)
 | .int k,_=>by simp[K,zc,Ty.z]
 | .bool,_=>by simp[K,zc,Ty.z]
 | .str,_=>by simp[K,zc,Ty.z]
 | .unit,_=>by simp[K,zc]
 | .sl t,_=>by simp only[K,zc,Ty.z];exact⟨none,0,rfl,Nat.le_refl _,fun h=>absurd h (Nat.lt_irrefl _)⟩
 | .pair a b,h=>by
  simp only[kV,Bool.and_eq_true] at h
  simp only[K,zc,Ty.z]
  exact⟨_,_,rfl,jB a h.1,jB b h.2⟩
 | .ptr t,h=>by simp[kV] at h
 | .arr n t,h=>by simp[kV] at h
theorem IW {t:Ty} {x:t.I} {m:Md} {cs:List Value} {ow:Nat→Prop} (h:M w A H t m x cs (fun _=>False) []):M w A H t m x cs ow []:=aG (aP.refl _ _) t (fun _ _ _=>rfl) (fun _ h _=>h.elim) (fun _ h=>h) h
theorem Ez:∀ (t:Ty) {m:Md},uT t m=true→M w A H t m t.z (zc t) (fun _=>False) []
 | .pair a b,.p ma mb,h=>by
  simp only[uT,Bool.or_eq_true,Bool.and_eq_true] at h
  rcases h with h |h
  ·simp only[M]
   exact .inr (.inr ⟨ma,mb,zc a,zc b,fun _=>True,rfl,rfl,IW (Ez a h.1),IW (Ez b h.2)⟩)
  ·exact oh (by simp[Md.bG,h.1.1.1,h.1.1.2]) (by simp only[K,zc,Ty.z];exact⟨_,_,rfl,jB a h.1.2,jB b h.2⟩)
 | .sl t,.o T none me,_=>by
  simp only[M]
  exact .inr (.inr ⟨T,none,me,none,0,rfl,rfl,Nat.le_refl _,fun h hh=>(by cases hh),.inl ⟨rfl,rfl⟩⟩)
 | .pair a b,.k,h=>by
  simp only[uT,Bool.and_eq_true] at h
  exact oh h.1 (jB _ h.2)
 | .pair a b,.o ..,h=>by simp[uT,Md.bG] at h
 | .sl t,.k,h=>by
  simp only[uT,Bool.and_eq_true] at h
  exact oh h.1 (jB _ h.2)
 | .sl t,.o _ (some _) _,h=>by simp[uT,Md.bG] at h
 | .sl t,.p a b,h=>by
  simp only[uT,Bool.and_eq_true] at h
  exact oh h.1 (jB _ h.2)
 | .int k,m,h=>by
  have h:(m.bG&&kV (.int k))=true:=by cases m<;>exact h
  simp only[Bool.and_eq_true] at h
  exact oh h.1 (jB _ h.2)
 | .bool,m,h=>by
  have h:(m.bG&&kV .bool)=true:=by cases m<;>exact h
  simp only[Bool.and_eq_true] at h
  exact oh h.1 (jB _ h.2)
 | .str,m,h=>by
  have h:(m.bG&&kV .str)=true:=by cases m<;>exact h
  simp only[Bool.and_eq_true] at h
  exact oh h.1 (jB _ h.2)
 | .unit,m,h=>by
  have h:(m.bG&&kV .unit)=true:=by cases m<;>exact h
  simp only[Bool.and_eq_true] at h
  exact oh h.1 (jB _ h.2)
 | .ptr t,m,h=>by
  have h:(m.bG&&kV (.ptr t))=true:=by cases m<;>exact h
  simp[kV] at h
 | .arr n t,m,h=>by
  have h:(m.bG&&kV (.arr n t))=true:=by cases m<;>exact h
  simp[kV] at h
theorem Aq (hT:cP P Θ=true) {T:TypeId} {z:TV} (h:rJ Θ T=some z):
  ∃ i inf zv,Θ.find T=some i∧i.ty=z.t∧z.x=z.t.z∧uT z.t z.m=true∧P.info? T=some inf∧inf.size=z.t.size∧inf.zero=some zv∧aq z.t zv (zc z.t)∧inf.bytes≤32*z.t.size∧inf.bytes≤256:=by
 unfold rJ at h
 split at h
 ·rename_i i hi
  cases hz:uT i.ty (MI Θ 9 T) with
  |false=>rw[hz] at h;cases h
  |true=>
   rw[hz] at h
   simp only[cond_true,Option.some.injEq] at h
   subst h
   obtain⟨⟨_,inf,zv,h1,h2,h3,h4,h5,h6,h7⟩,_,rfl⟩:=cR hT hi
   exact⟨i,inf,zv,hi,rfl,rfl,hz,h1,h2,h6,h7,h3,h4⟩
 ·cases h
theorem Fr.alloc (h:Fr w0 W0 w) (o:Obj):Fr w0 W0 (w.alloc o):=by
 refine⟨h.os,h.tape,h.output,?_,fun g hg hn=>?_⟩
 ·have:=h.size
  simp only[World.alloc,Array.size_push];omega
 ·rw[heap_alloc_old w o g (by have:=h.size;omega)]
  exact h.block g hg hn
theorem iL {t:Ty} {v:Value} {cs:List Value} (h:aq t v cs) (h1:∀ u∈cs,u.oneCell'=true):v.cells=cs.toArray:=by
 have:=IK h h1
 rw[←this]
theorem M9 {t:Ty} {m:Md} {x:t.I} {cs:List Value} {ow:Nat→Prop} (T:TypeId) (hM:M w A H t m x cs ow []) (b9:∀ g,ow g→g<w.heap.size):
  M (w.alloc (.cells cs.toArray T)) (fun g=>A g∨w.heap.size≤g) H (.ptr t) (.o T none m) x [.pointer (some ⟨w.heap.size,0,none⟩)] (fun g=>ow g∨g=w.heap.size) []:=by
 simp only[M]
 refine .inr (.inr ⟨T,none,m,w.heap.size,cs.toArray,rfl,rfl,fun h hh=>(by cases hh),.inr rfl,heap_alloc_new w _,?_⟩)
 refine aG (w:=w) ⟨fun g _ hg=>heap_alloc_old w _ g hg,fun g hg hx=>?_⟩ t (fun g hg hl=>heap_alloc_old w _ g hl) (fun g hg hl=>⟨.inl hg,by omega⟩) (fun _ h=>(by simp at h)) hM
 rcases hx with hx |hx
 ·exact hx
 ·omega
def Ce (P:Program) (w0:World) (W0 Z:Nat→Prop) (H:Nat→Value) (S':St) (a:Act) (dst:Option Nat) (w:World) (s:Sem Next):Prop:=
 ∃ w' v,s.run P w=.ok (.value v) w'∧Ext w w'∧Rel w0 W0 Z H S' (a.put dst v) w'
theorem Ce.auL {s:Sem Next} (h:Ce P w0 W0 Z H S' a dst w s):IU P w0 W0 Z H S' a dst w s:=by
 obtain⟨w',v,h1,_,h2⟩:=h
 exact⟨w',v,.inl h1,h2⟩
theorem ij.C8 {s:Sem Next} (h:ij P w0 W0 Z H S' a dst w s):Ce P w0 W0 Z H S' a dst w s:=by
 obtain⟨v,h1,h2⟩:=h
 exact⟨w,v,h1 w (Ext.refl w),Ext.refl w,h2⟩
theorem ab4 (hT:cP P Θ=true) (h:aW σ w0 W0 Z H S a w) {hn:Hn} {o:Oper} {T:TypeId} (ho:o.op=.alloc T) (e:pF Θ hn S o.dst T=some (true,S')):Ce P w0 W0 Z H S' a o.dst w (execOp a.eval o):=by
 unfold pF at e
 split at e
 ·rename_i z hz
  cases hf:uT z.t (hn.find o.dst z.m) with
  |false=>rw[hf] at e;cases e
  |true=>
   rw[hf] at e
   simp only[cond_true,Option.some.injEq,Prod.mk.injEq,true_and] at e
   subst e
   obtain⟨i,inf,zv,_,_,_,_,h1,h2,h3,h4,_⟩:=Aq hT hz
   have hM:M w (Av σ Z) H z.t (hn.find o.dst z.m) z.t.z (zc z.t) (fun _=>False) []:=Ez z.t hf
   have aqJ:=M9 T hM (fun _ h=>h.elim)
   refine⟨w.alloc (.cells (zc z.t).toArray T),.pointer (some ⟨w.heap.size,0,none⟩),?_,fun g hg=>heap_alloc_old w _ g hg,_,h.M8 (b:=⟨.ptr z.t,.o T none (hn.find o.dst z.m),z.t.z⟩) (cs:=[.pointer (some ⟨w.heap.size,0,none⟩)]) (fun g hg=>heap_alloc_old w _ g hg) (h.fr.alloc _) (fun g hg=>?_) (fun g hg hx=>?_) (by simp[aq,isAgg]) aqJ⟩
   ·simp[execOp,ho,Instr.alloc,zeroValue,typeInfo,h1,h3,newVar,newRow,iL h4 (eP _ hM).2]
   ·rcases hg with hg |rfl
    ·exact hg.elim
    ·exact⟨by simp only[World.alloc,Array.size_push];omega,.inr (Nat.le_refl _)⟩
   ·rcases hx with hx |hx |rfl
    ·exact .inl hx
    ·exact hx.elim
    ·exact .inr (Nat.le_refl _)
 ·cases e
theorem oK {b:TV} {cs:List Value} {ow:Nat→Prop} {s:Sem Next} {n:Nat} (h:aW bF w0 W0 Z H S1 a w) (hk:gv σ bF n ow) (hn:S1.length=n) (hr:∀ w2,Ext w w2→s.run P w2=.ok (.value v) w2) (hm:aq b.t v cs) (hM:M w (Av σ Z) H b.t b.m b.x cs ow []):
  ij P w0 W0 Z H (S1.put dst (.v b [])) a dst w s:=by
 refine⟨v,hr,_,h.M8 (b:=b) (cs:=cs) (fun _ _=>rfl) h.fr (fun g hg=>?_) (fun g hg hx=>?_) hm hM⟩
 ·obtain⟨i,hi,a8⟩:=hk.now g hg
  exact⟨h.lt g i a8,.inl ⟨i,by omega,a8⟩⟩
 ·rcases hx with hx |hx
  ·exact hk.Av.1 hx
  ·obtain⟨i,hi,a8⟩:=hk.M7 g hx
   exact .inl ⟨i,a8⟩
theorem aqK (hT:cP P Θ=true) (h:aW σ w0 W0 Z H S a w) {o:Oper} {T:TypeId} {x:Operand} (ho:o.op=.box T x) (e:abv Θ S o.dst T x=some (true,S')):Ce P w0 W0 Z H S' a o.dst w (execOp a.eval o):=by
 unfold abv St.take at e
 split at e
 ·rename_i b S1 hb
  split at hb
  ·rename_i av dL
   obtain⟨bF,cs,ow,h1,hm,hM,hk,hn⟩:=eV h dL hb
   cases hc:Θ.is T b.t with
   |false=>rw[hc] at e;cases e
   |true=>
    rw[hc] at e
    simp only[cond_true,Option.some.injEq,Prod.mk.injEq,true_and] at e
    subst e
    have b9:∀ g,ow g→g<w.heap.size:=fun g hg=>by
     obtain⟨i,_,hi⟩:=hk.M7 g hg
     exact h.lt g i hi
    have aqJ:=M9 T hM b9
    refine⟨w.alloc (.cells cs.toArray T),.pointer (some ⟨w.heap.size,0,none⟩),?_,fun g hg=>heap_alloc_old w _ g hg,_,h1.M8 (b:=⟨.ptr b.t,.o T none b.m,b.x⟩) (cs:=[.pointer (some ⟨w.heap.size,0,none⟩)]) (fun g hg=>heap_alloc_old w _ g hg) (h1.fr.alloc _) (fun g hg=>?_) (fun g hg hx=>?_) (by simp[aq,isAgg]) aqJ⟩
    ·simp[execOp,ho,Instr.box,newVar,newRow,iL hm (eP _ hM).2]
    ·rcases hg with hg |rfl
     ·obtain⟨i,hi,a8⟩:=hk.now g hg
      have:=b9 g hg
      exact⟨by simp only[World.alloc,Array.size_push];omega,.inl ⟨i,by omega,a8⟩⟩
     ·exact⟨by simp only[World.alloc,Array.size_push];omega,.inr (Nat.le_refl _)⟩
    ·rcases hx with hx |hx |rfl
     ·exact .inl (hk.Av.1 hx)
     ·obtain⟨i,_,hi⟩:=hk.M7 g hx
      exact .inl (.inl ⟨i,hi⟩)
     ·exact .inr (Nat.le_refl _)
  ·cases hb
 ·cases e
end Go.Pv
namespace Go.Pv
set_option linter.unusedVariables false
set_option linter.unusedSimpArgs false
variable {P:Program} {w w':World} {A A' Wr:Nat→Prop} {H:Nat→Value} {tm rH:Nat→Value} {S S' S1:St} {σ bF:Nat→Option Nat} {w0:World} {W0 Z:Nat→Prop} {a:Act} {own:Nat→Prop} {v:Value} {Θ:dq} {dst:Option Nat}
theorem tD:∀ (p:Path) {t:Ty} {m:Md} {x:t.I} {b b0:TV} {r:Md×t.I},gw b p t m x=some r→aX p t m x=some b0→b.t=b0.t
 |[],t,m,x,b,b0,r,h,hg=>by
  simp only[aX,Option.some.injEq] at hg
  subst hg
  simp only[gw] at h
  split at h
  ·assumption
  ·cases h
 | .deref::p,.ptr t,.o T tag me,x,b,b0,r,h,hg=>by
  simp only[gw] at h
  simp only[aX] at hg
  split at h
  ·rename_i r1 h1
   exact tD p h1 hg
  ·cases h
 | .fst::p,.pair t u,m,x,b,b0,r,h,hg=>by
  simp only[gw] at h
  simp only[aX] at hg
  split at h
  ·rename_i r1 h1
   exact tD p h1 hg
  ·cases h
 | .snd::p,.pair t u,m,x,b,b0,r,h,hg=>by
  simp only[gw] at h
  simp only[aX] at hg
  split at h
  ·rename_i r1 h1
   exact tD p h1 hg
  ·cases h
 | .idx i::p,.sl t,.o T tag me,xs,b,b0,r,h,hg=>by
  obtain⟨r1,h1,_⟩:=DZ h
  simp only[aX] at hg
  exact tD p h1 hg
theorem jC:∀ (q:Path) {t:Ty} {x y:t.I},aH q=true→valid q t x→valid q t y
 |[],_,_,_,_,_=>trivial
 | .fst::q,.pair a b,x,y,h,hv=>by
  simp only[valid] at hv ⊢
  exact jC q (by simpa[aH] using h) hv
 | .snd::q,.pair a b,x,y,h,hv=>by
  simp only[valid] at hv ⊢
  exact jC q (by simpa[aH] using h) hv
theorem fY:∀ (q:Path),depth q=0→aH q=true
 |[],_=>rfl
 | .fst::q,h=>by simp only[aH];exact fY q (by simpa[depth] using h)
 | .snd::q,h=>by simp only[aH];exact fY q (by simpa[depth] using h)
 | .deref::q,h=>by simp[depth] at h
 | .idx i::q,h=>by simp[depth] at h
theorem eD:∀ (q:Path) {t:Ty} {cs cJ:List Value} {l:Option (Nat×Nat)},aH q=true→addrAt w q t cs l=addrAt w' q t cJ l
 |[],_,_,_,_,_=>rfl
 | .fst::q,.pair a b,cs,cJ,l,h=>by
  simp only[addrAt]
  exact eD q (by simpa[aH] using h)
 | .snd::q,.pair a b,cs,cJ,l,h=>by
  simp only[addrAt]
  exact eD q (by simpa[aH] using h)
 | .fst::q,.int _,_,_,_,_=>by simp[addrAt]
 | .fst::q,.bool,_,_,_,_=>by simp[addrAt]
 | .fst::q,.str,_,_,_,_=>by simp[addrAt]
 | .fst::q,.sl _,_,_,_,_=>by simp[addrAt]
 | .fst::q,.ptr _,_,_,_,_=>by simp[addrAt]
 | .fst::q,.unit,_,_,_,_=>by simp[addrAt]
 | .fst::q,.arr _ _,_,_,_,_=>by simp[addrAt]
 | .snd::q,.int _,_,_,_,_=>by simp[addrAt]
 | .snd::q,.bool,_,_,_,_=>by simp[addrAt]
 | .snd::q,.str,_,_,_,_=>by simp[addrAt]
 | .snd::q,.sl _,_,_,_,_=>by simp[addrAt]
 | .snd::q,.ptr _,_,_,_,_=>by simp[addrAt]
 | .snd::q,.unit,_,_,_,_=>by simp[addrAt]
 | .snd::q,.arr _ _,_,_,_,_=>by simp[addrAt]
theorem vd:∀ (q p:Path) {t:Ty} {m:Md} {x:t.I} {b:TV} {r:Md×t.I},gw b p t m x=some r→aH p=false→depth q≤1→valid q t x→valid q t r.2
 |[],_,_,_,_,_,_,_,_,_,_=>trivial
 | .deref::q,p,.ptr t,m,x,b,r,h,hp,hd,hv=>by
  simp only[valid] at hv ⊢
  exact jC q (fY q (by simp[depth] at hd;omega)) hv
 | .idx i::q,p,.sl t,m,xs,b,r,h,hp,hd,hv=>by
  simp only[valid] at hv ⊢
  refine⟨?_,jC q (fY q (by simp[depth] at hd;omega)) hv.2⟩
  cases p with
  |nil=>simp[aH] at hp
  |cons s p=>
   cases s<;>cases m<;>simp[gw] at h
   rename_i j T tag me
   have h':gw b (.idx j::p) (.sl t) (.o T tag me) xs=some r:=by simp only[gw];exact h
   obtain⟨r1,_,_,rfl⟩:=DZ h'
   simpa using hv.1
 | .fst::q,p,.pair t u,m,x,b,r,h,hp,hd,hv=>by
  simp only[valid] at hv ⊢
  cases p with
  |nil=>simp[aH] at hp
  |cons s p=>
   cases s<;>simp only[gw,reduceCtorEq] at h
   ·split at h
    ·rename_i r1 h1
     injection h with h
     subst h
     exact vd q p h1 (by simpa[aH] using hp) (by simpa[depth] using hd) hv
    ·cases h
   ·split at h
    ·rename_i r1 h1
     injection h with h
     subst h
     exact hv
    ·cases h
 | .snd::q,p,.pair t u,m,x,b,r,h,hp,hd,hv=>by
  simp only[valid] at hv ⊢
  cases p with
  |nil=>simp[aH] at hp
  |cons s p=>
   cases s<;>simp only[gw,reduceCtorEq] at h
   ·split at h
    ·rename_i r1 h1
     injection h with h
     subst h
     exact hv
    ·cases h
   ·split at h
    ·rename_i r1 h1
     injection h with h
     subst h
     exact vd q p h1 (by simpa[aH] using hp) (by simpa[depth] using hd) hv
    ·cases h
theorem oM:∀ (q:Path) {t:Ty} {m:Md} {x:t.I} {cs:List Value} {ow:Nat→Prop} {hs:List Path} {l:Option (Nat×Nat)} {g:Nat×Nat},
  M w' A' H t m x cs ow hs→open_ q hs→valid q t x→depth q≤1→addrAt w q t cs l=some g→addrAt w' q t cs l=some g
 |[],_,_,_,_,_,_,_,_,_,_,_,_,e=>e
 | .deref::q,.ptr t,m,x,cs,ow,hs,l,g0,h,ho,hv,hd,e=>by
  have hq:aH q=true:=fY q (by simp[depth] at hd;omega)
  simp only[M] at h
  rcases h with⟨hn,_⟩ |⟨hk,h⟩ |⟨T,tag,me,g,cur,rfl,rfl,ht,q8,hw,h⟩
  ·exact absurd hn ho.not_nil
  ·simp only[K] at h
   obtain⟨g,off,cur,T,fr,rfl,hng,hw,hl,h⟩:=h
   simp only[addrAt,bh hw hl,Option.bind_some] at e ⊢
   cases hr:rowAt w g off t.size with
   |none=>rw[hr] at e;cases e
   |some row=>
    rw[hr,Option.bind_some] at e
    rw[←e]
    exact eD q hq
  ·have jg:0+t.size≤cur.size:=by rw[←(eP t h).1];simp
   simp only[addrAt,bh hw jg,Option.bind_some] at e ⊢
   cases hr:rowAt w g 0 t.size with
   |none=>rw[hr] at e;cases e
   |some row=>
    rw[hr,Option.bind_some] at e
    rw[←e]
    exact eD q hq
 | .fst::q,.pair a b',m,x,cs,ow,hs,l,g0,h,ho,hv,hd,e=>by
  simp only[valid] at hv
  simp only[M] at h
  simp only[addrAt] at e ⊢
  rcases h with⟨hn,_⟩ |⟨hk,h⟩ |⟨ma,mb,c0,c1,s,rfl,rfl,h0,h1⟩
  ·exact absurd hn ho.not_nil
  ·simp only[K] at h
   obtain⟨c0,c1,rfl,h0,h1⟩:=h
   rw[←(lv a h0).1,List.take_left] at e ⊢
   exact oM q (gb (H:=H) (ow:=fun _=>False) (hs:=sub .fst hs) a h0) ho.sub hv (by simpa[depth] using hd) e
  ·rw[←(eP a h0).1,List.take_left] at e ⊢
   exact oM q h0 ho.sub hv (by simpa[depth] using hd) e
 | .snd::q,.pair a b',m,x,cs,ow,hs,l,g0,h,ho,hv,hd,e=>by
  simp only[valid] at hv
  simp only[M] at h
  simp only[addrAt] at e ⊢
  rcases h with⟨hn,_⟩ |⟨hk,h⟩ |⟨ma,mb,c0,c1,s,rfl,rfl,h0,h1⟩
  ·exact absurd hn ho.not_nil
  ·simp only[K] at h
   obtain⟨c0,c1,rfl,h0,h1⟩:=h
   rw[←(lv a h0).1,List.drop_left] at e ⊢
   exact oM q (gb (H:=H) (ow:=fun _=>False) (hs:=sub .snd hs) b' h1) ho.sub hv (by simpa[depth] using hd) e
  ·rw[←(eP a h0).1,List.drop_left] at e ⊢
   exact oM q h1 ho.sub hv (by simpa[depth] using hd) e
 | .idx i::q,.sl t,m,xs,cs,ow,hs,l,g0,h,ho,hv,hd,e=>by
  have hq:aH q=true:=fY q (by simp[depth] at hd;omega)
  simp only[valid] at hv
  obtain⟨hi,hv⟩:=hv
  simp only[M] at h
  rcases h with⟨hn,_⟩ |⟨hk,h⟩ |⟨T,tag,me,X,c,rfl,rfl,hc,ht,h⟩
  ·exact absurd hn ho.not_nil
  ·simp only[K] at h
   obtain⟨X,c,rfl,hc,h⟩:=h
   obtain⟨g,off,cur,T,fr,rfl,hng,hw,hl,h⟩:=h (by omega)
   have hbound:off+i*t.size+t.size≤cur.size:=by
    have:=Nat.mul_le_mul_right t.size (show i+1≤xs.length from hi)
    rw[Nat.add_mul,Nat.one_mul] at this
    omega
   simp only[addrAt,bh hw hbound,Option.bind_some] at e ⊢
   cases hr:rowAt w g (off+i*t.size) t.size with
   |none=>rw[hr] at e;cases e
   |some row=>
    rw[hr,Option.bind_some] at e
    rw[←e]
    exact eD q hq
  ·rcases h with⟨rfl,_⟩ |⟨g,cur,τ,rfl,q8,hw,jg,hm,h⟩
   ·simp at hi
   ·have hbound:0+i*t.size+t.size≤cur.size:=by
     have h1:=Nat.mul_le_mul_right t.size (show i+1≤xs.length from hi)
     have h2:=Nat.mul_le_mul_right t.size hc
     rw[Nat.add_mul,Nat.one_mul] at h1
     omega
    simp only[addrAt,bh hw hbound,Option.bind_some] at e ⊢
    cases hr:rowAt w g (0+i*t.size) t.size with
    |none=>rw[hr] at e;cases e
    |some row=>
     rw[hr,Option.bind_some] at e
     rw[←e]
     exact eD q hq
theorem ab5:∀ (q p:Path) {t:Ty} {m:Md} {x:t.I} {b b1:TV} {r:Md×t.I},gw b p t m x=some r→aX q t m x=some b1→∀ m',∃ b2,aX q t m' r.2=some b2∧b2.t=b1.t:=by
 have key:∀ (q:Path) {t:Ty} {m m':Md} {x y:t.I} {b1:TV},aX q t m x=some b1→∃ b2,aX q t m' y=some b2∧b2.t=b1.t:=by
  intro q
  induction q with
  |nil=>intro t m m' x y b1 h;simp only[aX,Option.some.injEq] at h;subst h;exact⟨_,rfl,rfl⟩
  |cons s q ih=>
   intro t m m' x y b1 h
   cases s<;>cases t<;>simp only[aX,reduceCtorEq] at h ⊢
   all_goals exact ih h
 intro q p t m x b b1 r _ h m'
 exact key q h
theorem Ha (bQ:aP w w' A A') {d:Nat} {r r':TV} {ex Dj:List Path} (Cf:r'.t=r.t) (hd:S.at d=.v r ex) (Vx:S'.at d=.v r' Dj) (hS:∀ i r1 ex1,i≠d→S.at i=.v r1 ex1→S'.at i=.v r1 ex1)
  (hM:∃ cN IJ,aq r.t (tm d) cN∧M w' A' H r'.t r'.m r'.x cN IJ Dj) (hex:∀ q∈Dj,q∈ex)
  (jw:∀ q,depth q≤1→valid q r.t r.x→valid q r'.t r'.x) (e6:∀ q b1,aX q r.t r.m r.x=some b1→∃ b2,aX q r'.t r'.m r'.x=some b2∧b2.t=b1.t)
  (hk:∀ s,s≠d→∃ own,Holds w A H tm S own (S.at s) (tm s)∧∀ g,own g→g<w.heap.size→w'.heap[g]?=w.heap[g]?)
  {own IJ:Nat→Prop} (oJ:∀ g,own g→g<w.heap.size→w'.heap[g]?=w.heap[g]? ∧IJ g) {av:AV} {v:Value} (hf:av.e9 d=false) (h:Holds w A H tm S own av v):Holds w' A' H tm S' IJ av v:=by
 have VH:∀ s,s≠d→Kept w w' A H tm tm S S' s:=fun s hs=>⟨fun r1 ex1=>hS s r1 ex1 hs,rfl,hk s hs⟩
 have aqL:∀ {t:Ty} {q:Path} {r1:TV} {cN:List Value},depth q≤1→Ref tm S t d q r1 cN→r1=r∧Ref tm S' t d q r' cN:=by
  intro t q r1 cN hq hr
  obtain⟨⟨ex1,h1,h2⟩,h3,⟨b1,h4,h5⟩,h6⟩:=hr
  rw[hd] at h1
  injection h1 with h1 h1'
  subst h1 h1'
  obtain⟨b2,k1,k2⟩:=e6 q b1 h4
  exact⟨rfl,⟨Dj,Vx,fun p hp=>h2 p (hex p hp)⟩,jw q hq h3,⟨b2,k1,k2.trans h5⟩,by rw[Cf];exact h6⟩
 cases av with
 |dead=>trivial
 |undef=>exact h
 |v b ex1=>
  obtain⟨cs,h1,h2⟩:=h
  exact⟨cs,h1,aG bQ _ (fun g hg hl=>(oJ g hg hl).1) (fun g hg hl=>(oJ g hg hl).2) (fun _ h=>h) h2⟩
 |ud l=>
  obtain⟨vs,τ,h1,h2,h3⟩:=h
  refine⟨vs,τ,h1,h2,fun j b hj=>?_⟩
  obtain⟨u,cs,k1,k2,k3⟩:=h3 j b hj
  exact⟨u,cs,k1,k2,aG bQ _ (fun g hg hl=>(oJ g hg.1 hl).1) (fun g hg hl=>⟨(oJ g hg.1 hl).2,hg.2⟩) (fun _ h=>h) k3⟩
 |al t s p=>
  obtain⟨r1,cN,cs,hr,hc,hm⟩:=h
  by_cases z':s=d
  ·subst z'
   cases p with
   |cons _ _=>simp[AV.e9] at hf
   |nil=>
    obtain⟨rfl,Ad⟩:=aqL (by simp[depth]) hr
    exact⟨r',cN,cs,Ad,hc,hm⟩
  ·obtain⟨h1,h2⟩:=hr.kept bQ (VH s z')
   exact⟨r1,cN,cs,h1,by rw[(h2 none).1];exact hc,hm⟩
 |ad t s p=>
  obtain⟨r1,cN,g,off,hr,hc,hm⟩:=h
  by_cases z':s=d
  ·subst z'
   have auQ:depth p≤1:=by
    simp only[AV.e9,Nat.beq_refl,Bool.true_and] at hf
    have: ¬ 2≤depth p:=fun h2=>by rw[Nat.ble_eq_true_of_le h2] at hf;cases hf
    omega
   obtain⟨rfl,Ad⟩:=aqL auQ hr
   obtain⟨cs1,ah3,m1,m2⟩:=hM
   obtain rfl:=eT m1 hr.mat
   obtain⟨ex1,e1,e2⟩:=Ad.at_
   rw[Vx] at e1
   injection e1 with _ e1
   subst e1
   refine⟨r',cs1,g,off,Ad,oM (w:=w) p m2 e2 Ad.val auQ (by rw[Cf];exact hc),hm⟩
  ·obtain⟨h1,h2⟩:=hr.kept bQ (VH s z')
   exact⟨r1,cN,g,off,h1,by rw[(h2 none).2];exact hc,hm⟩
 |cut t s p lo hi=>
  obtain⟨r1,cN,t',A1,n,c,hr,ht,hc,hm⟩:=h
  by_cases z':s=d
  ·subst z'
   simp[AV.e9] at hf
  ·obtain⟨h1,h2⟩:=hr.kept bQ (VH s z')
   exact⟨r1,cN,t',A1,n,c,h1,ht,by rw[(h2 none).1];exact hc,hm⟩
 |lu f cu=>
  obtain⟨vs,h1,h2,h3⟩:=h
  refine⟨vs,h1,h2,fun j c hj=>?_⟩
  obtain⟨u,k1,k2⟩:=h3 j c hj
  refine⟨u,k1,?_⟩
  cases c with
  |kv b=>exact bR bQ _ k2
  |pl t s p=>
   by_cases z':s=d
   ·subst z'
    obtain⟨r1,cN,cs,hr,hc,hm⟩:=k2
    cases p with
    |cons _ _=>
     have ly:=List.any_eq_false.1 hf _ (List.mem_of_getElem? hj)
     simp at ly
    |nil=>
     obtain⟨rfl,Ad⟩:=aqL (by simp[depth]) hr
     exact⟨r',cN,cs,Ad,hc,hm⟩
   ·exact mC.kept bQ (fun t1 s1 p1 e1=>by injection e1 with _ e1 _;subst e1;exact VH _ z') k2
theorem IX:∀ (p h:Path),pre p h=true→∃ q,h=p++q
 |[],h,_=>⟨h,rfl⟩
 | .deref::p,.deref::h,e=>by obtain⟨q,rfl⟩:=IX p h (by simpa[pre] using e);exact⟨q,rfl⟩
 | .fst::p,.fst::h,e=>by obtain⟨q,rfl⟩:=IX p h (by simpa[pre] using e);exact⟨q,rfl⟩
 | .snd::p,.snd::h,e=>by obtain⟨q,rfl⟩:=IX p h (by simpa[pre] using e);exact⟨q,rfl⟩
theorem take_at {x:Operand} {av:AV} {b:TV} {s:Nat} {r:TV} {ex:List Path} (e:S.dN x av=some (b,S1)) (hs:S1.at s=.v r ex):∃ ex0,S.at s=.v r ex0∧∀ q∈ex0,q∈ex:=by
 have YZ:∀ i,(S.put (some i) .dead).at s=.v r ex→S.at s=.v r ex:=by
  intro i h
  rw[dP] at h
  split at h
  ·simp[AV.refs] at h
  ·cases hr:(S.at s).refs i&&(S.at i).zU with
   |true=>rw[hr] at h;cases h
   |false=>rw[hr] at h;exact h
 cases av with
 |v b0 ex0=>
  simp only[St.dN] at e
  cases hk:b0.m.bG with
  |true=>
   rw[hk] at e
   simp only[cond_true,Option.some.injEq,Prod.mk.injEq] at e
   obtain⟨_,rfl⟩:=e
   exact⟨ex,hs,fun _ h=>h⟩
  |false=>
   rw[hk] at e
   simp only[cond_false] at e
   split at e
   ·simp only[Option.some.injEq,Prod.mk.injEq] at e
    obtain⟨_,rfl⟩:=e
    exact⟨ex,YZ _ hs,fun _ h=>h⟩
   ·simp only[Option.some.injEq,Prod.mk.injEq] at e
    obtain⟨_,rfl⟩:=e
    exact⟨ex,hs,fun _ h=>h⟩
   ·cases e
 |al t s0 p=>
  simp only[St.dN] at e
  split at e
  ·rename_i b' hb
   cases hk:b'.m.bG with
   |true=>
    rw[hk] at e
    simp only[cond_true,Option.some.injEq,Prod.mk.injEq] at e
    obtain⟨_,rfl⟩:=e
    exact⟨ex,hs,fun _ h=>h⟩
   |false=>
    rw[hk] at e
    simp only[cond_false] at e
    split at e
    ·simp only[Option.some.injEq,Prod.mk.injEq] at e
     obtain⟨_,rfl⟩:=e
     exact⟨ex,YZ _ hs,fun _ h=>h⟩
    ·rename_i r2 ex2 _ dE
     simp only[Option.some.injEq,Prod.mk.injEq] at e
     obtain⟨_,rfl⟩:=e
     rw[cQ] at hs
     split at hs
     ·rename_i hx
      injection hs with h1 h2
      subst h1 h2
      rw[hx.1]
      exact⟨ex2,dE,fun q hq=>List.mem_append_left _ hq⟩
     ·rw[Ev,kn] at hs
      cases ra:(S.at s).e9 s0 with
      |true=>rw[ra] at hs;simp at hs
      |false=>
       rw[ra] at hs
       simp only[cond_false] at hs
       split at hs
       ·cases hx:(Nat.beq _ s0&&under _ _) with
        |true=>rw[hx] at hs;cases hs
        |false=>rw[hx] at hs;cases hs
       ·exact⟨ex,hs,fun _ h=>h⟩
    ·cases e
  ·cases e
 |cut t s0 p lo hi=>
  cases p with
  |cons _ _=>simp[St.dN] at e
  |nil=>
   simp only[St.dN] at e
   split at e
   ·cases hl:Nat.beq lo 0 with
    |false=>rw[hl] at e;cases e
    |true=>
     rw[hl] at e
     simp only[cond_true,Option.some.injEq,Prod.mk.injEq] at e
     obtain⟨_,rfl⟩:=e
     exact⟨ex,YZ _ hs,fun _ h=>h⟩
   ·cases e
 |_=>simp[St.dN] at e
end Go.Pv
namespace Go.Pv
set_option linter.unusedVariables false
set_option linter.unusedSimpArgs false
variable {P:Program} {w w':World} {A A' Wr:Nat→Prop} {H:Nat→Value} {tm rH:Nat→Value} {S S' S1:St} {σ bF:Nat→Option Nat} {w0:World} {W0 Z:Nat→Prop} {a:Act} {own:Nat→Prop} {v:Value} {Θ:dq} {dst:Option Nat}
theorem Fr.setRow (h:Fr w0 W0 w) {g:Nat} {cs:Array Value} (hg:w0.heap.size≤g∨W0 g):Fr w0 W0 (w.setRow g cs):=by
 refine⟨h.os,h.tape,h.output,by rw[setRow_size];exact h.size,fun k hk hn=>?_⟩
 rw[setRow_other w g k _ (fun e=>by subst e;rcases hg with hg |hg;omega;exact hn hg)]
 exact h.block k hk hn
theorem Y0 (hT:cP P Θ=true) {T:TypeId} {t:Ty} {g off:Nat} {cs:List Value} {v:Value} {cur:Array Value} {T':TypeId} (ht:Θ.is T t=true) (hm:aq t v cs) (hl:cs.length=t.size) (h1:∀ u∈cs,u.oneCell'=true)
  (hw:w.heap[g]?=some (.cells cur T' (0,0))) (hb:off+cs.length≤cur.size):
  (Instr.storeAt T (.pointer (some ⟨g,off,none⟩)) v).run P w=.ok () (w.setRow g (putCells cur.toList off cs).toArray):=by
 obtain⟨inf,hi,hs,_⟩:=iB hT ht
 have:=run_storeCells_at (P:=P) g off T' cs 0 cur w hw (by omega) h1
 simp only[Nat.add_zero] at this
 simp[Instr.storeAt,Instr.sureAddr,storeVar,sizeOf,typeInfo,hi,hs,iL hm h1,hl]
 rw[hl] at this
 unfold putCells
 rw[hl]
 simpa using this
theorem xu:∀ (p h:Path),ga p h=true→B5 p h=true→h=p
 |[],[],_,_=>rfl
 | .idx i::p,.idx j::h,e,e2=>by
  simp only[B5,Bool.and_eq_true] at e2
  rw[xu p h (by simpa[ga] using e) e2.1,Nat.eq_of_beq_eq_true e2.2]
 | .deref::p,.deref::h,e,e2=>by rw[xu p h (by simpa[ga] using e) (by simpa[B5] using e2)]
 | .fst::p,.fst::h,e,e2=>by rw[xu p h (by simpa[ga] using e) (by simpa[B5] using e2)]
 | .snd::p,.snd::h,e,e2=>by rw[xu p h (by simpa[ga] using e) (by simpa[B5] using e2)]
 |[],.idx _::_,e,_ |[],.deref::_,e,_ |[],.fst::_,e,_ |[],.snd::_,e,_=>by simp[ga] at e
 | .idx _::_,[],e,_ | .deref::_,[],e,_ | .fst::_,[],e,_ | .snd::_,[],e,_=>by simp[ga] at e
 | .idx _::_,.deref::_,e,_ | .idx _::_,.fst::_,e,_ | .idx _::_,.snd::_,e,_=>by simp[ga] at e
 | .deref::_,.idx _::_,e,_ | .deref::_,.fst::_,e,_ | .deref::_,.snd::_,e,_=>by simp[ga] at e
 | .fst::_,.idx _::_,e,_ | .fst::_,.deref::_,e,_ | .fst::_,.snd::_,e,_=>by simp[ga] at e
 | .snd::_,.idx _::_,e,_ | .snd::_,.deref::_,e,_ | .snd::_,.fst::_,e,_=>by simp[ga] at e
theorem xv {p q:Path}:∀ {l:List Path},q∈(dM p l).2→q∈l
 |[],h=>h
 |x::r,h=>by
  simp only[dM] at h
  cases ha:ga p x with
  |true=>rw[ha] at h;exact List.mem_cons_of_mem _ h
  |false=>
   rw[ha] at h
   simp only[cond_false,List.mem_cons] at h
   rcases h with h |h
   ·rw[h];exact List.mem_cons_self
   ·exact List.mem_cons_of_mem _ (xv h)
theorem uw {p q:Path}:∀ {l:List Path},(dM p l).1=true→(∀ q',q≠p++q')→q∈l→q∈(dM p l).2
 |[],_,_,h=>h
 |x::r,hc,hn,h=>by
  simp only[dM] at hc ⊢
  cases ha:ga p x with
  |true=>
   rw[ha] at hc
   simp only[cond_true] at hc ⊢
   rcases List.mem_cons.1 h with h |h
   ·subst h
    exact absurd ((xu p q ha hc).trans (List.append_nil p).symm) (hn [])
   ·exact h
  |false=>
   rw[ha] at hc
   simp only[cond_false] at hc ⊢
   rcases List.mem_cons.1 h with h |h
   ·rw[h];exact List.mem_cons_self
   ·exact List.mem_cons_of_mem _ (uw hc hn h)
theorem ab6 (hT:cP P Θ=true) (h:aW σ w0 W0 Z H S a w) {o:Oper} {T:TypeId} {x y:Operand} (ho:o.op=.store T x y) (nm:o.dst=none) (e:lR Θ S T x y=some (true,S')):IU P w0 W0 Z H S' a o.dst w (execOp a.eval o):=by
 unfold lR at e
 split at e
 case h_2=>cases e
 rename_i av dL
 split at e
 case h_2=>cases e
 rename_i t s p awU
 unfold St.take at e
 split at e
 case h_2=>cases e
 rename_i b S1 hb
 split at hb
 case h_2=>cases hb
 rename_i av2 RC
 cases hc:Θ.is T b.t with
 |false=>rw[hc] at e;cases e
 |true=>
 rw[hc] at e
 simp only[cond_true] at e
 split at e
 case h_2=>cases e
 rename_i r ex hs1
 split at e
 case h_2=>cases e
 rename_i m z n9
 cases hex:ex.all (fun q=>!under q p) with
 |false=>rw[hex] at e;cases e
 |true=>
 rw[hex] at e
 simp only[cond_true,Option.some.injEq,Prod.mk.injEq] at e
 obtain⟨hds,e⟩:=e
 have xw:open_ p ex:=eU (fun q hq=>by simpa using List.all_eq_true.1 hex q hq)
 obtain⟨r0,ex0,q1,q2⟩:=r9 h dL awU
 obtain⟨bF,cs,ow,h1,hm,hM,hk,hn⟩:=eV h RC hb
 obtain⟨axP,q3,q4⟩:=take_at hb hs1
 rw[q1] at q3
 injection q3 with q3 q3'
 subst q3 q3'
 obtain⟨cN,g,off,hr,om,hx⟩:=q2 (fun q hq=>xw q (q4 q hq))
 obtain⟨b0,hb0,zX⟩:=hr.get
 -- the slot,behind the take
 have hh:=h1.holds s
 rw[hs1] at hh
 obtain⟨auR,Y1,ML⟩:=hh
 obtain rfl:=eT hr.mat Y1
 have G1:s<S1.length:=eH (by rw[hs1];exact fun e=>by cases e)
 obtain⟨cJ,cB,c1,c2,c3,kY⟩:=zW p ML xw hr.val hb0
 have fH:b.t=b0.t:=tD p n9 hb0
 obtain⟨pJ,kY⟩:=kY b (m,z) fH n9
 have hpm:aH p=false:=by
  cases hp:aH p with
  |false=>rfl
  |true=>rw[eG p hp] at om;cases om
 -- the address is the same: the world is
 have ab7:addrAt w p r0.t cN none=some (g,off):=om
 obtain⟨eO,rC,cur,T',hw,hbound,_⟩:=pJ g off ab7
 obtain⟨hlen,aii⟩:=eP _ hM
 have w9:off+cs.length≤cur.size:=by rw[hlen,fH];exact hbound
 have bZ:=Y0 (P:=P) (w:=w) hT hc hm hlen aii hw w9
 have xx:∀ g',ow g'→bF g'≠some s:=fun g' a8 e'=>by
  obtain⟨i,hi,nk⟩:=hk.now g' a8
  rw[e'] at nk
  injection nk with nk
  omega
 let dZ:Nat→Option Nat:=fun g'=>open Classical in if ow g' then some s else bF g'
 have M':∀ g' i,dZ g'=some i→(ow g'∧i=s)∨(¬ow g'∧bF g'=some i):=fun g' i a8=>by
  simp only[dZ] at a8
  split at a8
  ·injection a8 with a8;exact .inl ⟨by assumption,a8.symm⟩
  ·exact .inr ⟨by assumption,a8⟩
 have HO:∀ g' i,¬ow g'→bF g'=some i→dZ g'=some i:=fun g' i hn a8=>by simp only[dZ,if_neg hn,a8]
 have aij:∀ g',Av dZ Z g'→Av bF Z g':=fun g' a8=>by
  rcases a8 with⟨i,a8⟩ |a8
  ·rcases M' g' i a8 with⟨hx,_⟩ |⟨_,hx⟩
   ·obtain⟨j,_,hj⟩:=hk.now g' hx
    exact .inl ⟨j,hj⟩
   ·exact .inl ⟨i,hx⟩
  ·exact .inr a8
 have gm:∀ k,k≠g→(w.setRow g (putCells cur.toList off cs).toArray).heap[k]?=w.heap[k]?:=fun k hk=>setRow_other w g k _ hk
 have bQ:aP w (w.setRow g (putCells cur.toList off cs).toArray) (Av bF Z) (Av dZ Z):=⟨fun k hk _=>gm k (fun e'=>hk (by rw[e'];exact .inl ⟨s,eO⟩)),fun k _ hk=>aij k hk⟩
 have hMb:M (w.setRow g (putCells cur.toList off cs).toArray) (Av dZ Z) H b.t b.m b.x cs ow (w8 p (dM p (ex.filter fun q=>!pre p q)).2):=by
  refine aG ⟨fun k eY _=>gm k (fun e'=>eY (by rw[e'];exact hk.Av.1 (.inl ⟨s,eO⟩))),fun k _ eY=>hk.Av.1 (aij k eY)⟩ _ (fun k eY _=>gm k (fun e'=>xx k eY (by rw[e'];exact eO))) (fun k eY _=>eY) (fun _ h=>by simp at h) hM
 have EA:=kY (w.setRow g (putCells cur.toList off cs).toArray) (Av dZ Z) cs ow (dM p (ex.filter fun q=>!pre p q)).2 bQ (by rw[hlen,fH]) (fun k Q4 Q2 _=>by
   rw[ab7]
   simp only[lx]
   split
   ·rename_i hkg
    subst hkg
    exact⟨cur,T',hw,setRow_heap w k cur _ T' (0,0) hw⟩
   ·rename_i hkg
    exact gm k hkg) hMb (fun k Q4 _ Q2=>absurd Q2 (xx k Q4)) (fun q hq1 Hz=>by
   refine uw hds hq1 (List.mem_filter.2 ⟨Hz,?_⟩)
   cases hp:pre p q with
   |false=>rfl
   |true=>
    obtain⟨q',rfl⟩:=IX p q hp
    exact absurd rfl (hq1 q'))
 rw[ke p hpm] at EA
 have apd:M (w.setRow g (putCells cur.toList off cs).toArray) (Av dZ Z) H r0.t m z cN (fun g'=>dZ g'=some s) (dM p (ex.filter fun q=>!pre p q)).2:=by
  refine aG (aP.refl _ _) _ (fun _ _ _=>rfl) (fun k eY _=>?_) (fun _ h=>h) EA
  rcases eY with⟨k1,_⟩ |k1
  ·exact HO k s (fun hx=>xx k hx k1) k1
  ·simp only[dZ,if_pos k1]
 refine⟨w.setRow g (putCells cur.toList off cs).toArray,undef,.inr ⟨rfl,?_⟩,dZ,?_⟩
 ·simp only[execOp,ho,hx,Sem.run_bind,bZ,Result.andThen_ok]
  rfl
 ·rw[nm]
  show aW dZ w0 W0 Z H S' a (w.setRow g (putCells cur.toList off cs).toArray)
  have auS:((S1.weaken s).set s (.v ⟨r0.t,m,z⟩ (dM p (ex.filter fun q=>!pre p q)).2)).length=S1.length:=by simp[St.weaken]
  have dE:∀ i,S'.at i=if i=s then .v ⟨r0.t,m,z⟩ (dM p (ex.filter fun q=>!pre p q)).2 else bif (S1.at i).e9 s then .dead else S1.at i:=by
   intro i
   rw[←e,cQ]
   by_cases hi:i=s
   ·rw[if_pos hi,if_pos ⟨hi,by simp[St.weaken];exact G1⟩]
   ·rw[if_neg hi,if_neg (fun h=>hi h.1),kn]
  refine⟨by rw[←e,auS];exact h1.len,h1.defers,h1.fr.setRow (h1.new g s eO),fun g' i a8=>?_,fun g' i a8=>?_,fun g' a8=>⟨?_,(h1.old g' a8).2⟩,fun i=>?_⟩
  ·rcases M' g' i a8 with⟨hx,_⟩ |⟨_,hx⟩
   ·obtain⟨j,_,hj⟩:=hk.now g' hx
    exact h1.new g' j hj
   ·exact h1.new g' i hx
  ·rw[setRow_size]
   rcases M' g' i a8 with⟨hx,_⟩ |⟨_,hx⟩
   ·obtain⟨j,_,hj⟩:=hk.now g' hx
    exact h1.lt g' j hj
   ·exact h1.lt g' i hx
  ·have:=(h1.old g' a8).1
   simp only[dZ]
   split
   ·rename_i hx
    obtain⟨j,_,hj⟩:=hk.now g' hx
    rw[this] at hj
    cases hj
   ·exact this
  ·rw[dE i]
   by_cases Q3:i=s
   ·subst Q3
    rw[if_pos rfl]
    exact⟨cN,hr.mat,apd⟩
   ·rw[if_neg Q3]
    by_cases Hu:i<S1.length
    rotate_left
    ·have:S1.at i=.dead:=Classical.byContradiction fun hx=>Hu (eH hx)
     rw[this]
     trivial
    cases ra:(S1.at i).e9 s with
    |true=>trivial
    |false=>
     simp only[cond_false]
     refine Ha (r:=r0) (r':=⟨r0.t,m,z⟩) (ex:=ex) (Dj:=(dM p (ex.filter fun q=>!pre p q)).2) bQ rfl hs1 (by rw[dE s,if_pos rfl]) (fun j r1 ex1 hj hv=>by rw[dE j,if_neg hj,hv];simp[AV.e9]) ⟨cN,_,hr.mat,apd⟩ (fun q hq=>(List.mem_filter.1 (xv hq)).1)
      (fun q hq hv=>vd q p n9 hpm hq hv) (fun q b1 hq=>ab5 q p n9 hq m) (fun j hj=>⟨_,h1.holds j,fun g' a8 _=>gm g' (fun e'=>by subst e';rw[eO] at a8;injection a8 with a8;exact hj a8.symm)⟩)
      (fun g' a8 _=>⟨gm g' (fun e'=>by subst e';rw[eO] at a8;injection a8 with a8;exact Q3 a8.symm),HO g' i (fun hx=>?_) a8⟩) ra (h1.holds i)
     obtain⟨j,GY,pC⟩:=hk.now g' hx
     rw[a8] at pC
     injection pC with pC
     omega
end Go.Pv
namespace Go.Pv
set_option linter.unusedVariables false
set_option linter.unusedSimpArgs false
variable {P:Program} {w w':World} {A A' Wr:Nat→Prop} {H:Nat→Value} {tm rH:Nat→Value} {S S' S1:St} {σ bF dZ:Nat→Option Nat} {w0:World} {W0 Z:Nat→Prop} {a:Act} {own:Nat→Prop} {v:Value} {Θ:dq} {dst:Option Nat}
theorem Na (off:Nat):∀ (l:List Value) (k:Nat) (cells:Array Value),off+k+l.length≤cells.size→
  ((l.zipIdx k).foldl (fun(cs:Array Value) (x:Value×Nat)=>cs.setIfInBounds (off+x.2) x.1) cells).toList=putCells cells.toList (off+k) l
 |[],k,cells,h=>by simp[putCells]
 |c::l,k,cells,h=>by
  simp only[List.zipIdx_cons,List.foldl_cons]
  simp only[List.length_cons] at h
  rw[Na off l (k+1) (cells.setIfInBounds (off+k) c) (by simp;omega)]
  have h1:off+k<cells.toList.length:=by simp;omega
  apply List.ext_getElem?
  intro j
  rw[iy _ _ _ _ (by simp;omega),iy _ _ _ _ (by simp;omega)]
  simp only[Array.toList_setIfInBounds,List.length_cons]
  by_cases hj:j<off+k
  ·rw[if_pos (by omega),if_pos hj,List.getElem?_set_ne (by omega)]
  ·by_cases pC:j=off+k
   ·subst pC
    rw[if_pos (by omega),if_neg (by omega),if_pos (by omega),List.getElem?_set_self h1]
    simp
   ·by_cases hj3:j<off+k+1+l.length
    ·rw[if_neg (by omega),if_pos (by omega),if_neg (by omega),if_pos (by omega),show j - (off+k)=(j - (off+(k+1)))+1 from by omega]
     simp
    ·rw[if_neg (by omega),if_neg (by omega),if_neg (by omega),if_neg (by omega),List.getElem?_set_ne (by omega)]
def oN (cE:List (List Value)) (i:Nat):Nat:=((cE.take i).map List.length).sum
theorem pU (cE:List (List Value)) (i:Nat) (h:i<cE.length):cE.flatten=(cE.take i).flatten++(cE[i]++(cE.drop (i+1)).flatten):=by
 conv=>lhs;rw[←List.take_append_drop i cE]
 rw[List.flatten_append,List.drop_eq_getElem_cons h,List.flatten_cons]
theorem EB (cE:List (List Value)) (i:Nat):(cE.take i).flatten.length=oN cE i:=by simp[oN,List.length_flatten]
theorem aik (cE:List (List Value)) (i:Nat) (c:List Value) (h:i<cE.length) (hc:c.length=cE[i].length):putCells cE.flatten (oN cE i) c=(cE.set i c).flatten:=by
 have e1:=pU cE i h
 have e2:=pU (cE.set i c) i (by simpa using h)
 rw[e2]
 simp only[List.getElem_set_self]
 rw[List.take_set_of_le (by omega),List.drop_set_of_lt (by omega)]
 have hd:cE.flatten.drop (oN cE i+c.length)=(cE.drop (i+1)).flatten:=by
  rw[e1,←EB,hc,←List.append_assoc,←List.length_append,List.drop_left]
 have ht:cE.flatten.take (oN cE i)=(cE.take i).flatten:=by
  rw[e1,←EB,List.take_left]
 unfold putCells
 rw[hd,ht,List.append_assoc]
theorem ab8 (cE:List (List Value)) (i j:Nat) (c:List Value) (h:i<cE.length) (hc:c.length=cE[i].length):oN (cE.set i c) j=oN cE j:=by
 unfold oN
 congr 1
 apply List.ext_getElem?
 intro k
 simp only[List.getElem?_map,List.getElem?_take,List.getElem?_set]
 split
 ·by_cases hk:i=k
  ·subst hk
   simp[h,hc]
  ·simp[hk]
 ·rfl
theorem ab9 (cE:List (List Value)) (i:Nat) (h:i<cE.length):oN cE i+cE[i].length≤cE.flatten.length:=by
 rw[pU cE i h,List.length_append,List.length_append,EB]
 omega
def Nb (f:Nat→Option (List Value)) (cE:List (List Value)):List (List Value):=cE.mapIdx fun i c=>(f i).getD c
theorem HP (place:Nat→Option (Nat×Nat)):∀ (parts:List (Nat×Value)) (cE:List (List Value)),(∀ i (h:i<cE.length),place i=some (oN cE i,cE[i].length))→
  (∀ q∈parts,∃ h:q.1<cE.length,q.2.cells.size=cE[q.1].length)→(parts.map (·.1)).Nodup→
  Instr.fill place cE.flatten.toArray parts=some (Nb (fun i=>(parts.find? (fun q=>Nat.beq q.1 i)).map (·.2.cells.toList)) cE).flatten.toArray
 |[],cE,_,_,_=>by
  have:Nb (fun i=>(([]:List (Nat×Value)).find? (fun q=>Nat.beq q.1 i)).map (·.2.cells.toList)) cE=cE:=by
   unfold Nb
   apply List.ext_getElem?
   intro k
   simp[List.getElem?_mapIdx]
  rw[this];rfl
 |(i,v)::rest,cE,hp,hs,hn=>by
  obtain⟨hi,hv⟩:=hs (i,v) (by simp)
  simp only at hi hv
  have w9:=ab9 cE i hi
  simp only[Instr.fill,hp i hi]
  have auT:=w9
  rw[List.length_flatten] at auT
  rw[if_neg (by simp[hv];omega)]
  have hlen:v.cells.toList.length=cE[i].length:=by simpa using hv
  have auU:v.cells.zipIdx.foldl (fun cs (x:Value×Nat)=>cs.setIfInBounds (oN cE i+x.2) x.1) cE.flatten.toArray=(cE.set i v.cells.toList).flatten.toArray:=by
   have:=Na (oN cE i) v.cells.toList 0 cE.flatten.toArray (by simp only[hlen,List.size_toArray];omega)
   rw[←aik cE i v.cells.toList hi hlen]
   apply Array.toList_inj.1
   rw[←Array.foldl_toList,Array.toList_zipIdx]
   simpa using this
  simp only[List.map_cons,List.nodup_cons] at hn
  have n9:∀ (k:Nat) (hk:k<(cE.set i v.cells.toList).length),(cE.set i v.cells.toList)[k].length=(cE[k]'(by simpa using hk)).length:=by
   intro k hk
   rw[List.getElem_set]
   split
   ·rename_i e;subst e;exact hlen
   ·rfl
  have ih:=HP place rest (cE.set i v.cells.toList) (fun k hk=>by rw[ab8 cE i k _ hi hlen,n9 k hk];exact hp k (by simpa using hk)) (fun q hq=>by
   obtain⟨h1,h2⟩:=hs q (by simp[hq])
   exact⟨by simpa using h1,by rw[n9];exact h2⟩) hn.2
  refine(congrArg (fun c=>Instr.fill place c rest) auU).trans (ih.trans ?_)
  congr 3
  unfold Nb
  apply List.ext_getElem?
  intro k
  simp only[List.getElem?_mapIdx,List.getElem?_set]
  by_cases hk:i=k
  ·subst hk
   have:rest.find? (fun q=>Nat.beq q.1 i)=none:=List.find?_eq_none.2 fun q hq e=>hn.1 (List.mem_map.2 ⟨q,hq,Nat.eq_of_beq_eq_true e⟩)
   simp[hi,this]
  ·have:Nat.beq i k=false:=by
    cases hb:Nat.beq i k with
    |false=>rfl
    |true=>exact absurd (Nat.eq_of_beq_eq_true hb) hk
   simp[hk,this]
end Go.Pv
namespace Go.Pv
set_option linter.unusedVariables false
set_option linter.unusedSimpArgs false
variable {P:Program} {w w':World} {A A' Wr:Nat→Prop} {H:Nat→Value} {tm rH:Nat→Value} {S S' S1:St} {σ bF dZ:Nat→Option Nat} {w0:World} {W0 Z:Nat→Prop} {a:Act} {own:Nat→Prop} {v:Value} {Θ:dq} {dst:Option Nat}
theorem gv.trans {n:Nat} {ow1 pS:Nat→Prop} (h1:gv σ bF n ow1) (h2:gv bF dZ n pS):gv σ dZ n (fun g=>ow1 g∨pS g):=by
 refine⟨fun g hg=>?_,fun g hg=>?_,fun g i hg hi=>h1.sub g i (h2.sub g i hg hi) hi,fun g=>(h2.dom g).trans (h1.dom g),fun g i hg hi=>h2.par g i (h1.par g i hg hi) hi⟩
 ·rcases hg with hg |hg
  ·exact h1.M7 g hg
  ·obtain⟨i,hi,nk⟩:=h2.M7 g hg
   exact⟨i,hi,h1.sub g i nk hi⟩
 ·rcases hg with hg |hg
  ·obtain⟨i,hi,nk⟩:=h1.now g hg
   exact⟨i,hi,h2.par g i nk hi⟩
  ·exact h2.now g hg
theorem gv.apart {n:Nat} {ow1 pS:Nat→Prop} (h1:gv σ bF n ow1) (h2:gv bF dZ n pS) {g:Nat} (hg:ow1 g): ¬pS g:=fun rC=>by
 obtain⟨i,hi,nk⟩:=h1.now g hg
 obtain⟨j,hj,pC⟩:=h2.M7 g rC
 rw[nk] at pC
 injection pC with pC
 omega
theorem mI:∀ (t:Ty),(zc t).length=t.size
 | .int _=>rfl | .bool=>rfl | .str=>rfl | .sl _=>rfl | .ptr _=>rfl | .unit=>rfl
 | .pair a b=>by simp[zc,Ty.size,mI a,mI b]
 | .arr n t=>by simp[zc,Ty.size,List.length_flatten,mI t]
theorem pV (hT:cP P Θ=true) (ps:List (Nat×Operand)):∀ (Ts:List TypeId) (j:Nat) {S S1:St} {σ:Nat→Option Nat} {l:List TV},aW σ w0 W0 Z H S a w→S.parts Θ ps Ts j=some (l,S1)→
  ∃ (bF:Nat→Option Nat) (ow:Nat→Prop) (τ:Nat→Nat) (e8:List (List Value)),aW bF w0 W0 Z H S1 a w∧S1.length=S.length∧gv σ bF S.length ow∧e8.length=l.length∧l.length=Ts.length∧(∀ g,ow g→j≤τ g)∧
   ∀ (k:Nat) (b:TV),l[k]?=some b→∃ cs,e8[k]?=some cs∧M w (Av σ Z) H b.t b.m b.x cs (fun g=>ow g∧τ g=j+k) []∧
    ((∃ q,ps.find? (fun q=>Nat.beq q.1 (j+k))=some q∧aq b.t (a.eval q.2) cs)∨(ps.find? (fun q=>Nat.beq q.1 (j+k))=none∧cs=zc b.t))
 |[],j,S,S1,σ,l,h,e=>by
  simp only[St.parts,Option.some.injEq,Prod.mk.injEq] at e
  obtain⟨rfl,rfl⟩:=e
  exact⟨σ,fun _=>False,fun _=>j,[],h,rfl,gv.none _ _,rfl,rfl,fun _ h=>h.elim,fun k b hk=>by simp at hk⟩
 |T::Ts,j,S,S1,σ,l,h,e=>by
  simp only[St.parts] at e
  split at e
  ·rename_i q hq
   unfold St.take at e
   split at e
   case h_2=>cases e
   rename_i b S2 hb
   split at hb
   case h_2=>cases hb
   rename_i av dL
   split at e
   case h_2=>cases e
   rename_i l2 S3 hl2
   simp only[Option.some.injEq,Prod.mk.injEq] at e
   obtain⟨rfl,rfl⟩:=e
   obtain⟨bF,cs,ow,h1,hm,hM,hk,hn⟩:=eV h dL hb
   obtain⟨dZ,pS,τ,e8,r1,r2,r3,r4,r5,r6,r7⟩:=pV hT ps Ts (j+1) h1 hl2
   rw[hn] at r3
   have RD:∀ g,ow g→¬pS g:=fun g hg=>hk.apart r3 hg
   let VI:Nat→Nat:=fun g=>open Classical in if ow g then j else τ g
   refine⟨dZ,fun g=>ow g∨pS g,VI,cs::e8,r1,by omega,hk.trans r3,by simp[r4],by simp[r5],fun g hg=>?_,fun k b' eY=>?_⟩
   ·simp only[VI]
    split
    ·exact Nat.le_refl _
    ·rename_i hx
     have:=r6 g (hg.resolve_left hx)
     omega
   ·cases k with
    |zero=>
     simp only[List.getElem?_cons_zero,Option.some.injEq] at eY
     subst eY
     refine⟨cs,rfl,aG (aP.refl _ _) _ (fun _ _ _=>rfl) (fun g hg _=>⟨.inl hg,by simp only[VI,if_pos hg,Nat.add_zero]⟩) (fun _ h=>h) hM,.inl ⟨q,hq,hm⟩⟩
    |succ k=>
     simp only[List.getElem?_cons_succ] at eY ⊢
     obtain⟨c2,d1,d2,d3⟩:=r7 k b' eY
     refine⟨c2,d1,aG ⟨fun _ _ _=>rfl,fun g _ hg=>hk.Av.2 hg⟩ _ (fun _ _ _=>rfl) (fun g hg _=>⟨.inr hg.1,?_⟩) (fun _ h=>h) d2,by rw[show j+(k+1)=j+1+k from by omega];exact d3⟩
     simp only[VI]
     rw[if_neg (fun hx=>RD g hx hg.1),hg.2]
     omega
  ·rename_i hq
   split at e
   case h_2=>cases e
   rename_i b hb
   split at e
   case h_2=>cases e
   rename_i l2 S3 hl2
   simp only[Option.some.injEq,Prod.mk.injEq] at e
   obtain⟨rfl,rfl⟩:=e
   obtain⟨i,inf,zv,_,_,hx,w9,_⟩:=Aq hT hb
   obtain⟨dZ,pS,τ,e8,r1,r2,r3,r4,r5,r6,r7⟩:=pV hT ps Ts (j+1) h hl2
   refine⟨dZ,pS,τ,zc b.t::e8,r1,r2,r3,by simp[r4],by simp[r5],fun g hg=>by have:=r6 g hg;omega,fun k b' eY=>?_⟩
   cases k with
   |zero=>
    simp only[List.getElem?_cons_zero,Option.some.injEq] at eY
    subst eY
    refine⟨_,rfl,IW ?_,.inr ⟨hq,rfl⟩⟩
    rw[hx]
    exact Ez _ w9
   |succ k=>
    simp only[List.getElem?_cons_succ] at eY ⊢
    obtain⟨c2,d1,d2,d3⟩:=r7 k b' eY
    exact⟨c2,d1,aG (aP.refl _ _) _ (fun _ _ _=>rfl) (fun g hg _=>⟨hg.1,by rw[hg.2];omega⟩) (fun _ h=>h) d2,by rw[show j+(k+1)=j+1+k from by omega];exact d3⟩
theorem EC {ps:List (Nat×Operand)} {l:List TV} {e8:List (List Value)} {place:Nat→Option (Nat×Nat)} (hl:e8.length=l.length) (RB:kJ l.length ps=true)
  (hlen:∀ (k:Nat) (b:TV) (cs:List Value),l[k]?=some b→e8[k]?=some cs→cs.length=b.t.size∧∀ u∈cs,u.oneCell'=true)
  (hZ:∀ (k:Nat) (b:TV),l[k]?=some b→∃ cs,e8[k]?=some cs∧((∃ q,ps.find? (fun q=>Nat.beq q.1 k)=some q∧aq b.t (a.eval q.2) cs)∨(ps.find? (fun q=>Nat.beq q.1 k)=none∧cs=zc b.t)))
  (auV:∀ i (h:i<l.length),place i=some (oN (l.map fun b=>zc b.t) i,l[i].t.size)):
  Instr.fill place (l.map fun b=>zc b.t).flatten.toArray (ps.map fun q=>(q.1,a.eval q.2))=some e8.flatten.toArray:=by
 have hp:∀ {n:Nat} {ps:List (Nat×Operand)},kJ n ps=true→(∀ q∈ps,q.1<n)∧(ps.map (·.1)).Nodup:=by
  intro n ps
  induction ps with
  |nil=>intro _;exact⟨fun _ h=>by simp at h,by simp⟩
  |cons q r ih=>
   intro h
   simp only[kJ,Bool.and_eq_true] at h
   obtain⟨⟨h1,h2⟩,h3⟩:=h
   obtain⟨i1,i2⟩:=ih h3
   refine⟨fun q' rE=>?_,?_⟩
   ·rcases List.mem_cons.1 rE with rfl |rE
    ·exact Nat.lt_of_succ_le (Nat.le_of_ble_eq_true h1)
    ·exact i1 q' rE
   ·simp only[List.map_cons,List.nodup_cons]
    refine⟨fun hm=>?_,i2⟩
    obtain⟨q',rE,e⟩:=List.mem_map.1 hm
    have:(r.any fun q'=>Nat.beq q'.1 q.1)=true:=List.any_eq_true.2 ⟨q',rE,by rw[e];exact Nat.beq_refl _⟩
    rw[this] at h2
    cases h2
 obtain⟨b9,MO⟩:=hp RB
 have e6:∀ i (h:i<l.length),l[i]?=some l[i]:=fun i h=>List.getElem?_eq_getElem h
 have ab1:∀ (i:Nat) (q:Nat×Operand),q∈ps→q.1=i→ps.find? (fun q=>Nat.beq q.1 i)=some q:=by
  intro i q hq hi
  subst hi
  clear hZ hlen auV RB b9
  induction ps with
  |nil=>simp at hq
  |cons q' r ih=>
   simp only[List.map_cons,List.nodup_cons] at MO
   rcases List.mem_cons.1 hq with rfl |hq
   ·simp
   ·have:Nat.beq q'.1 q.1=false:=by
     cases hb:Nat.beq q'.1 q.1 with
     |false=>rfl
     |true=>exact absurd (List.mem_map.2 ⟨q,hq,(Nat.eq_of_beq_eq_true hb).symm⟩) MO.1
    rw[List.find?_cons,this]
    exact ih MO.2 hq
 rw[HP place _ (l.map fun b=>zc b.t) (fun i h=>by
   rw[auV i (by simpa using h)]
   simp[mI]) (fun q hq=>by
   obtain⟨q0,hq0,rfl⟩:=List.mem_map.1 hq
   have hi:=b9 q0 hq0
   refine⟨by simpa using hi,?_⟩
   obtain⟨cs,h1,h2⟩:=hZ q0.1 _ (e6 q0.1 hi)
   obtain⟨h3,h4⟩:=hlen _ _ _ (e6 q0.1 hi) h1
   rcases h2 with⟨q,rE,hm⟩ |⟨rE,_⟩
   ·rw[ab1 q0.1 q0 hq0 rfl] at rE
    injection rE with rE
    subst rE
    rw[iL hm h4]
    simp[h3,mI]
   ·rw[ab1 q0.1 q0 hq0 rfl] at rE;cases rE) (by simpa[List.map_map,Function.comp_def] using MO)]
 congr 3
 unfold Nb
 apply List.ext_getElem?
 intro k
 rw[List.getElem?_mapIdx]
 by_cases hk:k<l.length
 ·simp only[List.getElem?_map,e6 k hk,Option.map_some]
  obtain⟨cs,h1,h2⟩:=hZ k _ (e6 k hk)
  obtain⟨h3,h4⟩:=hlen _ _ _ (e6 k hk) h1
  rw[h1]
  rw[List.find?_map]
  simp only[Function.comp_def]
  rcases h2 with⟨q,rE,hm⟩ |⟨rE,he⟩
  ·rw[rE]
   simp only[Option.map_some,Option.getD_some]
   rw[iL hm h4]
  ·rw[rE]
   simp[he]
 ·rw[List.getElem?_eq_none (by simpa using hk),List.getElem?_eq_none (by omega)]
  rfl
end Go.Pv
namespace Go.Pv
set_option linter.unusedVariables false
set_option linter.unusedSimpArgs false
variable {P:Program} {w w':World} {A A' Wr:Nat→Prop} {H:Nat→Value} {tm rH:Nat→Value} {S S' S1:St} {σ bF dZ:Nat→Option Nat} {w0:World} {W0 Z:Nat→Prop} {a:Act} {own:Nat→Prop} {v:Value} {Θ:dq} {dst:Option Nat}
theorem ape {ow:Nat→Prop} {τ:Nat→Nat}:∀ (l:List TV) (e8:List (List Value)) (j:Nat),e8.length=l.length→
  (∀ (k:Nat) (b:TV),l[k]?=some b→∃ cs,e8[k]?=some cs∧M w A H b.t b.m b.x cs (fun g=>ow g∧τ g=j+k) [])→
  M w A H (GX l).t (GX l).m (GX l).x e8.flatten (fun g=>ow g∧j≤τ g) []
 |[],e8,j,hl,_=>by
  obtain rfl:e8=[]:=List.eq_nil_of_length_eq_zero (by simpa using hl)
  simp[GX,M,K,Md.bG]
 |[a],e8,j,hl,h=>by
  obtain⟨cs,h1,h2⟩:=h 0 a rfl
  match e8,hl with
  |[c],_=>
   simp only[List.getElem?_cons_zero,Option.some.injEq] at h1
   subst h1
   simp only[GX,List.flatten_cons,List.flatten_nil,List.append_nil]
   exact aG (aP.refl _ _) _ (fun _ _ _=>rfl) (fun g hg _=>⟨hg.1,by rw[hg.2];omega⟩) (fun _ h=>h) h2
 |a::b::r,e8,j,hl,h=>by
  match e8,hl with
  |c::cs,hl=>
   obtain⟨c',h1,h2⟩:=h 0 a rfl
   simp only[List.getElem?_cons_zero,Option.some.injEq] at h1
   subst h1
   have ih:=ape (ow:=ow) (τ:=τ) (b::r) cs (j+1) (by simpa using hl) (fun k b' hk=>by
    obtain⟨c',h1,h2⟩:=h (k+1) b' (by simpa using hk)
    exact⟨c',by simpa using h1,aG (aP.refl _ _) _ (fun _ _ _=>rfl) (fun g hg _=>⟨hg.1,by rw[hg.2];omega⟩) (fun _ h=>h) h2⟩)
   simp only[GX,List.flatten_cons]
   refine w7 (s:=fun g=>τ g=j) ?_ ?_
   ·exact aG (aP.refl _ _) _ (fun _ _ _=>rfl) (fun g hg _=>⟨⟨hg.1,by rw[hg.2];omega⟩,by rw[hg.2];rfl⟩) (fun _ h=>by simp at h) h2
   ·exact aG (aP.refl _ _) _ (fun _ _ _=>rfl) (fun g hg _=>⟨⟨hg.1,by omega⟩,by omega⟩) (fun _ h=>by simp at h) ih
theorem RE {ow:Nat→Prop} {τ:Nat→Nat} {l:List TV} {e8:List (List Value)} (hl:e8.length=l.length)
  (h:∀ (k:Nat) (b:TV),l[k]?=some b→∃ cs,e8[k]?=some cs∧M w A H b.t b.m b.x cs (fun g=>ow g∧τ g=0+k) []):
  M w A H (dO l).t (dO l).m (dO l).x e8.flatten ow []:=by
 have h0:=ape (ow:=ow) (τ:=τ) l e8 0 hl h
 have h1:M w A H (GX l).t (GX l).m (GX l).x e8.flatten ow []:=aG (aP.refl _ _) _ (fun _ _ _=>rfl) (fun g hg _=>hg.1) (fun _ h=>h) h0
 cases l with
 |nil=>exact h1
 |cons a r=>
  cases r with
  |cons b r=>exact h1
  |nil=>
   have:M w A H (.pair a.t .unit) (mkM a.m .k) (a.x,()) (e8.flatten++[]) ow []:=w7 (s:=fun _=>True) (aG (aP.refl _ _) _ (fun _ _ _=>rfl) (fun g hg _=>⟨hg,trivial⟩) (fun _ h=>by simp at h) h1) (by simp[M,K,Md.bG])
   rw[List.append_nil] at this
   exact this
theorem VJ:∀ (l:List TV) (k:Nat) (h:k<l.length),gu (if k+1=l.length then List.replicate k .snd else List.replicate k .snd++[.fst]) (GX l).t=some l[k].t∧
  aI (if k+1=l.length then List.replicate k .snd else List.replicate k .snd++[.fst]) (GX l).t=oN (l.map fun b=>zc b.t) k
 |[a],k,h=>by
  obtain rfl:k=0:=by simpa using h
  simp[GX,gu,aI,oN]
 |a::b::r,0,h=>by simp[GX,gu,aI,oN]
 |a::b::r,k+1,h=>by
  obtain⟨h1,h2⟩:=VJ (b::r) k (by simpa using h)
  have e:(if k+1+1=(a::b::r).length then List.replicate (k+1) Step.snd else List.replicate (k+1) .snd++[.fst])=.snd::(if k+1=(b::r).length then List.replicate k Step.snd else List.replicate k .snd++[.fst]):=by
   simp only[List.length_cons]
   by_cases hk:k=r.length
   ·rw[if_pos (by omega),if_pos (by omega)];rfl
   ·rw[if_neg (by omega),if_neg (by omega)];rfl
  rw[e]
  simp only[GX,gu,aI]
  refine⟨h1,?_⟩
  rw[h2]
  simp only[List.map_cons,oN,List.take_succ_cons,List.map_cons,List.sum_cons,mI]
theorem IY (l:List TV) (k:Nat) (h:k<l.length):gu (ns k l.length) (dO l).t=some l[k].t∧aI (ns k l.length) (dO l).t=oN (l.map fun b=>zc b.t) k:=by
 match l,h with
 |[a],h=>
  obtain rfl:k=0:=by simpa using h
  simp[dO,ns,gu,aI,oN]
 |a::b::r,h=>
  have:=VJ (a::b::r) k h
  have e:ns k (a::b::r).length=if k+1=(a::b::r).length then List.replicate k .snd else List.replicate k .snd++[.fst]:=by
   unfold ns
   by_cases hk:k+1=(a::b::r).length
   ·have h1:Nat.beq (k+1) (a::b::r).length=true:=by rw[←hk];exact Nat.beq_refl _
    rw[if_pos hk,h1]
    have:Nat.beq (a::b::r).length 1=false:=by
     simp only[List.length_cons]
     rfl
    rw[this]
    rfl
   ·rw[if_neg hk]
    have:Nat.beq (k+1) (a::b::r).length=false:=by
     cases hb:Nat.beq (k+1) (a::b::r).length with
     |false=>rfl
     |true=>exact absurd (Nat.eq_of_beq_eq_true hb) hk
    rw[this]
    rfl
  rw[e]
  exact this
theorem Nc (l:List TV):zc (dO l).t=(l.map fun b=>zc b.t).flatten:=by
 have h:∀ l:List TV,zc (GX l).t=(l.map fun b=>zc b.t).flatten:=by
  intro l
  induction l with
  |nil=>simp[GX,zc]
  |cons a r ih=>
   cases r with
   |nil=>simp[GX]
   |cons b r=>simp only[GX,zc,List.map_cons,List.flatten_cons];rw[ih];simp
 unfold dO
 split
 ·simp[zc]
 ·exact h l
theorem mapM_some {α β:Type} {g:α→Option β} {h:α→β}:∀ (l:List α),(∀ f∈l,g f=some (h f))→l.mapM g=some (l.map h)
 |[],_=>by simp
 |f::r,hf=>by
  rw[List.mapM_cons,hf f (by simp),mapM_some r fun f hf'=>hf f (by simp[hf'])]
  rfl
theorem ab' (hT:cP P Θ=true) (h:aW σ w0 W0 Z H S a w) {o:Oper} {T:TypeId} {ps:Array (Nat×Operand)} (ho:o.op=.build T ps) (e:Dh Θ S o.dst T ps.toList=some (true,S')):ij P w0 W0 Z H S' a o.dst w (execOp a.eval o):=by
 unfold Dh at e
 split at e
 case h_2=>cases e
 rename_i i hi
 split at e
 case h_2=>cases e
 rename_i l S1 hl
 cases hc:(decide ((dO l).t=i.ty)&&Dh.abw i.ty&&kJ l.length ps.toList) with
 |false=>rw[hc] at e;cases e
 |true=>
 rw[hc] at e
 simp only[cond_true,Option.some.injEq,Prod.mk.injEq,true_and] at e
 simp only[Bool.and_eq_true,decide_eq_true_eq] at hc
 obtain⟨⟨fH,apf⟩,RB⟩:=hc
 obtain⟨bF,ow,τ,e8,h1,hn,hk,gg,hll,hj,kh⟩:=pV hT ps.toList i.fs 0 h hl
 obtain⟨⟨_,inf,z,k1,k2,_,_,_,k3,k4⟩,hu,rfl⟩:=cR hT hi
 obtain⟨pa,pb,hpp⟩:∃ pa pb,i.ty=.pair pa pb:=by
  cases aca:i.ty<;>rw[aca] at apf<;>first |exact⟨_,_,rfl⟩ |cases apf
 obtain⟨fs,f1,f2,f3,_⟩:=mF hu hpp
 have Cc:fs.toList.length=l.length:=by rw[hll,←f2,List.length_map]
 have hM:M w (Av σ Z) H (dO l).t (dO l).m (dO l).x e8.flatten ow []:=RE gg (fun k b hb=>by obtain⟨cs,c1,c2,_⟩:=kh k b hb;exact⟨cs,c1,c2⟩)
 have ail:∀ f∈fs.toList,(P.info? f.type).map (fun i=>(f.offset,i.size))=some (f.offset,P.cellsOf f.type):=by
  intro f hf
  obtain⟨k,hk,rfl⟩:=List.mem_iff_getElem.1 hf
  obtain⟨t,_,ht,_⟩:=iX f3 k _ (List.getElem?_eq_getElem hk)
  obtain⟨axQ,i1,i2,i3⟩:=iB hT ht
  rw[i1,Option.map_some,i2,i3]
 have acb:=EC (a:=a) (ps:=ps.toList) (l:=l) (e8:=e8) (place:=fun k=>(fs.toList.map fun f=>(f.offset,P.cellsOf f.type)).toArray[k]?) gg RB (fun k b cs hb hZ=>by
   obtain⟨cJ,c1,c2,_⟩:=kh k b hb
   rw[c1] at hZ
   injection hZ with hZ
   subst hZ
   exact eP _ c2) (fun k b hb=>by
   obtain⟨cJ,c1,_,c3⟩:=kh k b hb
   simp only[Nat.zero_add] at c3
   exact⟨cJ,c1,c3⟩) (fun k hk=>by
   obtain⟨q1,q2⟩:=IY l k hk
   obtain⟨t,t1,t2,t3,_⟩:=iX f3 k (fs.toList[k]'(by omega)) (List.getElem?_eq_getElem (by omega))
   have YW:fs.size=l.length:=by rw[←Cc,Array.length_toList]
   rw[Nat.zero_add,←fH,YW] at t1 t3
   rw[q1] at t1
   injection t1 with t1
   subst t1
   obtain⟨_,_,_,c3⟩:=iB hT t2
   rw[q2] at t3
   simp only[List.getElem?_toArray,List.getElem?_map,List.getElem?_eq_getElem (show k<fs.toList.length by omega),Option.map_some,c3,t3])
 have aqM:P.built i.T (ps.map fun(j,x)=>(j,a.eval x)).toList=some e8.flatten.toArray:=by
  unfold Program.built
  have hz:z.cells=(l.map fun b=>zc b.t).flatten.toArray:=by
   rw[←Nc,fH]
   have Rn:isAgg i.ty=true:=by rw[hpp];rfl
   unfold aq at k4
   rw[if_pos Rn] at k4
   rw[k4]
   rfl
  rw[k1,f1]
  simp only[k3,mapM_some _ ail,hz]
  rw[Array.toList_map]
  exact acb
 have bZ:=fun w=>run_build (P:=P) w i.T _ _ aqM
 rw[←e]
 refine oK (b:=dO l) (cs:=e8.flatten) (v:=.agg e8.flatten.toArray) h1 hk hn (fun w2 _=>?_) ?_ hM
 ·simp only[execOp,ho,Sem.run_bind,bZ w2,Result.andThen_ok]
  rfl
 ·unfold aq
  rw[if_pos (by rw[fH,hpp];rfl)]
end Go.Pv
namespace Go.Pv
set_option linter.unusedVariables false
set_option linter.unusedSimpArgs false
variable {P:Program} {w w':World} {A A' Wr:Nat→Prop} {H:Nat→Value} {tm rH:Nat→Value} {S S' S1:St} {σ bF dZ:Nat→Option Nat} {w0:World} {W0 Z:Nat→Prop} {a:Act} {own:Nat→Prop} {v:Value} {Θ:dq} {dst:Option Nat}
theorem Nd {s:Nat} (e8:List (List Value)) (h:∀ c∈e8,c.length=s) (j:Nat) (hj:j<e8.length):(e8.flatten.drop (j*s)).take s=e8[j]:=by
 have h1:(e8.take j).flatten.length=j*s:=by
  rw[kW s (fun c hc=>h c (List.mem_of_mem_take hc)),List.length_take,Nat.min_eq_left (by omega)]
 rw[pU e8 j hj,←h1,List.drop_left,←h (e8[j]) (List.getElem_mem hj),List.take_left]
theorem apg {t:Ty} {m:Md} {xs:List t.I} {e8:List (List Value)} {ow:Nat→Prop} {τ:Nat→Nat} (e:TypeId) (hl:e8.length=xs.length)
  (hM:∀ (j:Nat) (hj:j<xs.length),M w A H t m xs[j] (e8[j]'(by omega)) (fun g=>ow g∧τ g=j) []) (b9:∀ g,ow g→g<w.heap.size) (auW:xs.length≤maxLen):
  M (w.alloc (.cells e8.flatten.toArray e)) (fun g=>A g∨w.heap.size≤g) H (.sl t) (.o e none m) xs [.slice (some ⟨w.heap.size,0,none⟩) xs.length xs.length] (fun g=>ow g∨g=w.heap.size) []:=by
 have dY:∀ c∈e8,c.length=t.size:=fun c hc=>by
  obtain⟨j,hj,rfl⟩:=List.mem_iff_getElem.1 hc
  exact(eP t (hM j (by omega))).1
 simp only[M]
 refine .inr (.inr ⟨e,none,m,some ⟨w.heap.size,0,none⟩,xs.length,rfl,rfl,Nat.le_refl _,fun h hh=>(by cases hh),.inr ⟨w.heap.size,e8.flatten.toArray,τ,rfl,.inr rfl,heap_alloc_new w _,?_,auW,fun j hj=>?_⟩⟩)
 ·rw[List.size_toArray,kW t.size dY,hl]
 ·rw[List.toList_toArray,Nd e8 dY j (by omega)]
  refine aG (w:=w) ⟨fun g _ hg=>heap_alloc_old w _ g hg,fun g hg hx=>?_⟩ t (fun g hg hl=>heap_alloc_old w _ g hl) (fun g hg hl=>⟨.inl hg.1,by omega,hg.2⟩) (fun _ h=>by simp at h) (hM j hj)
  rcases hx with hx |hx
  ·exact hx
  ·omega
theorem HQ (zl:List Value):∀ n,madeCells zl.toArray (n*zl.length)=(List.replicate n zl).flatten.toArray:=by
 intro n
 unfold madeCells
 apply Array.toList_inj.1
 simp only[Array.toList_map,Array.toList_range,List.toList_toArray]
 induction n with
 |zero=>simp
 |succ n ih=>
  rw[Nat.add_mul,Nat.one_mul,List.range_add,List.map_append,ih,List.replicate_succ',List.flatten_append]
  congr 1
  simp only[List.map_map,List.flatten_cons,List.flatten_nil,List.append_nil]
  apply List.ext_getElem?
  intro k
  by_cases hk:k<zl.length
  ·simp[hk,Function.comp_def,Nat.mod_eq_of_lt hk]
  ·simp[hk]
theorem Cg {t:Ty} {m:Md}:∀ {l:List TV} {xs:List t.I},rK t m l=some xs→xs.length=l.length∧∀ (k:Nat) (hk:k<xs.length),l[k]?=some ⟨t,m,xs[k]⟩
 |[],xs,h=>by
  simp only[rK,Option.some.injEq] at h
  subst h
  exact⟨rfl,fun k hk=>by simp at hk⟩
 |b::r,xs,h=>by
  simp only[rK] at h
  split at h
  ·rename_i ht
   split at h
   ·rename_i hm
    split at h
    ·rename_i l hl
     injection h with h
     subst h
     obtain⟨h1,h2⟩:=Cg hl
     obtain⟨bt,bm,bx⟩:=b
     simp only at ht hm
     subst ht hm
     refine⟨by simp[h1],fun k hk=>?_⟩
     cases k with
     |zero=>rfl
     |succ k=>simpa using h2 k (by simpa using hk)
    ·cases h
   ·cases h
  ·cases h
theorem Hb (hT:cP P Θ=true) (h:aW σ w0 W0 Z H S a w) {hn:Hn} {o:Oper} {T:TypeId} {n:Nat} {ps:Array (Nat×Operand)} (ho:o.op=.buildSlice T n ps) (e:bw Θ hn S o.dst T n ps.toList=some (true,S')):Ce P w0 W0 Z H S' a o.dst w (execOp a.eval o):=by
 unfold bw at e
 split at e
 case h_2=>cases e
 rename_i T0 t te fs0 hi
 cases hc:(kJ n ps.toList&&Nat.ble n 1800) with
 |false=>rw[hc] at e;cases e
 |true=>
 rw[hc] at e
 simp only[cond_true] at e
 simp only[Bool.and_eq_true] at hc
 obtain⟨RB,aqN⟩:=hc
 have aqN:=Nat.le_of_ble_eq_true aqN
 split at e
 case h_2=>cases e
 rename_i l S1 hl
 obtain⟨bF,ow,τ,e8,h1,hnn,hk,gg,hll,hj,kh⟩:=pV hT ps.toList _ 0 h hl
 rw[List.length_replicate] at hll
 obtain⟨_,hu,hT0⟩:=cR hT hi
 simp only at hT0
 subst hT0
 obtain⟨u1,u2,u3⟩:=lD hu rfl
 simp only at u1 u2
 obtain⟨i2,nk,ht2⟩:=dW u2
 obtain⟨⟨sm,inf,z,k1,k2,_,_,_,k3,k4⟩,_,hte⟩:=cR hT nk
 rw[hte] at k1
 rw[ht2] at k2 k4 sm
 have b9:∀ g,ow g→g<w.heap.size:=fun g hg=>by
  obtain⟨i,_,hi⟩:=hk.M7 g hg
  exact h.lt g i hi
 -- all parts are of the type
 have dY:(∃ m xs m',rK t m l=some xs∧(m'=.o te none m∨(m'=.k∧m.bG=true))∧S'=S1.put o.dst (.v ⟨.sl t,m',xs⟩ [])):=by
  split at e
  ·simp only[Option.some.injEq,Prod.mk.injEq,true_and] at e
   cases hf:hn.Yz o.dst with
   |true=>exact⟨.k,[],_,rfl,.inr ⟨by rw[hf];rfl,rfl⟩,e.symm⟩
   |false=>exact⟨_,[],_,rfl,.inl (by rw[hf];rfl),e.symm⟩
  ·split at e
   ·rename_i xs hxs
    simp only[Option.some.injEq,Prod.mk.injEq,true_and] at e
    refine⟨_,xs,_,hxs,?_,e.symm⟩
    generalize hf:(hn.Yz o.dst&&_)=q
    cases q with
    |true=>
     simp only[Bool.and_eq_true] at hf
     exact .inr ⟨rfl,hf.2⟩
    |false=>exact .inl rfl
   ·cases e
 obtain⟨m,xs,m',hxs,hm',rfl⟩:=dY
 obtain⟨x1,x2⟩:=Cg hxs
 have fH:∀ (k:Nat) (b:TV),l[k]?=some b→b.t=t:=fun k b hb=>by
  have hkl:k<xs.length:=by rw[x1];exact(List.getElem?_eq_some_iff.1 hb).1
  rw[x2 k hkl] at hb
  injection hb with hb
  rw[←hb]
 have hzl:(l.map fun b=>zc b.t)=List.replicate n (zc t):=by
  apply List.ext_getElem?
  intro k
  rw[List.getElem?_map,List.getElem?_replicate]
  by_cases hkl:k<l.length
  ·rw[if_pos (by omega),List.getElem?_eq_getElem hkl,Option.map_some,fH k _ (List.getElem?_eq_getElem hkl)]
  ·rw[if_neg (by omega),List.getElem?_eq_none (by omega)]
   rfl
 have acb:=EC (a:=a) (ps:=ps.toList) (l:=l) (e8:=e8) (place:=fun k=>some (k*t.size,t.size)) gg (by rw[hll];exact RB) (fun k b cs hb hZ=>by
   obtain⟨cJ,c1,c2,_⟩:=kh k b hb
   rw[c1] at hZ
   injection hZ with hZ
   subst hZ
   exact eP _ c2) (fun k b hb=>by
   obtain⟨cJ,c1,_,c3⟩:=kh k b hb
   simp only[Nat.zero_add] at c3
   exact⟨cJ,c1,c3⟩) (fun k hk=>by
   rw[fH k _ (List.getElem?_eq_getElem hk),hzl]
   congr 2
   unfold oN
   rw[List.take_replicate,Nat.min_eq_left (by omega),List.map_replicate,List.sum_replicate_nat,mI])
 have IZ:z.cells=(zc t).toArray:=iL k4 (fun u hu=>?_)
 rotate_left
 ·-- one cell each
  have:∀ (t:Ty),∀ u∈zc t,u.oneCell'=true:=by
   intro t
   induction t with
   |pair a b iha ihb=>intro u hu;simp only[zc,List.mem_append] at hu;rcases hu with hu |hu;exact iha u hu;exact ihb u hu
   |arr n t ih=>intro u hu;simp only[zc,List.mem_flatten] at hu;obtain⟨c,hc,hu⟩:=hu;rw[List.eq_of_mem_replicate hc] at hu;exact ih u hu
   |unit=>intro u hu;simp[zc] at hu
   |_=>intro u hu;simp only[zc,List.mem_singleton] at hu;subst hu;rfl
  exact this t u hu
 have hlc:e8.length=xs.length:=by omega
 have Nf:=apg (w:=w) (A:=Av σ Z) (H:=H) (t:=t) (m:=m) (xs:=xs) (e8:=e8) (ow:=ow) (τ:=τ) te hlc (fun j hj=>by
   have tx:=x2 j hj
   obtain⟨cJ,c1,c2,_⟩:=kh j _ tx
   rw[List.getElem?_eq_getElem (by omega)] at c1
   injection c1 with c1
   rw[c1]
   simpa using c2) b9 (by simp only[maxLen];omega)
 have bZ:(Instr.buildSlice T0 n (ps.map fun(j,x)=>(j,a.eval x))).run P w=.ok (.slice (some ⟨w.heap.size,0,none⟩) n n) (w.alloc (.cells e8.flatten.toArray te)):=by
  have jg: ¬n*t.size>2^24:=by
   have:=Nat.mul_le_mul aqN sm
   omega
  have acd:Instr.fill (fun i=>some (i*t.size,t.size)) ((Array.range (n*t.size)).map (z.cells[· %z.cells.size]!)) (ps.map fun x=>(x.1,a.eval x.2)).toList=some e8.flatten.toArray:=by
   have:=HQ (zc t) n
   unfold madeCells at this
   rw[IZ,Array.toList_map]
   rw[mI] at this
   rw[this,←hzl]
   exact acb
  have hso:(sizeOf te).run P w=.ok t.size w:=by
   simp[sizeOf,typeInfo,k1,k2]
  have hzv:(zeroValue te).run P w=.ok z w:=by
   simp[zeroValue,typeInfo,k1,k3]
  by_cases h0:n*t.size=0
  ·have aqO:Instr.fill (fun i=>some (i*t.size,t.size)) ((Array.range (n*t.size)).map ((#[]:Array Value)[· %(#[]:Array Value).size]!)) (ps.map fun x=>(x.1,a.eval x.2)).toList=some e8.flatten.toArray:=by
    rw[←acd,h0]
    simp[Array.range_zero']
   unfold Instr.buildSlice
   simp only[Sem.run_bind,run_underlying u1,Result.andThen_ok,hso,jg,if_false]
   rw[if_pos h0]
   simp only[Sem.run_bind,Sem.run_pure,Result.andThen_ok,aqO]
   simp[newRow]
  ·unfold Instr.buildSlice
   simp only[Sem.run_bind,run_underlying u1,Result.andThen_ok,hso,jg,if_false]
   rw[if_neg h0]
   simp only[Sem.run_bind,Sem.run_pure,hzv,Result.andThen_ok,acd]
   simp[newRow]
 have hex:(execOp a.eval o).run P w=.ok (.value (.slice (some ⟨w.heap.size,0,none⟩) n n)) (w.alloc (.cells e8.flatten.toArray te)):=by
  simp only[execOp,ho,Sem.run_bind,bZ,Result.andThen_ok]
  rfl
 have awV:∀ g,Av bF Z g→g<w.heap.size:=fun g hg=>by
  rcases hg with⟨i,hi⟩ |hz
  ·exact h1.lt g i hi
  ·have:=(h1.old g hz).2;have:=h1.fr.size;omega
 rcases hm' with rfl |⟨rfl,hmk⟩
 ·refine⟨w.alloc (.cells e8.flatten.toArray te),.slice (some ⟨w.heap.size,0,none⟩) n n,hex,fun g hg=>heap_alloc_old w _ g hg,_,h1.M8 (b:=⟨.sl t,.o te none m,xs⟩) (cs:=[.slice (some ⟨w.heap.size,0,none⟩) n n]) (fun g hg=>heap_alloc_old w _ g hg) (h1.fr.alloc _) (fun g hg=>?_) (fun g hg hx=>?_) (by simp[aq,isAgg]) (by
   have:xs.length=n:=by omega
   rw[this] at Nf
   exact Nf)⟩
  ·rcases hg with hg |rfl
   ·obtain⟨i,hi,a8⟩:=hk.now g hg
    have:=b9 g hg
    exact⟨by simp only[World.alloc,Array.size_push];omega,.inl ⟨i,by omega,a8⟩⟩
   ·exact⟨by simp only[World.alloc,Array.size_push];omega,.inr (Nat.le_refl _)⟩
  ·rcases hx with hx |hx |rfl
   ·exact .inl (hk.Av.1 hx)
   ·obtain⟨i,_,hi⟩:=hk.M7 g hx
    exact .inl (.inl ⟨i,hi⟩)
   ·exact .inr (Nat.le_refl _)
 ·refine⟨w.alloc (.cells e8.flatten.toArray te),.slice (some ⟨w.heap.size,0,none⟩) n n,hex,fun g hg=>heap_alloc_old w _ g hg,_,h1.M8 (b:=⟨.sl t,.k,xs⟩) (cs:=[.slice (some ⟨w.heap.size,0,none⟩) n n]) (ow:=fun _=>False) (A':=Av bF Z) (fun g hg=>heap_alloc_old w _ g hg) (h1.fr.alloc _) (fun g hg=>hg.elim) (fun g hg hx=>hx.resolve_right id) (by simp[aq,isAgg]) (oh (t:=.sl t) rfl ?_)⟩
  have hxn:xs.length=n:=by omega
  show K _ _ (.sl t) xs _
  have aim:∀ c∈e8,c.length=t.size:=fun c hc=>by
   obtain⟨j,hj,rfl⟩:=List.getElem_of_mem hc
   obtain⟨cJ,c1,c2,_⟩:=kh j _ (x2 j (by omega))
   rw[List.getElem?_eq_getElem hj] at c1
   injection c1 with c1
   rw[c1]
   exact(eP _ c2).1
  have Cc:e8.flatten.length=n*t.size:=by rw[kW t.size aim,hlc,hxn]
  simp only[K]
  refine⟨some ⟨w.heap.size,0,none⟩,n,by rw[hxn],by omega,fun _=>⟨w.heap.size,0,e8.flatten.toArray,te,(0,0),rfl,fun hx=>absurd (awV _ hx) (Nat.lt_irrefl _),heap_alloc_new w _,by simp only[List.size_toArray,Cc,hxn];omega,fun j hj'=>?_⟩⟩
  obtain⟨cJ,c1,c2,_⟩:=kh j _ (x2 j hj')
  rw[List.getElem?_eq_getElem (by omega)] at c1
  injection c1 with c1
  have gZ:=Nd e8 aim j (by omega)
  simp only[Nat.zero_add]
  rw[gZ,c1]
  refine bR ⟨fun g _ hg=>heap_alloc_old w _ g hg,fun g _ hg=>hk.Av.1 hg⟩ t (fP t hmk c2)
theorem I0 (hT:cP P Θ=true) (h:aW σ w0 W0 Z H S a w) {o:Oper} {T:TypeId} {l c:Operand} (ho:o.op=.makeSlice T l c) (e:gB Θ S o.dst T l c=some (true,S')):Ce P w0 W0 Z H S' a o.dst w (execOp a.eval o):=by
 unfold gB at e
 split at e
 case h_2=>cases e
 rename_i T0 t te fs0 n n' hi hl hc
 split at e
 case h_2=>cases e
 rename_i z hz
 split at e
 case isFalse=>cases e
 rename_i hzt
 simp only[Option.some.injEq,Prod.mk.injEq,Bool.and_eq_true,decide_eq_true_eq] at e
 obtain⟨⟨⟨rfl,h0⟩,h40⟩,rfl⟩:=e
 obtain⟨kl,hl⟩:=iK h hl
 obtain⟨kc,hc⟩:=iK h hc
 obtain⟨_,hu,hT0⟩:=cR hT hi
 simp only at hT0
 subst hT0
 obtain⟨u1,u2,u3⟩:=lD hu rfl
 simp only at u1
 obtain⟨i,inf,zv,nk,fH,hx,w9,q1,q2,q3,q4,q5,q6⟩:=Aq hT hz
 have ML:M w (Av σ Z) H z.t z.m z.t.z (zc z.t) (fun _=>False) []:=Ez z.t w9
 have hzc:zv.cells=(zc z.t).toArray:=iL q4 (eP _ ML).2
 have bZ:=run_make (P:=P) w T0 te inf zv u1 q1 q3 kl kc n n h0 (Int.le_refl _) (by
  have h1:(inf.bytes:Int)≤256:=by omega
  calc (inf.bytes:Int)*n≤256*n:=Int.mul_le_mul_of_nonneg_right h1 h0
   _≤281474976710656:=by omega) (by omega)
 rw[q2,hzc,←mI,HQ] at bZ
 have Nf:=apg (w:=w) (A:=Av σ Z) (H:=H) (t:=t) (m:=z.m) (xs:=List.replicate n.toNat t.z) (e8:=List.replicate n.toNat (zc z.t)) (ow:=fun _=>False) (τ:=fun _=>0) te (by simp) (fun j hj=>by
   subst hzt
   simp only[List.getElem_replicate]
   exact IW ML) (fun _ h=>h.elim) (by simp only[List.length_replicate,maxLen];omega)
 refine⟨w.alloc (.cells (List.replicate n.toNat (zc z.t)).flatten.toArray te),_,?_,fun g hg=>heap_alloc_old w _ g hg,_,h.M8 (b:=⟨.sl t,.o te none z.m,List.replicate n.toNat t.z⟩) (cs:=[.slice (some ⟨w.heap.size,0,none⟩) n.toNat n.toNat]) (w':=w.alloc (.cells (List.replicate n.toNat (zc z.t)).flatten.toArray te)) (v:=.slice (some ⟨w.heap.size,0,none⟩) n.toNat n.toNat) (fun g hg=>heap_alloc_old w _ g hg) (h.fr.alloc _) (fun g hg=>?_) (fun g hg hx=>?_) (by simp[aq,isAgg]) (by
   rw[List.length_replicate] at Nf
   exact Nf)⟩
 ·simp only[execOp,ho,hl,hc,Sem.run_bind,bZ,Result.andThen_ok]
  rfl
 ·rcases hg with hg |rfl
  ·exact hg.elim
  ·exact⟨by simp only[World.alloc,Array.size_push];omega,.inr (Nat.le_refl _)⟩
 ·rcases hx with hx |hx |rfl
  ·exact .inl hx
  ·exact hx.elim
  ·exact .inr (Nat.le_refl _)
end Go.Pv
namespace Go.Pv
set_option linter.unusedVariables false
set_option linter.unusedSimpArgs false
variable {P:Program} {w w':World} {A A' Wr:Nat→Prop} {H:Nat→Value} {tm rH:Nat→Value} {S S' S1:St} {σ bF dZ:Nat→Option Nat} {w0:World} {W0 Z:Nat→Prop} {a:Act} {own:Nat→Prop} {v:Value} {Θ:dq} {dst:Option Nat}
theorem xy {olds news:List Value} {s n j:Nat} (hl:olds.length=n*s) (hj:j<n):((olds++news).drop (j*s)).take s=(olds.drop (j*s)).take s:=by
 have h1:(j+1)*s≤n*s:=Nat.mul_le_mul_right s hj
 rw[Nat.add_mul,Nat.one_mul] at h1
 rw[List.drop_append_of_le_length (by omega),List.take_append_of_le_length (by rw[List.length_drop];omega)]
theorem HR {olds news:List Value} {s n j:Nat} (hl:olds.length=n*s):((olds++news).drop ((n+j)*s)).take s=(news.drop (j*s)).take s:=by
 rw[Nat.add_mul,←hl,List.drop_append,Nat.add_sub_cancel_left,List.drop_eq_nil_of_le (Nat.le_add_right _ _),List.nil_append]
theorem oO {cur:List Value} {s n j:Nat} (hj:j<n):((cur.take (n*s)).drop (j*s)).take s=(cur.drop (j*s)).take s:=by
 have h1:(j+1)*s≤n*s:=Nat.mul_le_mul_right s hj
 rw[Nat.add_mul,Nat.one_mul] at h1
 rw[List.drop_take,List.take_take,Nat.min_eq_left (by omega)]
theorem c7 {g o:Nat} {t:TypeId} {cur:Array Value} {vs:List Value} (hw:w.heap[g]?=some (.cells cur t (0,0))) (hb:o+vs.length≤cur.size) (h1:∀ u∈vs,u.oneCell'=true):
  w.setCells g o vs=w.setRow g (putCells cur.toList o vs).toArray:=by
 have e1:=run_storeCells_at (P:=(default:Program)) g o t vs 0 cur w hw (by omega) h1
 have e2:=run_storeCells_cells (P:=(default:Program)) g o vs 0 w (fun j hj=>by
  have:o+j<cur.size:=by omega
  simp[World.cell?,hw,this]) (fun j hj=>by simp[World.frozen?,hw]) h1
 rw[e1] at e2
 simp only[Nat.add_zero,Result.ok.injEq,true_and] at e2
 exact e2.symm
theorem RF {T' e':TypeId} {size:Nat} {t:Ty} {ys:List t.I} {vy:Value} (hk:P.underlying T'=some (.slice e')) (hs:size=t.size)
  (h:∃ X c,vy=.slice X ys.length c∧(0<ys.length→∃ g off cur T fr,X=some ⟨g,off,none⟩∧w.heap[g]?=some (.cells cur T fr)∧off+ys.length*t.size≤cur.size∧∀ u∈(cur.toList.drop off).take (ys.length*t.size),u.oneCell'=true)):
  ∃ news,Src P size T' vy ys.length news w∧(∀ g off cur T fr X c,vy=.slice X ys.length c→X=some ⟨g,off,none⟩→w.heap[g]?=some (.cells cur T fr)→0<ys.length→news=(cur.toList.drop off).take (ys.length*t.size)):=by
 subst hs
 obtain⟨X,c,rfl,h⟩:=h
 rcases Nat.eq_zero_or_pos ys.length with h0 |h0
 ·refine⟨[],?_,fun _ _ _ _ _ _ _ _ _ _ hp=>by omega⟩
  rw[h0]
  cases X with
  |none=>exact Src.ofNil w hk c
  |some ad=>exact Src.ofSlice w hk ad 0 c [] (by simp) (fun j u hu=>by simp at hu) (fun u hu=>by simp at hu)
 ·obtain⟨g,off,cur,T,fr,rfl,hw,hb,h1⟩:=h h0
  refine⟨(cur.toList.drop off).take (ys.length*t.size),Src.ofSlice w hk ⟨g,off,none⟩ ys.length c _ (by have hc:cur.toList.length=cur.size:=Array.length_toList;rw[List.length_take,List.length_drop];omega) (fun j u hu=>?_) h1,?_⟩
  ·have hj:j<ys.length*t.size:=by
    have:=(List.getElem?_eq_some_iff.1 hu).1
    rw[List.length_take] at this
    omega
   rw[List.getElem?_take,if_pos hj,List.getElem?_drop] at hu
   rw[jy]
   simp only[World.cell?,hw]
   rw[←Array.getElem?_toList]
   exact hu
  ·intro g' axR RG T' fr' X' c' e1 e2 G4 _
   injection e1 with e1
   subst e2
   injection e1 with e1
   injection e1 with e1 Ao
   subst e1 Ao
   rw[hw] at G4
   injection G4 with G4
   injection G4 with G4
   rw[G4]
noncomputable def join (ux:Nat→Prop) (n:Nat) (I1 τ:Nat→Nat) (g:Nat):Nat:=open Classical in if ux g then n+I1 g else τ g
theorem VK {ux:Nat→Prop} {n:Nat} {I1 τ:Nat→Nat} {g:Nat} (h:ux g):join ux n I1 τ g=n+I1 g:=if_pos h
theorem Ng {ux:Nat→Prop} {n:Nat} {I1 τ:Nat→Nat} {g:Nat} (h: ¬ux g):join ux n I1 τ g=τ g:=if_neg h
theorem xz (hT:cP P Θ=true) {T T' e ty:TypeId} {t:Ty} {tag:Option Nat} {me:Md} {xs ys:List t.I} {vx vy:Value} {ED ux:Nat→Prop} {I1:Nat→Nat} {news:List Value} {inf:TypeInfo} {z:Value}
  (hu:P.underlying T=some (.slice e)) (hi:P.info? e=some inf) (hz:inf.zero=some z) (jg:inf.size=t.size) (hby:inf.bytes≤32*t.size) (hzs:z.cells.size=t.size) (C9:0<t.size)
  (hx:M w A H (.sl t) (.o e tag me) xs [vx] ED []) (se:Src P t.size T' vy ys.length news w)
  (hN:∀ (k:Nat) (hk:k<ys.length),M w A H t me ys[k] ((news.drop (k*t.size)).take t.size) (fun g=>ux g∧I1 g=k) [])
  (ace:∀ g,ED g→¬ux g) (hxA:∀ g,ED g→A g) (hlx:∀ g,ED g→g<w.heap.size) (hlN:∀ g,ux g→g<w.heap.size) (I2:(xs.length+ys.length)*t.size≤4398046511104):
  ∃ v' w' cB,(Builtin.append_ #[T,T'] ty #[vx,vy]).run P w=.ok v' w'∧M w' (fun g=>A g∨w.heap.size≤g) H (.sl t) (.o e none me) (xs++ys) [v'] cB []∧
   (∀ g,g<w.heap.size→¬ED g→w'.heap[g]?=w.heap[g]?)∧(∀ g,cB g→g<w'.heap.size∧(ED g∨ux g∨w.heap.size≤g))∧w.heap.size≤w'.heap.size∧w'.os=w.os∧w'.tape=w.tape∧w'.output=w.output:=by
 have acf:xs.length+ys.length≤4398046511104:=Nat.le_trans (Nat.le_mul_of_pos_right _ C9) I2
 have acg:(xs.length+ys.length)*inf.bytes≤140737488355328:=by
  have:(xs.length+ys.length)*inf.bytes≤(xs.length+ys.length)*(32*t.size):=Nat.mul_le_mul_left _ hby
  have e2:(xs.length+ys.length)*(32*t.size)=32*((xs.length+ys.length)*t.size):=by rw[Nat.mul_left_comm]
  omega
 have VL:Src P inf.size T' vy ys.length news w:=by rw[jg];exact se
 have aii:=se.one
 have hnl:=se.newsLen
 -- the grown row
 have grown:∀ (base:Option Addr) (c:Nat) (olds:List Value) (owo:Nat→Prop) (τ:Nat→Nat),vx=.slice base xs.length c→c<xs.length+ys.length→olds.length=xs.length*t.size→
   (Builtin.firstCells inf.size xs.length vx).run P w.drew=.ok olds.toArray w.drew→(∀ g,owo g→ED g)→
   (∀ (k:Nat) (hk:k<xs.length),M w A H t me xs[k] ((olds.drop (k*t.size)).take t.size) (fun g=>owo g∧τ g=k) [])→
   ∃ v' w' cB,(Builtin.append_ #[T,T'] ty #[vx,vy]).run P w=.ok v' w'∧M w' (fun g=>A g∨w.heap.size≤g) H (.sl t) (.o e none me) (xs++ys) [v'] cB []∧
   (∀ g,g<w.heap.size→¬ED g→w'.heap[g]?=w.heap[g]?)∧(∀ g,cB g→g<w'.heap.size∧(ED g∨ux g∨w.heap.size≤g))∧w.heap.size≤w'.heap.size∧w'.os=w.os∧w'.tape=w.tape∧w'.output=w.output:=by
  intro base c olds owo τ hv hc hol I3 G5 va
  subst hv
  have bZ:=run_append_grow_src (P:=P) w T T' ty e inf z hu hi hz base xs.length c olds I3 vy ys.length news VL hc (by omega) (by
   have h1:=nextslicecap_le hc
   have h2:=Nat.mul_le_mul_right inf.bytes h1
   rw[Nat.mul_assoc] at h2
   omega)
  have hge:=grownCap_ge w (xs.length+ys.length) c e
  have hle:=grownCap_le_maxLen w (xs.length+ys.length) c e (by simp only[maxLen];omega)
  let pad:=Builtin.zeroCells z.cells (grownCap w (xs.length+ys.length) c e - (xs.length+ys.length))
  have gm:∀ g,g<w.heap.size→(w.drew.alloc (.cells ((olds++news).toArray++pad) e)).heap[g]?=w.heap[g]?:=fun g hg=>heap_alloc_old w.drew _ g hg
  refine⟨_,w.drew.alloc (.cells ((olds++news).toArray++pad) e),fun g=>owo g∨ux g∨g=w.heap.size,bZ,?_,fun g hg _=>gm g hg,fun g hg=>?_,by simp,rfl,rfl,rfl⟩
  ·simp only[M]
   refine .inr (.inr ⟨e,none,me,some ⟨w.heap.size,0,none⟩,grownCap w (xs.length+ys.length) c e,rfl,by rw[List.length_append],by rw[List.length_append];exact hge,fun h hh=>(by cases hh),.inr ⟨w.heap.size,(olds++news).toArray++pad,join ux xs.length I1 τ,rfl,.inr (.inr rfl),heap_alloc_new w.drew _,?_,hle,fun j hj=>?_⟩⟩)
   ·simp only[pad,Array.size_append,List.size_toArray,List.length_append,size_zeroCells,hzs,hol,hnl,←Nat.add_mul]
    congr 1
    omega
   ·have bQ:aP w (w.drew.alloc (.cells ((olds++news).toArray++pad) e)) A (fun g=>A g∨w.heap.size≤g):=⟨fun g _ hg=>gm g hg,fun g hg hx=>hx.resolve_right (by omega)⟩
    rw[Array.toList_append,List.toList_toArray]
    rcases Nat.lt_or_ge j xs.length with hjx |hjx
    ·rw[List.getElem_append_left hjx,List.append_assoc,xy hol hjx]
     refine aG bQ t (fun g hg hl=>gm g hl) (fun g hg hl=>⟨.inl hg.1,by omega,?_⟩) (fun _ h=>by simp at h) (va j hjx)
     rw[Ng (ace g (G5 g hg.1))]
     exact hg.2
    ·have hjy:j - xs.length<ys.length:=by rw[List.length_append] at hj;omega
     rw[List.getElem_append_right hjx]
     have e1:=HR (olds:=olds) (news:=news++pad.toList) (s:=t.size) (n:=xs.length) (j:=j - xs.length) hol
     rw[show xs.length+(j - xs.length)=j from by omega,←List.append_assoc,xy hnl hjy] at e1
     rw[e1]
     refine aG bQ t (fun g hg hl=>gm g hl) (fun g hg hl=>⟨.inr (.inl hg.1),by omega,?_⟩) (fun _ h=>by simp at h) (hN (j - xs.length) hjy)
     rw[VK hg.1,hg.2]
     omega
  ·have:(w.drew.alloc (.cells ((olds++news).toArray++pad) e)).heap.size=w.heap.size+1:=by simp
   rcases hg with hg |hg |rfl
   ·exact⟨by have:=hlx g (G5 g hg);omega,.inl (G5 g hg)⟩
   ·exact⟨by have:=hlN g hg;omega,.inr (.inl hg)⟩
   ·exact⟨by omega,.inr (.inr (Nat.le_refl _))⟩
 -- nothing to append
 have nothing:∀ (base:Option Addr) (c:Nat),vx=.slice base xs.length c→xs.length≤c→ys.length=0→
   ∃ v' w' cB,(Builtin.append_ #[T,T'] ty #[vx,vy]).run P w=.ok v' w'∧M w' (fun g=>A g∨w.heap.size≤g) H (.sl t) (.o e none me) (xs++ys) [v'] cB []∧
   (∀ g,g<w.heap.size→¬ED g→w'.heap[g]?=w.heap[g]?)∧(∀ g,cB g→g<w'.heap.size∧(ED g∨ux g∨w.heap.size≤g))∧w.heap.size≤w'.heap.size∧w'.os=w.os∧w'.tape=w.tape∧w'.output=w.output:=by
  intro base c hv hle h0
  have hys:ys=[]:=List.eq_nil_of_length_eq_zero h0
  subst hys
  have hn0:news=[]:=List.eq_nil_of_length_eq_zero (by simpa using hnl)
  rw[hn0] at VL
  rw[hv] at hx ⊢
  have bZ:=run_append_nothing (P:=P) w T T' ty e inf hu hi base xs.length c hle vy VL
  refine⟨_,w,ED,bZ,?_,fun _ _ _=>rfl,fun g hg=>⟨hlx g hg,.inl hg⟩,Nat.le_refl _,rfl,rfl,rfl⟩
  rw[List.append_nil]
  have xi:M w A H (.sl t) (.o e none me) xs [.slice base xs.length c] ED []:=by
   simp only[M] at hx ⊢
   rcases hx with⟨hn,_⟩ |⟨hk,_⟩ |⟨T1,awW,me1,X,c1,e1,e2,h1,h2,h3⟩
   ·simp at hn
   ·simp[Md.bG] at hk
   ·injection e1 with e1 Ao pW
    subst e1 Ao pW
    exact .inr (.inr ⟨e,none,me,X,c1,rfl,e2,h1,fun h hh=>(by cases hh),h3⟩)
  exact aG (w:=w) ⟨fun _ _ _=>rfl,fun g hg hx=>hx.resolve_right (by omega)⟩ (.sl t) (fun _ _ _=>rfl) (fun g hg _=>hg) (fun _ h=>h) xi
 have hx0:=hx
 simp only[M] at hx
 rcases hx with⟨hn,_⟩ |⟨hk,_⟩ |⟨T1,awW,me1,X,c,e1,e2,hle,aif,hx⟩
 ·simp at hn
 ·simp[Md.bG] at hk
 ·injection e1 with e1 Ao pW
  subst e1 Ao pW
  simp only[List.cons.injEq,and_true] at e2
  rcases Nat.eq_zero_or_pos ys.length with h0 |h0
  ·exact nothing X c e2 hle h0
  ·rcases hx with⟨hxs,hc⟩ |⟨g,cur,τ,rfl,q8,hw,hZ,hcm,va⟩
   ·subst hxs hc
    refine grown X 0 [] (fun _=>False) (fun _=>0) e2 (by simpa using h0) (by simp) ?_ (fun _ h=>h.elim) (fun k hk=>by simp at hk)
    rw[e2]
    cases X with
    |none=>exact run_firstCells_none w.drew _ _ _ _
    |some ad=>exact run_firstCells_some w.drew _ _ ad _ _ [] (by simp) (fun j u hu=>by simp at hu)
   ·have hbx:xs.length*t.size≤cur.toList.length:=by
     have h1:cur.toList.length=cur.size:=Array.length_toList
     have h2:=Nat.mul_le_mul_right t.size hle
     omega
    have gg:cur.toList.length=cur.size:=Array.length_toList
    by_cases sh:xs.length+ys.length≤c
    ·-- room
     have w9:xs.length*t.size+news.length≤cur.size:=by
      rw[hnl,hZ,←Nat.add_mul]
      exact Nat.mul_le_mul_right _ sh
     have bZ:=run_append_room_src (P:=P) w T T' ty e inf hu hi g 0 xs.length c vy ys.length news VL sh (fun j hj=>by
      have:xs.length*inf.size+j<cur.size:=by rw[jg];omega
      simp[World.cell?,hw,this]) (fun j hj=>by simp[World.frozen?,hw])
     rw[Nat.zero_add,jg,c7 hw w9 aii] at bZ
     have gm:∀ k,k≠g→(w.setRow g (putCells cur.toList (xs.length*t.size) news).toArray).heap[k]?=w.heap[k]?:=fun k hk=>setRow_other w g k _ hk
     refine⟨_,w.setRow g (putCells cur.toList (xs.length*t.size) news).toArray,fun k=>ED k∨ux k,by rw[e2];exact bZ,?_,fun k _ hk=>gm k (fun e'=>hk (by rw[e'];exact q8)),fun k hk=>?_,by rw[setRow_size];exact Nat.le_refl _,rfl,rfl,rfl⟩
     ·simp only[M]
      refine .inr (.inr ⟨e,none,me,some ⟨g,0,none⟩,c,rfl,by rw[List.length_append],by rw[List.length_append];exact sh,fun h hh=>(by cases hh),.inr ⟨g,(putCells cur.toList (xs.length*t.size) news).toArray,join ux xs.length I1 τ,rfl,.inl q8,setRow_heap w g cur _ e (0,0) hw,?_,hcm,fun j hj=>?_⟩⟩)
      ·rw[List.size_toArray,iz _ _ _ (by omega),gg,hZ]
      ·have bQ:aP w (w.setRow g (putCells cur.toList (xs.length*t.size) news).toArray) A (fun g=>A g∨w.heap.size≤g):=⟨fun k hk _=>gm k (fun e'=>hk (by rw[e'];exact hxA g q8)),fun k hk hx=>hx.resolve_right (by omega)⟩
       rw[List.toList_toArray]
       have htl:(cur.toList.take (xs.length*t.size)).length=xs.length*t.size:=by rw[List.length_take];omega
       have YZ:putCells cur.toList (xs.length*t.size) news=cur.toList.take (xs.length*t.size)++(news++cur.toList.drop (xs.length*t.size+news.length)):=by unfold putCells;rw[List.append_assoc]
       rcases Nat.lt_or_ge j xs.length with hjx |hjx
       ·have gZ:((putCells cur.toList (xs.length*t.size) news).drop (j*t.size)).take t.size=(cur.toList.drop (j*t.size)).take t.size:=by rw[YZ,xy htl hjx,oO hjx]
        rw[List.getElem_append_left hjx,gZ]
        refine aG bQ t (fun k hk hl=>gm k hk.2.1) (fun k hk hl=>⟨.inl hk.1,hk.2.1,?_⟩) (fun _ h=>h) (va j hjx)
        rw[Ng (ace k hk.1)]
        exact hk.2.2
       ·have hjy:j - xs.length<ys.length:=by rw[List.length_append] at hj;omega
        rw[List.getElem_append_right hjx]
        have e1:=HR (olds:=cur.toList.take (xs.length*t.size)) (news:=news++cur.toList.drop (xs.length*t.size+news.length)) (s:=t.size) (n:=xs.length) (j:=j - xs.length) htl
        rw[show xs.length+(j - xs.length)=j from by omega,xy hnl hjy] at e1
        rw[←YZ] at e1
        rw[e1]
        have hgN:∀ k,ux k→k≠g:=fun k hk e'=>ace g q8 (by rw[←e'];exact hk)
        refine aG bQ t (fun k hk hl=>gm k (hgN k hk.1)) (fun k hk hl=>⟨.inr hk.1,hgN k hk.1,?_⟩) (fun _ h=>by simp at h) (hN (j - xs.length) hjy)
        rw[VK hk.1,hk.2]
        omega
     ·rw[setRow_size]
      rcases hk with hk |hk
      ·exact⟨hlx k hk,.inl hk⟩
      ·exact⟨hlN k hk,.inr (.inl hk)⟩
    ·refine grown (some ⟨g,0,none⟩) c (cur.toList.take (xs.length*t.size)) (fun k=>ED k∧k≠g) τ e2 (by omega) (by rw[List.length_take];omega) ?_ (fun k hk=>hk.1) (fun k hk=>?_)
     ·rw[e2,jg]
      refine run_firstCells_some w.drew _ _ ⟨g,0,none⟩ _ _ _ (by rw[List.length_take];omega) (fun j u hu=>?_)
      rw[jy]
      have hj:j<xs.length*t.size:=by
       have:=(List.getElem?_eq_some_iff.1 hu).1
       rw[List.length_take] at this
       omega
      rw[List.getElem?_take,if_pos hj] at hu
      have G4:w.drew.heap[g]?=some (.cells cur e (0,0)):=hw
      simp only[World.cell?,G4,Nat.zero_add]
      rw[←Array.getElem?_toList]
      exact hu
     ·rw[oO hk]
      exact aG (aP.refl _ _) t (fun _ _ _=>rfl) (fun g' a8 _=>⟨⟨a8.1,a8.2.1⟩,a8.2.2⟩) (fun _ h=>h) (va k hk)
end Go.Pv
namespace Go.Pv
set_option linter.unusedVariables false
set_option linter.unusedSimpArgs false
variable {P:Program} {w w':World} {A A' Wr:Nat→Prop} {H:Nat→Value} {tm rH:Nat→Value} {S S' S1:St} {σ bF dZ:Nat→Option Nat} {w0:World} {W0 Z:Nat→Prop} {a:Act} {own:Nat→Prop} {v:Value} {Θ:dq} {dst:Option Nat}
def KS (w:World) (A:Nat→Prop) (t:Ty) (xs:List t.I) (cs:List Value):Prop:=
 ∃ X c,cs=[.slice X xs.length c]∧xs.length≤c∧(0<xs.length→∃ g off cur T fr,X=some ⟨g,off,none⟩∧w.heap[g]?=some (.cells cur T fr)∧off+xs.length*t.size≤cur.size∧∀ j (h:j<xs.length),K w A t xs[j] ((cur.toList.drop (off+j*t.size)).take t.size))
theorem aqP {t:Ty} {m:Md} {xs:List t.I} {cs:List Value} {ow:Nat→Prop} (hk:m.Hm.bG=true) (h:M w A H (.sl t) m xs cs ow []):KS w A t xs cs:=by
 simp only[M] at h
 rcases h with⟨hn,_⟩ |⟨_,h⟩ |⟨T,tag,me,X,c,rfl,rfl,hc,ht,h⟩
 ·simp at hn
 ·simp only[K] at h
  obtain⟨X,c,rfl,hc,h⟩:=h
  refine⟨X,c,rfl,hc,fun hp=>?_⟩
  obtain⟨g,off,cur,T,fr,h1,_,h2,h3,h4⟩:=h hp
  exact⟨g,off,cur,T,fr,h1,h2,h3,h4⟩
 ·refine⟨X,c,rfl,hc,fun hp=>?_⟩
  rcases h with⟨rfl,_⟩ |⟨g,cur,τ,rfl,q8,hw,jg,hm,h⟩
  ·simp at hp
  ·refine⟨g,0,cur,T,(0,0),rfl,hw,?_,fun j hj=>?_⟩
   ·have:=Nat.mul_le_mul_right t.size hc
    omega
   ·rw[Nat.zero_add]
    exact fP t hk (h j hj)
theorem aqQ {t:Ty} {xs:List t.I} {X:Option Addr} {c lo hi:Nat} (h:KS w A t xs [.slice X xs.length c]) (h1:lo≤hi) (h2:hi≤xs.length):
  KS w A t ((xs.take hi).drop lo) [.slice (if c=lo then X else X.map (·.add (lo*t.size))) (hi - lo) (c - lo)]:=by
 obtain⟨X',c',e,hc,h⟩:=h
 simp only[List.cons.injEq,Value.slice.injEq,and_true,true_and] at e
 obtain⟨rfl,rfl⟩:=e
 have hl:((xs.take hi).drop lo).length=hi - lo:=by rw[List.length_drop,List.length_take];omega
 refine⟨_,_,by rw[hl],by omega,fun hp=>?_⟩
 rw[hl] at hp
 obtain⟨g,off,cur,T,fr,rfl,hw,ho,hj⟩:=h (by omega)
 have e1:(lo+(hi - lo))*t.size≤xs.length*t.size:=Nat.mul_le_mul_right _ (by omega)
 rw[Nat.add_mul] at e1
 refine⟨g,off+lo*t.size,cur,T,fr,?_,hw,by rw[hl];omega,fun j GY=>?_⟩
 rotate_left
 ·have pC:j<hi - lo:=by rw[←hl];exact GY
  have:=hj (lo+j) (by omega)
  rw[show((xs.take hi).drop lo)[j]=xs[lo+j]'(by omega) from by simp]
  rw[show off+lo*t.size+j*t.size=off+(lo+j)*t.size from by rw[Nat.add_mul];omega]
  exact this
 ·rw[if_neg (by omega)]
  simp only[Option.map_some,jy]
theorem Nh (h:aW σ w0 W0 Z H S a w) {av:AV} {t:Ty} {m:Md} {ys:List t.I} (hh:Holds w (Av σ Z) H (bU a) S own av v) (e:S.tp av=some ⟨.sl t,m,ys⟩) (hk:m.Hm.bG=true):
  KS w (Av σ Z) t ys [v]:=by
 cases av with
 |v a ex=>
  cases ex with
  |cons _ _=>simp[St.tp] at e
  |nil=>
   simp only[St.tp,Option.some.injEq] at e
   subst e
   obtain⟨cs,h1,h2⟩:=hh
   have:cs=[v]:=by simpa[aq,isAgg] using h1
   subst this
   exact aqP hk h2
 |al t1 s p=>
  simp only[St.tp] at e
  obtain⟨r,cN,cs,hr,hc,hm⟩:=hh
  obtain⟨rfl,cB,k2,k3⟩:=db h hr hc e
  have:cs=[v]:=by simpa[aq,isAgg] using hm
  subst this
  exact aqP hk k3
 |cut t1 s p lo hi=>
  simp only[St.tp] at e
  obtain⟨r,cN,t',X,n,c,hr,rfl,hc,YK,Ea,rfl⟩:=hh
  cases hp:S.place s p with
  |none=>rw[hp] at e;cases e
  |some b'=>
   obtain⟨ht,cB,k2,k3⟩:=db h hr hc hp
   obtain⟨bt,bm,bx⟩:=b'
   simp only at ht
   subst ht
   rw[hp] at e
   simp only[Option.some.injEq] at e
   injection e with e1 e2 e3
   injection e1 with e1
   subst e1 e2
   simp only[heq_eq_eq] at e3
   subst e3
   have hK:=aqP hk k3
   have hn:n=List.length bx:=by
    obtain⟨_,_,e,_⟩:=hK
    simp only[List.cons.injEq,Value.slice.injEq,and_true] at e
    exact e.2.1
   subst hn
   exact aqQ hK YK Ea
 |_=>simp[St.tp] at e
theorem oP {s:Nat} {Q:Value→Prop} {l:List Value}:∀ (n:Nat),(∀ j,j<n→∀ u∈(l.drop (j*s)).take s,Q u)→∀ u∈l.take (n*s),Q u
 |0,_,u,hu=>by simp at hu
 |n+1,h,u,hu=>by
  rw[Nat.add_mul,Nat.one_mul,List.take_add] at hu
  rcases List.mem_append.1 hu with hu |hu
  ·exact oP n (fun j hj=>h j (by omega)) u hu
  ·exact h n (by omega) u hu
theorem ach {T' e':TypeId} {t:Ty} {ys:List t.I} {vy:Value} (hk:P.underlying T'=some (.slice e')) (h:KS w A t ys [vy]):
  ∃ news,Src P t.size T' vy ys.length news w∧∀ (k:Nat) (hk:k<ys.length),K w A t ys[k] ((news.drop (k*t.size)).take t.size):=by
 obtain⟨X,c,e,hc,h⟩:=h
 simp only[List.cons.injEq,and_true] at e
 obtain⟨news,h1,h2⟩:=RF (P:=P) (w:=w) (t:=t) (ys:=ys) (vy:=vy) hk rfl ⟨X,c,e,fun hp=>by
  obtain⟨g,off,cur,T,fr,rfl,hw,hb,hj⟩:=h hp
  refine⟨g,off,cur,T,fr,rfl,hw,hb,oP _ fun j GY u hu=>?_⟩
  rw[List.drop_drop] at hu
  exact(lv t (hj j GY)).2 u hu⟩
 refine⟨news,h1,fun k hk=>?_⟩
 obtain⟨g,off,cur,T,fr,rfl,hw,hb,hj⟩:=h (by omega)
 rw[h2 g off cur T fr _ c e rfl hw (by omega),oO hk,List.drop_drop]
 exact hj k hk
theorem ve (hT:cP P Θ=true) {T0:TypeId} {i:TI} (hi:Θ.find T0=some i) {t:Ty} (fH:i.ty=.sl t) {o:Oper} {x y:Operand} {T':TypeId} {tag:Option Nat} {me:Md} {xs ys:List t.I} {ED ux:Nat→Prop} {I1:Nat→Nat} {news:List Value} {n:Nat}
  (ho:o.op=.call { callee:=.builtin .append,args:=#[x,y],argTypes:=#[T0,T'] })
  (h2:aW dZ w0 W0 Z H S1 a w) (hS1:S1.length=n) (hA:A=Av dZ Z)
  (hx:M w A H (.sl t) (.o i.e tag me) xs [a.eval x] ED []) (se:Src P t.size T' (a.eval y) ys.length news w)
  (hN:∀ (k:Nat) (hk:k<ys.length),M w A H t me ys[k] ((news.drop (k*t.size)).take t.size) (fun g=>ux g∧I1 g=k) [])
  (ace:∀ g,ED g→¬ux g) (xx:∀ g,ED g∨ux g→∃ i,n≤i∧dZ g=some i) (I2:(xs.length+ys.length)*t.size≤4398046511104):
  IU P w0 W0 Z H (S1.put o.dst (.v ⟨.sl t,.o i.e none me,xs++ys⟩ [])) a o.dst w (execOp a.eval o):=by
 subst hA hS1
 obtain⟨_,hu,hT0⟩:=cR hT hi
 obtain⟨u1,u2,u3⟩:=lD hu fH
 rw[hT0] at u1
 obtain⟨i2,nk,ht2⟩:=dW u2
 obtain⟨⟨sm,inf,z,k1,k2,kb,_,_,k3,k4⟩,_,hte⟩:=cR hT nk
 rw[hte] at k1
 rw[ht2] at k2 k4 kb
 have b9:∀ g,ED g∨ux g→g<w.heap.size:=fun g hg=>by
  obtain⟨i,_,hi⟩:=xx g hg
  exact h2.lt g i hi
 have IZ:z.cells.size=t.size:=by
  unfold aq at k4
  split at k4
  ·rw[k4,Value.cells,List.size_toArray,mI]
  ·rename_i Rn
   have hl:=mI t
   rw[k4] at hl
   have hv:∀ (t:Ty),∀ u∈zc t,u.oneCell'=true:=by
    intro t
    induction t with
    |pair a b iha ihb=>intro u hu;simp only[zc,List.mem_append] at hu;rcases hu with hu |hu;exact iha u hu;exact ihb u hu
    |arr n t ih=>intro u hu;simp only[zc,List.mem_flatten] at hu;obtain⟨c,hc,hu⟩:=hu;rw[List.eq_of_mem_replicate hc] at hu;exact ih u hu
    |unit=>intro u hu;simp[zc] at hu
    |_=>intro u hu;simp only[zc,List.mem_singleton] at hu;subst hu;rfl
   have h1:=hv t z (by rw[k4];simp)
   have:z.cells=#[z]:=by cases z<;>first |rfl |simp[Value.oneCell'] at h1
   rw[this]
   simpa using hl
 obtain⟨v',w',cB,r1,r2,r3,r4,r5,r6,r7,r8⟩:=xz (ty:=o.type) hT u1 k1 k3 k2 kb IZ u3 hx se hN ace (fun g hg=>by
  obtain⟨i,_,hi⟩:=xx g (.inl hg)
  exact .inl ⟨i,hi⟩) (fun g hg=>b9 g (.inl hg)) (fun g hg=>b9 g (.inr hg)) I2
 refine⟨w',v',.inl ?_,_,h2.apc (b:=⟨.sl t,.o i.e none me,xs++ys⟩) (cs:=[v']) (ow:=cB) (A':=fun g=>Av dZ Z g∨w.heap.size≤g) r5 (fun g hg hn=>r3 g hg (fun hx=>?_)) ?_ (fun g hg=>?_) (fun g hg hx=>?_) (by simp[aq,isAgg]) r2⟩
 ·simp[execOp,ho,resolve,invoke,builtin,r1]
 ·obtain⟨i,hi1,nk⟩:=xx g (.inl hx)
  exact hn i hi1 nk
 ·refine⟨by rw[r6];exact h2.fr.os,by rw[r7];exact h2.fr.tape,by rw[r8];exact h2.fr.output,Nat.le_trans h2.fr.size r5,fun g hg hn=>?_⟩
  rw[r3 g (by have:=h2.fr.size;omega) (fun hx=>?_)]
  ·exact h2.fr.block g hg hn
  ·obtain⟨i,_,hi⟩:=xx g (.inl hx)
   rcases h2.new g i hi with h1 |h1
   ·omega
   ·exact hn h1
 ·obtain⟨q1,q2⟩:=r4 g hg
  refine⟨q1,?_⟩
  rcases q2 with q2 |q2 |q2
  ·exact .inl (xx g (.inl q2))
  ·exact .inl (xx g (.inr q2))
  ·exact .inr q2
 ·rcases hx with hx |hx
  ·exact .inl hx
  ·rcases(r4 g hx).2 with q2 |q2 |q2
   ·obtain⟨i,_,hi⟩:=xx g (.inl q2)
    exact .inl (.inl ⟨i,hi⟩)
   ·obtain⟨i,_,hi⟩:=xx g (.inr q2)
    exact .inl (.inl ⟨i,hi⟩)
   ·exact .inr q2
theorem Y2 (hT:cP P Θ=true) (h:aW σ w0 W0 Z H S a w) {o:Oper} {as:Array Operand} {ts:Array TypeId} (ho:o.op=.call { callee:=.builtin .append,args:=as,argTypes:=ts }) (e:cf Θ S o.dst ts.toList as.toList=some (true,S')):IU P w0 W0 Z H S' a o.dst w (execOp a.eval o):=by
 obtain⟨as⟩:=as
 obtain⟨ts⟩:=ts
 simp only at e
 unfold cf at e
 split at e
 case h_2=>cases e
 rename_i x y T T'
 split at e
 case h_2=>cases e
 rename_i t e0 tag me xs S1 i hb hi
 unfold St.take at hb
 split at hb
 case h_2=>cases hb
 rename_i av dL
 obtain⟨bF,cs,ow,h1,hm,hM,hk,hn⟩:=eV h dL hb
 cases hc:(decide (i.ty=.sl t)&&Nat.beq i.e e0&&Θ.is T' (.sl t)) with
 |false=>rw[hc] at e;cases e
 |true=>
 rw[hc] at e
 simp only[cond_true] at e
 simp only[Bool.and_eq_true,decide_eq_true_eq] at hc
 obtain⟨⟨fH,hee⟩,hT'⟩:=hc
 have hee:=Nat.eq_of_beq_eq_true hee
 subst hee
 have hZ:cs=[a.eval x]:=by simpa[aq,isAgg] using hm
 subst hZ
 obtain⟨i',nj,aca⟩:=dW hT'
 obtain⟨_,tu,hT1⟩:=cR hT nj
 obtain⟨u1,_,_⟩:=lD tu aca
 rw[hT1] at u1
 have awX:aP w w (Av σ Z) (Av bF Z):=⟨fun _ _ _=>rfl,fun g _ hg=>hk.Av.1 hg⟩
 cases hme:me.bG with
 |true=>
  rw[hme] at e
  simp only[cond_true] at e
  split at e
  case h_2=>cases e
  rename_i t' m' ys hy
  cases hmi:m'.Hm.bG with
  |false=>rw[hmi] at e;cases e
  |true=>
  rw[hmi] at e
  simp only[cond_true] at e
  split at e
  case isFalse=>cases e
  rename_i htt
  subst htt
  simp only[Option.some.injEq,Prod.mk.injEq,decide_eq_true_eq] at e
  obtain⟨I2,rfl⟩:=e
  unfold St.rd at hy
  split at hy
  case h_2=>cases hy
  rename_i av2 RC
  have hKS:=Nh h1 (bo h1 RC) hy hmi
  obtain⟨news,se,va⟩:=ach (P:=P) u1 hKS
  refine ve (n:=S1.length) (A:=Av bF Z) (ED:=ow) (ux:=fun _=>False) (I1:=fun _=>0) hT hi fH ho h1 rfl rfl (aG awX _ (fun _ _ _=>rfl) (fun _ h _=>h) (fun _ h=>h) hM) se (fun k eY=>oh hme (va k eY)) (fun _ _ h=>h) (fun g hg=>?_) I2
  rw[hn]
  exact hk.now g (hg.resolve_right id)
 |false=>
  rw[hme] at e
  simp only[cond_false] at e
  split at e
  case h_2=>cases e
  rename_i t' m' ys S2 hy
  split at e
  case isFalse=>cases e
  rename_i htt
  subst htt
  split at e
  case isFalse=>cases e
  rename_i hmi
  simp only[Option.some.injEq,Prod.mk.injEq,decide_eq_true_eq] at e
  obtain⟨I2,rfl⟩:=e
  unfold St.take at hy
  split at hy
  case h_2=>cases hy
  rename_i av2 RC
  obtain⟨dZ,cs2,pS,h2,hm2,hM2,Q2,hn2⟩:=eV h1 RC hy
  rw[hn] at Q2 hn2
  have hZ:cs2=[a.eval y]:=by simpa[aq,isAgg] using hm2
  subst hZ
  have aqR:aP w w (Av bF Z) (Av dZ Z):=⟨fun _ _ _=>rfl,fun g _ hg=>Q2.Av.1 hg⟩
  have auX:M w (Av dZ Z) H (.sl t') m' ys [a.eval y] pS []:=aG aqR _ (fun _ _ _=>rfl) (fun _ h _=>h) (fun _ h=>h) hM2
  have hM':M w (Av dZ Z) H (.sl t') (.o i.e tag me) xs [a.eval x] ow []:=aG ⟨fun _ _ _=>rfl,fun g _ hg=>hk.Av.1 (Q2.Av.1 hg)⟩ _ (fun _ _ _=>rfl) (fun _ h _=>h) (fun _ h=>h) hM
  have xx:∀ g,ow g∨pS g→∃ i,S.length≤i∧dZ g=some i:=fun g hg=>(hk.trans Q2).now g hg
  simp only[M] at auX
  rcases auX with⟨hn0,_⟩ |⟨hK,_⟩ |⟨T2,YY,me2,X,c,rfl,e2,hle,aif,va⟩
  ·simp at hn0
  ·rw[←hmi] at hme
   rw[pH hK] at hme
   cases hme
  ·simp only[Md.Hm] at hmi
   subst hmi
   simp only[List.cons.injEq,and_true] at e2
   have se:∃ (ux:Nat→Prop) (I1:Nat→Nat) (news:List Value),Src P t'.size T' (a.eval y) ys.length news w∧(∀ g,ux g→pS g)∧
     ∀ (k:Nat) (hk:k<ys.length),M w (Av dZ Z) H t' me2 ys[k] ((news.drop (k*t'.size)).take t'.size) (fun g=>ux g∧I1 g=k) []:=by
    rcases va with⟨hys,_⟩ |⟨g,cur,τ,hX,q8,hw,jg,auW,va⟩
    ·subst hys
     obtain⟨news,s1,_⟩:=RF (P:=P) (w:=w) (t:=t') (ys:=([]:List t'.I)) (vy:=a.eval y) u1 rfl ⟨X,c,e2,fun hp=>by simp at hp⟩
     exact⟨fun _=>False,fun _=>0,news,s1,fun _ h=>h.elim,fun k hk=>by simp at hk⟩
    ·subst hX
     have gg:cur.toList.length=cur.size:=Array.length_toList
     have hb:=Nat.mul_le_mul_right t'.size hle
     obtain⟨news,s1,s2⟩:=RF (P:=P) (w:=w) (t:=t') (ys:=ys) (vy:=a.eval y) u1 rfl ⟨some ⟨g,0,none⟩,c,e2,fun hp=>⟨g,0,cur,T2,(0,0),rfl,hw,by omega,oP _ fun j hj u hu=>by
      rw[List.drop_zero] at hu
      exact(eP t' (va j hj)).2 u hu⟩⟩
     refine⟨fun g'=>pS g'∧g'≠g,τ,news,s1,fun _ h=>h.1,fun k hk=>?_⟩
     rw[s2 g 0 cur T2 (0,0) _ c e2 rfl hw (by omega),oO hk,List.drop_zero]
     exact aG (aP.refl _ _) t' (fun _ _ _=>rfl) (fun g' a8 _=>⟨⟨a8.1,a8.2.1⟩,a8.2.2⟩) (fun _ h=>h) (va k hk)
   obtain⟨ux,I1,news,s1,s2,s3⟩:=se
   exact ve (n:=S.length) (A:=Av dZ Z) (ED:=ow) (ux:=ux) (I1:=I1) hT hi fH ho h2 hn2 rfl hM' s1 s3 (fun g hg rC=>hk.apart Q2 hg (s2 g rC)) (fun g hg=>xx g (hg.imp id (s2 g))) I2
end Go.Pv
namespace Go.Pv
set_option linter.unusedVariables false
set_option linter.unusedSimpArgs false
variable {P:Program} {w w':World} {A A' Wr:Nat→Prop} {H:Nat→Value} {tm rH:Nat→Value} {S S' S1:St} {σ bF:Nat→Option Nat} {w0:World} {W0 Z:Nat→Prop} {a:Act} {own:Nat→Prop} {v:Value} {Θ:dq} {dst:Option Nat}
theorem EE {p:Path} {ex:List Path} (h:∀ q∈ex,pD q p=false):w8 p ex=[]:=by
 have key:∀ (p r:Path),pD (p++r) p=true:=by
  intro p
  induction p with
  |nil=>intro r;cases r<;>rfl
  |cons a p ih=>intro r;cases a<;>simp[pD,ih]
 apply List.eq_nil_iff_forall_not_mem.2
 intro q hq
 have:=h _ (DY.1 hq)
 rw[key] at this
 cases this
theorem si (h:aW σ w0 W0 Z H S a w) {vv:Value} {t:Ty} {s:Nat} {p:Path} (hpc:p≠[]) {r:TV} {ex:List Path} {b:TV} (hh:Holds w (Av σ Z) H (bU a) S own (.al t s p) vv) (hs:S.at s=.v r ex) (hg:aX p r.t r.m r.x=some b) (hk:b.m.bG=false) (gg:∀ q∈ex,pD q p=false):
  ∃ bF cs ow,aW bF w0 W0 Z H (((S.weaken s).cover s p).set s (.v r (ex++[p]))) a w∧aq b.t vv cs∧M w (Av bF Z) H b.t b.m b.x cs ow []∧gv σ bF S.length ow∧(((S.weaken s).cover s p).set s (.v r (ex++[p]))).length=S.length:=by
 obtain⟨r0,cN,cs,hr,hc,hm⟩:=hh
 obtain⟨ex0,b2,cJ,ow0,j1,j2,j3,j4,hM,j5,j6,j7⟩:=fX h hr
 rw[hs] at j1
 injection j1 with j1 j1'
 subst j1 j1'
 have j1:=hs
 rw[hg] at j3
 injection j3 with j3
 subst j3
 have j3:=hg
 obtain⟨cs2,cB,k1,k2,k3,k4⟩:=HN p hM j2 hr.val j3 hk
 rw[hc] at k1
 injection k1 with k1
 subst k1
 rw[EE gg] at k3
 -- the ownership without what is taken
 have ab2:s<S.length:=eH (by rw[j1];exact fun e=>by cases e)
 let bF:Nat→Option Nat:=fun g=>open Classical in if cB g then some S.length else σ g
 have Ew:∀ g i,bF g=some i→∃ k,σ g=some k:=by
  intro g i hg
  simp only[bF] at hg
  split at hg
  ·exact⟨s,k2 g (by assumption)⟩
  ·exact⟨i,hg⟩
 have Ey:∀ g i,σ g=some i→¬cB g→bF g=some i:=by
  intro g i hg hn
  simp only[bF,if_neg hn,hg]
 have bQ:aP w w (Av σ Z) (Av bF Z):=⟨fun _ _ _=>rfl,fun g _ hg=>by
  rcases hg with⟨i,hg⟩ |hg
  ·exact .inl (Ew g i hg)
  ·exact .inr hg⟩
 have ab3:gv σ bF S.length cB:=by
  refine⟨fun g hg=>⟨s,ab2,k2 g hg⟩,fun g hg=>⟨_,Nat.le_refl _,by simp only[bF,if_pos hg]⟩,fun g i hg hi=>?_,fun g=>⟨fun⟨i,hg⟩=>Ew g i hg,fun⟨i,hg⟩=>?_⟩,fun g i hg hi=>Ey g i hg (fun hx=>?_)⟩
  ·simp only[bF] at hg
   split at hg
   ·injection hg with hg;omega
   ·exact hg
  ·simp only[bF]
   split
   ·exact⟨_,rfl⟩
   ·exact⟨i,hg⟩
  ·have:=k2 g hx
   rw[hg] at this
   injection this with this
   omega
 refine⟨bF,cs,cB,?_,by rw[j4];exact hm,aG bQ _ (fun _ _ _=>rfl) (fun _ h _=>h) (fun _ h=>h) k3,ab3,by simp[St.weaken,St.cover]⟩
 have hlen:((S.weaken s).cover s p).length=S.length:=by simp[St.weaken,St.cover]
 have G1:s<S.length:=by
  rcases Nat.lt_or_ge s S.length with hl |hl
  ·exact hl
  ·unfold St.at at j1
   rw[List.getD_eq_getElem?_getD,List.getElem?_eq_none hl] at j1
   cases j1
 have Ap:St.at (((S.weaken s).cover s p).set s (.v r (ex++[p]))) s=.v r (ex++[p]):=by rw[cQ,if_pos ⟨rfl,by rw[hlen];exact G1⟩]
 have lz:∀ i,i≠s→St.at (((S.weaken s).cover s p).set s (.v r (ex++[p]))) i=(match (bif (S.at i).e9 s then AV.dead else S.at i) with
   | .ad t s' q=>bif Nat.beq s' s&&under p q then .dead else .ad t s' q
   |a=>a):=by
  intro i hi
  rw[cQ,if_neg (fun e=>hi e.1),Ev,kn]
  try (cases (bif AV.e9 s (S.at i) then AV.dead else S.at i)<;>rfl)
 refine⟨by simp only[List.length_set,hlen];exact h.len,h.defers,h.fr,fun g i hg=>(Ew g i hg).elim fun k hk=>h.new g k hk,fun g i hg=>(Ew g i hg).elim fun k hk=>h.lt g k hk,fun g hg=>⟨?_,(h.old g hg).2⟩,fun i=>?_⟩
 ·simp only[bF]
  split
  ·rename_i hx
   have:=k2 g hx
   rw[(h.old g hg).1] at this
   cases this
  ·exact(h.old g hg).1
 ·by_cases Q3:i=s
  ·subst Q3
   rw[Ap]
   exact⟨cN,hr.mat,aG bQ _ (fun _ _ _=>rfl) (fun g hg _=>Ey g _ hg.1 hg.2) (fun _ h=>h) k4⟩
  ·rw[lz i Q3]
   cases ra:(S.at i).e9 s with
   |true=>trivial
   |false=>
    simp only[cond_false]
    have hi:=h.holds i
    have base:Holds w (Av bF Z) H (bU a) S (fun g=>bF g=some i) (S.at i) (bU a i):=
     hi.kept bQ (fun g hg _=>⟨rfl,Ey g i hg (fun hx=>Q3 (by have:=k2 g hx;rw[hg] at this;injection this))⟩) (fun s' _=>⟨fun _ _ h=>h,rfl,_,h.holds s',fun _ _ _=>rfl⟩)
    have hSv:∀ j r' Dj,j≠s→S.at j=.v r' Dj→St.at (((S.weaken s).cover s p).set s (.v r (ex++[p]))) j=.v r' Dj:=by
     intro j r' Dj hj hv
     rw[lz j hj,hv]
     simp[AV.e9]
    cases fz:S.at i with
    |v b3 ex3=>
     rw[fz] at base
     obtain⟨c3,l1,l2⟩:=base
     exact⟨c3,l1,l2⟩
    |ud l=>
     rw[fz] at base
     exact base
    |ad t' s' q=>
     rw[fz] at base ra
     simp only
     cases aqH:(Nat.beq s' s&&under p q) with
     |true=>trivial
     |false=>
      simp only[cond_false]
      refine gD j1 hSv Ap ra (fun t2 q2 e2=>?_) base (fun _ _ e=>by cases e) (fun _ e=>by cases e)
      injection e2 with _ e3 e4
      subst e3 e4
      simpa using aqH
    |dead=>trivial
    |undef=>rw[fz] at base;exact base
    |al t' s' q=>
     rw[fz] at base ra
     exact gD j1 hSv Ap ra (fun t2 q2 e2=>by cases e2) base (fun _ _ e=>by cases e) (fun _ e=>by cases e)
    |cut t' s' q lo nj=>
     rw[fz] at base ra
     exact gD j1 hSv Ap ra (fun t2 q2 e2=>by cases e2) base (fun _ _ e=>by cases e) (fun _ e=>by cases e)
    |lu f cu=>
     rw[fz] at base ra
     exact gD j1 hSv Ap ra (fun t2 q2 e2=>by cases e2) base (fun _ _ e=>by cases e) (fun _ e=>by cases e)
theorem RH (h:aW σ w0 W0 Z H S a w) {x:Operand} {t:Ty} {s:Nat} {p:Path} (hpc:p≠[]) {r:TV} {ex:List Path} {b:TV} (hh:Holds w (Av σ Z) H (bU a) S own (.al t s p) (a.eval x)) (hs:S.at s=.v r ex) (hg:aX p r.t r.m r.x=some b) (hk:b.m.bG=false) (gg:∀ q∈ex,pD q p=false):
  ∃ bF cs ow,aW bF w0 W0 Z H (((S.weaken s).cover s p).set s (.v r (ex++[p]))) a w∧aq b.t (a.eval x) cs∧M w (Av bF Z) H b.t b.m b.x cs ow []∧gv σ bF S.length ow∧(((S.weaken s).cover s p).set s (.v r (ex++[p]))).length=S.length:=si h hpc hh hs hg hk gg
theorem RI (hT:cP P Θ=true) (h:aW σ w0 W0 Z H S a w) {o:Oper} {as:Array Operand} {ts:Array TypeId} (ho:o.op=.call { callee:=.builtin .append,args:=as,argTypes:=ts }) (e:fW Θ S o.dst ts.toList as.toList=some (true,S')):IU P w0 W0 Z H S' a o.dst w (execOp a.eval o):=by
 obtain⟨as⟩:=as
 obtain⟨ts⟩:=ts
 simp only at e
 unfold fW at e
 split at e
 case h_2=>cases e
 rename_i x y T T'
 split at e
 case h_2=>cases e
 rename_i tt s st pp dL
 split at e
 case h_2=>cases e
 rename_i r ex hs
 split at e
 case h_2=>cases e
 rename_i t e0 tag me xs i hg hi
 cases hc:(decide (i.ty=.sl t)&&Nat.beq i.e e0&&Θ.is T' (.sl t)&&me.bG) with
 |false=>rw[hc] at e;cases e
 |true=>
 rw[hc] at e
 simp only[cond_true] at e
 simp only[Bool.and_eq_true,decide_eq_true_eq] at hc
 obtain⟨⟨⟨fH,hee⟩,hT'⟩,hme⟩:=hc
 have hee:=Nat.eq_of_beq_eq_true hee
 subst hee
 split at e
 case h_2=>cases e
 rename_i t' m' ys hy
 cases hmi:m'.Hm.bG with
 |false=>rw[hmi] at e;cases e
 |true=>
 rw[hmi] at e
 simp only[cond_true] at e
 split at e
 case isFalse=>cases e
 rename_i htt
 subst htt
 simp only[Option.some.injEq,Prod.mk.injEq,Bool.and_eq_true,decide_eq_true_eq] at e
 obtain⟨⟨gg,I2⟩,rfl⟩:=e
 obtain⟨bF,cs,ow,h1,hm,hM,hk,hn⟩:=RH (x:=x) h (by simp) (bo h dL) hs hg (by simp[Md.bG]) (fun q hq=>by simpa using List.all_eq_true.1 gg q hq)
 have hZ:cs=[a.eval x]:=by simpa[aq,isAgg] using hm
 subst hZ
 obtain⟨i',nj,aca⟩:=dW hT'
 obtain⟨_,tu,hT1⟩:=cR hT nj
 obtain⟨u1,_,_⟩:=lD tu aca
 rw[hT1] at u1
 unfold St.rd at hy
 split at hy
 case h_2=>cases hy
 rename_i av2 RC
 have hKS:=Nh h1 (bo h1 RC) hy hmi
 obtain⟨news,se,va⟩:=ach (P:=P) u1 hKS
 refine ve (n:=S.length) (A:=Av bF Z) (ED:=ow) (ux:=fun _=>False) (I1:=fun _=>0) hT hi fH ho h1 hn rfl hM se (fun k eY=>oh hme (va k eY)) (fun _ _ h=>h) (fun g hg=>?_) I2
 exact hk.now g (hg.resolve_right id)
end Go.Pv
