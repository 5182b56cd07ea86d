/- A verified evaluator of the program's form over pure values, part 2: what it tells of a function holds. -/
import Derived.Test.YtcpakhaogbempaaGreatPv1
import Derived.Deep.AppendSrc
import Derived.Deep.Upon
import Derived.Laws.Cells
import Derived.Laws.CopyRow
import Derived.Laws.MakeOwn
import Derived.Laws.OwnMore
import Derived.Laws.Tables
import Derived.Maps.AppendAt
namespace Go.Pv
set_option linter.unusedVariables false
set_option linter.unusedSimpArgs false
variable {P:Program} {w w':World} {A A':Nat→Prop} {H:Nat→Value} {tm rC:Nat→Value} {S S':St} {σ:Nat→Option Nat} {w0:World} {W0 Z:Nat→Prop} {a:Act} {own:Nat→Prop} {v:Value} {Θ:da} {dst:Option Nat}
theorem fp:∀ (p q:Path) (t:Ty) (m:Md) (x:t.I),aY (p++q) t m x=(aY p t m x).bind fun b=>aY q b.t b.m b.x
 |[],q,t,m,x=>rfl
 | .deref::p,q,t,m,x=>by cases t<;>simp only[List.cons_append,aY,Option.bind_none]<;>exact fp p q _ _ _
 | .fst::p,q,t,m,x=>by cases t<;>simp only[List.cons_append,aY,Option.bind_none]<;>exact fp p q _ _ _
 | .snd::p,q,t,m,x=>by cases t<;>simp only[List.cons_append,aY,Option.bind_none]<;>exact fp p q _ _ _
 | .idx i::p,q,t,m,x=>by cases t<;>simp only[List.cons_append,aY,Option.bind_none]<;>exact fp p q _ _ _
theorem fz:∀ (p q:Path) {t:Ty} {m:Md} {x:t.I} {b:TV},aY p t m x=some b→valid p t x→valid q b.t b.x→valid (p++q) t x
 |[],q,t,m,x,b,hg,_,h=>by simp only[aY,Option.some.injEq] at hg;subst hg;exact h
 | .deref::p,q,.ptr t,m,x,b,hg,h1,h2=>by simp only[aY] at hg;simp only[valid] at h1;simp only[List.cons_append,valid];exact fz p q hg h1 h2
 | .fst::p,q,.pair _ _,m,x,b,hg,h1,h2=>by simp only[aY] at hg;simp only[valid] at h1;simp only[List.cons_append,valid];exact fz p q hg h1 h2
 | .snd::p,q,.pair _ _,m,x,b,hg,h1,h2=>by simp only[aY] at hg;simp only[valid] at h1;simp only[List.cons_append,valid];exact fz p q hg h1 h2
 | .idx i::p,q,.sl t,m,x,b,hg,h1,h2=>by simp only[aY] at hg;simp only[valid] at h1;simp only[List.cons_append,valid];exact⟨h1.1,fz p q hg h1.2 h2⟩
theorem B8 (cs:List Value):(∃ g off,cs=[.pointer (some ⟨g,off,none⟩)])∨((∀ (w:World) (p:Path) (t:Ty),aN w (.deref::p) (.ptr t) cs=none)∧∀ (w:World) (p:Path) (t:Ty) (l:Option (Nat×Nat)),addrAt w (.deref::p) (.ptr t) cs l=none):=by
 rcases cs with _ |⟨v,_ |⟨_,_⟩⟩
 ·exact .inr ⟨fun _ _ _=>rfl,fun _ _ _ _=>rfl⟩
 ·cases v<;>try exact .inr ⟨fun _ _ _=>rfl,fun _ _ _ _=>rfl⟩
  rename_i x
  rcases x with _ |⟨g,off,_ |_⟩
  ·exact .inr ⟨fun _ _ _=>rfl,fun _ _ _ _=>rfl⟩
  ·exact .inl ⟨g,off,rfl⟩
  ·exact .inr ⟨fun _ _ _=>rfl,fun _ _ _ _=>rfl⟩
 ·cases v<;>try exact .inr ⟨fun _ _ _=>rfl,fun _ _ _ _=>rfl⟩
  rename_i x
  rcases x with _ |⟨g,off,_ |_⟩<;>exact .inr ⟨fun _ _ _=>rfl,fun _ _ _ _=>rfl⟩
theorem HN (cs:List Value):(∃ g off n c,cs=[.slice (some ⟨g,off,none⟩) n c])∨((∀ (w:World) (i:Nat) (p:Path) (t:Ty),aN w (.idx i::p) (.sl t) cs=none)∧∀ (w:World) (i:Nat) (p:Path) (t:Ty) (l:Option (Nat×Nat)),addrAt w (.idx i::p) (.sl t) cs l=none):=by
 rcases cs with _ |⟨v,_ |⟨_,_⟩⟩
 ·exact .inr ⟨fun _ _ _ _=>rfl,fun _ _ _ _ _=>rfl⟩
 ·cases v<;>try exact .inr ⟨fun _ _ _ _=>rfl,fun _ _ _ _ _=>rfl⟩
  rename_i x n c
  rcases x with _ |⟨g,off,_ |_⟩
  ·exact .inr ⟨fun _ _ _ _=>rfl,fun _ _ _ _ _=>rfl⟩
  ·exact .inl ⟨g,off,n,c,rfl⟩
  ·exact .inr ⟨fun _ _ _ _=>rfl,fun _ _ _ _ _=>rfl⟩
 ·cases v<;>try exact .inr ⟨fun _ _ _ _=>rfl,fun _ _ _ _ _=>rfl⟩
  rename_i x n c
  rcases x with _ |⟨g,off,_ |_⟩<;>exact .inr ⟨fun _ _ _ _=>rfl,fun _ _ _ _ _=>rfl⟩
theorem fA:∀ (p q:Path) {t:Ty} {m:Md} {x:t.I} {b:TV} (cs:List Value) (l:Option (Nat×Nat)),aY p t m x=some b→
  aN w (p++q) t cs=(aN w p t cs).bind (aN w q b.t)∧addrAt w (p++q) t cs l=(aN w p t cs).bind fun c=>addrAt w q b.t c (addrAt w p t cs l)
 |[],q,t,m,x,b,cs,l,hg=>by simp only[aY,Option.some.injEq] at hg;subst hg;exact⟨rfl,rfl⟩
 | .fst::p,q,.pair a' b',m,x,b,cs,l,hg=>by simp only[aY] at hg;simp only[List.cons_append,aN,addrAt];exact fA p q _ _ hg
 | .snd::p,q,.pair a' b',m,x,b,cs,l,hg=>by simp only[aY] at hg;simp only[List.cons_append,aN,addrAt];exact fA p q _ _ hg
 | .deref::p,q,.ptr t,m,x,b,cs,l,hg=>by
  simp only[aY] at hg
  have ih:=fun c l'=>fA p q c l' hg
  rw[List.cons_append]
  rcases B8 cs with⟨g,off,rfl⟩ |⟨h1,h2⟩
  ·simp only[aN,addrAt]
   cases hr:rowAt w g off t.size with
   |none=>simp
   |some c=>simp only[Option.bind_some];exact ih c _
  ·simp only[h1,h2,Option.bind_none,and_self]
 | .idx i::p,q,.sl t,m,x,b,cs,l,hg=>by
  simp only[aY] at hg
  have ih:=fun c l'=>fA p q c l' hg
  rw[List.cons_append]
  rcases HN cs with⟨g,off,n,c,rfl⟩ |⟨h1,h2⟩
  ·simp only[aN,addrAt]
   cases hr:rowAt w g (off+i*t.size) t.size with
   |none=>simp
   |some c=>simp only[Option.bind_some];exact ih c _
  ·simp only[h1,h2,Option.bind_none,and_self]
theorem oe {g off n:Nat} {cs:List Value} (h:rowAt w g off n=some cs):cs.length=n∧∃ cur T fr,w.heap[g]?=some (.cells cur T fr)∧off+n≤cur.size∧cs=(cur.toList.drop off).take n:=by
 unfold rowAt at h
 split at h
 ·rename_i cur T fr hw
  split at h
  ·rename_i hl
   injection h with h
   subst h
   refine⟨by simp;omega,cur,T,fr,hw,hl,rfl⟩
  ·cases h
 ·cases h
theorem Ei {g off n a b:Nat} {cs:List Value} (h:rowAt w g off n=some cs) (uc:a+b≤n):rowAt w g (off+a) b=some ((cs.drop a).take b):=by
 obtain⟨_,cur,T,fr,hw,hl,rfl⟩:=oe h
 rw[bq hw (by omega),List.drop_take,List.take_take,List.drop_drop,Nat.min_eq_left (by omega)]
theorem rW:∀ (p:Path) {t:Ty} {m:Md} {x:t.I} {b:TV} {cs cI:List Value} {l:Option (Nat×Nat)} {g off:Nat},aY p t m x=some b→cs.length=t.size→(∀ g o,l=some (g,o)→rowAt w g o t.size=some cs)→
  aN w p t cs=some cI→addrAt w p t cs l=some (g,off)→rowAt w g off b.t.size=some cI
 |[],t,m,x,b,cs,cI,l,g,off,hg,hl,hr,hc,ha=>by
  simp only[aY,Option.some.injEq] at hg;subst hg
  simp only[aN,Option.some.injEq] at hc;subst hc
  exact hr g off ha
 | .fst::p,.pair a' b',m,x,b,cs,cI,l,g,off,hg,hl,hr,hc,ha=>by
  simp only[aY] at hg;simp only[aN] at hc;simp only[addrAt] at ha;simp only[Ty.size] at hl hr
  refine rW p hg (by rw[List.length_take];omega) (fun g o e=>?_) hc ha
  have:=Ei (a:=0) (b:=a'.size) (hr g o e) (by omega)
  rw[Nat.add_zero,List.drop_zero] at this
  exact this
 | .snd::p,.pair a' b',m,x,b,cs,cI,l,g,off,hg,hl,hr,hc,ha=>by
  simp only[aY] at hg;simp only[aN] at hc;simp only[addrAt] at ha;simp only[Ty.size] at hl hr
  refine rW p hg (by rw[List.length_drop];omega) (fun g o e=>?_) hc ha
  cases l with
  |none=>simp at e
  |some q=>
   simp only[Option.map_some,Option.some.injEq,Prod.mk.injEq] at e
   obtain⟨rfl,rfl⟩:=e
   have:=Ei (a:=a'.size) (b:=b'.size) (hr q.1 q.2 rfl) (by omega)
   rw[List.take_of_length_le (by rw[List.length_drop];omega)] at this
   exact this
 | .deref::p,.ptr t,m,x,b,cs,cI,l,g,off,hg,hl,hr,hc,ha=>by
  simp only[aY] at hg
  rcases B8 cs with⟨g1,aqk,rfl⟩ |⟨h1,h2⟩
  ·simp only[aN] at hc
   simp only[addrAt] at ha
   cases gM:rowAt w g1 aqk t.size with
   |none=>rw[gM] at hc;simp at hc
   |some c=>
    rw[gM] at hc ha
    simp only[Option.bind_some] at hc ha
    exact rW p hg (oe gM).1 (fun g o e=>by injection e with e;injection e with e1 e2;subst e1 e2;exact gM) hc ha
  ·rw[h1] at hc;cases hc
 | .idx i::p,.sl t,m,x,b,cs,cI,l,g,off,hg,hl,hr,hc,ha=>by
  simp only[aY] at hg
  rcases HN cs with⟨g1,aqk,n,c1,rfl⟩ |⟨h1,h2⟩
  ·simp only[aN] at hc
   simp only[addrAt] at ha
   cases gM:rowAt w g1 (aqk+i*t.size) t.size with
   |none=>rw[gM] at hc;simp at hc
   |some c=>
    rw[gM] at hc ha
    simp only[Option.bind_some] at hc ha
    exact rW p hg (oe gM).1 (fun g o e=>by injection e with e;injection e with e1 e2;subst e1 e2;exact gM) hc ha
  ·rw[h1] at hc;cases hc
theorem Ej (hT:cM P Θ=true) {T:TypeId} {t:Ty} {g off:Nat} {cs:List Value} (ht:Θ.is T t=true) (h:rowAt w g off t.size=some cs):
  ∃ v,(∀ w2,Ext w w2→(Instr.loadAt T (.pointer (some ⟨g,off,none⟩))).run P w2=.ok v w2)∧an t v cs:=by
 suffices hs:∀ w2,Ext w w2→∃ v,(Instr.loadAt T (.pointer (some ⟨g,off,none⟩))).run P w2=.ok v w2∧an t v cs by
  obtain⟨v,_,h2⟩:=hs w (Ext.refl w)
  refine⟨v,fun w2 hw=>?_,h2⟩
  obtain⟨v',k1,k2⟩:=hs w2 hw
  rw[k1]
  unfold an at h2 k2
  split at h2
  ·rename_i ha;rw[if_pos ha] at k2;rw[h2,k2]
  ·rename_i ha;rw[if_neg ha] at k2;rw[h2] at k2;injection k2 with k2;rw[k2]
 intro w2 rH
 have h:rowAt w2 g off t.size=some cs:=by
  obtain⟨_,cur,T',fr,hw,_,_⟩:=oe h
  unfold rowAt at h ⊢
  rw[rH g (a8 hw)]
  exact h
 clear rH
 revert h
 generalize w2=w
 intro h
 obtain⟨hl,cur,T',fr,hw,hs,rfl⟩:=oe h
 obtain⟨inf,hi,iX,_⟩:=iy hT ht
 have uq:∀ j v,((cur.toList.drop off).take t.size)[j]?=some v→w.cell? ((⟨g,off,none⟩:Addr).add j)=some v:=by
  intro j v hj
  rw[jo]
  unfold World.cell?
  simp only[hw,Option.isSome_none,Bool.false_eq_true,if_false]
  rw[List.getElem?_take] at hj
  split at hj
  ·rw[List.getElem?_drop] at hj
   simpa using hj
  ·cases hj
 have awz:=Rg hT ht w
 simp only[Instr.loadAt,Instr.sureAddr,loadVar,Sem.run_bind,Sem.run_pure,Result.andThen_ok,awz]
 cases hb:isAgg t with
 |true=>
  refine⟨.agg ((cur.toList.drop off).take t.size).toArray,?_,by simp[an,hb]⟩
  have hlc:=run_loadCells_list (P:=P) (w:=w) ⟨g,off,none⟩ _ uq
  rw[hl] at hlc
  simp only[if_true,Sem.run_bind,sizeOf,typeInfo,run_program,Result.andThen_ok,hi,Sem.run_pure,iX,hlc]
 |false=>
  have h1:t.size=1:=by cases t<;>simp[isAgg] at hb<;>rfl
  rw[h1] at hl uq ⊢
  obtain⟨u,hu⟩:∃ u,(cur.toList.drop off).take 1=[u]:=by
   cases hx:(cur.toList.drop off).take 1 with
   |nil=>rw[hx] at hl;simp at hl
   |cons u r=>
    rw[hx] at hl
    cases r with
    |nil=>exact⟨u,rfl⟩
    |cons _ _=>simp at hl
  refine⟨u,?_,by simp[an,hb,hu]⟩
  have:=uq 0 u (by rw[hu];rfl)
  rw[Addr.add_zero'] at this
  simp[load,Sem.run,this]
end Go.Pv
namespace Go.Pv
set_option linter.unusedVariables false
set_option linter.unusedSimpArgs false
variable {P:Program} {w w':World} {A A':Nat→Prop} {H:Nat→Value} {tm rC:Nat→Value} {S S':St} {σ:Nat→Option Nat} {w0:World} {W0 Z:Nat→Prop} {a:Act} {own:Nat→Prop} {v:Value} {Θ:da} {dst:Option Nat}
def U' (w:World) (A:Nat→Prop) (tm:Nat→Value) (S:St):Tgt→Value→Prop
 | .k b,v=>∃ cs,an (.ptr b.t) v cs∧K w A (.ptr b.t) b.x cs
 | .pl t s p,v=>∃ r ex,S.at s=.v r ex∧(open_ p ex→∃ cL g off,Ref tm S t s p r cL∧addrAt w p r.t cL none=some (g,off)∧v=.pointer (some ⟨g,off,none⟩))
theorem abr (h:aW σ w0 W0 Z H S a w) {i:Nat} {t:Ty} {T:TypeId} {tag:Option Nat} {me:Md} {y:t.I} {ex:List Path} (hi:S.at i=.v ⟨.ptr t,.o T tag me,y⟩ ex):
  U' w (Av σ Z) (bR a) S (.pl t i [.deref]) (bR a i):=by
 refine⟨_,ex,hi,fun ho=>?_⟩
 have hh:=h.holds i
 rw[hi] at hh
 obtain⟨cs,h1,h2⟩:=hh
 simp only[M] at h2
 rcases h2 with⟨hn,_⟩ |⟨hk,_⟩ |⟨T',abt,me',g,cur,e,rfl,ht,hg,hw,hM⟩
 ·exact absurd hn ho.not_nil
 ·simp[Md.bH] at hk
 ·have hlen:=(eH t hM).1
  refine⟨_,g,0,⟨⟨ex,hi,ho⟩,trivial,⟨_,rfl,rfl⟩,h1⟩,?_,by simpa[an,isAgg] using h1.symm⟩
  have hs:0+t.size≤cur.size:=by rw[←hlen];simp
  simp only[addrAt,bq hw hs,Option.bind_some]
theorem YA {p q:Path} {ex:List Path} (h:open_ (p++q) ex):open_ p ex:=fun r hr s u e=>h r hr s (u++q) (by rw[e];simp)
theorem xm {p:Path} {s:Step} {q:Path} {ex:List Path} (h:open_ (p++s::q) ex):[]∉w5 p ex:=fun hm=>by
 have:=DS.1 hm
 rw[List.append_nil] at this
 exact h p this s q rfl
theorem rX (h:aW σ w0 W0 Z H S a w) {T:TypeId} {x:Operand} {av:AV} {g:Tgt} (ho:S.dR Θ T x=some av) (e:S.Hp x av=some g):U' w (Av σ Z) (bR a) S g (a.eval x):=by
 have hh:=bu h ho
 have og:∀ {t:Ty} {T:TypeId} {tag:Option Nat} {me:Md} {y:t.I} {ex:List Path} {i:Nat},av=.v ⟨.ptr t,.o T tag me,y⟩ ex→x=.tmp i→U' w (Av σ Z) (bR a) S (.pl t i [.deref]) (a.eval x):=by
  intro t T tag me y ex i e1 e2
  subst e2
  simp only[St.dR,Option.some.injEq] at ho
  rw[e1] at ho
  exact abr h ho
 unfold St.Hp at e
 split at e
 ·rename_i t m y
  split at e
  ·injection e with e;subst e
   obtain⟨cs,h1,h2⟩:=hh
   exact⟨cs,h1,fJ _ rfl h2⟩
  ·injection e with e;subst e
   exact og rfl rfl
  ·cases e
 ·split at e
  ·injection e with e;subst e
   exact og rfl rfl
  ·cases e
 ·rename_i t s p
  obtain⟨r,cL,cs,hr,hc,hm⟩:=hh
  split at e
  ·rename_i t' y B6
   injection e with e;subst e
   obtain⟨ex,b,cI,cA,k1,k2,k3,k4,hM,k5,k6,k7⟩:=fS h hr
   obtain⟨r',Dj,q1,q2,q3⟩:=dM B6
   rw[k1] at q1
   injection q1 with q1 Eh
   subst q1 Eh
   rw[k3] at q3
   injection q3 with q3
   subst q3
   rw[k5] at hc
   injection hc with hc
   subst hc
   simp only at k4
   rw[←k4] at hm
   exact⟨_,hm,fJ _ rfl k7⟩
  ·rename_i t' T' abt me' y B6
   injection e with e;subst e
   obtain⟨ex,b,cI,cA,k1,k2,k3,k4,hM,k5,k6,k7⟩:=fS h hr
   obtain⟨r',Dj,q1,q2,q3⟩:=dM B6
   rw[k1] at q1
   injection q1 with q1 Eh
   subst q1 Eh
   rw[k3] at q3
   injection q3 with q3
   subst q3
   rw[k5] at hc
   injection hc with hc
   subst hc
   simp only at k4
   injection k4 with k4
   subst k4
   refine⟨r,ex,k1,fun bK=>?_⟩
   simp only[M] at k7
   rcases k7 with⟨hn,_⟩ |⟨hk,_⟩ |⟨T',abt,me',g,cur,e,rfl,ht,hg,hw,hM'⟩
   ·exact absurd hn (xm bK)
   ·simp[Md.bH] at hk
   ·have hlen:=(eH _ hM').1
    have hs:0+Ty.size t'≤cur.size:=by rw[←hlen];simp
    refine⟨cL,g,0,⟨⟨ex,k1,bK⟩,fz p [.deref] k3 hr.val trivial,⟨_,by rw[fp,k3];rfl,rfl⟩,hr.mat⟩,?_,by simpa[an,isAgg] using hm.symm⟩
    rw[(fA p [.deref] cL none k3).2,k5]
    simp only[Option.bind_some,addrAt,bq hw hs]
  ·cases e
 ·rename_i t s p
  injection e with e;subst e
  obtain⟨r,cL,g,off,hr,hc,hm⟩:=hh
  obtain⟨ex,k1,k2⟩:=hr.at_
  exact⟨r,ex,k1,fun _=>⟨cL,g,off,hr,hc,hm⟩⟩
 ·cases e
theorem MW (h:aW σ w0 W0 Z H S a w) {o:Oper} {x:Operand} (ho:o.op=.nilCheck x) (e:uR Θ S o.dst x=some (true,S')):gY P w0 W0 Z H S' a o.dst w (execOp a.eval o):=by
 unfold uR at e
 split at e
 ·rename_i av dG
  split at e
  ·rename_i g hg
   split at e
   ·rename_i r _ hr B6
    injection e with e;injection e with _ e;subst e
    have hc:=pF h dG hr
    have hl:=rX h dG hg
    have hp:(∃ ad,a.eval x=.pointer (some ad)):=by
     cases g with
     |k b=>
      obtain⟨cs,h1,h2⟩:=hl
      simp only[K] at h2
      obtain⟨g,off,cur,T,fr,rfl,_⟩:=h2
      exact⟨_,by simpa[an,isAgg] using h1.symm⟩
     |pl t s p=>
      obtain⟨r',ex,k1,k2⟩:=hl
      simp only at B6
      split at B6
      ·rename_i b hb
       obtain⟨r2,ex2,q1,q2,q3⟩:=dM hb
       rw[k1] at q1
       injection q1 with q1 Eh
       subst q1 Eh
       obtain⟨cL,g,off,_,_,e3⟩:=k2 (eM q2)
       exact⟨_,e3⟩
      ·cases B6
    obtain⟨ad,hp⟩:=hp
    exact cn h (v:=a.eval x) (fun w2 _=>by simp only[execOp,ho,hp];rfl) hc
   ·cases e
  ·cases e
 ·cases e
theorem MX (hT:cM P Θ=true) (h:aW σ w0 W0 Z H S a w) {T:TypeId} {g:Tgt} {r:AV} {v:Value} (hl:U' w (Av σ Z) (bR a) S g v) (e:S.loadAt g=some r) (ht:Θ.is T g.ty=true):
  ∃ u,(∀ w2,Ext w w2→(Instr.loadAt T v).run P w2=.ok u w2)∧Holds w (Av σ Z) H (bR a) S (fun _=>False) r u:=by
 cases g with
 |k b=>
  simp only[St.loadAt,Option.some.injEq] at e
  subst e
  obtain⟨cs,h1,h2⟩:=hl
  simp only[K] at h2
  obtain⟨g,off,cur,T',fr,rfl,hg,hw,hs,hk⟩:=h2
  obtain rfl:v=.pointer (some ⟨g,off,none⟩):=by simpa[an,isAgg] using h1.symm
  obtain⟨u,k1,k2⟩:=Ej hT ht (bq hw hs)
  exact⟨u,k1,_,k2,fW _ hk⟩
 |pl t s p=>
  simp only[St.loadAt] at e
  obtain⟨r',ex,k1,k2⟩:=hl
  split at e
  ·rename_i b hb
   obtain⟨r2,ex2,q1,q2,q3⟩:=dM hb
   rw[k1] at q1
   injection q1 with q1 Eh
   subst q1 Eh
   obtain⟨cL,g,off,hr,ha,rfl⟩:=k2 (eM q2)
   obtain⟨Dj,b',cI,cA,j1,j2,j3,j4,hM,j5,j6,j7⟩:=fS h hr
   rw[k1] at j1
   injection j1 with j1 j1'
   subst j1'
   rw[q3] at j3
   injection j3 with j3
   subst j3
   subst j4
   have gM:=rW p q3 (eH _ hM).1 (fun g o e=>by cases e) j5 ha
   obtain⟨u,l1,l2⟩:=Ej hT ht gM
   refine⟨u,l1,?_⟩
   cases hk:b.m.bH with
   |true=>
    rw[hk] at e
    simp only[cond_true] at e
    split at e
    ·rename_i c hc
     injection e with e;subst e
     obtain⟨_,pH,_,hM2⟩:=c6 h hr j5 hc
     have hcb:c=b:=by
      obtain⟨r3,ex3,p1,p2,p3⟩:=pG hc
      rw[k1] at p1
      injection p1 with p1 p1'
      subst p1
      rw[q3] at p3
      injection p3 with p3
      exact p3.symm
     subst hcb
     exact⟨_,l2,fW _ (fJ _ hk hM2)⟩
    ·cases e
   |false=>
    rw[hk] at e
    simp only[cond_false,Option.some.injEq] at e
    subst e
    exact⟨r',cL,cI,hr,j5,l2⟩
  ·cases e
theorem aid (hT:cM P Θ=true) (h:aW σ w0 W0 Z H S a w) {o:Oper} {T:TypeId} {x:Operand} (ho:o.op=.load T x) (e:gq Θ S o.dst T x=some (true,S')):gY P w0 W0 Z H S' a o.dst w (execOp a.eval o):=by
 unfold gq at e
 split at e
 ·rename_i av dG
  split at e
  ·rename_i g hg
   split at e
   ·rename_i r hr
    have hl:=rX h dG hg
    cases hc:Θ.is T g.ty with
    |false=>rw[hc] at e;cases e
    |true=>
     rw[hc] at e
     simp only[cond_true,Option.some.injEq,Prod.mk.injEq,true_and] at e
     subst e
     obtain⟨u,h1,h2⟩:=MX hT h hl hr hc
     refine cn h (v:=u) (fun w2 hw=>?_) h2
     simp only[execOp,ho,Sem.run_bind,h1 w2 hw]
     rfl
   ·cases e
  ·cases e
 ·cases e
end Go.Pv
namespace Go.Pv
set_option linter.unusedVariables false
set_option linter.unusedSimpArgs false
variable {P:Program} {w w':World} {A A':Nat→Prop} {H:Nat→Value} {tm rC:Nat→Value} {S S':St} {σ:Nat→Option Nat} {w0:World} {W0 Z:Nat→Prop} {a:Act} {own:Nat→Prop} {v:Value} {Θ:da} {dst:Option Nat}
theorem jq:∀ (p:Path) {t:Ty} {m:Md} {x:t.I} {b:TV},m.bH=true→aY p t m x=some b→b.m.bH=true
 |[],t,m,x,b,hk,hg=>by simp only[aY,Option.some.injEq] at hg;subst hg;exact hk
 | .deref::p,.ptr t,m,x,b,hk,hg=>by simp only[aY] at hg;exact jq p (pv hk) hg
 | .fst::p,.pair _ _,m,x,b,hk,hg=>by simp only[aY] at hg;exact jq p (MA hk) hg
 | .snd::p,.pair _ _,m,x,b,hk,hg=>by simp only[aY] at hg;exact jq p (MB hk) hg
 | .idx i::p,.sl t,m,x,b,hk,hg=>by simp only[aY] at hg;exact jq p (pv hk) hg
theorem gZ:∀ (p:Path) {t:Ty} {m:Md} {x:t.I} {b:TV},aI p=true→aY p t m x=some b→valid p t x
 |[],_,_,_,_,_,_=>trivial
 | .fst::p,.pair _ _,m,x,b,h,hg=>by simp only[aY] at hg;simp only[valid];exact gZ p (by simpa[aI] using h) hg
 | .snd::p,.pair _ _,m,x,b,h,hg=>by simp only[aY] at hg;simp only[valid];exact gZ p (by simpa[aI] using h) hg
theorem pI:∀ (p:Path) {t:Ty} {m:Md} {x:t.I} {b:TV},aI p=true→aY p t m x=some b→gl p t=some b.t
 |[],_,_,_,_,_,hg=>by simp only[aY,Option.some.injEq] at hg;subst hg;rfl
 | .fst::p,.pair _ _,m,x,b,h,hg=>by simp only[aY] at hg;simp only[gl];exact pI p (by simpa[aI] using h) hg
 | .snd::p,.pair _ _,m,x,b,h,hg=>by simp only[aY] at hg;simp only[gl];exact pI p (by simpa[aI] using h) hg
theorem jr:∀ (p q:Path),aI p=true→aI q=true→aI (p++q)=true
 |[],_,_,h=>h
 | .fst::p,q,h,h'=>by simp only[List.cons_append,aI];exact jr p q (by simpa[aI] using h) h'
 | .snd::p,q,h,h'=>by simp only[List.cons_append,aI];exact jr p q (by simpa[aI] using h) h'
theorem lH:∀ n,aI (List.replicate n .snd)=true
 |0=>rfl
 |n+1=>by rw[List.replicate_succ];simp only[aI];exact lH n
theorem iS (i n:Nat):aI (m7 i n)=true:=by
 unfold m7
 cases Nat.beq (i+1) n<;>cases Nat.beq n 1<;>simp only[cond_true,cond_false]
 ·exact jr _ _ (lH _) rfl
 ·exact jr _ _ (lH _) rfl
 ·exact lH _
 ·rfl
theorem aql {t:Ty} {x:t.I} {p:Path} {b:TV} {cs:List Value} {v:Value} (hm:an (.ptr t) v cs) (h:K w A (.ptr t) x cs) (hp:aI p=true) (hg:aY p t .k x=some b):
  ∃ g off,v=.pointer (some ⟨g,off,none⟩)∧K w A (.ptr b.t) b.x [.pointer (some ⟨g,off+aK p t,none⟩)]:=by
 simp only[K] at h
 obtain⟨g,off,cur,T',fr,rfl,hA,hw,hs,hk⟩:=h
 refine⟨g,off,by simpa[an,isAgg] using hm.symm,?_⟩
 have hl:=(lh t hk).1
 obtain⟨cI,cA,k1,k2,k3⟩:=focus (w:=w) (Wr:=A) (H:=fun _=>undef) (ow:=fun _=>False) (hs:=[]) p (fW t hk) (fun _ h=>by simp at h) (gZ p hp hg) hg
 rw[eI p hp hg hl] at k1
 injection k1 with k1
 subst k1
 have hf:=eo p hp hg
 simp only[K]
 refine⟨g,off+aK p t,cur,T',fr,rfl,hA,hw,by omega,?_⟩
 have:=fJ _ (jq p rfl hg) k3
 rw[List.drop_take,List.take_take,List.drop_drop,Nat.min_eq_left (by omega)] at this
 exact this
theorem xn {p:Path} {t:Ty} {m:Md} {x:t.I} {b:TV} (hp:p≠[]) (h:aI p=true) (hg:aY p t m x=some b):∃ a' b',t=.pair a' b':=by
 cases p with
 |nil=>exact absurd rfl hp
 |cons s p=>cases s<;>cases t<;>simp_all [aY,aI]
theorem abu {i n:Nat} (h:i<n):m7 i n≠[]:=by
 unfold m7
 cases hb:Nat.beq (i+1) n with
 |false=>simp
 |true=>
  cases hc:Nat.beq n 1 with
  |true=>simp
  |false=>
   simp only[cond_true,cond_false]
   have h1:=Nat.eq_of_beq_eq_true hb
   have h2:=Nat.ne_of_beq_eq_false hc
   cases i with
   |zero=>omega
   |succ i=>simp[List.replicate_succ]
theorem xo (hT:cM P Θ=true) (h:aW σ w0 W0 Z H S a w) {o:Oper} {T:TypeId} {x:Operand} {f:Nat} (ho:o.op=.fieldAddr T x f) (e:gu Θ S o.dst T x f=some (true,S')):mv P w0 W0 Z H S' a o.dst w (execOp a.eval o):=by
 unfold gu at e
 split at e
 ·rename_i av i dG hi
  cases cf:Nat.blt f i.fs.length with
  |false=>rw[cf] at e;cases e
  |true=>
   rw[cf] at e
   simp only[cond_true] at e
   have hf:f<i.fs.length:=Nat.lt_of_succ_le (Nat.le_of_ble_eq_true cf)
   obtain⟨_,hu,zK⟩:=cO hT hi
   -- the address of the field
   have run:∀ (w2:World) (g off:Nat) (b:TV) (t:Ty) (m:Md) (y:t.I),i.ty=t→aY (m7 f i.fs.length) t m y=some b→
     (Instr.fieldAt T (.pointer (some ⟨g,off,none⟩)) f).run P w2=.ok (.pointer (some ⟨g,off+aK (m7 f i.fs.length) t,none⟩)) w2:=by
    intro w2 g off b t m y fw hg
    have nM:∃ a' b',i.ty=.pair a' b':=by
     subst fw
     exact xn (abu hf) (iS _ _) hg
    obtain⟨a',b',hp⟩:=nM
    obtain⟨fs,Yz,B7,hfo,_⟩:=mu hu hp
    rw[zK] at Yz
    have hlen:i.fs.length=fs.size:=by rw[←B7];simp
    obtain⟨fl,auJ⟩:∃ fl,fs[f]?=some fl:=⟨fs[f]'(by omega),by simp[show f<fs.size from by omega]⟩
    obtain⟨tf,h1,h2,h3,h4⟩:=iQ hfo f fl (by simpa using auJ)
    rw[Nat.zero_add,←hlen] at h1 h3
    subst fw
    rw[pI _ (iS _ _) hg] at h1
    injection h1 with h1
    obtain⟨inf,k1,k2,_⟩:=iy hT h2
    simp only[Instr.fieldAt,Sem.run_bind,run_underlying Yz,Result.andThen_ok,auJ,Instr.sureAddr,Sem.run_pure,fieldPlace,sizeOf,typeInfo,run_program,k1,k2]
    rw[if_neg (by omega)]
    simp only[Sem.run_pure,Result.andThen_ok,jo,h3]
   split at e
   ·rename_i t m y hg
    cases fw:decide (i.ty=t) with
    |false=>rw[fw] at e;cases e
    |true=>
     rw[fw] at e
     simp only[cond_true] at e
     split at e
     ·rename_i b hb
      injection e with e;injection e with _ e;subst e
      obtain⟨cs,h1,h2⟩:=rX h dG hg
      obtain⟨g',off,hv,hk⟩:=aql h1 h2 (iS _ _) hb
      refine b6 h (v:=.pointer (some ⟨g',off+aK (m7 f i.fs.length) t,none⟩)) (fun w2=>?_) ⟨[_],by simp[an,isAgg],fW (.ptr b.t) hk⟩
      simp only[execOp,ho,hv,Sem.run_bind,run w2 g' off b t .k y (by simpa using fw) hb]
      rfl
     ·cases e
   ·rename_i t s p hg
    cases fw:decide (i.ty=t) with
    |false=>rw[fw] at e;cases e
    |true=>
     rw[fw] at e
     simp only[cond_true] at e
     split at e
     ·rename_i b hb
      injection e with e;injection e with _ e;subst e
      obtain⟨r,ex,k1,k2⟩:=rX h dG hg
      obtain⟨r2,ex2,q1,q2,q3⟩:=dM hb
      rw[k1] at q1
      injection q1 with q1 Eh
      subst q1 Eh
      have bK:=eM q2
      obtain⟨cL,g',off,hr,ha,hv⟩:=k2 (YA bK)
      obtain⟨Dj,b',cI,cA,j1,j2,j3,j4,hM,j5,j6,j7⟩:=fS h hr
      rw[fp,j3] at q3
      simp only[Option.bind_some] at q3
      refine b6 h (v:=.pointer (some ⟨g',off+aK (m7 f i.fs.length) t,none⟩)) (fun w2=>?_) ⟨r,cL,g',off+aK (m7 f i.fs.length) t,⟨⟨ex,k1,bK⟩,fz p _ j3 hr.val (gZ _ (iS _ _) q3),⟨b,by rw[fp,j3];exact q3,rfl⟩,hr.mat⟩,?_,rfl⟩
      ·subst j4
       simp only[execOp,ho,hv,Sem.run_bind,run w2 g' off b b'.t b'.m b'.x (by simpa using fw) q3]
       rfl
      ·rw[(fA p _ cL none j3).2,j5,ha]
       simp only[Option.bind_some]
       rw[je _ (iS _ _) q3,j4]
     ·cases e
   ·cases e
 ·cases e
theorem Va {α:Type} (xs:List α) (i:Nat) (d:α) (h:i<xs.length):List.getD xs i d=xs[i]:=by simp[List.getD_eq_getElem?_getD,List.getElem?_eq_getElem h]
theorem nc (hT:cM P Θ=true) {T:TypeId} {t:Ty} {g off len c:Nat} {k:IntKind} {n:Int} (ht:Θ.is T (.sl t)=true) (h0:0≤n) (h1:n<(len:Int)):
  (Instr.indexAt T (.slice (some ⟨g,off,none⟩) len c) (.int k n)).run P w=.ok (.pointer (some ⟨g,off+n.toNat*t.size,none⟩)) w:=by
 obtain⟨i,hi,fw⟩:=dQ ht
 obtain⟨_,hu,zK⟩:=cO hT hi
 obtain⟨u1,u2,_⟩:=lr hu fw
 rw[zK] at u1
 obtain⟨inf,k1,k2,_⟩:=iy hT u2
 simp[Instr.indexAt,asIntOf,run_underlying u1,h0,h1,sizeOf,typeInfo,run_program,k1,k2,jo]
theorem abv {t:Ty} {xs:List t.I} {v:Value} {cs:List Value} {n:Nat} (hm:an (.sl t) v cs) (h:K w A (.sl t) xs cs) (hn:n<xs.length):
  ∃ g off c,v=.slice (some ⟨g,off,none⟩) xs.length c∧K w A (.ptr t) (List.getD xs n t.z) [.pointer (some ⟨g,off+n*t.size,none⟩)]:=by
 simp only[K] at h
 obtain⟨X,c,rfl,hc,h⟩:=h
 obtain⟨g,off,cur,T',fr,rfl,hA,hw,hs,hk⟩:=h (by omega)
 refine⟨g,off,c,by simpa[an,isAgg] using hm.symm,?_⟩
 simp only[K]
 have hb:off+n*t.size+t.size≤cur.size:=by
  have:=Nat.mul_le_mul_right t.size (show n+1≤xs.length from hn)
  rw[Nat.add_mul,Nat.one_mul] at this
  omega
 exact⟨g,_,cur,T',fr,rfl,hA,hw,hb,by rw[Va _ _ _ hn];exact hk n hn⟩
theorem xp (hT:cM P Θ=true) (h:aW σ w0 W0 Z H S a w) {o:Oper} {T:TypeId} {x ix:Operand} (ho:o.op=.indexAddr T x ix) (e:bZ Θ S o.dst T x ix=some (true,S')):mv P w0 W0 Z H S' a o.dst w (execOp a.eval o):=by
 unfold bZ at e
 split at e
 ·rename_i t m xs ex n dG hn
  obtain⟨k,hk⟩:=iF h hn
  cases hc:Θ.is T (.sl t) with
  |false=>rw[hc] at e;cases e
  |true=>
   rw[hc] at e
   simp only[cond_true] at e
   split at e
   ·injection e with e;injection e with e1 e;subst e
    obtain⟨b1,b2⟩:=rV e1
    obtain⟨cs,h1,h2⟩:=bu h dG
    have hK:=fJ _ rfl h2
    obtain⟨g,off,c,hv,QK⟩:=abv (n:=n.toNat) h1 hK (by have b2':n<(List.length xs:Int):=b2;show n.toNat<List.length xs;omega)
    refine b6 h (v:=.pointer (some ⟨g,off+n.toNat*t.size,none⟩)) (fun w2=>?_) ⟨[_],by simp[an,isAgg],fW (.ptr t) QK⟩
    simp only[execOp,ho,hv,hk,Sem.run_bind,nc hT hc b1 b2]
    rfl
   ·rename_i T' tag me j
    split at e
    ·rename_i b hb
     injection e with e;injection e with e1 e;subst e
     obtain⟨b1,b2⟩:=rV e1
     have dx:S.at j=.v ⟨.sl t,.o T' tag me,xs⟩ ex:=by simpa[St.dR] using dG
     obtain⟨r2,ex2,q1,q2,q3⟩:=dM hb
     rw[dx] at q1
     injection q1 with q1 Eh
     subst q1 Eh
     have bK:=eM q2
     obtain⟨cs,h1,h2⟩:=bu h dG
     simp only[M] at h2
     rcases h2 with⟨nM,_⟩ |⟨fo,_⟩ |⟨T2,YB,me2,X,c,e2,rfl,hcc,aie,h2⟩
     ·exact absurd nM bK.not_nil
     ·simp[Md.bH] at fo
     ·have hv:a.eval (.tmp j)=.slice X xs.length c:=by simpa[an,isAgg] using h1.symm
      rcases h2 with⟨rfl,_⟩ |⟨g,cur,τ,rfl,hg,hw,iX,hm,hj⟩
      ·simp at b2;omega
      ·have cf:n.toNat<xs.length:=by omega
       have hbound:0+n.toNat*t.size+t.size≤cur.size:=by
        have h1:=Nat.mul_le_mul_right t.size (show n.toNat+1≤xs.length from cf)
        have h2:=Nat.mul_le_mul_right t.size hcc
        rw[Nat.add_mul,Nat.one_mul] at h1
        omega
       refine b6 h (v:=.pointer (some ⟨g,0+n.toNat*t.size,none⟩)) (fun w2=>?_) ⟨_,[.slice (some ⟨g,0,none⟩) xs.length c],g,0+n.toNat*t.size,⟨⟨ex,dx,bK⟩,⟨cf,trivial⟩,⟨_,rfl,rfl⟩,h1⟩,?_,rfl⟩
       ·simp only[execOp,ho,hv,hk,Sem.run_bind,nc hT hc b1 b2]
        rfl
       ·simp only[addrAt,bq hw hbound,Option.bind_some]
    ·cases e
   ·cases e
 ·rename_i t s p n dG hn
  obtain⟨k,hk⟩:=iF h hn
  cases hc:Θ.is T (.sl t) with
  |false=>rw[hc] at e;cases e
  |true=>
   rw[hc] at e
   simp only[cond_true] at e
   obtain⟨r,cL,cs,hr,iY,hm⟩:=bu h dG
   obtain⟨ex,b,cI,cA,j1,j2,j3,j4,hM,j5,j6,j7⟩:=fS h hr
   rw[iY] at j5
   injection j5 with j5
   subst j5
   split at e
   ·rename_i t' xs B6
    injection e with e;injection e with e1 e;subst e
    obtain⟨b1,b2⟩:=rV e1
    obtain⟨r2,ex2,q1,q2,q3⟩:=dM B6
    rw[j1] at q1
    injection q1 with q1 Eh
    subst q1 Eh
    rw[j3] at q3
    injection q3 with q3
    subst q3
    injection j4 with j4
    subst j4
    have hK:=fJ _ rfl j7
    obtain⟨g,off,c,hv,QK⟩:=abv (n:=n.toNat) hm hK (by have b2':n<(List.length xs:Int):=b2;show n.toNat<List.length xs;omega)
    refine b6 h (v:=.pointer (some ⟨g,off+n.toNat*Ty.size t',none⟩)) (fun w2=>?_) ⟨[_],by simp[an,isAgg],fW (.ptr _) QK⟩
    simp only[execOp,ho,hv,hk,Sem.run_bind,nc hT hc b1 b2]
    rfl
   ·rename_i t' T' tag me xs B6
    split at e
    ·rename_i b2' hb
     injection e with e;injection e with e1 e;subst e
     obtain⟨b1,b2⟩:=rV e1
     obtain⟨r2,ex2,q1,q2,q3⟩:=dM B6
     rw[j1] at q1
     injection q1 with q1 Eh
     subst q1 Eh
     rw[j3] at q3
     injection q3 with q3
     subst q3
     injection j4 with j4
     subst j4
     obtain⟨r3,ex3,p1,p2,p3⟩:=dM hb
     rw[j1] at p1
     injection p1 with p1 p1'
     subst p1 p1'
     have bK:=eM p2
     simp only[M] at j7
     rcases j7 with⟨nM,_⟩ |⟨fo,_⟩ |⟨T2,YB,me2,X,c,e2,rfl,hcc,aie,h2⟩
     ·exact absurd nM (xm bK)
     ·simp[Md.bH] at fo
     ·have hv:a.eval x=.slice X (List.length xs) c:=by simpa[an,isAgg] using hm.symm
      rcases h2 with⟨rfl,_⟩ |⟨g,cur,τ,rfl,hg,hw,iX,hm',hj⟩
      ·simp at b2;omega
      ·have cf:n.toNat<List.length xs:=by omega
       have hbound:0+n.toNat*Ty.size t'+Ty.size t'≤cur.size:=by
        have h1:=Nat.mul_le_mul_right (Ty.size t') (show n.toNat+1≤List.length xs from cf)
        have h2:=Nat.mul_le_mul_right (Ty.size t') hcc
        rw[Nat.add_mul,Nat.one_mul] at h1
        omega
       refine b6 h (v:=.pointer (some ⟨g,0+n.toNat*Ty.size t',none⟩)) (fun w2=>?_) ⟨r,cL,g,0+n.toNat*Ty.size t',⟨⟨ex,j1,bK⟩,fz p _ j3 hr.val ⟨cf,trivial⟩,⟨_,by rw[fp,j3];rfl,rfl⟩,hr.mat⟩,?_,rfl⟩
       ·simp only[execOp,ho,hv,hk,Sem.run_bind,nc hT hc b1 b2]
        rfl
       ·rw[(fA p _ cL none j3).2,iY]
        simp only[Option.bind_some,addrAt,bq hw hbound]
    ·cases e
   ·cases e
 ·cases e
end Go.Pv
namespace Go.Pv
set_option linter.unusedVariables false
set_option linter.unusedSimpArgs false
variable {P:Program} {w w':World} {A A':Nat→Prop} {H:Nat→Value} {tm rC:Nat→Value} {S S':St} {σ:Nat→Option Nat} {w0:World} {W0 Z:Nat→Prop} {a:Act} {own:Nat→Prop} {v:Value} {Θ:da} {dst:Option Nat}
theorem tp {k:IntKind} {i:Int} {y:Nat} {code:BoundsCode} (h0:0≤i) (h1:i≤y):(Instr.sliceBound (.int k i) y code).run P w=.ok i.toNat w:=by
 simp[Instr.sliceBound,asIntOf,h0,h1]
theorem El {sl:Bool} {len cap:Nat} {lo hi:Option Value} {l h:Int} (Yn:(lo=none∧l=0)∨∃ k,lo=some (.int k l)) (D5:(hi=none∧h=len)∨∃ k,hi=some (.int k h))
  (h0:0≤l) (h1:l≤h) (h2:h≤len) (h3:len≤cap):(Instr.sliceBounds sl len cap lo hi none).run P w=.ok (l.toNat,h.toNat,cap) w:=by
 have e1:∀ k code,(Instr.sliceBound (.int k l) h.toNat code).run P w=.ok l.toNat w:=fun k code=>tp h0 (by omega)
 have e2:∀ k code,(Instr.sliceBound (.int k h) cap code).run P w=.ok h.toNat w:=fun k code=>tp (by omega) (by omega)
 unfold Instr.sliceBounds
 rcases Yn with⟨rfl,rfl⟩ |⟨k,rfl⟩<;>rcases D5 with⟨rfl,rfl⟩ |⟨k',rfl⟩
 ·simp
 ·simp[e2]
 ·have Ae:∀ k code,(Instr.sliceBound (.int k l) len code).run P w=.ok l.toNat w:=fun k code=>tp h0 (by omega)
  simp[Ae]
 ·simp[e1,e2]
theorem iT (h:aW σ w0 W0 Z H S a w) {x:Option Operand} {d n:Int} (e:gL Θ S d x=some n):(x.map a.eval=none∧n=d)∨∃ k,x.map a.eval=some (.int k n):=by
 cases x with
 |none=>simp only[gL,Option.some.injEq] at e;exact .inl ⟨rfl,e.symm⟩
 |some x=>
  obtain⟨k,hk⟩:=iF h e
  exact .inr ⟨k,by simp[hk]⟩
theorem MY (hT:cM P Θ=true) (h:aW σ w0 W0 Z H S a w) {o:Oper} {T:TypeId} {x:Operand} {lo hi mx:Option Operand} (ho:o.op=.slice T x lo hi mx) (e:ek Θ S o.dst T x lo hi mx=some (true,S')):mv P w0 W0 Z H S' a o.dst w (execOp a.eval o):=by
 unfold ek at e
 split at e
 ·rename_i av m s l dG QI hl
  split at e
  ·rename_i hh D5
   cases hc:Θ.is T .str with
   |false=>rw[hc] at e;cases e
   |true=>
    rw[hc] at e
    simp only[cond_true,Option.some.injEq,Prod.mk.injEq,Bool.and_eq_true,decide_eq_true_eq] at e
    obtain⟨⟨⟨b1,b2⟩,b3⟩,e⟩:=e
    subst e
    obtain⟨cs,h1,h2,_⟩:=iz h QI
    have hv:=eY h1 h2
    obtain⟨i,Hw,fw⟩:=dQ hc
    obtain⟨_,hu,zK⟩:=cO hT Hw
    have th:=pD hu fw
    rw[zK] at th
    refine b6 h (v:=.string (s.extract l.toNat hh.toNat)) (fun w2=>?_) (HL _)
    have hb:=El (P:=P) (w:=w2) (sl:=false) (iT h hl) (iT h D5) b1 b2 b3 (Nat.le_refl _)
    simp[execOp,ho,hv,Instr.sliceAt,Instr.slice,run_underlying th,hb]
  ·cases e
 ·rename_i av t m xs l dG QI hl
  cases hc:Θ.is T (.sl t) with
  |false=>rw[hc] at e;cases e
  |true=>
   rw[hc] at e
   simp only[cond_true] at e
   obtain⟨i,Hw,fw⟩:=dQ hc
   obtain⟨_,hu,zK⟩:=cO hT Hw
   obtain⟨u1,u2,_⟩:=lr hu fw
   rw[zK] at u1
   obtain⟨inf,q1,q2,_⟩:=iy hT u2
   obtain⟨cs,h1,h2,h3⟩:=iz h QI
   obtain⟨X,c,hv,gP,hlc⟩:=ob h1 h2
   have run:∀ (hh:Int),gL Θ S (xs.length:Int) hi=some hh→mx=none→0≤l→l≤hh→hh≤(xs.length:Int)→
     ∀ w2,(execOp a.eval o).run P w2=.ok (.value (.slice (if c=l.toNat then X else X.map (·.add (l.toNat*t.size))) (hh.toNat - l.toNat) (c - l.toNat))) w2:=by
    intro hh D5 hmx b1 b2 b3 w2
    subst hmx
    have hb:=El (P:=P) (w:=w2) (sl:=true) (iT h hl) (iT h D5) b1 b2 b3 hlc
    simp[execOp,ho,hv,Instr.sliceAt,Instr.slice,run_underlying u1,hb,sizeOf,typeInfo,run_program,q1,q2]
   split at e
   ·rename_i _ hh D5
    split at e
    ·simp only[Option.some.injEq,Prod.mk.injEq,Bool.and_eq_true,decide_eq_true_eq] at e
     obtain⟨⟨⟨b1,b2⟩,b3⟩,e⟩:=e
     subst e
     have hK:=h3 rfl
     subst gP
     exact b6 h (run hh D5 rfl b1 b2 b3) ⟨[_],by simp[an,isAgg],fW (.sl t) (U5 hK (by omega) (by omega))⟩
    ·rename_i b ex i _
     simp only[Option.some.injEq,Prod.mk.injEq,Bool.and_eq_true,decide_eq_true_eq] at e
     obtain⟨⟨⟨b1,b2⟩,b3⟩,e⟩:=e
     subst e
     have dx:S.at i=.v b ex:=by simpa[St.dR] using dG
     unfold St.rd at QI
     rw[dG] at QI
     cases ex with
     |cons _ _=>simp[St.ta] at QI
     |nil=>
      simp only[St.ta,Option.some.injEq] at QI
      subst QI
      subst gP
      refine b6 h (run hh D5 rfl b1 b2 b3) ⟨_,_,t,X,List.length xs,c,⟨⟨[],dx,fun q hq=>by simp at hq⟩,trivial,⟨_,rfl,rfl⟩,h1⟩,rfl,rfl,by omega,by omega,rfl⟩
    ·rename_i _ s p hm
     simp only[Option.some.injEq,Prod.mk.injEq,Bool.and_eq_true,decide_eq_true_eq] at e
     obtain⟨⟨⟨b1,b2⟩,b3⟩,e⟩:=e
     subst e
     obtain⟨r,cL,cI,hr,iY,hmm⟩:=bu h dG
     unfold St.rd at QI
     rw[dG] at QI
     simp only[St.ta] at QI
     obtain⟨zP,_⟩:=c6 h hr iY QI
     simp only at zP
     subst zP
     obtain rfl:=eL h1 hmm
     subst gP
     refine b6 h (run hh D5 rfl b1 b2 b3) ⟨r,cL,t,X,List.length xs,c,hr,rfl,iY,by omega,by omega,rfl⟩
    ·cases e
   ·rename_i _ hh z ii D5 abw
    split at e
    ·rename_i c' hx hz
     simp only[Option.some.injEq,Prod.mk.injEq,Bool.and_eq_true,decide_eq_true_eq] at e
     obtain⟨⟨⟨rfl,rfl⟩,rfl⟩,e⟩:=e
     subst e
     obtain⟨kz,hkz⟩:=iF h hz
     refine b6 h (v:=.slice X 0 0) (fun w2=>?_) ⟨[.slice X 0 0],by simp[an,isAgg],?_⟩
     ·have Vb:=iT h hl
      have hh':=iT h D5
      have hb:(Instr.sliceBounds true xs.length c (lo.map a.eval) (some (a.eval hx)) (some (.int kz 0))).run P w2=.ok (0,0,0) w2:=by
       have e0:∀ k y code,(Instr.sliceBound (.int k 0) y code).run P w2=.ok 0 w2:=fun k y code=>tp (by omega) (by omega)
       have hh2:∃ k,a.eval hx=.int k 0:=by
        rcases hh' with⟨hh',_⟩ |⟨k,hh'⟩
        ·simp at hh'
        ·exact⟨k,by simpa using hh'⟩
       obtain⟨k2,QK⟩:=hh2
       unfold Instr.sliceBounds
       rcases Vb with⟨Vb,_⟩ |⟨k1,Vb⟩<;>rw[Vb,QK]<;>simp[e0]
      simp[execOp,ho,hv,Instr.sliceAt,Instr.slice,run_underlying u1,hkz,hb,sizeOf,typeInfo,run_program,q1,q2]
     ·simp only[M]
      exact .inr (.inr ⟨_,_,_,X,0,rfl,rfl,Nat.le_refl _,fun h hh=>(by cases hh),.inl (by simp)⟩)
    ·cases e
   ·cases e
 ·cases e
end Go.Pv
namespace Go.Pv
set_option linter.unusedVariables false
set_option linter.unusedSimpArgs false
variable {P:Program} {w w':World} {A A' Wr:Nat→Prop} {H:Nat→Value} {tm rC:Nat→Value} {S S' S1:St} {σ:Nat→Option Nat} {w0:World} {W0 Z:Nat→Prop} {a:Act} {own:Nat→Prop} {v:Value} {Θ:da} {dst:Option Nat}
theorem HO:∀ (p:Path) {t:Ty} {m:Md} {x:t.I} {cs:List Value} {ow:Nat→Prop} {hs:List Path} {b:TV},M w Wr H t m x cs ow hs→open_ p hs→valid p t x→aY p t m x=some b→b.m.bH=false→
  ∃ cI cA,aN w p t cs=some cI∧(∀ g,cA g→ow g)∧M w Wr H b.t b.m b.x cI cA (w5 p hs)∧M w Wr H t m x cs (fun g=>ow g∧ ¬cA g) (hs++[p])
 |[],t,m,x,cs,ow,hs,b,h,ho,hv,hg,hk=>by
  simp only[aY,Option.some.injEq] at hg
  subst hg
  refine⟨cs,ow,rfl,fun _ h=>h,h,?_⟩
  simp only at hk
  have iR:=eH t h
  cases t<;>simp only[M] at h ⊢<;>first
   |(rw[hk] at h;exact absurd h.1 (by simp))
   |(exact .inl ⟨by simp,hk,iR⟩)
   |(
     rcases h with⟨_,_,h⟩ |⟨fo,_⟩ |⟨T,tag,me,A,c,_,rfl,_⟩
     ·exact .inl ⟨by simp,hk,h⟩
     ·rw[hk] at fo;cases fo
     ·exact .inl ⟨by simp,hk,A,c,rfl⟩)
 | .deref::p,.ptr t,m,x,cs,ow,hs,b,h,ho,hv,hg,hk=>by
  simp only[aY] at hg
  simp only[valid] at hv
  simp only[M] at h
  rcases h with⟨hn,_⟩ |⟨fo,h⟩ |⟨T,tag,me,g,cur,rfl,rfl,ht,qU,hw,h⟩
  ·exact absurd hn ho.not_nil
  ·rw[jq p (pv fo) hg] at hk;cases hk
  ·have hlen:=(eH t h).1
   obtain⟨cI,cA,h1,h2,h3,h4⟩:=HO p h ho.sub hv hg hk
   have iX:0+t.size≤cur.size:=by rw[←hlen];simp
   refine⟨cI,cA,?_,fun g hg=>(h2 g hg).1,h3,?_⟩
   ·simp only[aN,bq hw iX,Option.bind_some,List.drop_zero]
    rw[List.take_of_length_le (by omega)]
    exact h1
   ·simp only[M]
    exact .inr (.inr ⟨T,tag,me,g,cur,rfl,rfl,ht,⟨qU,fun hx=>(h2 g hx).2 rfl⟩,hw,aH (aO.refl _ _) t (fun _ _ _=>rfl) (fun g' bd _=>⟨⟨bd.1.1,bd.2⟩,bd.1.2⟩) (fun q hq=>by
     rcases List.mem_append.1 hq with hq |hq
     ·exact dk.2 (List.mem_append_left _ (dk.1 hq))
     ·rw[List.mem_singleton.1 hq];exact dk.2 (List.mem_append_right _ (by simp))) h4⟩)
 | .fst::p,.pair a b',m,x,cs,ow,hs,b,h,ho,hv,hg,hk=>by
  simp only[aY] at hg
  simp only[valid] at hv
  simp only[M] at h
  rcases h with⟨hn,_⟩ |⟨fo,h⟩ |⟨ma,mb,c0,c1,s,rfl,rfl,h0,h1⟩
  ·exact absurd hn ho.not_nil
  ·rw[jq p (MA fo) hg] at hk;cases hk
  ·obtain⟨cI,cA,k1,k2,k3,k4⟩:=HO p h0 ho.sub hv hg hk
   refine⟨cI,cA,by simp only[aN];rw[←(eH a h0).1,List.take_left];exact k1,fun g hg=>(k2 g hg).1,k3,?_⟩
   simp only[M]
   refine .inr (.inr ⟨ma,mb,c0,c1,s,rfl,rfl,aH (aO.refl _ _) a (fun _ _ _=>rfl) (fun g' bd _=>⟨⟨bd.1.1,bd.2⟩,bd.1.2⟩) (fun q hq=>?_) k4,aH (aO.refl _ _) b' (fun _ _ _=>rfl) (fun g' bd _=>⟨⟨bd.1,fun hx=>bd.2 (k2 g' hx).2⟩,bd.2⟩) (mh (fun q hq=>List.mem_append_left _ hq)) h1⟩)
   rcases List.mem_append.1 hq with hq |hq
   ·exact dk.2 (List.mem_append_left _ (dk.1 hq))
   ·rw[List.mem_singleton.1 hq];exact dk.2 (List.mem_append_right _ (by simp))
 | .snd::p,.pair a b',m,x,cs,ow,hs,b,h,ho,hv,hg,hk=>by
  simp only[aY] at hg
  simp only[valid] at hv
  simp only[M] at h
  rcases h with⟨hn,_⟩ |⟨fo,h⟩ |⟨ma,mb,c0,c1,s,rfl,rfl,h0,h1⟩
  ·exact absurd hn ho.not_nil
  ·rw[jq p (MB fo) hg] at hk;cases hk
  ·obtain⟨cI,cA,k1,k2,k3,k4⟩:=HO p h1 ho.sub hv hg hk
   refine⟨cI,cA,by simp only[aN];rw[←(eH a h0).1,List.drop_left];exact k1,fun g hg=>(k2 g hg).1,k3,?_⟩
   simp only[M]
   refine .inr (.inr ⟨ma,mb,c0,c1,s,rfl,rfl,aH (aO.refl _ _) a (fun _ _ _=>rfl) (fun g' bd _=>⟨⟨bd.1,fun hx=>(k2 g' hx).2 bd.2⟩,bd.2⟩) (mh (fun q hq=>List.mem_append_left _ hq)) h0,aH (aO.refl _ _) b' (fun _ _ _=>rfl) (fun g' bd _=>⟨⟨bd.1.1,bd.2⟩,bd.1.2⟩) (fun q hq=>?_) k4⟩)
   rcases List.mem_append.1 hq with hq |hq
   ·exact dk.2 (List.mem_append_left _ (dk.1 hq))
   ·rw[List.mem_singleton.1 hq];exact dk.2 (List.mem_append_right _ (by simp))
 | .idx i::p,.sl t,m,xs,cs,ow,hs,b,h,ho,hv,hg,hk=>by
  simp only[aY] at hg
  simp only[valid] at hv
  obtain⟨hi,hv⟩:=hv
  have eS:List.getD xs i t.z=xs[i]:=Va _ _ _ hi
  simp only[M] at h
  rcases h with⟨hn,_⟩ |⟨fo,h⟩ |⟨T,tag,me,X,c,rfl,rfl,hc,ht,h⟩
  ·exact absurd hn ho.not_nil
  ·rw[jq p (pv fo) hg] at hk;cases hk
  ·rcases h with⟨rfl,_⟩ |⟨g,cur,τ,rfl,qU,hw,iX,hm,h⟩
   ·simp at hi
   ·have hbound:0+i*t.size+t.size≤cur.size:=by
     have h1:=Nat.mul_le_mul_right t.size (show i+1≤xs.length from hi)
     have h2:=Nat.mul_le_mul_right t.size hc
     rw[Nat.add_mul,Nat.one_mul] at h1
     omega
    have hM:=h i hi
    rw[←eS] at hM
    obtain⟨cI,cA,h1,h2,h3,h4⟩:=HO p hM ho.sub hv hg hk
    refine⟨cI,cA,by simp only[aN,bq hw hbound,Option.bind_some];rw[Nat.zero_add];exact h1,fun g hg=>(h2 g hg).1,h3,?_⟩
    simp only[M]
    refine .inr (.inr ⟨T,tag,me,some ⟨g,0,none⟩,c,rfl,rfl,hc,ht,.inr ⟨g,cur,τ,rfl,⟨qU,fun hx=>(h2 g hx).2.1 rfl⟩,hw,iX,hm,fun j hj=>?_⟩⟩)
    by_cases kS:j=i
    ·subst kS
     rw[eS] at h4
     refine aH (aO.refl _ _) t (fun _ _ _=>rfl) (fun g' bd _=>⟨⟨bd.1.1,bd.2⟩,bd.1.2⟩) (fun q hq=>?_) h4
     rcases List.mem_append.1 hq with hq |hq
     ·exact dk.2 (List.mem_append_left _ (dk.1 hq))
     ·rw[List.mem_singleton.1 hq];exact dk.2 (List.mem_append_right _ (by simp))
    ·exact aH (aO.refl _ _) t (fun _ _ _=>rfl) (fun g' bd _=>⟨⟨bd.1,fun hx=>kS (by rw[←bd.2.2];exact(h2 g' hx).2.2)⟩,bd.2⟩) (mh (fun q hq=>List.mem_append_left _ hq)) (h j hj)
theorem mw (a:Act) (i:Nat):a.put (some i) (bR a i)=a:=by
 unfold Act.put bR
 simp only
 have:a.tmps.setIfInBounds i (a.tmps.getD i undef)=a.tmps:=by
  apply Array.ext_getElem?
  intro j
  rw[Array.getElem?_setIfInBounds,Array.getD_eq_getD_getElem?]
  by_cases h:i=j
  ·subst h
   by_cases hl:i<a.tmps.size
   ·simp[hl]
   ·simp[hl]
  ·simp[h]
 rw[this]
def jS (σ:Nat→Option Nat) (q s:Nat) (g:Nat):Option Nat:=if σ g=some s then some q else σ g
theorem Vc {σ:Nat→Option Nat} {Z:Nat→Prop} {q s g:Nat}:Av (jS σ q s) Z g↔Av σ Z g:=by
 unfold Av jS
 by_cases h:σ g=some s
 ·rw[if_pos h,h];exact⟨fun _=>.inl ⟨s,rfl⟩,fun _=>.inl ⟨q,rfl⟩⟩
 ·rw[if_neg h]
structure gm (σ bF:Nat→Option Nat) (n:Nat) (ow:Nat→Prop):Prop where
 MZ:∀ g,ow g→∃ i,i<n∧σ g=some i
 now:∀ g,ow g→∃ i,n≤i∧bF g=some i
 sub:∀ g i,bF g=some i→i<n→σ g=some i
 dom:∀ g,(∃ i,bF g=some i)↔∃ i,σ g=some i
 par:∀ g i,σ g=some i→n≤i→bF g=some i
theorem gm.none (σ:Nat→Option Nat) (n:Nat):gm σ σ n fun _=>False:=⟨fun _ h=>h.elim,fun _ h=>h.elim,fun _ _ h _=>h,fun _=>Iff.rfl,fun _ _ h _=>h⟩
theorem gm.jS (σ:Nat→Option Nat) {n s:Nat} (hs:s<n) {ow:Nat→Prop} (h:∀ g,ow g→σ g=some s):gm σ (jS σ n s) n ow:=by
 refine⟨fun g hg=>⟨s,hs,h g hg⟩,fun g hg=>⟨n,Nat.le_refl _,by unfold Go.Pv.jS;rw[if_pos (h g hg)]⟩,fun g i hg hi=>?_,fun g=>?_,fun g i hg hi=>?_⟩
 ·unfold Go.Pv.jS at hg
  split at hg
  ·injection hg with hg;omega
  ·exact hg
 ·unfold Go.Pv.jS
  split
  ·rename_i h;rw[h];exact⟨fun _=>⟨s,rfl⟩,fun _=>⟨n,rfl⟩⟩
  ·exact Iff.rfl
 ·unfold Go.Pv.jS
  rw[if_neg (by rw[hg];intro e;injection e with e;omega)]
  exact hg
theorem gm.Av {σ bF:Nat→Option Nat} {n:Nat} {ow:Nat→Prop} (h:gm σ bF n ow) {Z:Nat→Prop} {g:Nat}:Av bF Z g↔Av σ Z g:=by
 unfold Go.Pv.Av
 rw[h.dom g]
theorem eA {S:St} {i:Nat} (h:S.at i≠ .dead):i<S.length:=by
 rcases Nat.lt_or_ge i S.length with hl |hl
 ·exact hl
 ·refine absurd ?_ h
  unfold St.at
  rw[List.getD_eq_getElem?_getD,List.getElem?_eq_none hl]
  rfl
theorem aW.jS (h:aW σ w0 W0 Z H S a w) (i:Nat):aW (jS σ S.length i) w0 W0 Z H (S.put (some i) .dead) a w:=by
 have bO:aO w w (Av σ Z) (Av (Go.Pv.jS σ S.length i) Z):=⟨fun _ _ _=>rfl,fun g _ hg=>Vc.1 hg⟩
 have hs:∀ g j,Go.Pv.jS σ S.length i g=some j→∃ k,σ g=some k:=fun g j hg=>by
  unfold Go.Pv.jS at hg
  split at hg
  ·exact⟨_,by assumption⟩
  ·exact⟨_,hg⟩
 have:=h.put (dst:=some i) (av:=.dead) (v:=bR a i) bO h.fr (fun g j hg=>by
  obtain⟨k,hk⟩:=hs g j hg
  exact⟨h.new g k hk,h.lt g k hk⟩) (fun g hg=>by unfold Go.Pv.jS;rw[(h.old g hg).1];simp) (fun j g _ hd hg=>⟨rfl,by unfold Go.Pv.jS;rw[if_neg (by rw[hg];intro e;exact hd e.symm)];exact hg⟩) (fun _ _ _ _=>trivial)
 rw[mw] at this
 exact this
theorem Em (S:St) (d:Nat) (p:Path) (i:Nat):(S.cover d p).at i=match S.at i with
  | .ad t s q=>bif Nat.beq s d&&under p q then .dead else .ad t s q
  |a=>a:=D2 S _ rfl i
theorem Ref.re {t:Ty} {s:Nat} {p:Path} {r:TV} {cL:List Value} (h:Ref tm S t s p r cL) (hk:∀ ex,S.at s=.v r ex→open_ p ex→∃ Dj,S'.at s=.v r Dj∧open_ p Dj):Ref tm S' t s p r cL:=by
 obtain⟨⟨ex,h1,h2⟩,h3,h4,h5⟩:=h
 exact⟨hk ex h1 h2,h3,h4,h5⟩
theorem gy {d:Nat} {p:Path} {r:TV} {ex:List Path} (hd:S.at d=.v r ex) (hS:∀ i r' Dj,i≠d→S.at i=.v r' Dj→S'.at i=.v r' Dj) (hS':S'.at d=.v r (ex++[p])) {own:Nat→Prop} {av:AV} {v:Value}
  (hf:av.eU d=false) (hc:∀ t q,av=.ad t d q→under p q=false) (h:Holds w A H tm S own av v) (hnv:∀ b ex,av≠ .v b ex) (hnt:∀ l,av≠ .ua l):Holds w A H tm S' own av v:=by
 have hre:∀ {t:Ty} {s:Nat} {q:Path} {r':TV} {cL:List Value},Ref tm S t s q r' cL→(s=d→under p q=false)→Ref tm S' t s q r' cL:=by
  intro t s q r' cL hr hu
  refine hr.re (fun ex1 h1 h2=>?_)
  by_cases zT:s=d
  ·subst zT
   rw[hd] at h1
   injection h1 with h1 h1'
   subst h1 h1'
   refine⟨ex++[p],hS',fun q' rv s' r' e=>?_⟩
   rcases List.mem_append.1 rv with rv |rv
   ·exact h2 q' rv s' r' e
   ·rw[List.mem_singleton.1 rv] at e
    have:=hu rfl
    rw[e,mc] at this
    cases this
  ·exact⟨ex1,hS s r' ex1 zT h1,h2⟩
 have aif:under p []=false:=by cases p<;>rfl
 cases av with
 |dead=>trivial
 |undef=>exact h
 |v b ex=>exact absurd rfl (hnv _ _)
 |ua l=>exact absurd rfl (hnt _)
 |al t s q=>
  obtain⟨r',cL,cs,h1,h2,h3⟩:=h
  refine⟨r',cL,cs,hre h1 (fun e=>?_),h2,h3⟩
  subst e
  cases q with
  |nil=>exact aif
  |cons _ _=>simp[AV.eU] at hf
 |ad t s q=>
  obtain⟨r',cL,g,off,h1,h2,h3⟩:=h
  exact⟨r',cL,g,off,hre h1 (fun e=>by subst e;exact hc _ _ rfl),h2,h3⟩
 |cut t s q lo hi=>
  obtain⟨r',cL,t',X,n,c,h1,h2⟩:=h
  refine⟨r',cL,t',X,n,c,hre h1 (fun e=>?_),h2⟩
  subst e
  simp[AV.eU] at hf
 |lE f cq=>
  obtain⟨vs,h1,h2,h3⟩:=h
  refine⟨vs,h1,h2,fun j c hj=>?_⟩
  obtain⟨u,k1,k2⟩:=h3 j c hj
  refine⟨u,k1,?_⟩
  cases c with
  |kv b=>exact k2
  |pl t s q=>
   obtain⟨r',cL,cs,l1,l2,l3⟩:=k2
   refine⟨r',cL,cs,hre l1 (fun e=>?_),l2,l3⟩
   subst e
   cases q with
   |nil=>exact aif
   |cons a' q'=>
    simp only[AV.eU] at hf
    have nM:=List.any_eq_false.1 hf _ (List.mem_of_getElem? hj)
    simp at nM
theorem eN (h:aW σ w0 W0 Z H S a w) {T:TypeId} {x:Operand} {av:AV} {b:TV} (ho:S.dR Θ T x=some av) (e:S.dI x av=some (b,S1)):
  ∃ bF cs ow,aW bF w0 W0 Z H S1 a w∧an b.t (a.eval x) cs∧M w (Av σ Z) H b.t b.m b.x cs ow []∧gm σ bF S.length ow∧S1.length=S.length:=by
 have hh:=bu h ho
 cases av with
 |v b0 ex=>
  simp only[St.dI] at e
  cases hk:b0.m.bH with
  |true=>
   rw[hk] at e
   simp only[cond_true,Option.some.injEq,Prod.mk.injEq] at e
   obtain⟨rfl,rfl⟩:=e
   obtain⟨cs,h1,h2⟩:=hh
   exact⟨σ,cs,fun _=>False,h,h1,nX hk (fJ _ hk h2),gm.none _ _,rfl⟩
  |false=>
   rw[hk] at e
   simp only[cond_false] at e
   split at e
   ·rename_i i
    simp only[Option.some.injEq,Prod.mk.injEq] at e
    obtain⟨rfl,rfl⟩:=e
    obtain⟨cs,h1,h2⟩:=hh
    refine⟨_,cs,_,h.jS i,h1,h2,gm.jS σ (eA ?_) (fun g hg=>?_),bV _ _ _⟩
    ·simp only[St.dR,Option.some.injEq] at ho
     rw[ho]
     exact fun e=>by cases e
    ·obtain⟨j,hj,hg⟩:=hg
     injection hj with hj
     subst hj
     exact hg
   ·rename_i hx
    simp only[Option.some.injEq,Prod.mk.injEq] at e
    obtain⟨rfl,rfl⟩:=e
    obtain⟨cs,h1,h2⟩:=hh
    refine⟨σ,cs,fun _=>False,h,h1,aH (aO.refl _ _) _ (fun _ _ _=>rfl) (fun g hg _=>?_) (fun _ h=>h) h2,gm.none _ _,rfl⟩
    obtain⟨j,hj,_⟩:=hg
    exact hx j hj
   ·cases e
 |al t s p=>
  simp only[St.dI] at e
  obtain⟨r,cL,cs,hr,hc,hm⟩:=hh
  split at e
  ·rename_i b' hb
   cases hk:b'.m.bH with
   |true=>
    rw[hk] at e
    simp only[cond_true,Option.some.injEq,Prod.mk.injEq] at e
    obtain⟨rfl,rfl⟩:=e
    obtain⟨zP,cA,_,hM⟩:=c6 h hr hc hb
    exact⟨σ,cs,fun _=>False,h,by rw[zP];exact hm,nX hk (fJ _ hk hM),gm.none _ _,rfl⟩
   |false=>
    rw[hk] at e
    simp only[cond_false] at e
    cases hp:p with
    |nil=>
     subst hp
     simp only[Option.some.injEq,Prod.mk.injEq] at e
     obtain⟨rfl,rfl⟩:=e
     obtain⟨zP,cA,rB,hM⟩:=c6 h hr hc hb
     obtain⟨ex0,Vd,_⟩:=hr.at_
     exact⟨_,cs,cA,h.jS s,by rw[zP];exact hm,hM,gm.jS σ (eA (by rw[Vd];exact fun e=>by cases e)) rB,bV _ _ _⟩
    |cons GY pp=>
     rw[hp] at e
     obtain⟨ex,b2,cI,ow0,j1,j2,j3,j4,hM,j5,j6,j7⟩:=fS h hr
     rw[j1] at e
     simp only[Option.some.injEq,Prod.mk.injEq] at e
     rw[←hp] at e
     obtain⟨rfl,rfl⟩:=e
     obtain⟨r3,ex3,q1,q2,q3⟩:=pG hb
     rw[j1] at q1
     injection q1 with q1 Eh
     subst q1 Eh
     rw[j3] at q3
     injection q3 with q3
     subst q3
     obtain⟨cs2,cA,k1,k2,k3,k4⟩:=HO p hM j2 hr.val j3 hk
     rw[hc] at k1
     injection k1 with k1
     subst k1
     rw[uo q2] at k3
     -- the ownership without what is taken
     have abx:s<S.length:=eA (by rw[j1];exact fun e=>by cases e)
     let bF:Nat→Option Nat:=fun g=>open Classical in if cA g then some S.length else σ g
     have Eo:∀ g i,bF g=some i→∃ k,σ g=some k:=by
      intro g i hg
      simp only[bF] at hg
      split at hg
      ·exact⟨s,k2 g (by assumption)⟩
      ·exact⟨i,hg⟩
     have Ep:∀ g i,σ g=some i→¬cA g→bF g=some i:=by
      intro g i hg hn
      simp only[bF,if_neg hn,hg]
     have bO:aO w w (Av σ Z) (Av bF Z):=⟨fun _ _ _=>rfl,fun g _ hg=>by
      rcases hg with⟨i,hg⟩ |hg
      ·exact .inl (Eo g i hg)
      ·exact .inr hg⟩
     have aby:gm σ bF S.length cA:=by
      refine⟨fun g hg=>⟨s,abx,k2 g hg⟩,fun g hg=>⟨_,Nat.le_refl _,by simp only[bF,if_pos hg]⟩,fun g i hg hi=>?_,fun g=>⟨fun⟨i,hg⟩=>Eo g i hg,fun⟨i,hg⟩=>?_⟩,fun g i hg hi=>Ep g i hg (fun hx=>?_)⟩
      ·simp only[bF] at hg
       split at hg
       ·injection hg with hg;omega
       ·exact hg
      ·simp only[bF]
       split
       ·exact⟨_,rfl⟩
       ·exact⟨i,hg⟩
      ·have:=k2 g hx
       rw[hg] at this
       injection this with this
       omega
     refine⟨bF,cs,cA,?_,by rw[j4];exact hm,k3,aby,by simp[St.weaken,St.cover]⟩
     have hlen:((S.weaken s).cover s p).length=S.length:=by simp[St.weaken,St.cover]
     have GZ:s<S.length:=by
      rcases Nat.lt_or_ge s S.length with hl |hl
      ·exact hl
      ·unfold St.at at j1
       rw[List.getD_eq_getElem?_getD,List.getElem?_eq_none hl] at j1
       cases j1
     have Af:St.at (((S.weaken s).cover s p).set s (.v r (ex++[p]))) s=.v r (ex++[p]):=by rw[cN,if_pos ⟨rfl,by rw[hlen];exact GZ⟩]
     have ln:∀ i,i≠s→St.at (((S.weaken s).cover s p).set s (.v r (ex++[p]))) i=(match (bif (S.at i).eU s then AV.dead else S.at i) with
       | .ad t s' q=>bif Nat.beq s' s&&under p q then .dead else .ad t s' q
       |a=>a):=by
      intro i hi
      rw[cN,if_neg (fun e=>hi e.1),Em,ke]
     refine⟨by simp only[List.length_set,hlen];exact h.len,h.defers,h.fr,fun g i hg=>(Eo g i hg).elim fun k hk=>h.new g k hk,fun g i hg=>(Eo g i hg).elim fun k hk=>h.lt g k hk,fun g hg=>⟨?_,(h.old g hg).2⟩,fun i=>?_⟩
     ·simp only[bF]
      split
      ·rename_i hx
       have:=k2 g hx
       rw[(h.old g hg).1] at this
       cases this
      ·exact(h.old g hg).1
     ·by_cases QM:i=s
      ·subst QM
       rw[Af]
       exact⟨cL,hr.mat,aH bO _ (fun _ _ _=>rfl) (fun g hg _=>Ep g _ hg.1 hg.2) (fun _ h=>h) k4⟩
      ·rw[ln i QM]
       cases qW:(S.at i).eU s with
       |true=>trivial
       |false=>
        simp only[cond_false]
        have hi:=h.holds i
        have base:Holds w (Av bF Z) H (bR a) S (fun g=>bF g=some i) (S.at i) (bR a i):=
         hi.kept bO (fun g hg _=>⟨rfl,Ep g i hg (fun hx=>QM (by have:=k2 g hx;rw[hg] at this;injection this))⟩) (fun s' _=>⟨fun _ _ h=>h,rfl,_,h.holds s',fun _ _ _=>rfl⟩)
        have hSv:∀ j r' Dj,j≠s→S.at j=.v r' Dj→St.at (((S.weaken s).cover s p).set s (.v r (ex++[p]))) j=.v r' Dj:=by
         intro j r' Dj hj hv
         rw[ln j hj,hv]
         simp[AV.eU]
        cases fq:S.at i with
        |v b3 ex3=>
         rw[fq] at base
         obtain⟨c3,l1,l2⟩:=base
         exact⟨c3,l1,l2⟩
        |ua l=>
         rw[fq] at base
         exact base
        |ad t' s' q=>
         rw[fq] at base qW
         simp only
         cases aqm:(Nat.beq s' s&&under p q) with
         |true=>trivial
         |false=>
          simp only[cond_false]
          refine gy j1 hSv Af qW (fun t2 q2 e2=>?_) base (fun _ _ e=>by cases e) (fun _ e=>by cases e)
          injection e2 with _ e3 e4
          subst e3 e4
          simpa using aqm
        |dead=>trivial
        |undef=>rw[fq] at base;exact base
        |al t' s' q=>
         rw[fq] at base qW
         exact gy j1 hSv Af qW (fun t2 q2 e2=>by cases e2) base (fun _ _ e=>by cases e) (fun _ e=>by cases e)
        |cut t' s' q lo Hw=>
         rw[fq] at base qW
         exact gy j1 hSv Af qW (fun t2 q2 e2=>by cases e2) base (fun _ _ e=>by cases e) (fun _ e=>by cases e)
        |lE f cq=>
         rw[fq] at base qW
         exact gy j1 hSv Af qW (fun t2 q2 e2=>by cases e2) base (fun _ _ e=>by cases e) (fun _ e=>by cases e)
  ·cases e
 |cut t s p lo hi=>
  cases p with
  |cons _ _=>simp[St.dI] at e
  |nil=>
   simp only[St.dI] at e
   obtain⟨r,cL,t',X,n,c,hr,rfl,hc,Yn,D5,hv⟩:=hh
   split at e
   ·rename_i t2 T2 tag me xs hb
    cases aqn:Nat.beq lo 0 with
    |false=>rw[aqn] at e;cases e
    |true=>
     rw[aqn] at e
     have hl0:=Nat.eq_of_beq_eq_true aqn
     subst hl0
     simp only[cond_true,Option.some.injEq,Prod.mk.injEq] at e
     obtain⟨rfl,rfl⟩:=e
     obtain⟨zP,cA,rB,hM⟩:=c6 h hr hc hb
     injection zP with zP
     subst zP
     simp only[M] at hM
     rcases hM with⟨hn,_⟩ |⟨hk,_⟩ |⟨T3,axm,me3,X3,c3,e3,e4,hcc,aie,hM⟩
     ·simp at hn
     ·simp[Md.bH] at hk
     ·injection e3 with e3 e3' awA
      subst e3 e3' awA
      simp only[List.cons.injEq,Value.slice.injEq,and_true] at e4
      obtain⟨rfl,hn,rfl⟩:=e4
      have hv':a.eval x=.slice X hi c:=by
       rw[hv]
       have:(if c=0 then X else X.map fun x=>x.add (0*Ty.size t2))=X:=by
        split
        ·rfl
        ·cases X with
         |none=>rfl
         |some ad=>simp[Addr.add]
       rw[this]
       simp
      have hlen:(List.take hi xs).length=hi:=by rw[List.length_take];omega
      obtain⟨ex0,Vd,_⟩:=hr.at_
      refine⟨_,[.slice X hi c],cA,h.jS s,by simp[an,isAgg,hv'],?_,gm.jS σ (eA (by rw[Vd];exact fun e=>by cases e)) rB,bV _ _ _⟩
      simp only[M]
      refine .inr (.inr ⟨T2,none,me,X,c,rfl,by rw[hlen],by rw[hlen];omega,fun h hh=>(by cases hh),?_⟩)
      rcases hM with⟨rfl,rfl⟩ |⟨g,cur,τ,rfl,hg,hw,iX,hm,hj⟩
      ·left
       simp
      ·right
       refine⟨g,cur,τ,rfl,hg,hw,iX,hm,fun j GV=>?_⟩
       rw[hlen] at GV
       have:=hj j (by omega)
       rw[List.getElem_take]
       exact this
   ·cases e
 |_=>simp[St.dI] at e
noncomputable def gz (σ:Nat→Option Nat) (dst:Option Nat) (ow:Nat→Prop) (g:Nat):Option Nat:=open Classical in if ow g then dst else release σ dst g
theorem aW.Ve (h:aW σ w0 W0 Z H S a w) {av:AV} {ow:Nat→Prop} (iX:w.heap.size≤w'.heap.size) (kR:∀ g,g<w.heap.size→(∀ i,S.length≤i→σ g≠some i)→w'.heap[g]?=w.heap[g]?) (qW:Fr w0 W0 w')
  (rB:∀ g,ow g→g<w'.heap.size∧((∃ i,S.length≤i∧σ g=some i)∨w.heap.size≤g))
  (hH:∀ d,dst=some d→(∀ g,ow g→gz σ dst ow g=some d)→(∀ g,Av (gz σ dst ow) Z g→Av σ Z g∨ow g)→Holds w' (Av (gz σ dst ow) Z) H (bR (a.put dst v)) (S.put dst av) (fun g=>gz σ dst ow g=some d) av v):
  aW (gz σ dst ow) w0 W0 Z H (S.put dst av) (a.put dst v) w':=by
 have hw0:w0.heap.size≤w.heap.size:=h.fr.size
 have fq:∀ g i,gz σ dst ow g=some i→(ow g∧dst=some i)∨(¬ow g∧σ g=some i∧dst≠some i):=fun g i hg=>by
  unfold gz at hg
  split at hg
  ·exact .inl ⟨by assumption,hg⟩
  ·exact .inr ⟨by assumption,fv hg⟩
 have hAv:∀ g,Av (gz σ dst ow) Z g→Av σ Z g∨ow g:=fun g hg=>by
  rcases hg with⟨i,hg⟩ |hg
  ·rcases fq g i hg with⟨h1,_⟩ |⟨_,h1,_⟩
   ·exact .inr h1
   ·exact .inl (.inl ⟨i,h1⟩)
  ·exact .inl (.inr hg)
 have bO:aO w w' (Av σ Z) (Av (gz σ dst ow) Z):=⟨fun g hn hg=>kR g hg (fun i _ hi=>hn (.inl ⟨i,hi⟩)),fun g hg hx=>by
  rcases hAv g hx with h1 |h1
  ·exact h1
  ·rcases(rB g h1).2 with⟨i,_,hi⟩ |h2
   ·exact .inl ⟨i,hi⟩
   ·omega⟩
 refine h.put bO qW (fun g i hg=>?_) (fun g hg=>?_) (fun i g hi hd hg=>⟨kR g (h.lt g i hg) (fun j hj pg=>by rw[hg] at pg;injection pg with pg;omega),?_⟩) (fun d hd hl _=>hH d hd (fun g hg=>by unfold gz;rw[if_pos hg];exact hd) hAv)
 ·rcases fq g i hg with⟨h1,_⟩ |⟨_,h1,_⟩
  ·rcases rB g h1 with⟨h2,⟨j,_,hj⟩ |h3⟩
   ·exact⟨h.new g j hj,h2⟩
   ·exact⟨.inl (by omega),h2⟩
  ·exact⟨h.new g i h1,by have:=h.lt g i h1;omega⟩
 ·obtain⟨h1,h2⟩:=h.old g hg
  unfold gz
  split
  ·rename_i hx
   rcases(rB g hx).2 with⟨i,_,hi⟩ |h3
   ·rw[h1] at hi;cases hi
   ·omega
  ·unfold release
   split
   ·rfl
   ·exact h1
 ·have hn: ¬ow g:=fun hx=>by
   rcases(rB g hx).2 with⟨j,hj,pg⟩ |h3
   ·rw[hg] at pg;injection pg with pg;omega
   ·have:=h.lt g i hg;omega
  unfold gz
  rw[if_neg hn]
  exact lG hd hg
theorem aW.aoS (h:aW σ w0 W0 Z H S a w) {b:TV} {cs:List Value} {ow:Nat→Prop} {A':Nat→Prop} (iX:w.heap.size≤w'.heap.size) (kR:∀ g,g<w.heap.size→(∀ i,S.length≤i→σ g≠some i)→w'.heap[g]?=w.heap[g]?) (qW:Fr w0 W0 w')
  (rB:∀ g,ow g→g<w'.heap.size∧((∃ i,S.length≤i∧σ g=some i)∨w.heap.size≤g)) (hA:∀ g,g<w'.heap.size→Av σ Z g∨ow g→A' g)
  (hm:an b.t v cs) (hM:M w' A' H b.t b.m b.x cs ow []):
  aW (gz σ dst ow) w0 W0 Z H (S.put dst (.v b [])) (a.put dst v) w':=
 h.Ve iX kR qW rB fun d _ h1 h2=>⟨cs,hm,aH ⟨fun _ _ _=>rfl,fun g hg hx=>hA g hg (h2 g hx)⟩ _ (fun _ _ _=>rfl) (fun g hg _=>h1 g hg) (fun _ h=>h) hM⟩
theorem aW.M0 (h:aW σ w0 W0 Z H S a w) {b:TV} {cs:List Value} {ow:Nat→Prop} {A':Nat→Prop} (kR:∀ g,g<w.heap.size→w'.heap[g]?=w.heap[g]?) (qW:Fr w0 W0 w')
  (rB:∀ g,ow g→g<w'.heap.size∧((∃ i,S.length≤i∧σ g=some i)∨w.heap.size≤g)) (hA:∀ g,g<w'.heap.size→Av σ Z g∨ow g→A' g)
  (hm:an b.t v cs) (hM:M w' A' H b.t b.m b.x cs ow []):
  aW (gz σ dst ow) w0 W0 Z H (S.put dst (.v b [])) (a.put dst v) w':=by
 refine h.aoS ?_ (fun g hg _=>kR g hg) qW rB hA hm hM
 rcases Nat.eq_zero_or_pos w.heap.size with h0 |h0
 ·omega
 ·have:=kR (w.heap.size - 1) (by omega)
  rw[Array.getElem?_eq_getElem (show w.heap.size - 1<w.heap.size by omega)] at this
  have:=a8 this
  omega
end Go.Pv
namespace Go.Pv
set_option linter.unusedVariables false
set_option linter.unusedSimpArgs false
variable {P:Program} {w w':World} {A A' Wr:Nat→Prop} {H:Nat→Value} {tm rC:Nat→Value} {S S' S1:St} {σ bF:Nat→Option Nat} {w0:World} {W0 Z:Nat→Prop} {a:Act} {own:Nat→Prop} {v:Value} {Θ:da} {dst:Option Nat}
theorem jt:∀ (t:Ty),kN t=true→K w A t t.z (zc t)
 | .int k,_=>by simp[K,zc,Ty.z]
 | .bool,_=>by simp[K,zc,Ty.z]
 | .str,_=>by simp[K,zc,Ty.z]
 | .unit,_=>by simp[K,zc]
 | .sl t,_=>by simp only[K,zc,Ty.z];exact⟨none,0,rfl,Nat.le_refl _,fun h=>absurd h (Nat.lt_irrefl _)⟩
 | .pair a b,h=>by
  simp only[kN,Bool.and_eq_true] at h
  simp only[K,zc,Ty.z]
  exact⟨_,_,rfl,jt a h.1,jt b h.2⟩
 | .ptr t,h=>by simp[kN] at h
 | .arr n t,h=>by simp[kN] at h
theorem IT {t:Ty} {x:t.I} {m:Md} {cs:List Value} {ow:Nat→Prop} (h:M w A H t m x cs (fun _=>False) []):M w A H t m x cs ow []:=aH (aO.refl _ _) t (fun _ _ _=>rfl) (fun _ h _=>h.elim) (fun _ h=>h) h
theorem Es:∀ (t:Ty) {m:Md},uQ t m=true→M w A H t m t.z (zc t) (fun _=>False) []
 | .pair a b,.p ma mb,h=>by
  simp only[uQ,Bool.or_eq_true,Bool.and_eq_true] at h
  rcases h with h |h
  ·simp only[M]
   exact .inr (.inr ⟨ma,mb,zc a,zc b,fun _=>True,rfl,rfl,IT (Es a h.1),IT (Es b h.2)⟩)
  ·exact nX (by simp[Md.bH,h.1.1.1,h.1.1.2]) (by simp only[K,zc,Ty.z];exact⟨_,_,rfl,jt a h.1.2,jt b h.2⟩)
 | .sl t,.o T none me,_=>by
  simp only[M]
  exact .inr (.inr ⟨T,none,me,none,0,rfl,rfl,Nat.le_refl _,fun h hh=>(by cases hh),.inl ⟨rfl,rfl⟩⟩)
 | .pair a b,.k,h=>by
  simp only[uQ,Bool.and_eq_true] at h
  exact nX h.1 (jt _ h.2)
 | .pair a b,.o ..,h=>by simp[uQ,Md.bH] at h
 | .sl t,.k,h=>by
  simp only[uQ,Bool.and_eq_true] at h
  exact nX h.1 (jt _ h.2)
 | .sl t,.o _ (some _) _,h=>by simp[uQ,Md.bH] at h
 | .sl t,.p a b,h=>by
  simp only[uQ,Bool.and_eq_true] at h
  exact nX h.1 (jt _ h.2)
 | .int k,m,h=>by
  have h:(m.bH&&kN (.int k))=true:=by cases m<;>exact h
  simp only[Bool.and_eq_true] at h
  exact nX h.1 (jt _ h.2)
 | .bool,m,h=>by
  have h:(m.bH&&kN .bool)=true:=by cases m<;>exact h
  simp only[Bool.and_eq_true] at h
  exact nX h.1 (jt _ h.2)
 | .str,m,h=>by
  have h:(m.bH&&kN .str)=true:=by cases m<;>exact h
  simp only[Bool.and_eq_true] at h
  exact nX h.1 (jt _ h.2)
 | .unit,m,h=>by
  have h:(m.bH&&kN .unit)=true:=by cases m<;>exact h
  simp only[Bool.and_eq_true] at h
  exact nX h.1 (jt _ h.2)
 | .ptr t,m,h=>by
  have h:(m.bH&&kN (.ptr t))=true:=by cases m<;>exact h
  simp[kN] at h
 | .arr n t,m,h=>by
  have h:(m.bH&&kN (.arr n t))=true:=by cases m<;>exact h
  simp[kN] at h
theorem Ag (hT:cM P Θ=true) {T:TypeId} {z:TV} (h:rE Θ T=some z):
  ∃ i inf zv,Θ.find T=some i∧i.ty=z.t∧z.x=z.t.z∧uQ z.t z.m=true∧P.info? T=some inf∧inf.size=z.t.size∧inf.zero=some zv∧an z.t zv (zc z.t)∧inf.bytes≤32*z.t.size∧inf.bytes≤256:=by
 unfold rE at h
 split at h
 ·rename_i i hi
  cases hz:uQ i.ty (Mz Θ 9 T) with
  |false=>rw[hz] at h;cases h
  |true=>
   rw[hz] at h
   simp only[cond_true,Option.some.injEq] at h
   subst h
   obtain⟨⟨_,inf,zv,h1,h2,h3,h4,h5,h6,h7⟩,_,rfl⟩:=cO hT hi
   exact⟨i,inf,zv,hi,rfl,rfl,hz,h1,h2,h6,h7,h3,h4⟩
 ·cases h
theorem Fr.alloc (h:Fr w0 W0 w) (o:Obj):Fr w0 W0 (w.alloc o):=by
 refine⟨h.os,h.tape,h.output,?_,fun g hg hn=>?_⟩
 ·have:=h.size
  simp only[World.alloc,Array.size_push];omega
 ·rw[heap_alloc_old w o g (by have:=h.size;omega)]
  exact h.block g hg hn
theorem iG {t:Ty} {v:Value} {cs:List Value} (h:an t v cs) (h1:∀ u∈cs,u.oneCell'=true):v.cells=cs.toArray:=by
 have:=IH h h1
 rw[←this]
theorem M1 {t:Ty} {m:Md} {x:t.I} {cs:List Value} {ow:Nat→Prop} (T:TypeId) (hM:M w A H t m x cs ow []) (cf:∀ g,ow g→g<w.heap.size):
  M (w.alloc (.cells cs.toArray T)) (fun g=>A g∨w.heap.size≤g) H (.ptr t) (.o T none m) x [.pointer (some ⟨w.heap.size,0,none⟩)] (fun g=>ow g∨g=w.heap.size) []:=by
 simp only[M]
 refine .inr (.inr ⟨T,none,m,w.heap.size,cs.toArray,rfl,rfl,fun h hh=>(by cases hh),.inr rfl,heap_alloc_new w _,?_⟩)
 refine aH (w:=w) ⟨fun g _ hg=>heap_alloc_old w _ g hg,fun g hg hx=>?_⟩ t (fun g hg hl=>heap_alloc_old w _ g hl) (fun g hg hl=>⟨.inl hg,by omega⟩) (fun _ h=>(by simp at h)) hM
 rcases hx with hx |hx
 ·exact hx
 ·omega
def B9 (P:Program) (w0:World) (W0 Z:Nat→Prop) (H:Nat→Value) (S':St) (a:Act) (dst:Option Nat) (w:World) (s:Sem Next):Prop:=
 ∃ w' v,s.run P w=.ok (.value v) w'∧Ext w w'∧Rel w0 W0 Z H S' (a.put dst v) w'
theorem B9.auF {s:Sem Next} (h:B9 P w0 W0 Z H S' a dst w s):IQ P w0 W0 Z H S' a dst w s:=by
 obtain⟨w',v,h1,_,h2⟩:=h
 exact⟨w',v,.inl h1,h2⟩
theorem gY.Dc {s:Sem Next} (h:gY P w0 W0 Z H S' a dst w s):B9 P w0 W0 Z H S' a dst w s:=by
 obtain⟨v,h1,h2⟩:=h
 exact⟨w,v,h1 w (Ext.refl w),Ext.refl w,h2⟩
theorem abz (hT:cM P Θ=true) (h:aW σ w0 W0 Z H S a w) {hn:Hn} {o:Oper} {T:TypeId} (ho:o.op=.alloc T) (e:pn Θ hn S o.dst T=some (true,S')):B9 P w0 W0 Z H S' a o.dst w (execOp a.eval o):=by
 unfold pn at e
 split at e
 ·rename_i z hz
  cases hf:uQ z.t (hn.find o.dst z.m) with
  |false=>rw[hf] at e;cases e
  |true=>
   rw[hf] at e
   simp only[cond_true,Option.some.injEq,Prod.mk.injEq,true_and] at e
   subst e
   obtain⟨i,inf,zv,_,_,_,_,h1,h2,h3,h4,_⟩:=Ag hT hz
   have hM:M w (Av σ Z) H z.t (hn.find o.dst z.m) z.t.z (zc z.t) (fun _=>False) []:=Es z.t hf
   have aqo:=M1 T hM (fun _ h=>h.elim)
   refine⟨w.alloc (.cells (zc z.t).toArray T),.pointer (some ⟨w.heap.size,0,none⟩),?_,fun g hg=>heap_alloc_old w _ g hg,_,h.M0 (b:=⟨.ptr z.t,.o T none (hn.find o.dst z.m),z.t.z⟩) (cs:=[.pointer (some ⟨w.heap.size,0,none⟩)]) (fun g hg=>heap_alloc_old w _ g hg) (h.fr.alloc _) (fun g hg=>?_) (fun g hg hx=>?_) (by simp[an,isAgg]) aqo⟩
   ·simp[execOp,ho,Instr.alloc,zeroValue,typeInfo,h1,h3,newVar,newRow,iG h4 (eH _ hM).2]
   ·rcases hg with hg |rfl
    ·exact hg.elim
    ·exact⟨by simp only[World.alloc,Array.size_push];omega,.inr (Nat.le_refl _)⟩
   ·rcases hx with hx |hx |rfl
    ·exact .inl hx
    ·exact hx.elim
    ·exact .inr (Nat.le_refl _)
 ·cases e
theorem oh {b:TV} {cs:List Value} {ow:Nat→Prop} {s:Sem Next} {n:Nat} (h:aW bF w0 W0 Z H S1 a w) (hk:gm σ bF n ow) (hn:S1.length=n) (hr:∀ w2,Ext w w2→s.run P w2=.ok (.value v) w2) (hm:an b.t v cs) (hM:M w (Av σ Z) H b.t b.m b.x cs ow []):
  gY P w0 W0 Z H (S1.put dst (.v b [])) a dst w s:=by
 refine⟨v,hr,_,h.M0 (b:=b) (cs:=cs) (fun _ _=>rfl) h.fr (fun g hg=>?_) (fun g hg hx=>?_) hm hM⟩
 ·obtain⟨i,hi,bd⟩:=hk.now g hg
  exact⟨h.lt g i bd,.inl ⟨i,by omega,bd⟩⟩
 ·rcases hx with hx |hx
  ·exact hk.Av.1 hx
  ·obtain⟨i,hi,bd⟩:=hk.MZ g hx
   exact .inl ⟨i,bd⟩
theorem aqp (hT:cM P Θ=true) (h:aW σ w0 W0 Z H S a w) {o:Oper} {T:TypeId} {x:Operand} (ho:o.op=.box T x) (e:aa1 Θ S o.dst T x=some (true,S')):B9 P w0 W0 Z H S' a o.dst w (execOp a.eval o):=by
 unfold aa1 St.take at e
 split at e
 ·rename_i b S1 hb
  split at hb
  ·rename_i av dG
   obtain⟨bF,cs,ow,h1,hm,hM,hk,hn⟩:=eN h dG hb
   cases hc:Θ.is T b.t with
   |false=>rw[hc] at e;cases e
   |true=>
    rw[hc] at e
    simp only[cond_true,Option.some.injEq,Prod.mk.injEq,true_and] at e
    subst e
    have cf:∀ g,ow g→g<w.heap.size:=fun g hg=>by
     obtain⟨i,_,hi⟩:=hk.MZ g hg
     exact h.lt g i hi
    have aqo:=M1 T hM cf
    refine⟨w.alloc (.cells cs.toArray T),.pointer (some ⟨w.heap.size,0,none⟩),?_,fun g hg=>heap_alloc_old w _ g hg,_,h1.M0 (b:=⟨.ptr b.t,.o T none b.m,b.x⟩) (cs:=[.pointer (some ⟨w.heap.size,0,none⟩)]) (fun g hg=>heap_alloc_old w _ g hg) (h1.fr.alloc _) (fun g hg=>?_) (fun g hg hx=>?_) (by simp[an,isAgg]) aqo⟩
    ·simp[execOp,ho,Instr.box,newVar,newRow,iG hm (eH _ hM).2]
    ·rcases hg with hg |rfl
     ·obtain⟨i,hi,bd⟩:=hk.now g hg
      have:=cf g hg
      exact⟨by simp only[World.alloc,Array.size_push];omega,.inl ⟨i,by omega,bd⟩⟩
     ·exact⟨by simp only[World.alloc,Array.size_push];omega,.inr (Nat.le_refl _)⟩
    ·rcases hx with hx |hx |rfl
     ·exact .inl (hk.Av.1 hx)
     ·obtain⟨i,_,hi⟩:=hk.MZ g hx
      exact .inl (.inl ⟨i,hi⟩)
     ·exact .inr (Nat.le_refl _)
  ·cases hb
 ·cases e
end Go.Pv
namespace Go.Pv
set_option linter.unusedVariables false
set_option linter.unusedSimpArgs false
variable {P:Program} {w w':World} {A A' Wr:Nat→Prop} {H:Nat→Value} {tm rC:Nat→Value} {S S' S1:St} {σ bF:Nat→Option Nat} {w0:World} {W0 Z:Nat→Prop} {a:Act} {own:Nat→Prop} {v:Value} {Θ:da} {dst:Option Nat}
theorem tq:∀ (p:Path) {t:Ty} {m:Md} {x:t.I} {b b0:TV} {r:Md×t.I},gn b p t m x=some r→aY p t m x=some b0→b.t=b0.t
 |[],t,m,x,b,b0,r,h,hg=>by
  simp only[aY,Option.some.injEq] at hg
  subst hg
  simp only[gn] at h
  split at h
  ·assumption
  ·cases h
 | .deref::p,.ptr t,.o T tag me,x,b,b0,r,h,hg=>by
  simp only[gn] at h
  simp only[aY] at hg
  split at h
  ·rename_i r1 h1
   exact tq p h1 hg
  ·cases h
 | .fst::p,.pair t u,m,x,b,b0,r,h,hg=>by
  simp only[gn] at h
  simp only[aY] at hg
  split at h
  ·rename_i r1 h1
   exact tq p h1 hg
  ·cases h
 | .snd::p,.pair t u,m,x,b,b0,r,h,hg=>by
  simp only[gn] at h
  simp only[aY] at hg
  split at h
  ·rename_i r1 h1
   exact tq p h1 hg
  ·cases h
 | .idx i::p,.sl t,.o T tag me,xs,b,b0,r,h,hg=>by
  obtain⟨r1,h1,_⟩:=DT h
  simp only[aY] at hg
  exact tq p h1 hg
theorem ju:∀ (q:Path) {t:Ty} {x y:t.I},aI q=true→valid q t x→valid q t y
 |[],_,_,_,_,_=>trivial
 | .fst::q,.pair a b,x,y,h,hv=>by
  simp only[valid] at hv ⊢
  exact ju q (by simpa[aI] using h) hv
 | .snd::q,.pair a b,x,y,h,hv=>by
  simp only[valid] at hv ⊢
  exact ju q (by simpa[aI] using h) hv
theorem fT:∀ (q:Path),depth q=0→aI q=true
 |[],_=>rfl
 | .fst::q,h=>by simp only[aI];exact fT q (by simpa[depth] using h)
 | .snd::q,h=>by simp only[aI];exact fT q (by simpa[depth] using h)
 | .deref::q,h=>by simp[depth] at h
 | .idx i::q,h=>by simp[depth] at h
theorem eh:∀ (q:Path) {t:Ty} {cs cI:List Value} {l:Option (Nat×Nat)},aI q=true→addrAt w q t cs l=addrAt w' q t cI l
 |[],_,_,_,_,_=>rfl
 | .fst::q,.pair a b,cs,cI,l,h=>by
  simp only[addrAt]
  exact eh q (by simpa[aI] using h)
 | .snd::q,.pair a b,cs,cI,l,h=>by
  simp only[addrAt]
  exact eh q (by simpa[aI] using h)
 | .fst::q,.int _,_,_,_,_=>by simp[addrAt]
 | .fst::q,.bool,_,_,_,_=>by simp[addrAt]
 | .fst::q,.str,_,_,_,_=>by simp[addrAt]
 | .fst::q,.sl _,_,_,_,_=>by simp[addrAt]
 | .fst::q,.ptr _,_,_,_,_=>by simp[addrAt]
 | .fst::q,.unit,_,_,_,_=>by simp[addrAt]
 | .fst::q,.arr _ _,_,_,_,_=>by simp[addrAt]
 | .snd::q,.int _,_,_,_,_=>by simp[addrAt]
 | .snd::q,.bool,_,_,_,_=>by simp[addrAt]
 | .snd::q,.str,_,_,_,_=>by simp[addrAt]
 | .snd::q,.sl _,_,_,_,_=>by simp[addrAt]
 | .snd::q,.ptr _,_,_,_,_=>by simp[addrAt]
 | .snd::q,.unit,_,_,_,_=>by simp[addrAt]
 | .snd::q,.arr _ _,_,_,_,_=>by simp[addrAt]
theorem u7:∀ (q p:Path) {t:Ty} {m:Md} {x:t.I} {b:TV} {r:Md×t.I},gn b p t m x=some r→aI p=false→depth q≤1→valid q t x→valid q t r.2
 |[],_,_,_,_,_,_,_,_,_,_=>trivial
 | .deref::q,p,.ptr t,m,x,b,r,h,hp,hd,hv=>by
  simp only[valid] at hv ⊢
  exact ju q (fT q (by simp[depth] at hd;omega)) hv
 | .idx i::q,p,.sl t,m,xs,b,r,h,hp,hd,hv=>by
  simp only[valid] at hv ⊢
  refine⟨?_,ju q (fT q (by simp[depth] at hd;omega)) hv.2⟩
  cases p with
  |nil=>simp[aI] at hp
  |cons s p=>
   cases s<;>cases m<;>simp[gn] at h
   rename_i j T tag me
   have h':gn b (.idx j::p) (.sl t) (.o T tag me) xs=some r:=by simp only[gn];exact h
   obtain⟨r1,_,_,rfl⟩:=DT h'
   simpa using hv.1
 | .fst::q,p,.pair t u,m,x,b,r,h,hp,hd,hv=>by
  simp only[valid] at hv ⊢
  cases p with
  |nil=>simp[aI] at hp
  |cons s p=>
   cases s<;>simp only[gn,reduceCtorEq] at h
   ·split at h
    ·rename_i r1 h1
     injection h with h
     subst h
     exact u7 q p h1 (by simpa[aI] using hp) (by simpa[depth] using hd) hv
    ·cases h
   ·split at h
    ·rename_i r1 h1
     injection h with h
     subst h
     exact hv
    ·cases h
 | .snd::q,p,.pair t u,m,x,b,r,h,hp,hd,hv=>by
  simp only[valid] at hv ⊢
  cases p with
  |nil=>simp[aI] at hp
  |cons s p=>
   cases s<;>simp only[gn,reduceCtorEq] at h
   ·split at h
    ·rename_i r1 h1
     injection h with h
     subst h
     exact hv
    ·cases h
   ·split at h
    ·rename_i r1 h1
     injection h with h
     subst h
     exact u7 q p h1 (by simpa[aI] using hp) (by simpa[depth] using hd) hv
    ·cases h
theorem om:∀ (q:Path) {t:Ty} {m:Md} {x:t.I} {cs:List Value} {ow:Nat→Prop} {hs:List Path} {l:Option (Nat×Nat)} {g:Nat×Nat},
  M w' A' H t m x cs ow hs→open_ q hs→valid q t x→depth q≤1→addrAt w q t cs l=some g→addrAt w' q t cs l=some g
 |[],_,_,_,_,_,_,_,_,_,_,_,_,e=>e
 | .deref::q,.ptr t,m,x,cs,ow,hs,l,g0,h,ho,hv,hd,e=>by
  have hq:aI q=true:=fT q (by simp[depth] at hd;omega)
  simp only[M] at h
  rcases h with⟨hn,_⟩ |⟨hk,h⟩ |⟨T,tag,me,g,cur,rfl,rfl,ht,qU,hw,h⟩
  ·exact absurd hn ho.not_nil
  ·simp only[K] at h
   obtain⟨g,off,cur,T,fr,rfl,hng,hw,hl,h⟩:=h
   simp only[addrAt,bq hw hl,Option.bind_some] at e ⊢
   cases hr:rowAt w g off t.size with
   |none=>rw[hr] at e;cases e
   |some row=>
    rw[hr,Option.bind_some] at e
    rw[←e]
    exact eh q hq
  ·have iX:0+t.size≤cur.size:=by rw[←(eH t h).1];simp
   simp only[addrAt,bq hw iX,Option.bind_some] at e ⊢
   cases hr:rowAt w g 0 t.size with
   |none=>rw[hr] at e;cases e
   |some row=>
    rw[hr,Option.bind_some] at e
    rw[←e]
    exact eh q hq
 | .fst::q,.pair a b',m,x,cs,ow,hs,l,g0,h,ho,hv,hd,e=>by
  simp only[valid] at hv
  simp only[M] at h
  simp only[addrAt] at e ⊢
  rcases h with⟨hn,_⟩ |⟨hk,h⟩ |⟨ma,mb,c0,c1,s,rfl,rfl,h0,h1⟩
  ·exact absurd hn ho.not_nil
  ·simp only[K] at h
   obtain⟨c0,c1,rfl,h0,h1⟩:=h
   rw[←(lh a h0).1,List.take_left] at e ⊢
   exact om q (fW (H:=H) (ow:=fun _=>False) (hs:=sub .fst hs) a h0) ho.sub hv (by simpa[depth] using hd) e
  ·rw[←(eH a h0).1,List.take_left] at e ⊢
   exact om q h0 ho.sub hv (by simpa[depth] using hd) e
 | .snd::q,.pair a b',m,x,cs,ow,hs,l,g0,h,ho,hv,hd,e=>by
  simp only[valid] at hv
  simp only[M] at h
  simp only[addrAt] at e ⊢
  rcases h with⟨hn,_⟩ |⟨hk,h⟩ |⟨ma,mb,c0,c1,s,rfl,rfl,h0,h1⟩
  ·exact absurd hn ho.not_nil
  ·simp only[K] at h
   obtain⟨c0,c1,rfl,h0,h1⟩:=h
   rw[←(lh a h0).1,List.drop_left] at e ⊢
   exact om q (fW (H:=H) (ow:=fun _=>False) (hs:=sub .snd hs) b' h1) ho.sub hv (by simpa[depth] using hd) e
  ·rw[←(eH a h0).1,List.drop_left] at e ⊢
   exact om q h1 ho.sub hv (by simpa[depth] using hd) e
 | .idx i::q,.sl t,m,xs,cs,ow,hs,l,g0,h,ho,hv,hd,e=>by
  have hq:aI q=true:=fT q (by simp[depth] at hd;omega)
  simp only[valid] at hv
  obtain⟨hi,hv⟩:=hv
  simp only[M] at h
  rcases h with⟨hn,_⟩ |⟨hk,h⟩ |⟨T,tag,me,X,c,rfl,rfl,hc,ht,h⟩
  ·exact absurd hn ho.not_nil
  ·simp only[K] at h
   obtain⟨X,c,rfl,hc,h⟩:=h
   obtain⟨g,off,cur,T,fr,rfl,hng,hw,hl,h⟩:=h (by omega)
   have hbound:off+i*t.size+t.size≤cur.size:=by
    have:=Nat.mul_le_mul_right t.size (show i+1≤xs.length from hi)
    rw[Nat.add_mul,Nat.one_mul] at this
    omega
   simp only[addrAt,bq hw hbound,Option.bind_some] at e ⊢
   cases hr:rowAt w g (off+i*t.size) t.size with
   |none=>rw[hr] at e;cases e
   |some row=>
    rw[hr,Option.bind_some] at e
    rw[←e]
    exact eh q hq
  ·rcases h with⟨rfl,_⟩ |⟨g,cur,τ,rfl,qU,hw,iX,hm,h⟩
   ·simp at hi
   ·have hbound:0+i*t.size+t.size≤cur.size:=by
     have h1:=Nat.mul_le_mul_right t.size (show i+1≤xs.length from hi)
     have h2:=Nat.mul_le_mul_right t.size hc
     rw[Nat.add_mul,Nat.one_mul] at h1
     omega
    simp only[addrAt,bq hw hbound,Option.bind_some] at e ⊢
    cases hr:rowAt w g (0+i*t.size) t.size with
    |none=>rw[hr] at e;cases e
    |some row=>
     rw[hr,Option.bind_some] at e
     rw[←e]
     exact eh q hq
theorem abA:∀ (q p:Path) {t:Ty} {m:Md} {x:t.I} {b b1:TV} {r:Md×t.I},gn b p t m x=some r→aY q t m x=some b1→∀ m',∃ b2,aY q t m' r.2=some b2∧b2.t=b1.t:=by
 have key:∀ (q:Path) {t:Ty} {m m':Md} {x y:t.I} {b1:TV},aY q t m x=some b1→∃ b2,aY q t m' y=some b2∧b2.t=b1.t:=by
  intro q
  induction q with
  |nil=>intro t m m' x y b1 h;simp only[aY,Option.some.injEq] at h;subst h;exact⟨_,rfl,rfl⟩
  |cons s q ih=>
   intro t m m' x y b1 h
   cases s<;>cases t<;>simp only[aY,reduceCtorEq] at h ⊢
   all_goals exact ih h
 intro q p t m x b b1 r _ h m'
 exact key q h
theorem G8 (bO:aO w w' A A') {d:Nat} {r r':TV} {ex Dj:List Path} (B':r'.t=r.t) (hd:S.at d=.v r ex) (U6:S'.at d=.v r' Dj) (hS:∀ i r1 ex1,i≠d→S.at i=.v r1 ex1→S'.at i=.v r1 ex1)
  (hM:∃ cL IG,an r.t (tm d) cL∧M w' A' H r'.t r'.m r'.x cL IG Dj) (hex:∀ q∈Dj,q∈ex)
  (jk:∀ q,depth q≤1→valid q r.t r.x→valid q r'.t r'.x) (eS:∀ q b1,aY q r.t r.m r.x=some b1→∃ b2,aY q r'.t r'.m r'.x=some b2∧b2.t=b1.t)
  (hk:∀ s,s≠d→∃ own,Holds w A H tm S own (S.at s) (tm s)∧∀ g,own g→g<w.heap.size→w'.heap[g]?=w.heap[g]?)
  {own IG:Nat→Prop} (og:∀ g,own g→g<w.heap.size→w'.heap[g]?=w.heap[g]? ∧IG g) {av:AV} {v:Value} (hf:av.eU d=false) (h:Holds w A H tm S own av v):Holds w' A' H tm S' IG av v:=by
 have Vf:∀ s,s≠d→Kept w w' A H tm tm S S' s:=fun s hs=>⟨fun r1 ex1=>hS s r1 ex1 hs,rfl,hk s hs⟩
 have aqq:∀ {t:Ty} {q:Path} {r1:TV} {cL:List Value},depth q≤1→Ref tm S t d q r1 cL→r1=r∧Ref tm S' t d q r' cL:=by
  intro t q r1 cL hq hr
  obtain⟨⟨ex1,h1,h2⟩,h3,⟨b1,h4,h5⟩,h6⟩:=hr
  rw[hd] at h1
  injection h1 with h1 h1'
  subst h1 h1'
  obtain⟨b2,k1,k2⟩:=eS q b1 h4
  exact⟨rfl,⟨Dj,U6,fun p hp=>h2 p (hex p hp)⟩,jk q hq h3,⟨b2,k1,k2.trans h5⟩,by rw[B'];exact h6⟩
 cases av with
 |dead=>trivial
 |undef=>exact h
 |v b ex1=>
  obtain⟨cs,h1,h2⟩:=h
  exact⟨cs,h1,aH bO _ (fun g hg hl=>(og g hg hl).1) (fun g hg hl=>(og g hg hl).2) (fun _ h=>h) h2⟩
 |ua l=>
  obtain⟨vs,τ,h1,h2,h3⟩:=h
  refine⟨vs,τ,h1,h2,fun j b hj=>?_⟩
  obtain⟨u,cs,k1,k2,k3⟩:=h3 j b hj
  exact⟨u,cs,k1,k2,aH bO _ (fun g hg hl=>(og g hg.1 hl).1) (fun g hg hl=>⟨(og g hg.1 hl).2,hg.2⟩) (fun _ h=>h) k3⟩
 |al t s p=>
  obtain⟨r1,cL,cs,hr,hc,hm⟩:=h
  by_cases zT:s=d
  ·subst zT
   cases p with
   |cons _ _=>simp[AV.eU] at hf
   |nil=>
    obtain⟨rfl,zX⟩:=aqq (by simp[depth]) hr
    exact⟨r',cL,cs,zX,hc,hm⟩
  ·obtain⟨h1,h2⟩:=hr.kept bO (Vf s zT)
   exact⟨r1,cL,cs,h1,by rw[(h2 none).1];exact hc,hm⟩
 |ad t s p=>
  obtain⟨r1,cL,g,off,hr,hc,hm⟩:=h
  by_cases zT:s=d
  ·subst zT
   have auK:depth p≤1:=by
    simp only[AV.eU,Nat.beq_refl,Bool.true_and] at hf
    have: ¬ 2≤depth p:=fun h2=>by rw[Nat.ble_eq_true_of_le h2] at hf;cases hf
    omega
   obtain⟨rfl,zX⟩:=aqq auK hr
   obtain⟨cs1,ah2,m1,m2⟩:=hM
   obtain rfl:=eL m1 hr.mat
   obtain⟨ex1,e1,e2⟩:=zX.at_
   rw[U6] at e1
   injection e1 with _ e1
   subst e1
   refine⟨r',cs1,g,off,zX,om (w:=w) p m2 e2 zX.val auK (by rw[B'];exact hc),hm⟩
  ·obtain⟨h1,h2⟩:=hr.kept bO (Vf s zT)
   exact⟨r1,cL,g,off,h1,by rw[(h2 none).2];exact hc,hm⟩
 |cut t s p lo hi=>
  obtain⟨r1,cL,t',A1,n,c,hr,ht,hc,hm⟩:=h
  by_cases zT:s=d
  ·subst zT
   simp[AV.eU] at hf
  ·obtain⟨h1,h2⟩:=hr.kept bO (Vf s zT)
   exact⟨r1,cL,t',A1,n,c,h1,ht,by rw[(h2 none).1];exact hc,hm⟩
 |lE f cq=>
  obtain⟨vs,h1,h2,h3⟩:=h
  refine⟨vs,h1,h2,fun j c hj=>?_⟩
  obtain⟨u,k1,k2⟩:=h3 j c hj
  refine⟨u,k1,?_⟩
  cases c with
  |kv b=>exact bP bO _ k2
  |pl t s p=>
   by_cases zT:s=d
   ·subst zT
    obtain⟨r1,cL,cs,hr,hc,hm⟩:=k2
    cases p with
    |cons _ _=>
     have nM:=List.any_eq_false.1 hf _ (List.mem_of_getElem? hj)
     simp at nM
    |nil=>
     obtain⟨rfl,zX⟩:=aqq (by simp[depth]) hr
     exact⟨r',cL,cs,zX,hc,hm⟩
   ·exact mo.kept bO (fun t1 s1 p1 e1=>by injection e1 with _ e1 _;subst e1;exact Vf _ zT) k2
theorem IU:∀ (p h:Path),pre p h=true→∃ q,h=p++q
 |[],h,_=>⟨h,rfl⟩
 | .deref::p,.deref::h,e=>by obtain⟨q,rfl⟩:=IU p h (by simpa[pre] using e);exact⟨q,rfl⟩
 | .fst::p,.fst::h,e=>by obtain⟨q,rfl⟩:=IU p h (by simpa[pre] using e);exact⟨q,rfl⟩
 | .snd::p,.snd::h,e=>by obtain⟨q,rfl⟩:=IU p h (by simpa[pre] using e);exact⟨q,rfl⟩
theorem take_at {x:Operand} {av:AV} {b:TV} {s:Nat} {r:TV} {ex:List Path} (e:S.dI x av=some (b,S1)) (hs:S1.at s=.v r ex):∃ ex0,S.at s=.v r ex0∧∀ q∈ex0,q∈ex:=by
 have YC:∀ i,(S.put (some i) .dead).at s=.v r ex→S.at s=.v r ex:=by
  intro i h
  rw[dL] at h
  split at h
  ·simp[AV.refs] at h
  ·cases hr:(S.at s).refs i&&(S.at i).zM with
   |true=>rw[hr] at h;cases h
   |false=>rw[hr] at h;exact h
 cases av with
 |v b0 ex0=>
  simp only[St.dI] at e
  cases hk:b0.m.bH with
  |true=>
   rw[hk] at e
   simp only[cond_true,Option.some.injEq,Prod.mk.injEq] at e
   obtain⟨_,rfl⟩:=e
   exact⟨ex,hs,fun _ h=>h⟩
  |false=>
   rw[hk] at e
   simp only[cond_false] at e
   split at e
   ·simp only[Option.some.injEq,Prod.mk.injEq] at e
    obtain⟨_,rfl⟩:=e
    exact⟨ex,YC _ hs,fun _ h=>h⟩
   ·simp only[Option.some.injEq,Prod.mk.injEq] at e
    obtain⟨_,rfl⟩:=e
    exact⟨ex,hs,fun _ h=>h⟩
   ·cases e
 |al t s0 p=>
  simp only[St.dI] at e
  split at e
  ·rename_i b' hb
   cases hk:b'.m.bH with
   |true=>
    rw[hk] at e
    simp only[cond_true,Option.some.injEq,Prod.mk.injEq] at e
    obtain⟨_,rfl⟩:=e
    exact⟨ex,hs,fun _ h=>h⟩
   |false=>
    rw[hk] at e
    simp only[cond_false] at e
    split at e
    ·simp only[Option.some.injEq,Prod.mk.injEq] at e
     obtain⟨_,rfl⟩:=e
     exact⟨ex,YC _ hs,fun _ h=>h⟩
    ·rename_i r2 ex2 _ dx
     simp only[Option.some.injEq,Prod.mk.injEq] at e
     obtain⟨_,rfl⟩:=e
     rw[cN] at hs
     split at hs
     ·rename_i hx
      injection hs with h1 h2
      subst h1 h2
      rw[hx.1]
      exact⟨ex2,dx,fun q hq=>List.mem_append_left _ hq⟩
     ·rw[Em,ke] at hs
      cases qW:(S.at s).eU s0 with
      |true=>rw[qW] at hs;simp at hs
      |false=>
       rw[qW] at hs
       simp only[cond_false] at hs
       split at hs
       ·cases hx:(Nat.beq _ s0&&under _ _) with
        |true=>rw[hx] at hs;cases hs
        |false=>rw[hx] at hs;cases hs
       ·exact⟨ex,hs,fun _ h=>h⟩
    ·cases e
  ·cases e
 |cut t s0 p lo hi=>
  cases p with
  |cons _ _=>simp[St.dI] at e
  |nil=>
   simp only[St.dI] at e
   split at e
   ·cases hl:Nat.beq lo 0 with
    |false=>rw[hl] at e;cases e
    |true=>
     rw[hl] at e
     simp only[cond_true,Option.some.injEq,Prod.mk.injEq] at e
     obtain⟨_,rfl⟩:=e
     exact⟨ex,YC _ hs,fun _ h=>h⟩
   ·cases e
 |_=>simp[St.dI] at e
end Go.Pv
namespace Go.Pv
set_option linter.unusedVariables false
set_option linter.unusedSimpArgs false
variable {P:Program} {w w':World} {A A' Wr:Nat→Prop} {H:Nat→Value} {tm rC:Nat→Value} {S S' S1:St} {σ bF:Nat→Option Nat} {w0:World} {W0 Z:Nat→Prop} {a:Act} {own:Nat→Prop} {v:Value} {Θ:da} {dst:Option Nat}
theorem Fr.setRow (h:Fr w0 W0 w) {g:Nat} {cs:Array Value} (hg:w0.heap.size≤g∨W0 g):Fr w0 W0 (w.setRow g cs):=by
 refine⟨h.os,h.tape,h.output,by rw[setRow_size];exact h.size,fun k hk hn=>?_⟩
 rw[setRow_other w g k _ (fun e=>by subst e;rcases hg with hg |hg;omega;exact hn hg)]
 exact h.block k hk hn
theorem YD (hT:cM P Θ=true) {T:TypeId} {t:Ty} {g off:Nat} {cs:List Value} {v:Value} {cur:Array Value} {T':TypeId} (ht:Θ.is T t=true) (hm:an t v cs) (hl:cs.length=t.size) (h1:∀ u∈cs,u.oneCell'=true)
  (hw:w.heap[g]?=some (.cells cur T' (0,0))) (hb:off+cs.length≤cur.size):
  (Instr.storeAt T (.pointer (some ⟨g,off,none⟩)) v).run P w=.ok () (w.setRow g (putCells cur.toList off cs).toArray):=by
 obtain⟨inf,hi,hs,_⟩:=iy hT ht
 have:=run_storeCells_at (P:=P) g off T' cs 0 cur w hw (by omega) h1
 simp only[Nat.add_zero] at this
 simp[Instr.storeAt,Instr.sureAddr,storeVar,sizeOf,typeInfo,hi,hs,iG hm h1,hl]
 rw[hl] at this
 unfold putCells
 rw[hl]
 simpa using this
theorem xq:∀ (p h:Path),fV p h=true→BY p h=true→h=p
 |[],[],_,_=>rfl
 | .idx i::p,.idx j::h,e,e2=>by
  simp only[BY,Bool.and_eq_true] at e2
  rw[xq p h (by simpa[fV] using e) e2.1,Nat.eq_of_beq_eq_true e2.2]
 | .deref::p,.deref::h,e,e2=>by rw[xq p h (by simpa[fV] using e) (by simpa[BY] using e2)]
 | .fst::p,.fst::h,e,e2=>by rw[xq p h (by simpa[fV] using e) (by simpa[BY] using e2)]
 | .snd::p,.snd::h,e,e2=>by rw[xq p h (by simpa[fV] using e) (by simpa[BY] using e2)]
 |[],.idx _::_,e,_ |[],.deref::_,e,_ |[],.fst::_,e,_ |[],.snd::_,e,_=>by simp[fV] at e
 | .idx _::_,[],e,_ | .deref::_,[],e,_ | .fst::_,[],e,_ | .snd::_,[],e,_=>by simp[fV] at e
 | .idx _::_,.deref::_,e,_ | .idx _::_,.fst::_,e,_ | .idx _::_,.snd::_,e,_=>by simp[fV] at e
 | .deref::_,.idx _::_,e,_ | .deref::_,.fst::_,e,_ | .deref::_,.snd::_,e,_=>by simp[fV] at e
 | .fst::_,.idx _::_,e,_ | .fst::_,.deref::_,e,_ | .fst::_,.snd::_,e,_=>by simp[fV] at e
 | .snd::_,.idx _::_,e,_ | .snd::_,.deref::_,e,_ | .snd::_,.fst::_,e,_=>by simp[fV] at e
theorem xr {p q:Path}:∀ {l:List Path},q∈(dH p l).2→q∈l
 |[],h=>h
 |x::r,h=>by
  simp only[dH] at h
  cases ha:fV p x with
  |true=>rw[ha] at h;exact List.mem_cons_of_mem _ h
  |false=>
   rw[ha] at h
   simp only[cond_false,List.mem_cons] at h
   rcases h with h |h
   ·rw[h];exact List.mem_cons_self
   ·exact List.mem_cons_of_mem _ (xr h)
theorem ur {p q:Path}:∀ {l:List Path},(dH p l).1=true→(∀ q',q≠p++q')→q∈l→q∈(dH p l).2
 |[],_,_,h=>h
 |x::r,hc,hn,h=>by
  simp only[dH] at hc ⊢
  cases ha:fV p x with
  |true=>
   rw[ha] at hc
   simp only[cond_true] at hc ⊢
   rcases List.mem_cons.1 h with h |h
   ·subst h
    exact absurd ((xq p q ha hc).trans (List.append_nil p).symm) (hn [])
   ·exact h
  |false=>
   rw[ha] at hc
   simp only[cond_false] at hc ⊢
   rcases List.mem_cons.1 h with h |h
   ·rw[h];exact List.mem_cons_self
   ·exact List.mem_cons_of_mem _ (ur hc hn h)
theorem abB (hT:cM P Θ=true) (h:aW σ w0 W0 Z H S a w) {o:Oper} {T:TypeId} {x y:Operand} (ho:o.op=.store T x y) (m5:o.dst=none) (e:lF Θ S T x y=some (true,S')):IQ P w0 W0 Z H S' a o.dst w (execOp a.eval o):=by
 unfold lF at e
 split at e
 case h_2=>cases e
 rename_i av dG
 split at e
 case h_2=>cases e
 rename_i t s p awB
 unfold St.take at e
 split at e
 case h_2=>cases e
 rename_i b S1 hb
 split at hb
 case h_2=>cases hb
 rename_i av2 Rj
 cases hc:Θ.is T b.t with
 |false=>rw[hc] at e;cases e
 |true=>
 rw[hc] at e
 simp only[cond_true] at e
 split at e
 case h_2=>cases e
 rename_i r ex hs1
 split at e
 case h_2=>cases e
 rename_i m z nR
 cases hex:ex.all (fun q=>!under q p) with
 |false=>rw[hex] at e;cases e
 |true=>
 rw[hex] at e
 simp only[cond_true,Option.some.injEq,Prod.mk.injEq] at e
 obtain⟨hds,e⟩:=e
 have xt:open_ p ex:=eM (fun q hq=>by simpa using List.all_eq_true.1 hex q hq)
 obtain⟨r0,ex0,q1,q2⟩:=rX h dG awB
 obtain⟨bF,cs,ow,h1,hm,hM,hk,hn⟩:=eN h Rj hb
 obtain⟨axn,q3,q4⟩:=take_at hb hs1
 rw[q1] at q3
 injection q3 with q3 q3'
 subst q3 q3'
 obtain⟨cL,g,off,hr,nY,hx⟩:=q2 (fun q hq=>xt q (q4 q hq))
 obtain⟨b0,hb0,zP⟩:=hr.get
 -- the slot,behind the take
 have hh:=h1.holds s
 rw[hs1] at hh
 obtain⟨auL,YE,MD⟩:=hh
 obtain rfl:=eL hr.mat YE
 have GZ:s<S1.length:=eA (by rw[hs1];exact fun e=>by cases e)
 obtain⟨cI,cA,c1,c2,c3,kQ⟩:=zO p MD xt hr.val hb0
 have fw:b.t=b0.t:=tq p nR hb0
 obtain⟨py,kQ⟩:=kQ b (m,z) fw nR
 have hpm:aI p=false:=by
  cases hp:aI p with
  |false=>rfl
  |true=>rw[ep p hp] at nY;cases nY
 -- the address is the same: the world is
 have abC:addrAt w p r0.t cL none=some (g,off):=nY
 obtain⟨eG,rq,cur,T',hw,hbound,_⟩:=py g off abC
 obtain⟨hlen,aih⟩:=eH _ hM
 have w6:off+cs.length≤cur.size:=by rw[hlen,fw];exact hbound
 have b7:=YD (P:=P) (w:=w) hT hc hm hlen aih hw w6
 have xu:∀ g',ow g'→bF g'≠some s:=fun g' bd e'=>by
  obtain⟨i,hi,mY⟩:=hk.now g' bd
  rw[e'] at mY
  injection mY with mY
  omega
 let dS:Nat→Option Nat:=fun g'=>open Classical in if ow g' then some s else bF g'
 have M3:∀ g' i,dS g'=some i→(ow g'∧i=s)∨(¬ow g'∧bF g'=some i):=fun g' i bd=>by
  simp only[dS] at bd
  split at bd
  ·injection bd with bd;exact .inl ⟨by assumption,bd.symm⟩
  ·exact .inr ⟨by assumption,bd⟩
 have HP:∀ g' i,¬ow g'→bF g'=some i→dS g'=some i:=fun g' i hn bd=>by simp only[dS,if_neg hn,bd]
 have aii:∀ g',Av dS Z g'→Av bF Z g':=fun g' bd=>by
  rcases bd with⟨i,bd⟩ |bd
  ·rcases M3 g' i bd with⟨hx,_⟩ |⟨_,hx⟩
   ·obtain⟨j,_,hj⟩:=hk.now g' hx
    exact .inl ⟨j,hj⟩
   ·exact .inl ⟨i,hx⟩
  ·exact .inr bd
 have gd:∀ k,k≠g→(w.setRow g (putCells cur.toList off cs).toArray).heap[k]?=w.heap[k]?:=fun k hk=>setRow_other w g k _ hk
 have bO:aO w (w.setRow g (putCells cur.toList off cs).toArray) (Av bF Z) (Av dS Z):=⟨fun k hk _=>gd k (fun e'=>hk (by rw[e'];exact .inl ⟨s,eG⟩)),fun k _ hk=>aii k hk⟩
 have hMb:M (w.setRow g (putCells cur.toList off cs).toArray) (Av dS Z) H b.t b.m b.x cs ow (w5 p (dH p (ex.filter fun q=>!pre p q)).2):=by
  refine aH ⟨fun k fo _=>gd k (fun e'=>fo (by rw[e'];exact hk.Av.1 (.inl ⟨s,eG⟩))),fun k _ fo=>hk.Av.1 (aii k fo)⟩ _ (fun k fo _=>gd k (fun e'=>xu k fo (by rw[e'];exact eG))) (fun k fo _=>fo) (fun _ h=>by simp at h) hM
 have Et:=kQ (w.setRow g (putCells cur.toList off cs).toArray) (Av dS Z) cs ow (dH p (ex.filter fun q=>!pre p q)).2 bO (by rw[hlen,fw]) (fun k QN QK _=>by
   rw[abC]
   simp only[ll]
   split
   ·rename_i hkg
    subst hkg
    exact⟨cur,T',hw,setRow_heap w k cur _ T' (0,0) hw⟩
   ·rename_i hkg
    exact gd k hkg) hMb (fun k QN _ QK=>absurd QK (xu k QN)) (fun q hq1 HB=>by
   refine ur hds hq1 (List.mem_filter.2 ⟨HB,?_⟩)
   cases hp:pre p q with
   |false=>rfl
   |true=>
    obtain⟨q',rfl⟩:=IU p q hp
    exact absurd rfl (hq1 q'))
 rw[jZ p hpm] at Et
 have aoT:M (w.setRow g (putCells cur.toList off cs).toArray) (Av dS Z) H r0.t m z cL (fun g'=>dS g'=some s) (dH p (ex.filter fun q=>!pre p q)).2:=by
  refine aH (aO.refl _ _) _ (fun _ _ _=>rfl) (fun k fo _=>?_) (fun _ h=>h) Et
  rcases fo with⟨k1,_⟩ |k1
  ·exact HP k s (fun hx=>xu k hx k1) k1
  ·simp only[dS,if_pos k1]
 refine⟨w.setRow g (putCells cur.toList off cs).toArray,undef,.inr ⟨rfl,?_⟩,dS,?_⟩
 ·simp only[execOp,ho,hx,Sem.run_bind,b7,Result.andThen_ok]
  rfl
 ·rw[m5]
  show aW dS w0 W0 Z H S' a (w.setRow g (putCells cur.toList off cs).toArray)
  have auM:((S1.weaken s).set s (.v ⟨r0.t,m,z⟩ (dH p (ex.filter fun q=>!pre p q)).2)).length=S1.length:=by simp[St.weaken]
  have dx:∀ i,S'.at i=if i=s then .v ⟨r0.t,m,z⟩ (dH p (ex.filter fun q=>!pre p q)).2 else bif (S1.at i).eU s then .dead else S1.at i:=by
   intro i
   rw[←e,cN]
   by_cases hi:i=s
   ·rw[if_pos hi,if_pos ⟨hi,by simp[St.weaken];exact GZ⟩]
   ·rw[if_neg hi,if_neg (fun h=>hi h.1),ke]
  refine⟨by rw[←e,auM];exact h1.len,h1.defers,h1.fr.setRow (h1.new g s eG),fun g' i bd=>?_,fun g' i bd=>?_,fun g' bd=>⟨?_,(h1.old g' bd).2⟩,fun i=>?_⟩
  ·rcases M3 g' i bd with⟨hx,_⟩ |⟨_,hx⟩
   ·obtain⟨j,_,hj⟩:=hk.now g' hx
    exact h1.new g' j hj
   ·exact h1.new g' i hx
  ·rw[setRow_size]
   rcases M3 g' i bd with⟨hx,_⟩ |⟨_,hx⟩
   ·obtain⟨j,_,hj⟩:=hk.now g' hx
    exact h1.lt g' j hj
   ·exact h1.lt g' i hx
  ·have:=(h1.old g' bd).1
   simp only[dS]
   split
   ·rename_i hx
    obtain⟨j,_,hj⟩:=hk.now g' hx
    rw[this] at hj
    cases hj
   ·exact this
  ·rw[dx i]
   by_cases QM:i=s
   ·subst QM
    rw[if_pos rfl]
    exact⟨cL,hr.mat,aoT⟩
   ·rw[if_neg QM]
    by_cases Hv:i<S1.length
    rotate_left
    ·have:S1.at i=.dead:=Classical.byContradiction fun hx=>Hv (eA hx)
     rw[this]
     trivial
    cases qW:(S1.at i).eU s with
    |true=>trivial
    |false=>
     simp only[cond_false]
     refine G8 (r:=r0) (r':=⟨r0.t,m,z⟩) (ex:=ex) (Dj:=(dH p (ex.filter fun q=>!pre p q)).2) bO rfl hs1 (by rw[dx s,if_pos rfl]) (fun j r1 ex1 hj hv=>by rw[dx j,if_neg hj,hv];simp[AV.eU]) ⟨cL,_,hr.mat,aoT⟩ (fun q hq=>(List.mem_filter.1 (xr hq)).1)
      (fun q hq hv=>u7 q p nR hpm hq hv) (fun q b1 hq=>abA q p nR hq m) (fun j hj=>⟨_,h1.holds j,fun g' bd _=>gd g' (fun e'=>by subst e';rw[eG] at bd;injection bd with bd;exact hj bd.symm)⟩)
      (fun g' bd _=>⟨gd g' (fun e'=>by subst e';rw[eG] at bd;injection bd with bd;exact QM bd.symm),HP g' i (fun hx=>?_) bd⟩) qW (h1.holds i)
     obtain⟨j,GV,pg⟩:=hk.now g' hx
     rw[bd] at pg
     injection pg with pg
     omega
end Go.Pv
namespace Go.Pv
set_option linter.unusedVariables false
set_option linter.unusedSimpArgs false
variable {P:Program} {w w':World} {A A' Wr:Nat→Prop} {H:Nat→Value} {tm rC:Nat→Value} {S S' S1:St} {σ bF dS:Nat→Option Nat} {w0:World} {W0 Z:Nat→Prop} {a:Act} {own:Nat→Prop} {v:Value} {Θ:da} {dst:Option Nat}
theorem M4 (off:Nat):∀ (l:List Value) (k:Nat) (cells:Array Value),off+k+l.length≤cells.size→
  ((l.zipIdx k).foldl (fun(cs:Array Value) (x:Value×Nat)=>cs.setIfInBounds (off+x.2) x.1) cells).toList=putCells cells.toList (off+k) l
 |[],k,cells,h=>by simp[putCells]
 |c::l,k,cells,h=>by
  simp only[List.zipIdx_cons,List.foldl_cons]
  simp only[List.length_cons] at h
  rw[M4 off l (k+1) (cells.setIfInBounds (off+k) c) (by simp;omega)]
  have h1:off+k<cells.toList.length:=by simp;omega
  apply List.ext_getElem?
  intro j
  rw[iu _ _ _ _ (by simp;omega),iu _ _ _ _ (by simp;omega)]
  simp only[Array.toList_setIfInBounds,List.length_cons]
  by_cases hj:j<off+k
  ·rw[if_pos (by omega),if_pos hj,List.getElem?_set_ne (by omega)]
  ·by_cases pg:j=off+k
   ·subst pg
    rw[if_pos (by omega),if_neg (by omega),if_pos (by omega),List.getElem?_set_self h1]
    simp
   ·by_cases hj3:j<off+k+1+l.length
    ·rw[if_neg (by omega),if_pos (by omega),if_neg (by omega),if_pos (by omega),show j - (off+k)=(j - (off+(k+1)))+1 from by omega]
     simp
    ·rw[if_neg (by omega),if_neg (by omega),if_neg (by omega),if_neg (by omega),List.getElem?_set_ne (by omega)]
def oo (cD:List (List Value)) (i:Nat):Nat:=((cD.take i).map List.length).sum
theorem pJ (cD:List (List Value)) (i:Nat) (h:i<cD.length):cD.flatten=(cD.take i).flatten++(cD[i]++(cD.drop (i+1)).flatten):=by
 conv=>lhs;rw[←List.take_append_drop i cD]
 rw[List.flatten_append,List.drop_eq_getElem_cons h,List.flatten_cons]
theorem Eu (cD:List (List Value)) (i:Nat):(cD.take i).flatten.length=oo cD i:=by simp[oo,List.length_flatten]
theorem aij (cD:List (List Value)) (i:Nat) (c:List Value) (h:i<cD.length) (hc:c.length=cD[i].length):putCells cD.flatten (oo cD i) c=(cD.set i c).flatten:=by
 have e1:=pJ cD i h
 have e2:=pJ (cD.set i c) i (by simpa using h)
 rw[e2]
 simp only[List.getElem_set_self]
 rw[List.take_set_of_le (by omega),List.drop_set_of_lt (by omega)]
 have hd:cD.flatten.drop (oo cD i+c.length)=(cD.drop (i+1)).flatten:=by
  rw[e1,←Eu,hc,←List.append_assoc,←List.length_append,List.drop_left]
 have ht:cD.flatten.take (oo cD i)=(cD.take i).flatten:=by
  rw[e1,←Eu,List.take_left]
 unfold putCells
 rw[hd,ht,List.append_assoc]
theorem abD (cD:List (List Value)) (i j:Nat) (c:List Value) (h:i<cD.length) (hc:c.length=cD[i].length):oo (cD.set i c) j=oo cD j:=by
 unfold oo
 congr 1
 apply List.ext_getElem?
 intro k
 simp only[List.getElem?_map,List.getElem?_take,List.getElem?_set]
 split
 ·by_cases hk:i=k
  ·subst hk
   simp[h,hc]
  ·simp[hk]
 ·rfl
theorem abE (cD:List (List Value)) (i:Nat) (h:i<cD.length):oo cD i+cD[i].length≤cD.flatten.length:=by
 rw[pJ cD i h,List.length_append,List.length_append,Eu]
 omega
def M5 (f:Nat→Option (List Value)) (cD:List (List Value)):List (List Value):=cD.mapIdx fun i c=>(f i).getD c
theorem HQ (place:Nat→Option (Nat×Nat)):∀ (parts:List (Nat×Value)) (cD:List (List Value)),(∀ i (h:i<cD.length),place i=some (oo cD i,cD[i].length))→
  (∀ q∈parts,∃ h:q.1<cD.length,q.2.cells.size=cD[q.1].length)→(parts.map (·.1)).Nodup→
  Instr.fill place cD.flatten.toArray parts=some (M5 (fun i=>(parts.find? (fun q=>Nat.beq q.1 i)).map (·.2.cells.toList)) cD).flatten.toArray
 |[],cD,_,_,_=>by
  have:M5 (fun i=>(([]:List (Nat×Value)).find? (fun q=>Nat.beq q.1 i)).map (·.2.cells.toList)) cD=cD:=by
   unfold M5
   apply List.ext_getElem?
   intro k
   simp[List.getElem?_mapIdx]
  rw[this];rfl
 |(i,v)::rest,cD,hp,hs,hn=>by
  obtain⟨hi,hv⟩:=hs (i,v) (by simp)
  simp only at hi hv
  have w6:=abE cD i hi
  simp only[Instr.fill,hp i hi]
  have auN:=w6
  rw[List.length_flatten] at auN
  rw[if_neg (by simp[hv];omega)]
  have hlen:v.cells.toList.length=cD[i].length:=by simpa using hv
  have auO:v.cells.zipIdx.foldl (fun cs (x:Value×Nat)=>cs.setIfInBounds (oo cD i+x.2) x.1) cD.flatten.toArray=(cD.set i v.cells.toList).flatten.toArray:=by
   have:=M4 (oo cD i) v.cells.toList 0 cD.flatten.toArray (by simp only[hlen,List.size_toArray];omega)
   rw[←aij cD i v.cells.toList hi hlen]
   apply Array.toList_inj.1
   rw[←Array.foldl_toList,Array.toList_zipIdx]
   simpa using this
  simp only[List.map_cons,List.nodup_cons] at hn
  have nR:∀ (k:Nat) (hk:k<(cD.set i v.cells.toList).length),(cD.set i v.cells.toList)[k].length=(cD[k]'(by simpa using hk)).length:=by
   intro k hk
   rw[List.getElem_set]
   split
   ·rename_i e;subst e;exact hlen
   ·rfl
  have ih:=HQ place rest (cD.set i v.cells.toList) (fun k hk=>by rw[abD cD i k _ hi hlen,nR k hk];exact hp k (by simpa using hk)) (fun q hq=>by
   obtain⟨h1,h2⟩:=hs q (by simp[hq])
   exact⟨by simpa using h1,by rw[nR];exact h2⟩) hn.2
  refine(congrArg (fun c=>Instr.fill place c rest) auO).trans (ih.trans ?_)
  congr 3
  unfold M5
  apply List.ext_getElem?
  intro k
  simp only[List.getElem?_mapIdx,List.getElem?_set]
  by_cases hk:i=k
  ·subst hk
   have:rest.find? (fun q=>Nat.beq q.1 i)=none:=List.find?_eq_none.2 fun q hq e=>hn.1 (List.mem_map.2 ⟨q,hq,Nat.eq_of_beq_eq_true e⟩)
   simp[hi,this]
  ·have:Nat.beq i k=false:=by
    cases hb:Nat.beq i k with
    |false=>rfl
    |true=>exact absurd (Nat.eq_of_beq_eq_true hb) hk
   simp[hk,this]
end Go.Pv
namespace Go.Pv
set_option linter.unusedVariables false
set_option linter.unusedSimpArgs false
variable {P:Program} {w w':World} {A A' Wr:Nat→Prop} {H:Nat→Value} {tm rC:Nat→Value} {S S' S1:St} {σ bF dS:Nat→Option Nat} {w0:World} {W0 Z:Nat→Prop} {a:Act} {own:Nat→Prop} {v:Value} {Θ:da} {dst:Option Nat}
theorem gm.trans {n:Nat} {ow1 pH:Nat→Prop} (h1:gm σ bF n ow1) (h2:gm bF dS n pH):gm σ dS n (fun g=>ow1 g∨pH g):=by
 refine⟨fun g hg=>?_,fun g hg=>?_,fun g i hg hi=>h1.sub g i (h2.sub g i hg hi) hi,fun g=>(h2.dom g).trans (h1.dom g),fun g i hg hi=>h2.par g i (h1.par g i hg hi) hi⟩
 ·rcases hg with hg |hg
  ·exact h1.MZ g hg
  ·obtain⟨i,hi,mY⟩:=h2.MZ g hg
   exact⟨i,hi,h1.sub g i mY hi⟩
 ·rcases hg with hg |hg
  ·obtain⟨i,hi,mY⟩:=h1.now g hg
   exact⟨i,hi,h2.par g i mY hi⟩
  ·exact h2.now g hg
theorem gm.apart {n:Nat} {ow1 pH:Nat→Prop} (h1:gm σ bF n ow1) (h2:gm bF dS n pH) {g:Nat} (hg:ow1 g): ¬pH g:=fun rq=>by
 obtain⟨i,hi,mY⟩:=h1.now g hg
 obtain⟨j,hj,pg⟩:=h2.MZ g rq
 rw[mY] at pg
 injection pg with pg
 omega
theorem my:∀ (t:Ty),(zc t).length=t.size
 | .int _=>rfl | .bool=>rfl | .str=>rfl | .sl _=>rfl | .ptr _=>rfl | .unit=>rfl
 | .pair a b=>by simp[zc,Ty.size,my a,my b]
 | .arr n t=>by simp[zc,Ty.size,List.length_flatten,my t]
theorem pK (hT:cM P Θ=true) (ps:List (Nat×Operand)):∀ (Ts:List TypeId) (j:Nat) {S S1:St} {σ:Nat→Option Nat} {l:List TV},aW σ w0 W0 Z H S a w→S.parts Θ ps Ts j=some (l,S1)→
  ∃ (bF:Nat→Option Nat) (ow:Nat→Prop) (τ:Nat→Nat) (eT:List (List Value)),aW bF w0 W0 Z H S1 a w∧S1.length=S.length∧gm σ bF S.length ow∧eT.length=l.length∧l.length=Ts.length∧(∀ g,ow g→j≤τ g)∧
   ∀ (k:Nat) (b:TV),l[k]?=some b→∃ cs,eT[k]?=some cs∧M w (Av σ Z) H b.t b.m b.x cs (fun g=>ow g∧τ g=j+k) []∧
    ((∃ q,ps.find? (fun q=>Nat.beq q.1 (j+k))=some q∧an b.t (a.eval q.2) cs)∨(ps.find? (fun q=>Nat.beq q.1 (j+k))=none∧cs=zc b.t))
 |[],j,S,S1,σ,l,h,e=>by
  simp only[St.parts,Option.some.injEq,Prod.mk.injEq] at e
  obtain⟨rfl,rfl⟩:=e
  exact⟨σ,fun _=>False,fun _=>j,[],h,rfl,gm.none _ _,rfl,rfl,fun _ h=>h.elim,fun k b hk=>by simp at hk⟩
 |T::Ts,j,S,S1,σ,l,h,e=>by
  simp only[St.parts] at e
  split at e
  ·rename_i q hq
   unfold St.take at e
   split at e
   case h_2=>cases e
   rename_i b S2 hb
   split at hb
   case h_2=>cases hb
   rename_i av dG
   split at e
   case h_2=>cases e
   rename_i l2 S3 hl2
   simp only[Option.some.injEq,Prod.mk.injEq] at e
   obtain⟨rfl,rfl⟩:=e
   obtain⟨bF,cs,ow,h1,hm,hM,hk,hn⟩:=eN h dG hb
   obtain⟨dS,pH,τ,eT,r1,r2,r3,r4,r5,r6,r7⟩:=pK hT ps Ts (j+1) h1 hl2
   rw[hn] at r3
   have Rk:∀ g,ow g→¬pH g:=fun g hg=>hk.apart r3 hg
   let Vg:Nat→Nat:=fun g=>open Classical in if ow g then j else τ g
   refine⟨dS,fun g=>ow g∨pH g,Vg,cs::eT,r1,by omega,hk.trans r3,by simp[r4],by simp[r5],fun g hg=>?_,fun k b' fo=>?_⟩
   ·simp only[Vg]
    split
    ·exact Nat.le_refl _
    ·rename_i hx
     have:=r6 g (hg.resolve_left hx)
     omega
   ·cases k with
    |zero=>
     simp only[List.getElem?_cons_zero,Option.some.injEq] at fo
     subst fo
     refine⟨cs,rfl,aH (aO.refl _ _) _ (fun _ _ _=>rfl) (fun g hg _=>⟨.inl hg,by simp only[Vg,if_pos hg,Nat.add_zero]⟩) (fun _ h=>h) hM,.inl ⟨q,hq,hm⟩⟩
    |succ k=>
     simp only[List.getElem?_cons_succ] at fo ⊢
     obtain⟨c2,d1,d2,d3⟩:=r7 k b' fo
     refine⟨c2,d1,aH ⟨fun _ _ _=>rfl,fun g _ hg=>hk.Av.2 hg⟩ _ (fun _ _ _=>rfl) (fun g hg _=>⟨.inr hg.1,?_⟩) (fun _ h=>h) d2,by rw[show j+(k+1)=j+1+k from by omega];exact d3⟩
     simp only[Vg]
     rw[if_neg (fun hx=>Rk g hx hg.1),hg.2]
     omega
  ·rename_i hq
   split at e
   case h_2=>cases e
   rename_i b hb
   split at e
   case h_2=>cases e
   rename_i l2 S3 hl2
   simp only[Option.some.injEq,Prod.mk.injEq] at e
   obtain⟨rfl,rfl⟩:=e
   obtain⟨i,inf,zv,_,_,hx,w6,_⟩:=Ag hT hb
   obtain⟨dS,pH,τ,eT,r1,r2,r3,r4,r5,r6,r7⟩:=pK hT ps Ts (j+1) h hl2
   refine⟨dS,pH,τ,zc b.t::eT,r1,r2,r3,by simp[r4],by simp[r5],fun g hg=>by have:=r6 g hg;omega,fun k b' fo=>?_⟩
   cases k with
   |zero=>
    simp only[List.getElem?_cons_zero,Option.some.injEq] at fo
    subst fo
    refine⟨_,rfl,IT ?_,.inr ⟨hq,rfl⟩⟩
    rw[hx]
    exact Es _ w6
   |succ k=>
    simp only[List.getElem?_cons_succ] at fo ⊢
    obtain⟨c2,d1,d2,d3⟩:=r7 k b' fo
    exact⟨c2,d1,aH (aO.refl _ _) _ (fun _ _ _=>rfl) (fun g hg _=>⟨hg.1,by rw[hg.2];omega⟩) (fun _ h=>h) d2,by rw[show j+(k+1)=j+1+k from by omega];exact d3⟩
theorem Ev {ps:List (Nat×Operand)} {l:List TV} {eT:List (List Value)} {place:Nat→Option (Nat×Nat)} (hl:eT.length=l.length) (U9:kC l.length ps=true)
  (hlen:∀ (k:Nat) (b:TV) (cs:List Value),l[k]?=some b→eT[k]?=some cs→cs.length=b.t.size∧∀ u∈cs,u.oneCell'=true)
  (gP:∀ (k:Nat) (b:TV),l[k]?=some b→∃ cs,eT[k]?=some cs∧((∃ q,ps.find? (fun q=>Nat.beq q.1 k)=some q∧an b.t (a.eval q.2) cs)∨(ps.find? (fun q=>Nat.beq q.1 k)=none∧cs=zc b.t)))
  (auP:∀ i (h:i<l.length),place i=some (oo (l.map fun b=>zc b.t) i,l[i].t.size)):
  Instr.fill place (l.map fun b=>zc b.t).flatten.toArray (ps.map fun q=>(q.1,a.eval q.2))=some eT.flatten.toArray:=by
 have hp:∀ {n:Nat} {ps:List (Nat×Operand)},kC n ps=true→(∀ q∈ps,q.1<n)∧(ps.map (·.1)).Nodup:=by
  intro n ps
  induction ps with
  |nil=>intro _;exact⟨fun _ h=>by simp at h,by simp⟩
  |cons q r ih=>
   intro h
   simp only[kC,Bool.and_eq_true] at h
   obtain⟨⟨h1,h2⟩,h3⟩:=h
   obtain⟨i1,i2⟩:=ih h3
   refine⟨fun q' rv=>?_,?_⟩
   ·rcases List.mem_cons.1 rv with rfl |rv
    ·exact Nat.lt_of_succ_le (Nat.le_of_ble_eq_true h1)
    ·exact i1 q' rv
   ·simp only[List.map_cons,List.nodup_cons]
    refine⟨fun hm=>?_,i2⟩
    obtain⟨q',rv,e⟩:=List.mem_map.1 hm
    have:(r.any fun q'=>Nat.beq q'.1 q.1)=true:=List.any_eq_true.2 ⟨q',rv,by rw[e];exact Nat.beq_refl _⟩
    rw[this] at h2
    cases h2
 obtain⟨cf,MG⟩:=hp U9
 have eS:∀ i (h:i<l.length),l[i]?=some l[i]:=fun i h=>List.getElem?_eq_getElem h
 have abw:∀ (i:Nat) (q:Nat×Operand),q∈ps→q.1=i→ps.find? (fun q=>Nat.beq q.1 i)=some q:=by
  intro i q hq hi
  subst hi
  clear gP hlen auP U9 cf
  induction ps with
  |nil=>simp at hq
  |cons q' r ih=>
   simp only[List.map_cons,List.nodup_cons] at MG
   rcases List.mem_cons.1 hq with rfl |hq
   ·simp
   ·have:Nat.beq q'.1 q.1=false:=by
     cases hb:Nat.beq q'.1 q.1 with
     |false=>rfl
     |true=>exact absurd (List.mem_map.2 ⟨q,hq,(Nat.eq_of_beq_eq_true hb).symm⟩) MG.1
    rw[List.find?_cons,this]
    exact ih MG.2 hq
 rw[HQ place _ (l.map fun b=>zc b.t) (fun i h=>by
   rw[auP i (by simpa using h)]
   simp[my]) (fun q hq=>by
   obtain⟨q0,hq0,rfl⟩:=List.mem_map.1 hq
   have hi:=cf q0 hq0
   refine⟨by simpa using hi,?_⟩
   obtain⟨cs,h1,h2⟩:=gP q0.1 _ (eS q0.1 hi)
   obtain⟨h3,h4⟩:=hlen _ _ _ (eS q0.1 hi) h1
   rcases h2 with⟨q,rv,hm⟩ |⟨rv,_⟩
   ·rw[abw q0.1 q0 hq0 rfl] at rv
    injection rv with rv
    subst rv
    rw[iG hm h4]
    simp[h3,my]
   ·rw[abw q0.1 q0 hq0 rfl] at rv;cases rv) (by simpa[List.map_map,Function.comp_def] using MG)]
 congr 3
 unfold M5
 apply List.ext_getElem?
 intro k
 rw[List.getElem?_mapIdx]
 by_cases hk:k<l.length
 ·simp only[List.getElem?_map,eS k hk,Option.map_some]
  obtain⟨cs,h1,h2⟩:=gP k _ (eS k hk)
  obtain⟨h3,h4⟩:=hlen _ _ _ (eS k hk) h1
  rw[h1]
  rw[List.find?_map]
  simp only[Function.comp_def]
  rcases h2 with⟨q,rv,hm⟩ |⟨rv,he⟩
  ·rw[rv]
   simp only[Option.map_some,Option.getD_some]
   rw[iG hm h4]
  ·rw[rv]
   simp[he]
 ·rw[List.getElem?_eq_none (by simpa using hk),List.getElem?_eq_none (by omega)]
  rfl
end Go.Pv
namespace Go.Pv
set_option linter.unusedVariables false
set_option linter.unusedSimpArgs false
variable {P:Program} {w w':World} {A A' Wr:Nat→Prop} {H:Nat→Value} {tm rC:Nat→Value} {S S' S1:St} {σ bF dS:Nat→Option Nat} {w0:World} {W0 Z:Nat→Prop} {a:Act} {own:Nat→Prop} {v:Value} {Θ:da} {dst:Option Nat}
theorem aoU {ow:Nat→Prop} {τ:Nat→Nat}:∀ (l:List TV) (eT:List (List Value)) (j:Nat),eT.length=l.length→
  (∀ (k:Nat) (b:TV),l[k]?=some b→∃ cs,eT[k]?=some cs∧M w A H b.t b.m b.x cs (fun g=>ow g∧τ g=j+k) [])→
  M w A H (GU l).t (GU l).m (GU l).x eT.flatten (fun g=>ow g∧j≤τ g) []
 |[],eT,j,hl,_=>by
  obtain rfl:eT=[]:=List.eq_nil_of_length_eq_zero (by simpa using hl)
  simp[GU,M,K,Md.bH]
 |[a],eT,j,hl,h=>by
  obtain⟨cs,h1,h2⟩:=h 0 a rfl
  match eT,hl with
  |[c],_=>
   simp only[List.getElem?_cons_zero,Option.some.injEq] at h1
   subst h1
   simp only[GU,List.flatten_cons,List.flatten_nil,List.append_nil]
   exact aH (aO.refl _ _) _ (fun _ _ _=>rfl) (fun g hg _=>⟨hg.1,by rw[hg.2];omega⟩) (fun _ h=>h) h2
 |a::b::r,eT,j,hl,h=>by
  match eT,hl with
  |c::cs,hl=>
   obtain⟨c',h1,h2⟩:=h 0 a rfl
   simp only[List.getElem?_cons_zero,Option.some.injEq] at h1
   subst h1
   have ih:=aoU (ow:=ow) (τ:=τ) (b::r) cs (j+1) (by simpa using hl) (fun k b' hk=>by
    obtain⟨c',h1,h2⟩:=h (k+1) b' (by simpa using hk)
    exact⟨c',by simpa using h1,aH (aO.refl _ _) _ (fun _ _ _=>rfl) (fun g hg _=>⟨hg.1,by rw[hg.2];omega⟩) (fun _ h=>h) h2⟩)
   simp only[GU,List.flatten_cons]
   refine w4 (s:=fun g=>τ g=j) ?_ ?_
   ·exact aH (aO.refl _ _) _ (fun _ _ _=>rfl) (fun g hg _=>⟨⟨hg.1,by rw[hg.2];omega⟩,by rw[hg.2];rfl⟩) (fun _ h=>by simp at h) h2
   ·exact aH (aO.refl _ _) _ (fun _ _ _=>rfl) (fun g hg _=>⟨⟨hg.1,by omega⟩,by omega⟩) (fun _ h=>by simp at h) ih
theorem Rl {ow:Nat→Prop} {τ:Nat→Nat} {l:List TV} {eT:List (List Value)} (hl:eT.length=l.length)
  (h:∀ (k:Nat) (b:TV),l[k]?=some b→∃ cs,eT[k]?=some cs∧M w A H b.t b.m b.x cs (fun g=>ow g∧τ g=0+k) []):
  M w A H (dJ l).t (dJ l).m (dJ l).x eT.flatten ow []:=by
 have h0:=aoU (ow:=ow) (τ:=τ) l eT 0 hl h
 have h1:M w A H (GU l).t (GU l).m (GU l).x eT.flatten ow []:=aH (aO.refl _ _) _ (fun _ _ _=>rfl) (fun g hg _=>hg.1) (fun _ h=>h) h0
 cases l with
 |nil=>exact h1
 |cons a r=>
  cases r with
  |cons b r=>exact h1
  |nil=>
   have:M w A H (.pair a.t .unit) (mkM a.m .k) (a.x,()) (eT.flatten++[]) ow []:=w4 (s:=fun _=>True) (aH (aO.refl _ _) _ (fun _ _ _=>rfl) (fun g hg _=>⟨hg,trivial⟩) (fun _ h=>by simp at h) h1) (by simp[M,K,Md.bH])
   rw[List.append_nil] at this
   exact this
theorem Vh:∀ (l:List TV) (k:Nat) (h:k<l.length),gl (if k+1=l.length then List.replicate k .snd else List.replicate k .snd++[.fst]) (GU l).t=some l[k].t∧
  aK (if k+1=l.length then List.replicate k .snd else List.replicate k .snd++[.fst]) (GU l).t=oo (l.map fun b=>zc b.t) k
 |[a],k,h=>by
  obtain rfl:k=0:=by simpa using h
  simp[GU,gl,aK,oo]
 |a::b::r,0,h=>by simp[GU,gl,aK,oo]
 |a::b::r,k+1,h=>by
  obtain⟨h1,h2⟩:=Vh (b::r) k (by simpa using h)
  have e:(if k+1+1=(a::b::r).length then List.replicate (k+1) Step.snd else List.replicate (k+1) .snd++[.fst])=.snd::(if k+1=(b::r).length then List.replicate k Step.snd else List.replicate k .snd++[.fst]):=by
   simp only[List.length_cons]
   by_cases hk:k=r.length
   ·rw[if_pos (by omega),if_pos (by omega)];rfl
   ·rw[if_neg (by omega),if_neg (by omega)];rfl
  rw[e]
  simp only[GU,gl,aK]
  refine⟨h1,?_⟩
  rw[h2]
  simp only[List.map_cons,oo,List.take_succ_cons,List.map_cons,List.sum_cons,my]
theorem IV (l:List TV) (k:Nat) (h:k<l.length):gl (m7 k l.length) (dJ l).t=some l[k].t∧aK (m7 k l.length) (dJ l).t=oo (l.map fun b=>zc b.t) k:=by
 match l,h with
 |[a],h=>
  obtain rfl:k=0:=by simpa using h
  simp[dJ,m7,gl,aK,oo]
 |a::b::r,h=>
  have:=Vh (a::b::r) k h
  have e:m7 k (a::b::r).length=if k+1=(a::b::r).length then List.replicate k .snd else List.replicate k .snd++[.fst]:=by
   unfold m7
   by_cases hk:k+1=(a::b::r).length
   ·have h1:Nat.beq (k+1) (a::b::r).length=true:=by rw[←hk];exact Nat.beq_refl _
    rw[if_pos hk,h1]
    have:Nat.beq (a::b::r).length 1=false:=by
     simp only[List.length_cons]
     rfl
    rw[this]
    rfl
   ·rw[if_neg hk]
    have:Nat.beq (k+1) (a::b::r).length=false:=by
     cases hb:Nat.beq (k+1) (a::b::r).length with
     |false=>rfl
     |true=>exact absurd (Nat.eq_of_beq_eq_true hb) hk
    rw[this]
    rfl
  rw[e]
  exact this
theorem M6 (l:List TV):zc (dJ l).t=(l.map fun b=>zc b.t).flatten:=by
 have h:∀ l:List TV,zc (GU l).t=(l.map fun b=>zc b.t).flatten:=by
  intro l
  induction l with
  |nil=>simp[GU,zc]
  |cons a r ih=>
   cases r with
   |nil=>simp[GU]
   |cons b r=>simp only[GU,zc,List.map_cons,List.flatten_cons];rw[ih];simp
 unfold dJ
 split
 ·simp[zc]
 ·exact h l
theorem mapM_some {α β:Type} {g:α→Option β} {h:α→β}:∀ (l:List α),(∀ f∈l,g f=some (h f))→l.mapM g=some (l.map h)
 |[],_=>by simp
 |f::r,hf=>by
  rw[List.mapM_cons,hf f (by simp),mapM_some r fun f hf'=>hf f (by simp[hf'])]
  rfl
theorem abF (hT:cM P Θ=true) (h:aW σ w0 W0 Z H S a w) {o:Oper} {T:TypeId} {ps:Array (Nat×Operand)} (ho:o.op=.build T ps) (e:Dh Θ S o.dst T ps.toList=some (true,S')):gY P w0 W0 Z H S' a o.dst w (execOp a.eval o):=by
 unfold Dh at e
 split at e
 case h_2=>cases e
 rename_i i hi
 split at e
 case h_2=>cases e
 rename_i l S1 hl
 cases hc:(decide ((dJ l).t=i.ty)&&Dh.aa2 i.ty&&kC l.length ps.toList) with
 |false=>rw[hc] at e;cases e
 |true=>
 rw[hc] at e
 simp only[cond_true,Option.some.injEq,Prod.mk.injEq,true_and] at e
 simp only[Bool.and_eq_true,decide_eq_true_eq] at hc
 obtain⟨⟨fw,aoV⟩,U9⟩:=hc
 obtain⟨bF,ow,τ,eT,h1,hn,hk,iY,hll,hj,j8⟩:=pK hT ps.toList i.fs 0 h hl
 obtain⟨⟨_,inf,z,k1,k2,_,_,_,k3,k4⟩,hu,rfl⟩:=cO hT hi
 obtain⟨pa,pb,hpp⟩:∃ pa pb,i.ty=.pair pa pb:=by
  cases abG:i.ty<;>rw[abG] at aoV<;>first |exact⟨_,_,rfl⟩ |cases aoV
 obtain⟨fs,f1,f2,f3,_⟩:=mu hu hpp
 have B7:fs.toList.length=l.length:=by rw[hll,←f2,List.length_map]
 have hM:M w (Av σ Z) H (dJ l).t (dJ l).m (dJ l).x eT.flatten ow []:=Rl iY (fun k b hb=>by obtain⟨cs,c1,c2,_⟩:=j8 k b hb;exact⟨cs,c1,c2⟩)
 have aik:∀ f∈fs.toList,(P.info? f.type).map (fun i=>(f.offset,i.size))=some (f.offset,P.cellsOf f.type):=by
  intro f hf
  obtain⟨k,hk,rfl⟩:=List.mem_iff_getElem.1 hf
  obtain⟨t,_,ht,_⟩:=iQ f3 k _ (List.getElem?_eq_getElem hk)
  obtain⟨axo,i1,i2,i3⟩:=iy hT ht
  rw[i1,Option.map_some,i2,i3]
 have abH:=Ev (a:=a) (ps:=ps.toList) (l:=l) (eT:=eT) (place:=fun k=>(fs.toList.map fun f=>(f.offset,P.cellsOf f.type)).toArray[k]?) iY U9 (fun k b cs hb gP=>by
   obtain⟨cI,c1,c2,_⟩:=j8 k b hb
   rw[c1] at gP
   injection gP with gP
   subst gP
   exact eH _ c2) (fun k b hb=>by
   obtain⟨cI,c1,_,c3⟩:=j8 k b hb
   simp only[Nat.zero_add] at c3
   exact⟨cI,c1,c3⟩) (fun k hk=>by
   obtain⟨q1,q2⟩:=IV l k hk
   obtain⟨t,t1,t2,t3,_⟩:=iQ f3 k (fs.toList[k]'(by omega)) (List.getElem?_eq_getElem (by omega))
   have Yz:fs.size=l.length:=by rw[←B7,Array.length_toList]
   rw[Nat.zero_add,←fw,Yz] at t1 t3
   rw[q1] at t1
   injection t1 with t1
   subst t1
   obtain⟨_,_,_,c3⟩:=iy hT t2
   rw[q2] at t3
   simp only[List.getElem?_toArray,List.getElem?_map,List.getElem?_eq_getElem (show k<fs.toList.length by omega),Option.map_some,c3,t3])
 have aqr:P.built i.T (ps.map fun(j,x)=>(j,a.eval x)).toList=some eT.flatten.toArray:=by
  unfold Program.built
  have hz:z.cells=(l.map fun b=>zc b.t).flatten.toArray:=by
   rw[←M6,fw]
   have Q5:isAgg i.ty=true:=by rw[hpp];rfl
   unfold an at k4
   rw[if_pos Q5] at k4
   rw[k4]
   rfl
  rw[k1,f1]
  simp only[k3,mapM_some _ aik,hz]
  rw[Array.toList_map]
  exact abH
 have b7:=fun w=>run_build (P:=P) w i.T _ _ aqr
 rw[←e]
 refine oh (b:=dJ l) (cs:=eT.flatten) (v:=.agg eT.flatten.toArray) h1 hk hn (fun w2 _=>?_) ?_ hM
 ·simp only[execOp,ho,Sem.run_bind,b7 w2,Result.andThen_ok]
  rfl
 ·unfold an
  rw[if_pos (by rw[fw,hpp];rfl)]
end Go.Pv
namespace Go.Pv
set_option linter.unusedVariables false
set_option linter.unusedSimpArgs false
variable {P:Program} {w w':World} {A A' Wr:Nat→Prop} {H:Nat→Value} {tm rC:Nat→Value} {S S' S1:St} {σ bF dS:Nat→Option Nat} {w0:World} {W0 Z:Nat→Prop} {a:Act} {own:Nat→Prop} {v:Value} {Θ:da} {dst:Option Nat}
theorem M7 {s:Nat} (eT:List (List Value)) (h:∀ c∈eT,c.length=s) (j:Nat) (hj:j<eT.length):(eT.flatten.drop (j*s)).take s=eT[j]:=by
 have h1:(eT.take j).flatten.length=j*s:=by
  rw[kO s (fun c hc=>h c (List.mem_of_mem_take hc)),List.length_take,Nat.min_eq_left (by omega)]
 rw[pJ eT j hj,←h1,List.drop_left,←h (eT[j]) (List.getElem_mem hj),List.take_left]
theorem aoW {t:Ty} {m:Md} {xs:List t.I} {eT:List (List Value)} {ow:Nat→Prop} {τ:Nat→Nat} (e:TypeId) (hl:eT.length=xs.length)
  (hM:∀ (j:Nat) (hj:j<xs.length),M w A H t m xs[j] (eT[j]'(by omega)) (fun g=>ow g∧τ g=j) []) (cf:∀ g,ow g→g<w.heap.size) (auQ:xs.length≤maxLen):
  M (w.alloc (.cells eT.flatten.toArray e)) (fun g=>A g∨w.heap.size≤g) H (.sl t) (.o e none m) xs [.slice (some ⟨w.heap.size,0,none⟩) xs.length xs.length] (fun g=>ow g∨g=w.heap.size) []:=by
 have fI:∀ c∈eT,c.length=t.size:=fun c hc=>by
  obtain⟨j,hj,rfl⟩:=List.mem_iff_getElem.1 hc
  exact(eH t (hM j (by omega))).1
 simp only[M]
 refine .inr (.inr ⟨e,none,m,some ⟨w.heap.size,0,none⟩,xs.length,rfl,rfl,Nat.le_refl _,fun h hh=>(by cases hh),.inr ⟨w.heap.size,eT.flatten.toArray,τ,rfl,.inr rfl,heap_alloc_new w _,?_,auQ,fun j hj=>?_⟩⟩)
 ·rw[List.size_toArray,kO t.size fI,hl]
 ·rw[List.toList_toArray,M7 eT fI j (by omega)]
  refine aH (w:=w) ⟨fun g _ hg=>heap_alloc_old w _ g hg,fun g hg hx=>?_⟩ t (fun g hg hl=>heap_alloc_old w _ g hl) (fun g hg hl=>⟨.inl hg.1,by omega,hg.2⟩) (fun _ h=>by simp at h) (hM j hj)
  rcases hx with hx |hx
  ·exact hx
  ·omega
theorem HR (zl:List Value):∀ n,madeCells zl.toArray (n*zl.length)=(List.replicate n zl).flatten.toArray:=by
 intro n
 unfold madeCells
 apply Array.toList_inj.1
 simp only[Array.toList_map,Array.toList_range,List.toList_toArray]
 induction n with
 |zero=>simp
 |succ n ih=>
  rw[Nat.add_mul,Nat.one_mul,List.range_add,List.map_append,ih,List.replicate_succ',List.flatten_append]
  congr 1
  simp only[List.map_map,List.flatten_cons,List.flatten_nil,List.append_nil]
  apply List.ext_getElem?
  intro k
  by_cases hk:k<zl.length
  ·simp[hk,Function.comp_def,Nat.mod_eq_of_lt hk]
  ·simp[hk]
theorem Ca {t:Ty} {m:Md}:∀ {l:List TV} {xs:List t.I},rF t m l=some xs→xs.length=l.length∧∀ (k:Nat) (hk:k<xs.length),l[k]?=some ⟨t,m,xs[k]⟩
 |[],xs,h=>by
  simp only[rF,Option.some.injEq] at h
  subst h
  exact⟨rfl,fun k hk=>by simp at hk⟩
 |b::r,xs,h=>by
  simp only[rF] at h
  split at h
  ·rename_i ht
   split at h
   ·rename_i hm
    split at h
    ·rename_i l hl
     injection h with h
     subst h
     obtain⟨h1,h2⟩:=Ca hl
     obtain⟨bt,bm,bx⟩:=b
     simp only at ht hm
     subst ht hm
     refine⟨by simp[h1],fun k hk=>?_⟩
     cases k with
     |zero=>rfl
     |succ k=>simpa using h2 k (by simpa using hk)
    ·cases h
   ·cases h
  ·cases h
theorem G9 (hT:cM P Θ=true) (h:aW σ w0 W0 Z H S a w) {hn:Hn} {o:Oper} {T:TypeId} {n:Nat} {ps:Array (Nat×Operand)} (ho:o.op=.buildSlice T n ps) (e:bC Θ hn S o.dst T n ps.toList=some (true,S')):B9 P w0 W0 Z H S' a o.dst w (execOp a.eval o):=by
 unfold bC at e
 split at e
 case h_2=>cases e
 rename_i T0 t te fs0 hi
 cases hc:(kC n ps.toList&&Nat.ble n 1800) with
 |false=>rw[hc] at e;cases e
 |true=>
 rw[hc] at e
 simp only[cond_true] at e
 simp only[Bool.and_eq_true] at hc
 obtain⟨U9,aqs⟩:=hc
 have aqs:=Nat.le_of_ble_eq_true aqs
 split at e
 case h_2=>cases e
 rename_i l S1 hl
 obtain⟨bF,ow,τ,eT,h1,hnn,hk,iY,hll,hj,j8⟩:=pK hT ps.toList _ 0 h hl
 rw[List.length_replicate] at hll
 obtain⟨_,hu,hT0⟩:=cO hT hi
 simp only at hT0
 subst hT0
 obtain⟨u1,u2,u3⟩:=lr hu rfl
 simp only at u1 u2
 obtain⟨i2,mY,ht2⟩:=dQ u2
 obtain⟨⟨sm,inf,z,k1,k2,_,_,_,k3,k4⟩,_,hte⟩:=cO hT mY
 rw[hte] at k1
 rw[ht2] at k2 k4 sm
 have cf:∀ g,ow g→g<w.heap.size:=fun g hg=>by
  obtain⟨i,_,hi⟩:=hk.MZ g hg
  exact h.lt g i hi
 -- all parts are of the type
 have fI:(∃ m xs m',rF t m l=some xs∧(m'=.o te none m∨(m'=.k∧m.bH=true))∧S'=S1.put o.dst (.v ⟨.sl t,m',xs⟩ [])):=by
  split at e
  ·simp only[Option.some.injEq,Prod.mk.injEq,true_and] at e
   cases hf:hn.Yc o.dst with
   |true=>exact⟨.k,[],_,rfl,.inr ⟨by rw[hf];rfl,rfl⟩,e.symm⟩
   |false=>exact⟨_,[],_,rfl,.inl (by rw[hf];rfl),e.symm⟩
  ·split at e
   ·rename_i xs hxs
    simp only[Option.some.injEq,Prod.mk.injEq,true_and] at e
    refine⟨_,xs,_,hxs,?_,e.symm⟩
    generalize hf:(hn.Yc o.dst&&_)=q
    cases q with
    |true=>
     simp only[Bool.and_eq_true] at hf
     exact .inr ⟨rfl,hf.2⟩
    |false=>exact .inl rfl
   ·cases e
 obtain⟨m,xs,m',hxs,hm',rfl⟩:=fI
 obtain⟨x1,x2⟩:=Ca hxs
 have fw:∀ (k:Nat) (b:TV),l[k]?=some b→b.t=t:=fun k b hb=>by
  have hkl:k<xs.length:=by rw[x1];exact(List.getElem?_eq_some_iff.1 hb).1
  rw[x2 k hkl] at hb
  injection hb with hb
  rw[←hb]
 have hzl:(l.map fun b=>zc b.t)=List.replicate n (zc t):=by
  apply List.ext_getElem?
  intro k
  rw[List.getElem?_map,List.getElem?_replicate]
  by_cases hkl:k<l.length
  ·rw[if_pos (by omega),List.getElem?_eq_getElem hkl,Option.map_some,fw k _ (List.getElem?_eq_getElem hkl)]
  ·rw[if_neg (by omega),List.getElem?_eq_none (by omega)]
   rfl
 have abH:=Ev (a:=a) (ps:=ps.toList) (l:=l) (eT:=eT) (place:=fun k=>some (k*t.size,t.size)) iY (by rw[hll];exact U9) (fun k b cs hb gP=>by
   obtain⟨cI,c1,c2,_⟩:=j8 k b hb
   rw[c1] at gP
   injection gP with gP
   subst gP
   exact eH _ c2) (fun k b hb=>by
   obtain⟨cI,c1,_,c3⟩:=j8 k b hb
   simp only[Nat.zero_add] at c3
   exact⟨cI,c1,c3⟩) (fun k hk=>by
   rw[fw k _ (List.getElem?_eq_getElem hk),hzl]
   congr 2
   unfold oo
   rw[List.take_replicate,Nat.min_eq_left (by omega),List.map_replicate,List.sum_replicate_nat,my])
 have IW:z.cells=(zc t).toArray:=iG k4 (fun u hu=>?_)
 rotate_left
 ·-- one cell each
  have:∀ (t:Ty),∀ u∈zc t,u.oneCell'=true:=by
   intro t
   induction t with
   |pair a b iha ihb=>intro u hu;simp only[zc,List.mem_append] at hu;rcases hu with hu |hu;exact iha u hu;exact ihb u hu
   |arr n t ih=>intro u hu;simp only[zc,List.mem_flatten] at hu;obtain⟨c,hc,hu⟩:=hu;rw[List.eq_of_mem_replicate hc] at hu;exact ih u hu
   |unit=>intro u hu;simp[zc] at hu
   |_=>intro u hu;simp only[zc,List.mem_singleton] at hu;subst hu;rfl
  exact this t u hu
 have hlc:eT.length=xs.length:=by omega
 have M8:=aoW (w:=w) (A:=Av σ Z) (H:=H) (t:=t) (m:=m) (xs:=xs) (eT:=eT) (ow:=ow) (τ:=τ) te hlc (fun j hj=>by
   have rU:=x2 j hj
   obtain⟨cI,c1,c2,_⟩:=j8 j _ rU
   rw[List.getElem?_eq_getElem (by omega)] at c1
   injection c1 with c1
   rw[c1]
   simpa using c2) cf (by simp only[maxLen];omega)
 have b7:(Instr.buildSlice T0 n (ps.map fun(j,x)=>(j,a.eval x))).run P w=.ok (.slice (some ⟨w.heap.size,0,none⟩) n n) (w.alloc (.cells eT.flatten.toArray te)):=by
  have iX: ¬n*t.size>2^24:=by
   have:=Nat.mul_le_mul aqs sm
   omega
  have abI:Instr.fill (fun i=>some (i*t.size,t.size)) ((Array.range (n*t.size)).map (z.cells[· %z.cells.size]!)) (ps.map fun x=>(x.1,a.eval x.2)).toList=some eT.flatten.toArray:=by
   have:=HR (zc t) n
   unfold madeCells at this
   rw[IW,Array.toList_map]
   rw[my] at this
   rw[this,←hzl]
   exact abH
  have hso:(sizeOf te).run P w=.ok t.size w:=by
   simp[sizeOf,typeInfo,k1,k2]
  have hzv:(zeroValue te).run P w=.ok z w:=by
   simp[zeroValue,typeInfo,k1,k3]
  by_cases h0:n*t.size=0
  ·have aqt:Instr.fill (fun i=>some (i*t.size,t.size)) ((Array.range (n*t.size)).map ((#[]:Array Value)[· %(#[]:Array Value).size]!)) (ps.map fun x=>(x.1,a.eval x.2)).toList=some eT.flatten.toArray:=by
    rw[←abI,h0]
    simp[Array.range_zero']
   unfold Instr.buildSlice
   simp only[Sem.run_bind,run_underlying u1,Result.andThen_ok,hso,iX,if_false]
   rw[if_pos h0]
   simp only[Sem.run_bind,Sem.run_pure,Result.andThen_ok,aqt]
   simp[newRow]
  ·unfold Instr.buildSlice
   simp only[Sem.run_bind,run_underlying u1,Result.andThen_ok,hso,iX,if_false]
   rw[if_neg h0]
   simp only[Sem.run_bind,Sem.run_pure,hzv,Result.andThen_ok,abI]
   simp[newRow]
 have hex:(execOp a.eval o).run P w=.ok (.value (.slice (some ⟨w.heap.size,0,none⟩) n n)) (w.alloc (.cells eT.flatten.toArray te)):=by
  simp only[execOp,ho,Sem.run_bind,b7,Result.andThen_ok]
  rfl
 have awC:∀ g,Av bF Z g→g<w.heap.size:=fun g hg=>by
  rcases hg with⟨i,hi⟩ |hz
  ·exact h1.lt g i hi
  ·have:=(h1.old g hz).2;have:=h1.fr.size;omega
 rcases hm' with rfl |⟨rfl,hmk⟩
 ·refine⟨w.alloc (.cells eT.flatten.toArray te),.slice (some ⟨w.heap.size,0,none⟩) n n,hex,fun g hg=>heap_alloc_old w _ g hg,_,h1.M0 (b:=⟨.sl t,.o te none m,xs⟩) (cs:=[.slice (some ⟨w.heap.size,0,none⟩) n n]) (fun g hg=>heap_alloc_old w _ g hg) (h1.fr.alloc _) (fun g hg=>?_) (fun g hg hx=>?_) (by simp[an,isAgg]) (by
   have:xs.length=n:=by omega
   rw[this] at M8
   exact M8)⟩
  ·rcases hg with hg |rfl
   ·obtain⟨i,hi,bd⟩:=hk.now g hg
    have:=cf g hg
    exact⟨by simp only[World.alloc,Array.size_push];omega,.inl ⟨i,by omega,bd⟩⟩
   ·exact⟨by simp only[World.alloc,Array.size_push];omega,.inr (Nat.le_refl _)⟩
  ·rcases hx with hx |hx |rfl
   ·exact .inl (hk.Av.1 hx)
   ·obtain⟨i,_,hi⟩:=hk.MZ g hx
    exact .inl (.inl ⟨i,hi⟩)
   ·exact .inr (Nat.le_refl _)
 ·refine⟨w.alloc (.cells eT.flatten.toArray te),.slice (some ⟨w.heap.size,0,none⟩) n n,hex,fun g hg=>heap_alloc_old w _ g hg,_,h1.M0 (b:=⟨.sl t,.k,xs⟩) (cs:=[.slice (some ⟨w.heap.size,0,none⟩) n n]) (ow:=fun _=>False) (A':=Av bF Z) (fun g hg=>heap_alloc_old w _ g hg) (h1.fr.alloc _) (fun g hg=>hg.elim) (fun g hg hx=>hx.resolve_right id) (by simp[an,isAgg]) (nX (t:=.sl t) rfl ?_)⟩
  have hxn:xs.length=n:=by omega
  show K _ _ (.sl t) xs _
  have ail:∀ c∈eT,c.length=t.size:=fun c hc=>by
   obtain⟨j,hj,rfl⟩:=List.getElem_of_mem hc
   obtain⟨cI,c1,c2,_⟩:=j8 j _ (x2 j (by omega))
   rw[List.getElem?_eq_getElem hj] at c1
   injection c1 with c1
   rw[c1]
   exact(eH _ c2).1
  have B7:eT.flatten.length=n*t.size:=by rw[kO t.size ail,hlc,hxn]
  simp only[K]
  refine⟨some ⟨w.heap.size,0,none⟩,n,by rw[hxn],by omega,fun _=>⟨w.heap.size,0,eT.flatten.toArray,te,(0,0),rfl,fun hx=>absurd (awC _ hx) (Nat.lt_irrefl _),heap_alloc_new w _,by simp only[List.size_toArray,B7,hxn];omega,fun j hj'=>?_⟩⟩
  obtain⟨cI,c1,c2,_⟩:=j8 j _ (x2 j hj')
  rw[List.getElem?_eq_getElem (by omega)] at c1
  injection c1 with c1
  have gM:=M7 eT ail j (by omega)
  simp only[Nat.zero_add]
  rw[gM,c1]
  refine bP ⟨fun g _ hg=>heap_alloc_old w _ g hg,fun g _ hg=>hk.Av.1 hg⟩ t (fJ t hmk c2)
theorem IX (hT:cM P Θ=true) (h:aW σ w0 W0 Z H S a w) {o:Oper} {T:TypeId} {l c:Operand} (ho:o.op=.makeSlice T l c) (e:gv Θ S o.dst T l c=some (true,S')):B9 P w0 W0 Z H S' a o.dst w (execOp a.eval o):=by
 unfold gv at e
 split at e
 case h_2=>cases e
 rename_i T0 t te fs0 n n' hi hl hc
 split at e
 case h_2=>cases e
 rename_i z hz
 split at e
 case isFalse=>cases e
 rename_i hzt
 simp only[Option.some.injEq,Prod.mk.injEq,Bool.and_eq_true,decide_eq_true_eq] at e
 obtain⟨⟨⟨rfl,h0⟩,h40⟩,rfl⟩:=e
 obtain⟨kl,hl⟩:=iF h hl
 obtain⟨kc,hc⟩:=iF h hc
 obtain⟨_,hu,hT0⟩:=cO hT hi
 simp only at hT0
 subst hT0
 obtain⟨u1,u2,u3⟩:=lr hu rfl
 simp only at u1
 obtain⟨i,inf,zv,mY,fw,hx,w6,q1,q2,q3,q4,q5,q6⟩:=Ag hT hz
 have MD:M w (Av σ Z) H z.t z.m z.t.z (zc z.t) (fun _=>False) []:=Es z.t w6
 have hzc:zv.cells=(zc z.t).toArray:=iG q4 (eH _ MD).2
 have b7:=run_make (P:=P) w T0 te inf zv u1 q1 q3 kl kc n n h0 (Int.le_refl _) (by
  have h1:(inf.bytes:Int)≤256:=by omega
  calc (inf.bytes:Int)*n≤256*n:=Int.mul_le_mul_of_nonneg_right h1 h0
   _≤281474976710656:=by omega) (by omega)
 rw[q2,hzc,←my,HR] at b7
 have M8:=aoW (w:=w) (A:=Av σ Z) (H:=H) (t:=t) (m:=z.m) (xs:=List.replicate n.toNat t.z) (eT:=List.replicate n.toNat (zc z.t)) (ow:=fun _=>False) (τ:=fun _=>0) te (by simp) (fun j hj=>by
   subst hzt
   simp only[List.getElem_replicate]
   exact IT MD) (fun _ h=>h.elim) (by simp only[List.length_replicate,maxLen];omega)
 refine⟨w.alloc (.cells (List.replicate n.toNat (zc z.t)).flatten.toArray te),_,?_,fun g hg=>heap_alloc_old w _ g hg,_,h.M0 (b:=⟨.sl t,.o te none z.m,List.replicate n.toNat t.z⟩) (cs:=[.slice (some ⟨w.heap.size,0,none⟩) n.toNat n.toNat]) (w':=w.alloc (.cells (List.replicate n.toNat (zc z.t)).flatten.toArray te)) (v:=.slice (some ⟨w.heap.size,0,none⟩) n.toNat n.toNat) (fun g hg=>heap_alloc_old w _ g hg) (h.fr.alloc _) (fun g hg=>?_) (fun g hg hx=>?_) (by simp[an,isAgg]) (by
   rw[List.length_replicate] at M8
   exact M8)⟩
 ·simp only[execOp,ho,hl,hc,Sem.run_bind,b7,Result.andThen_ok]
  rfl
 ·rcases hg with hg |rfl
  ·exact hg.elim
  ·exact⟨by simp only[World.alloc,Array.size_push];omega,.inr (Nat.le_refl _)⟩
 ·rcases hx with hx |hx |rfl
  ·exact .inl hx
  ·exact hx.elim
  ·exact .inr (Nat.le_refl _)
end Go.Pv
namespace Go.Pv
set_option linter.unusedVariables false
set_option linter.unusedSimpArgs false
variable {P:Program} {w w':World} {A A' Wr:Nat→Prop} {H:Nat→Value} {tm rC:Nat→Value} {S S' S1:St} {σ bF dS:Nat→Option Nat} {w0:World} {W0 Z:Nat→Prop} {a:Act} {own:Nat→Prop} {v:Value} {Θ:da} {dst:Option Nat}
theorem xv {olds news:List Value} {s n j:Nat} (hl:olds.length=n*s) (hj:j<n):((olds++news).drop (j*s)).take s=(olds.drop (j*s)).take s:=by
 have h1:(j+1)*s≤n*s:=Nat.mul_le_mul_right s hj
 rw[Nat.add_mul,Nat.one_mul] at h1
 rw[List.drop_append_of_le_length (by omega),List.take_append_of_le_length (by rw[List.length_drop];omega)]
theorem HS {olds news:List Value} {s n j:Nat} (hl:olds.length=n*s):((olds++news).drop ((n+j)*s)).take s=(news.drop (j*s)).take s:=by
 rw[Nat.add_mul,←hl,List.drop_append,Nat.add_sub_cancel_left,List.drop_eq_nil_of_le (Nat.le_add_right _ _),List.nil_append]
theorem oq {cur:List Value} {s n j:Nat} (hj:j<n):((cur.take (n*s)).drop (j*s)).take s=(cur.drop (j*s)).take s:=by
 have h1:(j+1)*s≤n*s:=Nat.mul_le_mul_right s hj
 rw[Nat.add_mul,Nat.one_mul] at h1
 rw[List.drop_take,List.take_take,Nat.min_eq_left (by omega)]
theorem cV {g o:Nat} {t:TypeId} {cur:Array Value} {vs:List Value} (hw:w.heap[g]?=some (.cells cur t (0,0))) (hb:o+vs.length≤cur.size) (h1:∀ u∈vs,u.oneCell'=true):
  w.setCells g o vs=w.setRow g (putCells cur.toList o vs).toArray:=by
 have e1:=run_storeCells_at (P:=(default:Program)) g o t vs 0 cur w hw (by omega) h1
 have e2:=run_storeCells_cells (P:=(default:Program)) g o vs 0 w (fun j hj=>by
  have:o+j<cur.size:=by omega
  simp[World.cell?,hw,this]) (fun j hj=>by simp[World.frozen?,hw]) h1
 rw[e1] at e2
 simp only[Nat.add_zero,Result.ok.injEq,true_and] at e2
 exact e2.symm
theorem Rm {T' e':TypeId} {size:Nat} {t:Ty} {ys:List t.I} {vy:Value} (hk:P.underlying T'=some (.slice e')) (hs:size=t.size)
  (h:∃ X c,vy=.slice X ys.length c∧(0<ys.length→∃ g off cur T fr,X=some ⟨g,off,none⟩∧w.heap[g]?=some (.cells cur T fr)∧off+ys.length*t.size≤cur.size∧∀ u∈(cur.toList.drop off).take (ys.length*t.size),u.oneCell'=true)):
  ∃ news,Src P size T' vy ys.length news w∧(∀ g off cur T fr X c,vy=.slice X ys.length c→X=some ⟨g,off,none⟩→w.heap[g]?=some (.cells cur T fr)→0<ys.length→news=(cur.toList.drop off).take (ys.length*t.size)):=by
 subst hs
 obtain⟨X,c,rfl,h⟩:=h
 rcases Nat.eq_zero_or_pos ys.length with h0 |h0
 ·refine⟨[],?_,fun _ _ _ _ _ _ _ _ _ _ hp=>by omega⟩
  rw[h0]
  cases X with
  |none=>exact Src.ofNil w hk c
  |some ad=>exact Src.ofSlice w hk ad 0 c [] (by simp) (fun j u hu=>by simp at hu) (fun u hu=>by simp at hu)
 ·obtain⟨g,off,cur,T,fr,rfl,hw,hb,h1⟩:=h h0
  refine⟨(cur.toList.drop off).take (ys.length*t.size),Src.ofSlice w hk ⟨g,off,none⟩ ys.length c _ (by have hc:cur.toList.length=cur.size:=Array.length_toList;rw[List.length_take,List.length_drop];omega) (fun j u hu=>?_) h1,?_⟩
  ·have hj:j<ys.length*t.size:=by
    have:=(List.getElem?_eq_some_iff.1 hu).1
    rw[List.length_take] at this
    omega
   rw[List.getElem?_take,if_pos hj,List.getElem?_drop] at hu
   rw[jo]
   simp only[World.cell?,hw]
   rw[←Array.getElem?_toList]
   exact hu
  ·intro g' axp Rn T' fr' X' c' e1 e2 G2 _
   injection e1 with e1
   subst e2
   injection e1 with e1
   injection e1 with e1 Ae
   subst e1 Ae
   rw[hw] at G2
   injection G2 with G2
   injection G2 with G2
   rw[G2]
noncomputable def join (uu:Nat→Prop) (n:Nat) (IY τ:Nat→Nat) (g:Nat):Nat:=open Classical in if uu g then n+IY g else τ g
theorem Vi {uu:Nat→Prop} {n:Nat} {IY τ:Nat→Nat} {g:Nat} (h:uu g):join uu n IY τ g=n+IY g:=if_pos h
theorem M9 {uu:Nat→Prop} {n:Nat} {IY τ:Nat→Nat} {g:Nat} (h: ¬uu g):join uu n IY τ g=τ g:=if_neg h
theorem xw (hT:cM P Θ=true) {T T' e ty:TypeId} {t:Ty} {tag:Option Nat} {me:Md} {xs ys:List t.I} {vx vy:Value} {Ew uu:Nat→Prop} {IY:Nat→Nat} {news:List Value} {inf:TypeInfo} {z:Value}
  (hu:P.underlying T=some (.slice e)) (hi:P.info? e=some inf) (hz:inf.zero=some z) (iX:inf.size=t.size) (hby:inf.bytes≤32*t.size) (hzs:z.cells.size=t.size) (Dd:0<t.size)
  (hx:M w A H (.sl t) (.o e tag me) xs [vx] Ew []) (rY:Src P t.size T' vy ys.length news w)
  (hN:∀ (k:Nat) (hk:k<ys.length),M w A H t me ys[k] ((news.drop (k*t.size)).take t.size) (fun g=>uu g∧IY g=k) [])
  (abJ:∀ g,Ew g→¬uu g) (hxA:∀ g,Ew g→A g) (hlx:∀ g,Ew g→g<w.heap.size) (hlN:∀ g,uu g→g<w.heap.size) (IZ:(xs.length+ys.length)*t.size≤4398046511104):
  ∃ v' w' cA,(Builtin.append_ #[T,T'] ty #[vx,vy]).run P w=.ok v' w'∧M w' (fun g=>A g∨w.heap.size≤g) H (.sl t) (.o e none me) (xs++ys) [v'] cA []∧
   (∀ g,g<w.heap.size→¬Ew g→w'.heap[g]?=w.heap[g]?)∧(∀ g,cA g→g<w'.heap.size∧(Ew g∨uu g∨w.heap.size≤g))∧w.heap.size≤w'.heap.size∧w'.os=w.os∧w'.tape=w.tape∧w'.output=w.output:=by
 have abK:xs.length+ys.length≤4398046511104:=Nat.le_trans (Nat.le_mul_of_pos_right _ Dd) IZ
 have abL:(xs.length+ys.length)*inf.bytes≤140737488355328:=by
  have:(xs.length+ys.length)*inf.bytes≤(xs.length+ys.length)*(32*t.size):=Nat.mul_le_mul_left _ hby
  have e2:(xs.length+ys.length)*(32*t.size)=32*((xs.length+ys.length)*t.size):=by rw[Nat.mul_left_comm]
  omega
 have Vj:Src P inf.size T' vy ys.length news w:=by rw[iX];exact rY
 have aih:=rY.one
 have hnl:=rY.newsLen
 -- the grown row
 have grown:∀ (base:Option Addr) (c:Nat) (olds:List Value) (owo:Nat→Prop) (τ:Nat→Nat),vx=.slice base xs.length c→c<xs.length+ys.length→olds.length=xs.length*t.size→
   (Builtin.firstCells inf.size xs.length vx).run P w.drew=.ok olds.toArray w.drew→(∀ g,owo g→Ew g)→
   (∀ (k:Nat) (hk:k<xs.length),M w A H t me xs[k] ((olds.drop (k*t.size)).take t.size) (fun g=>owo g∧τ g=k) [])→
   ∃ v' w' cA,(Builtin.append_ #[T,T'] ty #[vx,vy]).run P w=.ok v' w'∧M w' (fun g=>A g∨w.heap.size≤g) H (.sl t) (.o e none me) (xs++ys) [v'] cA []∧
   (∀ g,g<w.heap.size→¬Ew g→w'.heap[g]?=w.heap[g]?)∧(∀ g,cA g→g<w'.heap.size∧(Ew g∨uu g∨w.heap.size≤g))∧w.heap.size≤w'.heap.size∧w'.os=w.os∧w'.tape=w.tape∧w'.output=w.output:=by
  intro base c olds owo τ hv hc hol I0 G3 u6
  subst hv
  have b7:=run_append_grow_src (P:=P) w T T' ty e inf z hu hi hz base xs.length c olds I0 vy ys.length news Vj hc (by omega) (by
   have h1:=nextslicecap_le hc
   have h2:=Nat.mul_le_mul_right inf.bytes h1
   rw[Nat.mul_assoc] at h2
   omega)
  have hge:=grownCap_ge w (xs.length+ys.length) c e
  have hle:=grownCap_le_maxLen w (xs.length+ys.length) c e (by simp only[maxLen];omega)
  let pad:=Builtin.zeroCells z.cells (grownCap w (xs.length+ys.length) c e - (xs.length+ys.length))
  have gd:∀ g,g<w.heap.size→(w.drew.alloc (.cells ((olds++news).toArray++pad) e)).heap[g]?=w.heap[g]?:=fun g hg=>heap_alloc_old w.drew _ g hg
  refine⟨_,w.drew.alloc (.cells ((olds++news).toArray++pad) e),fun g=>owo g∨uu g∨g=w.heap.size,b7,?_,fun g hg _=>gd g hg,fun g hg=>?_,by simp,rfl,rfl,rfl⟩
  ·simp only[M]
   refine .inr (.inr ⟨e,none,me,some ⟨w.heap.size,0,none⟩,grownCap w (xs.length+ys.length) c e,rfl,by rw[List.length_append],by rw[List.length_append];exact hge,fun h hh=>(by cases hh),.inr ⟨w.heap.size,(olds++news).toArray++pad,join uu xs.length IY τ,rfl,.inr (.inr rfl),heap_alloc_new w.drew _,?_,hle,fun j hj=>?_⟩⟩)
   ·simp only[pad,Array.size_append,List.size_toArray,List.length_append,size_zeroCells,hzs,hol,hnl,←Nat.add_mul]
    congr 1
    omega
   ·have bO:aO w (w.drew.alloc (.cells ((olds++news).toArray++pad) e)) A (fun g=>A g∨w.heap.size≤g):=⟨fun g _ hg=>gd g hg,fun g hg hx=>hx.resolve_right (by omega)⟩
    rw[Array.toList_append,List.toList_toArray]
    rcases Nat.lt_or_ge j xs.length with hjx |hjx
    ·rw[List.getElem_append_left hjx,List.append_assoc,xv hol hjx]
     refine aH bO t (fun g hg hl=>gd g hl) (fun g hg hl=>⟨.inl hg.1,by omega,?_⟩) (fun _ h=>by simp at h) (u6 j hjx)
     rw[M9 (abJ g (G3 g hg.1))]
     exact hg.2
    ·have hjy:j - xs.length<ys.length:=by rw[List.length_append] at hj;omega
     rw[List.getElem_append_right hjx]
     have e1:=HS (olds:=olds) (news:=news++pad.toList) (s:=t.size) (n:=xs.length) (j:=j - xs.length) hol
     rw[show xs.length+(j - xs.length)=j from by omega,←List.append_assoc,xv hnl hjy] at e1
     rw[e1]
     refine aH bO t (fun g hg hl=>gd g hl) (fun g hg hl=>⟨.inr (.inl hg.1),by omega,?_⟩) (fun _ h=>by simp at h) (hN (j - xs.length) hjy)
     rw[Vi hg.1,hg.2]
     omega
  ·have:(w.drew.alloc (.cells ((olds++news).toArray++pad) e)).heap.size=w.heap.size+1:=by simp
   rcases hg with hg |hg |rfl
   ·exact⟨by have:=hlx g (G3 g hg);omega,.inl (G3 g hg)⟩
   ·exact⟨by have:=hlN g hg;omega,.inr (.inl hg)⟩
   ·exact⟨by omega,.inr (.inr (Nat.le_refl _))⟩
 -- nothing to append
 have nothing:∀ (base:Option Addr) (c:Nat),vx=.slice base xs.length c→xs.length≤c→ys.length=0→
   ∃ v' w' cA,(Builtin.append_ #[T,T'] ty #[vx,vy]).run P w=.ok v' w'∧M w' (fun g=>A g∨w.heap.size≤g) H (.sl t) (.o e none me) (xs++ys) [v'] cA []∧
   (∀ g,g<w.heap.size→¬Ew g→w'.heap[g]?=w.heap[g]?)∧(∀ g,cA g→g<w'.heap.size∧(Ew g∨uu g∨w.heap.size≤g))∧w.heap.size≤w'.heap.size∧w'.os=w.os∧w'.tape=w.tape∧w'.output=w.output:=by
  intro base c hv hle h0
  have hys:ys=[]:=List.eq_nil_of_length_eq_zero h0
  subst hys
  have hn0:news=[]:=List.eq_nil_of_length_eq_zero (by simpa using hnl)
  rw[hn0] at Vj
  rw[hv] at hx ⊢
  have b7:=run_append_nothing (P:=P) w T T' ty e inf hu hi base xs.length c hle vy Vj
  refine⟨_,w,Ew,b7,?_,fun _ _ _=>rfl,fun g hg=>⟨hlx g hg,.inl hg⟩,Nat.le_refl _,rfl,rfl,rfl⟩
  rw[List.append_nil]
  have xf:M w A H (.sl t) (.o e none me) xs [.slice base xs.length c] Ew []:=by
   simp only[M] at hx ⊢
   rcases hx with⟨hn,_⟩ |⟨hk,_⟩ |⟨T1,awD,me1,X,c1,e1,e2,h1,h2,h3⟩
   ·simp at hn
   ·simp[Md.bH] at hk
   ·injection e1 with e1 Ae pL
    subst e1 Ae pL
    exact .inr (.inr ⟨e,none,me,X,c1,rfl,e2,h1,fun h hh=>(by cases hh),h3⟩)
  exact aH (w:=w) ⟨fun _ _ _=>rfl,fun g hg hx=>hx.resolve_right (by omega)⟩ (.sl t) (fun _ _ _=>rfl) (fun g hg _=>hg) (fun _ h=>h) xf
 have hx0:=hx
 simp only[M] at hx
 rcases hx with⟨hn,_⟩ |⟨hk,_⟩ |⟨T1,awD,me1,X,c,e1,e2,hle,aie,hx⟩
 ·simp at hn
 ·simp[Md.bH] at hk
 ·injection e1 with e1 Ae pL
  subst e1 Ae pL
  simp only[List.cons.injEq,and_true] at e2
  rcases Nat.eq_zero_or_pos ys.length with h0 |h0
  ·exact nothing X c e2 hle h0
  ·rcases hx with⟨hxs,hc⟩ |⟨g,cur,τ,rfl,qU,hw,gP,hcm,u6⟩
   ·subst hxs hc
    refine grown X 0 [] (fun _=>False) (fun _=>0) e2 (by simpa using h0) (by simp) ?_ (fun _ h=>h.elim) (fun k hk=>by simp at hk)
    rw[e2]
    cases X with
    |none=>exact run_firstCells_none w.drew _ _ _ _
    |some ad=>exact run_firstCells_some w.drew _ _ ad _ _ [] (by simp) (fun j u hu=>by simp at hu)
   ·have hbx:xs.length*t.size≤cur.toList.length:=by
     have h1:cur.toList.length=cur.size:=Array.length_toList
     have h2:=Nat.mul_le_mul_right t.size hle
     omega
    have iY:cur.toList.length=cur.size:=Array.length_toList
    by_cases rZ:xs.length+ys.length≤c
    ·-- room
     have w6:xs.length*t.size+news.length≤cur.size:=by
      rw[hnl,gP,←Nat.add_mul]
      exact Nat.mul_le_mul_right _ rZ
     have b7:=run_append_room_src (P:=P) w T T' ty e inf hu hi g 0 xs.length c vy ys.length news Vj rZ (fun j hj=>by
      have:xs.length*inf.size+j<cur.size:=by rw[iX];omega
      simp[World.cell?,hw,this]) (fun j hj=>by simp[World.frozen?,hw])
     rw[Nat.zero_add,iX,cV hw w6 aih] at b7
     have gd:∀ k,k≠g→(w.setRow g (putCells cur.toList (xs.length*t.size) news).toArray).heap[k]?=w.heap[k]?:=fun k hk=>setRow_other w g k _ hk
     refine⟨_,w.setRow g (putCells cur.toList (xs.length*t.size) news).toArray,fun k=>Ew k∨uu k,by rw[e2];exact b7,?_,fun k _ hk=>gd k (fun e'=>hk (by rw[e'];exact qU)),fun k hk=>?_,by rw[setRow_size];exact Nat.le_refl _,rfl,rfl,rfl⟩
     ·simp only[M]
      refine .inr (.inr ⟨e,none,me,some ⟨g,0,none⟩,c,rfl,by rw[List.length_append],by rw[List.length_append];exact rZ,fun h hh=>(by cases hh),.inr ⟨g,(putCells cur.toList (xs.length*t.size) news).toArray,join uu xs.length IY τ,rfl,.inl qU,setRow_heap w g cur _ e (0,0) hw,?_,hcm,fun j hj=>?_⟩⟩)
      ·rw[List.size_toArray,iv _ _ _ (by omega),iY,gP]
      ·have bO:aO w (w.setRow g (putCells cur.toList (xs.length*t.size) news).toArray) A (fun g=>A g∨w.heap.size≤g):=⟨fun k hk _=>gd k (fun e'=>hk (by rw[e'];exact hxA g qU)),fun k hk hx=>hx.resolve_right (by omega)⟩
       rw[List.toList_toArray]
       have htl:(cur.toList.take (xs.length*t.size)).length=xs.length*t.size:=by rw[List.length_take];omega
       have YC:putCells cur.toList (xs.length*t.size) news=cur.toList.take (xs.length*t.size)++(news++cur.toList.drop (xs.length*t.size+news.length)):=by unfold putCells;rw[List.append_assoc]
       rcases Nat.lt_or_ge j xs.length with hjx |hjx
       ·have gM:((putCells cur.toList (xs.length*t.size) news).drop (j*t.size)).take t.size=(cur.toList.drop (j*t.size)).take t.size:=by rw[YC,xv htl hjx,oq hjx]
        rw[List.getElem_append_left hjx,gM]
        refine aH bO t (fun k hk hl=>gd k hk.2.1) (fun k hk hl=>⟨.inl hk.1,hk.2.1,?_⟩) (fun _ h=>h) (u6 j hjx)
        rw[M9 (abJ k hk.1)]
        exact hk.2.2
       ·have hjy:j - xs.length<ys.length:=by rw[List.length_append] at hj;omega
        rw[List.getElem_append_right hjx]
        have e1:=HS (olds:=cur.toList.take (xs.length*t.size)) (news:=news++cur.toList.drop (xs.length*t.size+news.length)) (s:=t.size) (n:=xs.length) (j:=j - xs.length) htl
        rw[show xs.length+(j - xs.length)=j from by omega,xv hnl hjy] at e1
        rw[←YC] at e1
        rw[e1]
        have hgN:∀ k,uu k→k≠g:=fun k hk e'=>abJ g qU (by rw[←e'];exact hk)
        refine aH bO t (fun k hk hl=>gd k (hgN k hk.1)) (fun k hk hl=>⟨.inr hk.1,hgN k hk.1,?_⟩) (fun _ h=>by simp at h) (hN (j - xs.length) hjy)
        rw[Vi hk.1,hk.2]
        omega
     ·rw[setRow_size]
      rcases hk with hk |hk
      ·exact⟨hlx k hk,.inl hk⟩
      ·exact⟨hlN k hk,.inr (.inl hk)⟩
    ·refine grown (some ⟨g,0,none⟩) c (cur.toList.take (xs.length*t.size)) (fun k=>Ew k∧k≠g) τ e2 (by omega) (by rw[List.length_take];omega) ?_ (fun k hk=>hk.1) (fun k hk=>?_)
     ·rw[e2,iX]
      refine run_firstCells_some w.drew _ _ ⟨g,0,none⟩ _ _ _ (by rw[List.length_take];omega) (fun j u hu=>?_)
      rw[jo]
      have hj:j<xs.length*t.size:=by
       have:=(List.getElem?_eq_some_iff.1 hu).1
       rw[List.length_take] at this
       omega
      rw[List.getElem?_take,if_pos hj] at hu
      have G2:w.drew.heap[g]?=some (.cells cur e (0,0)):=hw
      simp only[World.cell?,G2,Nat.zero_add]
      rw[←Array.getElem?_toList]
      exact hu
     ·rw[oq hk]
      exact aH (aO.refl _ _) t (fun _ _ _=>rfl) (fun g' bd _=>⟨⟨bd.1,bd.2.1⟩,bd.2.2⟩) (fun _ h=>h) (u6 k hk)
end Go.Pv
namespace Go.Pv
set_option linter.unusedVariables false
set_option linter.unusedSimpArgs false
variable {P:Program} {w w':World} {A A' Wr:Nat→Prop} {H:Nat→Value} {tm rC:Nat→Value} {S S' S1:St} {σ bF dS:Nat→Option Nat} {w0:World} {W0 Z:Nat→Prop} {a:Act} {own:Nat→Prop} {v:Value} {Θ:da} {dst:Option Nat}
def KS (w:World) (A:Nat→Prop) (t:Ty) (xs:List t.I) (cs:List Value):Prop:=
 ∃ X c,cs=[.slice X xs.length c]∧xs.length≤c∧(0<xs.length→∃ g off cur T fr,X=some ⟨g,off,none⟩∧w.heap[g]?=some (.cells cur T fr)∧off+xs.length*t.size≤cur.size∧∀ j (h:j<xs.length),K w A t xs[j] ((cur.toList.drop (off+j*t.size)).take t.size))
theorem aqu {t:Ty} {m:Md} {xs:List t.I} {cs:List Value} {ow:Nat→Prop} (hk:m.Ho.bH=true) (h:M w A H (.sl t) m xs cs ow []):KS w A t xs cs:=by
 simp only[M] at h
 rcases h with⟨hn,_⟩ |⟨_,h⟩ |⟨T,tag,me,X,c,rfl,rfl,hc,ht,h⟩
 ·simp at hn
 ·simp only[K] at h
  obtain⟨X,c,rfl,hc,h⟩:=h
  refine⟨X,c,rfl,hc,fun hp=>?_⟩
  obtain⟨g,off,cur,T,fr,h1,_,h2,h3,h4⟩:=h hp
  exact⟨g,off,cur,T,fr,h1,h2,h3,h4⟩
 ·refine⟨X,c,rfl,hc,fun hp=>?_⟩
  rcases h with⟨rfl,_⟩ |⟨g,cur,τ,rfl,qU,hw,iX,hm,h⟩
  ·simp at hp
  ·refine⟨g,0,cur,T,(0,0),rfl,hw,?_,fun j hj=>?_⟩
   ·have:=Nat.mul_le_mul_right t.size hc
    omega
   ·rw[Nat.zero_add]
    exact fJ t hk (h j hj)
theorem aqv {t:Ty} {xs:List t.I} {X:Option Addr} {c lo hi:Nat} (h:KS w A t xs [.slice X xs.length c]) (h1:lo≤hi) (h2:hi≤xs.length):
  KS w A t ((xs.take hi).drop lo) [.slice (if c=lo then X else X.map (·.add (lo*t.size))) (hi - lo) (c - lo)]:=by
 obtain⟨X',c',e,hc,h⟩:=h
 simp only[List.cons.injEq,Value.slice.injEq,and_true,true_and] at e
 obtain⟨rfl,rfl⟩:=e
 have hl:((xs.take hi).drop lo).length=hi - lo:=by rw[List.length_drop,List.length_take];omega
 refine⟨_,_,by rw[hl],by omega,fun hp=>?_⟩
 rw[hl] at hp
 obtain⟨g,off,cur,T,fr,rfl,hw,ho,hj⟩:=h (by omega)
 have e1:(lo+(hi - lo))*t.size≤xs.length*t.size:=Nat.mul_le_mul_right _ (by omega)
 rw[Nat.add_mul] at e1
 refine⟨g,off+lo*t.size,cur,T,fr,?_,hw,by rw[hl];omega,fun j GV=>?_⟩
 rotate_left
 ·have pg:j<hi - lo:=by rw[←hl];exact GV
  have:=hj (lo+j) (by omega)
  rw[show((xs.take hi).drop lo)[j]=xs[lo+j]'(by omega) from by simp]
  rw[show off+lo*t.size+j*t.size=off+(lo+j)*t.size from by rw[Nat.add_mul];omega]
  exact this
 ·rw[if_neg (by omega)]
  simp only[Option.map_some,jo]
theorem M' (h:aW σ w0 W0 Z H S a w) {av:AV} {t:Ty} {m:Md} {ys:List t.I} (hh:Holds w (Av σ Z) H (bR a) S own av v) (e:S.ta av=some ⟨.sl t,m,ys⟩) (hk:m.Ho.bH=true):
  KS w (Av σ Z) t ys [v]:=by
 cases av with
 |v a ex=>
  cases ex with
  |cons _ _=>simp[St.ta] at e
  |nil=>
   simp only[St.ta,Option.some.injEq] at e
   subst e
   obtain⟨cs,h1,h2⟩:=hh
   have:cs=[v]:=by simpa[an,isAgg] using h1
   subst this
   exact aqu hk h2
 |al t1 s p=>
  simp only[St.ta] at e
  obtain⟨r,cL,cs,hr,hc,hm⟩:=hh
  obtain⟨rfl,cA,k2,k3⟩:=c6 h hr hc e
  have:cs=[v]:=by simpa[an,isAgg] using hm
  subst this
  exact aqu hk k3
 |cut t1 s p lo hi=>
  simp only[St.ta] at e
  obtain⟨r,cL,t',X,n,c,hr,rfl,hc,Yn,D5,rfl⟩:=hh
  cases hp:S.place s p with
  |none=>rw[hp] at e;cases e
  |some b'=>
   obtain⟨ht,cA,k2,k3⟩:=c6 h hr hc hp
   obtain⟨bt,bm,bx⟩:=b'
   simp only at ht
   subst ht
   rw[hp] at e
   simp only[Option.some.injEq] at e
   injection e with e1 e2 e3
   injection e1 with e1
   subst e1 e2
   simp only[heq_eq_eq] at e3
   subst e3
   have hK:=aqu hk k3
   have hn:n=List.length bx:=by
    obtain⟨_,_,e,_⟩:=hK
    simp only[List.cons.injEq,Value.slice.injEq,and_true] at e
    exact e.2.1
   subst hn
   exact aqv hK Yn D5
 |_=>simp[St.ta] at e
theorem ot {s:Nat} {Q:Value→Prop} {l:List Value}:∀ (n:Nat),(∀ j,j<n→∀ u∈(l.drop (j*s)).take s,Q u)→∀ u∈l.take (n*s),Q u
 |0,_,u,hu=>by simp at hu
 |n+1,h,u,hu=>by
  rw[Nat.add_mul,Nat.one_mul,List.take_add] at hu
  rcases List.mem_append.1 hu with hu |hu
  ·exact ot n (fun j hj=>h j (by omega)) u hu
  ·exact h n (by omega) u hu
theorem abM {T' e':TypeId} {t:Ty} {ys:List t.I} {vy:Value} (hk:P.underlying T'=some (.slice e')) (h:KS w A t ys [vy]):
  ∃ news,Src P t.size T' vy ys.length news w∧∀ (k:Nat) (hk:k<ys.length),K w A t ys[k] ((news.drop (k*t.size)).take t.size):=by
 obtain⟨X,c,e,hc,h⟩:=h
 simp only[List.cons.injEq,and_true] at e
 obtain⟨news,h1,h2⟩:=Rm (P:=P) (w:=w) (t:=t) (ys:=ys) (vy:=vy) hk rfl ⟨X,c,e,fun hp=>by
  obtain⟨g,off,cur,T,fr,rfl,hw,hb,hj⟩:=h hp
  refine⟨g,off,cur,T,fr,rfl,hw,hb,ot _ fun j GV u hu=>?_⟩
  rw[List.drop_drop] at hu
  exact(lh t (hj j GV)).2 u hu⟩
 refine⟨news,h1,fun k hk=>?_⟩
 obtain⟨g,off,cur,T,fr,rfl,hw,hb,hj⟩:=h (by omega)
 rw[h2 g off cur T fr _ c e rfl hw (by omega),oq hk,List.drop_drop]
 exact hj k hk
theorem u9 (hT:cM P Θ=true) {T0:TypeId} {i:TI} (hi:Θ.find T0=some i) {t:Ty} (fw:i.ty=.sl t) {o:Oper} {x y:Operand} {T':TypeId} {tag:Option Nat} {me:Md} {xs ys:List t.I} {Ew uu:Nat→Prop} {IY:Nat→Nat} {news:List Value} {n:Nat}
  (ho:o.op=.call { callee:=.builtin .append,args:=#[x,y],argTypes:=#[T0,T'] })
  (h2:aW dS w0 W0 Z H S1 a w) (hS1:S1.length=n) (hA:A=Av dS Z)
  (hx:M w A H (.sl t) (.o i.e tag me) xs [a.eval x] Ew []) (rY:Src P t.size T' (a.eval y) ys.length news w)
  (hN:∀ (k:Nat) (hk:k<ys.length),M w A H t me ys[k] ((news.drop (k*t.size)).take t.size) (fun g=>uu g∧IY g=k) [])
  (abJ:∀ g,Ew g→¬uu g) (xu:∀ g,Ew g∨uu g→∃ i,n≤i∧dS g=some i) (IZ:(xs.length+ys.length)*t.size≤4398046511104):
  IQ P w0 W0 Z H (S1.put o.dst (.v ⟨.sl t,.o i.e none me,xs++ys⟩ [])) a o.dst w (execOp a.eval o):=by
 subst hA hS1
 obtain⟨_,hu,hT0⟩:=cO hT hi
 obtain⟨u1,u2,u3⟩:=lr hu fw
 rw[hT0] at u1
 obtain⟨i2,mY,ht2⟩:=dQ u2
 obtain⟨⟨sm,inf,z,k1,k2,kb,_,_,k3,k4⟩,_,hte⟩:=cO hT mY
 rw[hte] at k1
 rw[ht2] at k2 k4 kb
 have cf:∀ g,Ew g∨uu g→g<w.heap.size:=fun g hg=>by
  obtain⟨i,_,hi⟩:=xu g hg
  exact h2.lt g i hi
 have IW:z.cells.size=t.size:=by
  unfold an at k4
  split at k4
  ·rw[k4,Value.cells,List.size_toArray,my]
  ·rename_i Q5
   have hl:=my t
   rw[k4] at hl
   have hv:∀ (t:Ty),∀ u∈zc t,u.oneCell'=true:=by
    intro t
    induction t with
    |pair a b iha ihb=>intro u hu;simp only[zc,List.mem_append] at hu;rcases hu with hu |hu;exact iha u hu;exact ihb u hu
    |arr n t ih=>intro u hu;simp only[zc,List.mem_flatten] at hu;obtain⟨c,hc,hu⟩:=hu;rw[List.eq_of_mem_replicate hc] at hu;exact ih u hu
    |unit=>intro u hu;simp[zc] at hu
    |_=>intro u hu;simp only[zc,List.mem_singleton] at hu;subst hu;rfl
   have h1:=hv t z (by rw[k4];simp)
   have:z.cells=#[z]:=by cases z<;>first |rfl |simp[Value.oneCell'] at h1
   rw[this]
   simpa using hl
 obtain⟨v',w',cA,r1,r2,r3,r4,r5,r6,r7,r8⟩:=xw (ty:=o.type) hT u1 k1 k3 k2 kb IW u3 hx rY hN abJ (fun g hg=>by
  obtain⟨i,_,hi⟩:=xu g (.inl hg)
  exact .inl ⟨i,hi⟩) (fun g hg=>cf g (.inl hg)) (fun g hg=>cf g (.inr hg)) IZ
 refine⟨w',v',.inl ?_,_,h2.aoS (b:=⟨.sl t,.o i.e none me,xs++ys⟩) (cs:=[v']) (ow:=cA) (A':=fun g=>Av dS Z g∨w.heap.size≤g) r5 (fun g hg hn=>r3 g hg (fun hx=>?_)) ?_ (fun g hg=>?_) (fun g hg hx=>?_) (by simp[an,isAgg]) r2⟩
 ·simp[execOp,ho,resolve,invoke,builtin,r1]
 ·obtain⟨i,hi1,mY⟩:=xu g (.inl hx)
  exact hn i hi1 mY
 ·refine⟨by rw[r6];exact h2.fr.os,by rw[r7];exact h2.fr.tape,by rw[r8];exact h2.fr.output,Nat.le_trans h2.fr.size r5,fun g hg hn=>?_⟩
  rw[r3 g (by have:=h2.fr.size;omega) (fun hx=>?_)]
  ·exact h2.fr.block g hg hn
  ·obtain⟨i,_,hi⟩:=xu g (.inl hx)
   rcases h2.new g i hi with h1 |h1
   ·omega
   ·exact hn h1
 ·obtain⟨q1,q2⟩:=r4 g hg
  refine⟨q1,?_⟩
  rcases q2 with q2 |q2 |q2
  ·exact .inl (xu g (.inl q2))
  ·exact .inl (xu g (.inr q2))
  ·exact .inr q2
 ·rcases hx with hx |hx
  ·exact .inl hx
  ·rcases(r4 g hx).2 with q2 |q2 |q2
   ·obtain⟨i,_,hi⟩:=xu g (.inl q2)
    exact .inl (.inl ⟨i,hi⟩)
   ·obtain⟨i,_,hi⟩:=xu g (.inr q2)
    exact .inl (.inl ⟨i,hi⟩)
   ·exact .inr q2
theorem YF (hT:cM P Θ=true) (h:aW σ w0 W0 Z H S a w) {o:Oper} {as:Array Operand} {ts:Array TypeId} (ho:o.op=.call { callee:=.builtin .append,args:=as,argTypes:=ts }) (e:b5 Θ S o.dst ts.toList as.toList=some (true,S')):IQ P w0 W0 Z H S' a o.dst w (execOp a.eval o):=by
 obtain⟨as⟩:=as
 obtain⟨ts⟩:=ts
 simp only at e
 unfold b5 at e
 split at e
 case h_2=>cases e
 rename_i x y T T'
 split at e
 case h_2=>cases e
 rename_i t e0 tag me xs S1 i hb hi
 unfold St.take at hb
 split at hb
 case h_2=>cases hb
 rename_i av dG
 obtain⟨bF,cs,ow,h1,hm,hM,hk,hn⟩:=eN h dG hb
 cases hc:(decide (i.ty=.sl t)&&Nat.beq i.e e0&&Θ.is T' (.sl t)) with
 |false=>rw[hc] at e;cases e
 |true=>
 rw[hc] at e
 simp only[cond_true] at e
 simp only[Bool.and_eq_true,decide_eq_true_eq] at hc
 obtain⟨⟨fw,hee⟩,hT'⟩:=hc
 have hee:=Nat.eq_of_beq_eq_true hee
 subst hee
 have gP:cs=[a.eval x]:=by simpa[an,isAgg] using hm
 subst gP
 obtain⟨i',Hw,abG⟩:=dQ hT'
 obtain⟨_,th,hT1⟩:=cO hT Hw
 obtain⟨u1,_,_⟩:=lr th abG
 rw[hT1] at u1
 have awE:aO w w (Av σ Z) (Av bF Z):=⟨fun _ _ _=>rfl,fun g _ hg=>hk.Av.1 hg⟩
 cases hme:me.bH with
 |true=>
  rw[hme] at e
  simp only[cond_true] at e
  split at e
  case h_2=>cases e
  rename_i t' m' ys hy
  cases hmi:m'.Ho.bH with
  |false=>rw[hmi] at e;cases e
  |true=>
  rw[hmi] at e
  simp only[cond_true] at e
  split at e
  case isFalse=>cases e
  rename_i htt
  subst htt
  simp only[Option.some.injEq,Prod.mk.injEq,decide_eq_true_eq] at e
  obtain⟨IZ,rfl⟩:=e
  unfold St.rd at hy
  split at hy
  case h_2=>cases hy
  rename_i av2 Rj
  have hKS:=M' h1 (bu h1 Rj) hy hmi
  obtain⟨news,rY,u6⟩:=abM (P:=P) u1 hKS
  refine u9 (n:=S1.length) (A:=Av bF Z) (Ew:=ow) (uu:=fun _=>False) (IY:=fun _=>0) hT hi fw ho h1 rfl rfl (aH awE _ (fun _ _ _=>rfl) (fun _ h _=>h) (fun _ h=>h) hM) rY (fun k fo=>nX hme (u6 k fo)) (fun _ _ h=>h) (fun g hg=>?_) IZ
  rw[hn]
  exact hk.now g (hg.resolve_right id)
 |false=>
  rw[hme] at e
  simp only[cond_false] at e
  split at e
  case h_2=>cases e
  rename_i t' m' ys S2 hy
  split at e
  case isFalse=>cases e
  rename_i htt
  subst htt
  split at e
  case isFalse=>cases e
  rename_i hmi
  simp only[Option.some.injEq,Prod.mk.injEq,decide_eq_true_eq] at e
  obtain⟨IZ,rfl⟩:=e
  unfold St.take at hy
  split at hy
  case h_2=>cases hy
  rename_i av2 Rj
  obtain⟨dS,cs2,pH,h2,hm2,hM2,QK,hn2⟩:=eN h1 Rj hy
  rw[hn] at QK hn2
  have gP:cs2=[a.eval y]:=by simpa[an,isAgg] using hm2
  subst gP
  have aqw:aO w w (Av bF Z) (Av dS Z):=⟨fun _ _ _=>rfl,fun g _ hg=>QK.Av.1 hg⟩
  have auR:M w (Av dS Z) H (.sl t') m' ys [a.eval y] pH []:=aH aqw _ (fun _ _ _=>rfl) (fun _ h _=>h) (fun _ h=>h) hM2
  have hM':M w (Av dS Z) H (.sl t') (.o i.e tag me) xs [a.eval x] ow []:=aH ⟨fun _ _ _=>rfl,fun g _ hg=>hk.Av.1 (QK.Av.1 hg)⟩ _ (fun _ _ _=>rfl) (fun _ h _=>h) (fun _ h=>h) hM
  have xu:∀ g,ow g∨pH g→∃ i,S.length≤i∧dS g=some i:=fun g hg=>(hk.trans QK).now g hg
  simp only[M] at auR
  rcases auR with⟨hn0,_⟩ |⟨hK,_⟩ |⟨T2,YB,me2,X,c,rfl,e2,hle,aie,u6⟩
  ·simp at hn0
  ·rw[←hmi] at hme
   rw[pv hK] at hme
   cases hme
  ·simp only[Md.Ho] at hmi
   subst hmi
   simp only[List.cons.injEq,and_true] at e2
   have rY:∃ (uu:Nat→Prop) (IY:Nat→Nat) (news:List Value),Src P t'.size T' (a.eval y) ys.length news w∧(∀ g,uu g→pH g)∧
     ∀ (k:Nat) (hk:k<ys.length),M w (Av dS Z) H t' me2 ys[k] ((news.drop (k*t'.size)).take t'.size) (fun g=>uu g∧IY g=k) []:=by
    rcases u6 with⟨hys,_⟩ |⟨g,cur,τ,hX,qU,hw,iX,auQ,u6⟩
    ·subst hys
     obtain⟨news,s1,_⟩:=Rm (P:=P) (w:=w) (t:=t') (ys:=([]:List t'.I)) (vy:=a.eval y) u1 rfl ⟨X,c,e2,fun hp=>by simp at hp⟩
     exact⟨fun _=>False,fun _=>0,news,s1,fun _ h=>h.elim,fun k hk=>by simp at hk⟩
    ·subst hX
     have iY:cur.toList.length=cur.size:=Array.length_toList
     have hb:=Nat.mul_le_mul_right t'.size hle
     obtain⟨news,s1,s2⟩:=Rm (P:=P) (w:=w) (t:=t') (ys:=ys) (vy:=a.eval y) u1 rfl ⟨some ⟨g,0,none⟩,c,e2,fun hp=>⟨g,0,cur,T2,(0,0),rfl,hw,by omega,ot _ fun j hj u hu=>by
      rw[List.drop_zero] at hu
      exact(eH t' (u6 j hj)).2 u hu⟩⟩
     refine⟨fun g'=>pH g'∧g'≠g,τ,news,s1,fun _ h=>h.1,fun k hk=>?_⟩
     rw[s2 g 0 cur T2 (0,0) _ c e2 rfl hw (by omega),oq hk,List.drop_zero]
     exact aH (aO.refl _ _) t' (fun _ _ _=>rfl) (fun g' bd _=>⟨⟨bd.1,bd.2.1⟩,bd.2.2⟩) (fun _ h=>h) (u6 k hk)
   obtain⟨uu,IY,news,s1,s2,s3⟩:=rY
   exact u9 (n:=S.length) (A:=Av dS Z) (Ew:=ow) (uu:=uu) (IY:=IY) hT hi fw ho h2 hn2 rfl hM' s1 s3 (fun g hg rq=>hk.apart QK hg (s2 g rq)) (fun g hg=>xu g (hg.imp id (s2 g))) IZ
end Go.Pv
namespace Go.Pv
set_option linter.unusedVariables false
set_option linter.unusedSimpArgs false
variable {P:Program} {w w':World} {A A' Wr:Nat→Prop} {H:Nat→Value} {tm rC:Nat→Value} {S S' S1:St} {σ bF:Nat→Option Nat} {w0:World} {W0 Z:Nat→Prop} {a:Act} {own:Nat→Prop} {v:Value} {Θ:da} {dst:Option Nat}
theorem Ey {p:Path} {ex:List Path} (h:∀ q∈ex,ph q p=false):w5 p ex=[]:=by
 have key:∀ (p r:Path),ph (p++r) p=true:=by
  intro p
  induction p with
  |nil=>intro r;cases r<;>rfl
  |cons a p ih=>intro r;cases a<;>simp[ph,ih]
 apply List.eq_nil_iff_forall_not_mem.2
 intro q hq
 have:=h _ (DS.1 hq)
 rw[key] at this
 cases this
theorem r9 (h:aW σ w0 W0 Z H S a w) {vv:Value} {t:Ty} {s:Nat} {p:Path} (hpc:p≠[]) {r:TV} {ex:List Path} {b:TV} (hh:Holds w (Av σ Z) H (bR a) S own (.al t s p) vv) (hs:S.at s=.v r ex) (hg:aY p r.t r.m r.x=some b) (hk:b.m.bH=false) (iY:∀ q∈ex,ph q p=false):
  ∃ bF cs ow,aW bF w0 W0 Z H (((S.weaken s).cover s p).set s (.v r (ex++[p]))) a w∧an b.t vv cs∧M w (Av bF Z) H b.t b.m b.x cs ow []∧gm σ bF S.length ow∧(((S.weaken s).cover s p).set s (.v r (ex++[p]))).length=S.length:=by
 obtain⟨r0,cL,cs,hr,hc,hm⟩:=hh
 obtain⟨ex0,b2,cI,ow0,j1,j2,j3,j4,hM,j5,j6,j7⟩:=fS h hr
 rw[hs] at j1
 injection j1 with j1 j1'
 subst j1 j1'
 have j1:=hs
 rw[hg] at j3
 injection j3 with j3
 subst j3
 have j3:=hg
 obtain⟨cs2,cA,k1,k2,k3,k4⟩:=HO p hM j2 hr.val j3 hk
 rw[hc] at k1
 injection k1 with k1
 subst k1
 rw[Ey iY] at k3
 -- the ownership without what is taken
 have abx:s<S.length:=eA (by rw[j1];exact fun e=>by cases e)
 let bF:Nat→Option Nat:=fun g=>open Classical in if cA g then some S.length else σ g
 have Eo:∀ g i,bF g=some i→∃ k,σ g=some k:=by
  intro g i hg
  simp only[bF] at hg
  split at hg
  ·exact⟨s,k2 g (by assumption)⟩
  ·exact⟨i,hg⟩
 have Ep:∀ g i,σ g=some i→¬cA g→bF g=some i:=by
  intro g i hg hn
  simp only[bF,if_neg hn,hg]
 have bO:aO w w (Av σ Z) (Av bF Z):=⟨fun _ _ _=>rfl,fun g _ hg=>by
  rcases hg with⟨i,hg⟩ |hg
  ·exact .inl (Eo g i hg)
  ·exact .inr hg⟩
 have aby:gm σ bF S.length cA:=by
  refine⟨fun g hg=>⟨s,abx,k2 g hg⟩,fun g hg=>⟨_,Nat.le_refl _,by simp only[bF,if_pos hg]⟩,fun g i hg hi=>?_,fun g=>⟨fun⟨i,hg⟩=>Eo g i hg,fun⟨i,hg⟩=>?_⟩,fun g i hg hi=>Ep g i hg (fun hx=>?_)⟩
  ·simp only[bF] at hg
   split at hg
   ·injection hg with hg;omega
   ·exact hg
  ·simp only[bF]
   split
   ·exact⟨_,rfl⟩
   ·exact⟨i,hg⟩
  ·have:=k2 g hx
   rw[hg] at this
   injection this with this
   omega
 refine⟨bF,cs,cA,?_,by rw[j4];exact hm,aH bO _ (fun _ _ _=>rfl) (fun _ h _=>h) (fun _ h=>h) k3,aby,by simp[St.weaken,St.cover]⟩
 have hlen:((S.weaken s).cover s p).length=S.length:=by simp[St.weaken,St.cover]
 have GZ:s<S.length:=by
  rcases Nat.lt_or_ge s S.length with hl |hl
  ·exact hl
  ·unfold St.at at j1
   rw[List.getD_eq_getElem?_getD,List.getElem?_eq_none hl] at j1
   cases j1
 have Af:St.at (((S.weaken s).cover s p).set s (.v r (ex++[p]))) s=.v r (ex++[p]):=by rw[cN,if_pos ⟨rfl,by rw[hlen];exact GZ⟩]
 have ln:∀ i,i≠s→St.at (((S.weaken s).cover s p).set s (.v r (ex++[p]))) i=(match (bif (S.at i).eU s then AV.dead else S.at i) with
   | .ad t s' q=>bif Nat.beq s' s&&under p q then .dead else .ad t s' q
   |a=>a):=by
  intro i hi
  rw[cN,if_neg (fun e=>hi e.1),Em,ke]
  try (cases (bif AV.eU s (S.at i) then AV.dead else S.at i)<;>rfl)
 refine⟨by simp only[List.length_set,hlen];exact h.len,h.defers,h.fr,fun g i hg=>(Eo g i hg).elim fun k hk=>h.new g k hk,fun g i hg=>(Eo g i hg).elim fun k hk=>h.lt g k hk,fun g hg=>⟨?_,(h.old g hg).2⟩,fun i=>?_⟩
 ·simp only[bF]
  split
  ·rename_i hx
   have:=k2 g hx
   rw[(h.old g hg).1] at this
   cases this
  ·exact(h.old g hg).1
 ·by_cases QM:i=s
  ·subst QM
   rw[Af]
   exact⟨cL,hr.mat,aH bO _ (fun _ _ _=>rfl) (fun g hg _=>Ep g _ hg.1 hg.2) (fun _ h=>h) k4⟩
  ·rw[ln i QM]
   cases qW:(S.at i).eU s with
   |true=>trivial
   |false=>
    simp only[cond_false]
    have hi:=h.holds i
    have base:Holds w (Av bF Z) H (bR a) S (fun g=>bF g=some i) (S.at i) (bR a i):=
     hi.kept bO (fun g hg _=>⟨rfl,Ep g i hg (fun hx=>QM (by have:=k2 g hx;rw[hg] at this;injection this))⟩) (fun s' _=>⟨fun _ _ h=>h,rfl,_,h.holds s',fun _ _ _=>rfl⟩)
    have hSv:∀ j r' Dj,j≠s→S.at j=.v r' Dj→St.at (((S.weaken s).cover s p).set s (.v r (ex++[p]))) j=.v r' Dj:=by
     intro j r' Dj hj hv
     rw[ln j hj,hv]
     simp[AV.eU]
    cases fq:S.at i with
    |v b3 ex3=>
     rw[fq] at base
     obtain⟨c3,l1,l2⟩:=base
     exact⟨c3,l1,l2⟩
    |ua l=>
     rw[fq] at base
     exact base
    |ad t' s' q=>
     rw[fq] at base qW
     simp only
     cases aqm:(Nat.beq s' s&&under p q) with
     |true=>trivial
     |false=>
      simp only[cond_false]
      refine gy j1 hSv Af qW (fun t2 q2 e2=>?_) base (fun _ _ e=>by cases e) (fun _ e=>by cases e)
      injection e2 with _ e3 e4
      subst e3 e4
      simpa using aqm
    |dead=>trivial
    |undef=>rw[fq] at base;exact base
    |al t' s' q=>
     rw[fq] at base qW
     exact gy j1 hSv Af qW (fun t2 q2 e2=>by cases e2) base (fun _ _ e=>by cases e) (fun _ e=>by cases e)
    |cut t' s' q lo Hw=>
     rw[fq] at base qW
     exact gy j1 hSv Af qW (fun t2 q2 e2=>by cases e2) base (fun _ _ e=>by cases e) (fun _ e=>by cases e)
    |lE f cq=>
     rw[fq] at base qW
     exact gy j1 hSv Af qW (fun t2 q2 e2=>by cases e2) base (fun _ _ e=>by cases e) (fun _ e=>by cases e)
theorem Ro (h:aW σ w0 W0 Z H S a w) {x:Operand} {t:Ty} {s:Nat} {p:Path} (hpc:p≠[]) {r:TV} {ex:List Path} {b:TV} (hh:Holds w (Av σ Z) H (bR a) S own (.al t s p) (a.eval x)) (hs:S.at s=.v r ex) (hg:aY p r.t r.m r.x=some b) (hk:b.m.bH=false) (iY:∀ q∈ex,ph q p=false):
  ∃ bF cs ow,aW bF w0 W0 Z H (((S.weaken s).cover s p).set s (.v r (ex++[p]))) a w∧an b.t (a.eval x) cs∧M w (Av bF Z) H b.t b.m b.x cs ow []∧gm σ bF S.length ow∧(((S.weaken s).cover s p).set s (.v r (ex++[p]))).length=S.length:=r9 h hpc hh hs hg hk iY
theorem Rp (hT:cM P Θ=true) (h:aW σ w0 W0 Z H S a w) {o:Oper} {as:Array Operand} {ts:Array TypeId} (ho:o.op=.call { callee:=.builtin .append,args:=as,argTypes:=ts }) (e:fR Θ S o.dst ts.toList as.toList=some (true,S')):IQ P w0 W0 Z H S' a o.dst w (execOp a.eval o):=by
 obtain⟨as⟩:=as
 obtain⟨ts⟩:=ts
 simp only at e
 unfold fR at e
 split at e
 case h_2=>cases e
 rename_i x y T T'
 split at e
 case h_2=>cases e
 rename_i tt s st pp dG
 split at e
 case h_2=>cases e
 rename_i r ex hs
 split at e
 case h_2=>cases e
 rename_i t e0 tag me xs i hg hi
 cases hc:(decide (i.ty=.sl t)&&Nat.beq i.e e0&&Θ.is T' (.sl t)&&me.bH) with
 |false=>rw[hc] at e;cases e
 |true=>
 rw[hc] at e
 simp only[cond_true] at e
 simp only[Bool.and_eq_true,decide_eq_true_eq] at hc
 obtain⟨⟨⟨fw,hee⟩,hT'⟩,hme⟩:=hc
 have hee:=Nat.eq_of_beq_eq_true hee
 subst hee
 split at e
 case h_2=>cases e
 rename_i t' m' ys hy
 cases hmi:m'.Ho.bH with
 |false=>rw[hmi] at e;cases e
 |true=>
 rw[hmi] at e
 simp only[cond_true] at e
 split at e
 case isFalse=>cases e
 rename_i htt
 subst htt
 simp only[Option.some.injEq,Prod.mk.injEq,Bool.and_eq_true,decide_eq_true_eq] at e
 obtain⟨⟨iY,IZ⟩,rfl⟩:=e
 obtain⟨bF,cs,ow,h1,hm,hM,hk,hn⟩:=Ro (x:=x) h (by simp) (bu h dG) hs hg (by simp[Md.bH]) (fun q hq=>by simpa using List.all_eq_true.1 iY q hq)
 have gP:cs=[a.eval x]:=by simpa[an,isAgg] using hm
 subst gP
 obtain⟨i',Hw,abG⟩:=dQ hT'
 obtain⟨_,th,hT1⟩:=cO hT Hw
 obtain⟨u1,_,_⟩:=lr th abG
 rw[hT1] at u1
 unfold St.rd at hy
 split at hy
 case h_2=>cases hy
 rename_i av2 Rj
 have hKS:=M' h1 (bu h1 Rj) hy hmi
 obtain⟨news,rY,u6⟩:=abM (P:=P) u1 hKS
 refine u9 (n:=S.length) (A:=Av bF Z) (Ew:=ow) (uu:=fun _=>False) (IY:=fun _=>0) hT hi fw ho h1 hn rfl hM rY (fun k fo=>nX hme (u6 k fo)) (fun _ _ h=>h) (fun g hg=>?_) IZ
 exact hk.now g (hg.resolve_right id)
end Go.Pv
