/- A verified evaluator of the program's form over pure values, part 2: what it tells of a function holds. -/
import Derived.Test.YtcpakhaogbempaaGreatPv1
import Derived.Deep.AppendSrc
import Derived.Deep.Upon
import Derived.Laws.Cells
import Derived.Laws.CopyRow
import Derived.Laws.MakeOwn
import Derived.Laws.OwnMore
import Derived.Laws.Tables
import Derived.Maps.AppendAt
namespace Go.Pv
set_option linter.unusedVariables false
set_option linter.unusedSimpArgs false
variable {P:Program} {w w':World} {A A':Nat→Prop} {H:Nat→Value} {tm sx:Nat→Value} {S S':St} {σ:Nat→Option Nat} {w0:World} {W0 Z:Nat→Prop} {a:Act} {own:Nat→Prop} {v:Value} {Θ:ee} {dst:Option Nat}
theorem gB:∀ (p q:Path) (t:Ty) (m:Md) (x:t.I),bQ (p++q) t m x=(bQ p t m x).bind fun b=>bQ q b.t b.m b.x
 |[],q,t,m,x=>rfl
 | .deref::p,q,t,m,x=>by cases t<;>simp only[List.cons_append,bQ,Option.bind_none]<;>exact gB p q _ _ _
 | .fst::p,q,t,m,x=>by cases t<;>simp only[List.cons_append,bQ,Option.bind_none]<;>exact gB p q _ _ _
 | .snd::p,q,t,m,x=>by cases t<;>simp only[List.cons_append,bQ,Option.bind_none]<;>exact gB p q _ _ _
 | .idx i::p,q,t,m,x=>by cases t<;>simp only[List.cons_append,bQ,Option.bind_none]<;>exact gB p q _ _ _
theorem gH:∀ (p q:Path) {t:Ty} {m:Md} {x:t.I} {b:TV},bQ p t m x=some b→valid p t x→valid q b.t b.x→valid (p++q) t x
 |[],q,t,m,x,b,hg,_,h=>by simp only[bQ,Option.some.injEq] at hg;subst hg;exact h
 | .deref::p,q,.ptr t,m,x,b,hg,h1,h2=>by simp only[bQ] at hg;simp only[valid] at h1;simp only[List.cons_append,valid];exact gH p q hg h1 h2
 | .fst::p,q,.pair _ _,m,x,b,hg,h1,h2=>by simp only[bQ] at hg;simp only[valid] at h1;simp only[List.cons_append,valid];exact gH p q hg h1 h2
 | .snd::p,q,.pair _ _,m,x,b,hg,h1,h2=>by simp only[bQ] at hg;simp only[valid] at h1;simp only[List.cons_append,valid];exact gH p q hg h1 h2
 | .idx i::p,q,.sl t,m,x,b,hg,h1,h2=>by simp only[bQ] at hg;simp only[valid] at h1;simp only[List.cons_append,valid];exact⟨h1.1,gH p q hg h1.2 h2⟩
theorem CT (cs:List Value):(∃ g off,cs=[.pointer (some ⟨g,off,none⟩)])∨((∀ (w:World) (p:Path) (t:Ty),bu w (.deref::p) (.ptr t) cs=none)∧∀ (w:World) (p:Path) (t:Ty) (l:Option (Nat×Nat)),addrAt w (.deref::p) (.ptr t) cs l=none):=by
 rcases cs with _ |⟨v,_ |⟨_,_⟩⟩
 ·exact .inr ⟨fun _ _ _=>rfl,fun _ _ _ _=>rfl⟩
 ·cases v<;>try exact .inr ⟨fun _ _ _=>rfl,fun _ _ _ _=>rfl⟩
  rename_i x
  rcases x with _ |⟨g,off,_ |_⟩
  ·exact .inr ⟨fun _ _ _=>rfl,fun _ _ _ _=>rfl⟩
  ·exact .inl ⟨g,off,rfl⟩
  ·exact .inr ⟨fun _ _ _=>rfl,fun _ _ _ _=>rfl⟩
 ·cases v<;>try exact .inr ⟨fun _ _ _=>rfl,fun _ _ _ _=>rfl⟩
  rename_i x
  rcases x with _ |⟨g,off,_ |_⟩<;>exact .inr ⟨fun _ _ _=>rfl,fun _ _ _ _=>rfl⟩
theorem Ij (cs:List Value):(∃ g off n c,cs=[.slice (some ⟨g,off,none⟩) n c])∨((∀ (w:World) (i:Nat) (p:Path) (t:Ty),bu w (.idx i::p) (.sl t) cs=none)∧∀ (w:World) (i:Nat) (p:Path) (t:Ty) (l:Option (Nat×Nat)),addrAt w (.idx i::p) (.sl t) cs l=none):=by
 rcases cs with _ |⟨v,_ |⟨_,_⟩⟩
 ·exact .inr ⟨fun _ _ _ _=>rfl,fun _ _ _ _ _=>rfl⟩
 ·cases v<;>try exact .inr ⟨fun _ _ _ _=>rfl,fun _ _ _ _ _=>rfl⟩
  rename_i x n c
  rcases x with _ |⟨g,off,_ |_⟩
  ·exact .inr ⟨fun _ _ _ _=>rfl,fun _ _ _ _ _=>rfl⟩
  ·exact .inl ⟨g,off,n,c,rfl⟩
  ·exact .inr ⟨fun _ _ _ _=>rfl,fun _ _ _ _ _=>rfl⟩
 ·cases v<;>try exact .inr ⟨fun _ _ _ _=>rfl,fun _ _ _ _ _=>rfl⟩
  rename_i x n c
  rcases x with _ |⟨g,off,_ |_⟩<;>exact .inr ⟨fun _ _ _ _=>rfl,fun _ _ _ _ _=>rfl⟩
theorem gI:∀ (p q:Path) {t:Ty} {m:Md} {x:t.I} {b:TV} (cs:List Value) (l:Option (Nat×Nat)),bQ p t m x=some b→
  bu w (p++q) t cs=(bu w p t cs).bind (bu w q b.t)∧addrAt w (p++q) t cs l=(bu w p t cs).bind fun c=>addrAt w q b.t c (addrAt w p t cs l)
 |[],q,t,m,x,b,cs,l,hg=>by simp only[bQ,Option.some.injEq] at hg;subst hg;exact⟨rfl,rfl⟩
 | .fst::p,q,.pair a' b',m,x,b,cs,l,hg=>by simp only[bQ] at hg;simp only[List.cons_append,bu,addrAt];exact gI p q _ _ hg
 | .snd::p,q,.pair a' b',m,x,b,cs,l,hg=>by simp only[bQ] at hg;simp only[List.cons_append,bu,addrAt];exact gI p q _ _ hg
 | .deref::p,q,.ptr t,m,x,b,cs,l,hg=>by
  simp only[bQ] at hg
  have ih:=fun c l'=>gI p q c l' hg
  rw[List.cons_append]
  rcases CT cs with⟨g,off,rfl⟩ |⟨h1,h2⟩
  ·simp only[bu,addrAt]
   cases hr:rowAt w g off t.size with
   |none=>simp
   |some c=>simp only[Option.bind_some];exact ih c _
  ·simp only[h1,h2,Option.bind_none,and_self]
 | .idx i::p,q,.sl t,m,x,b,cs,l,hg=>by
  simp only[bQ] at hg
  have ih:=fun c l'=>gI p q c l' hg
  rw[List.cons_append]
  rcases Ij cs with⟨g,off,n,c,rfl⟩ |⟨h1,h2⟩
  ·simp only[bu,addrAt]
   cases hr:rowAt w g (off+i*t.size) t.size with
   |none=>simp
   |some c=>simp only[Option.bind_some];exact ih c _
  ·simp only[h1,h2,Option.bind_none,and_self]
theorem pC {g off n:Nat} {cs:List Value} (h:rowAt w g off n=some cs):cs.length=n∧∃ cur T fr,w.heap[g]?=some (.cells cur T fr)∧off+n≤cur.size∧cs=(cur.toList.drop off).take n:=by
 unfold rowAt at h
 split at h
 ·rename_i cur T fr hw
  split at h
  ·rename_i hl
   injection h with h
   subst h
   refine⟨by simp;omega,cur,T,fr,hw,hl,rfl⟩
  ·cases h
 ·cases h
theorem EZ {g off n a b:Nat} {cs:List Value} (h:rowAt w g off n=some cs) (u7:a+b≤n):rowAt w g (off+a) b=some ((cs.drop a).take b):=by
 obtain⟨_,cur,T,fr,hw,hl,rfl⟩:=pC h
 rw[b6 hw (by omega),List.drop_take,List.take_take,List.drop_drop,Nat.min_eq_left (by omega)]
theorem sY:∀ (p:Path) {t:Ty} {m:Md} {x:t.I} {b:TV} {cs du:List Value} {l:Option (Nat×Nat)} {g off:Nat},bQ p t m x=some b→cs.length=t.size→(∀ g o,l=some (g,o)→rowAt w g o t.size=some cs)→
  bu w p t cs=some du→addrAt w p t cs l=some (g,off)→rowAt w g off b.t.size=some du
 |[],t,m,x,b,cs,du,l,g,off,hg,hl,hr,hc,ha=>by
  simp only[bQ,Option.some.injEq] at hg;subst hg
  simp only[bu,Option.some.injEq] at hc;subst hc
  exact hr g off ha
 | .fst::p,.pair a' b',m,x,b,cs,du,l,g,off,hg,hl,hr,hc,ha=>by
  simp only[bQ] at hg;simp only[bu] at hc;simp only[addrAt] at ha;simp only[Ty.size] at hl hr
  refine sY p hg (by rw[List.length_take];omega) (fun g o e=>?_) hc ha
  have:=EZ (a:=0) (b:=a'.size) (hr g o e) (by omega)
  rw[Nat.add_zero,List.drop_zero] at this
  exact this
 | .snd::p,.pair a' b',m,x,b,cs,du,l,g,off,hg,hl,hr,hc,ha=>by
  simp only[bQ] at hg;simp only[bu] at hc;simp only[addrAt] at ha;simp only[Ty.size] at hl hr
  refine sY p hg (by rw[List.length_drop];omega) (fun g o e=>?_) hc ha
  cases l with
  |none=>simp at e
  |some q=>
   simp only[Option.map_some,Option.some.injEq,Prod.mk.injEq] at e
   obtain⟨rfl,rfl⟩:=e
   have:=EZ (a:=a'.size) (b:=b'.size) (hr q.1 q.2 rfl) (by omega)
   rw[List.take_of_length_le (by rw[List.length_drop];omega)] at this
   exact this
 | .deref::p,.ptr t,m,x,b,cs,du,l,g,off,hg,hl,hr,hc,ha=>by
  simp only[bQ] at hg
  rcases CT cs with⟨g1,aqQ,rfl⟩ |⟨h1,h2⟩
  ·simp only[bu] at hc
   simp only[addrAt] at ha
   cases iV:rowAt w g1 aqQ t.size with
   |none=>rw[iV] at hc;simp at hc
   |some c=>
    rw[iV] at hc ha
    simp only[Option.bind_some] at hc ha
    exact sY p hg (pC iV).1 (fun g o e=>by injection e with e;injection e with e1 e2;subst e1 e2;exact iV) hc ha
  ·rw[h1] at hc;cases hc
 | .idx i::p,.sl t,m,x,b,cs,du,l,g,off,hg,hl,hr,hc,ha=>by
  simp only[bQ] at hg
  rcases Ij cs with⟨g1,aqQ,n,c1,rfl⟩ |⟨h1,h2⟩
  ·simp only[bu] at hc
   simp only[addrAt] at ha
   cases iV:rowAt w g1 (aqQ+i*t.size) t.size with
   |none=>rw[iV] at hc;simp at hc
   |some c=>
    rw[iV] at hc ha
    simp only[Option.bind_some] at hc ha
    exact sY p hg (pC iV).1 (fun g o e=>by injection e with e;injection e with e1 e2;subst e1 e2;exact iV) hc ha
  ·rw[h1] at hc;cases hc
theorem E0 (hT:dv P Θ=true) {T:TypeId} {t:Ty} {g off:Nat} {cs:List Value} (ht:Θ.is T t=true) (h:rowAt w g off t.size=some cs):
  ∃ v,(∀ w2,Ext w w2→(Instr.loadAt T (.pointer (some ⟨g,off,none⟩))).run P w2=.ok v w2)∧aE t v cs:=by
 suffices hs:∀ w2,Ext w w2→∃ v,(Instr.loadAt T (.pointer (some ⟨g,off,none⟩))).run P w2=.ok v w2∧aE t v cs by
  obtain⟨v,_,h2⟩:=hs w (Ext.refl w)
  refine⟨v,fun w2 hw=>?_,h2⟩
  obtain⟨v',k1,k2⟩:=hs w2 hw
  rw[k1]
  unfold aE at h2 k2
  split at h2
  ·rename_i ha;rw[if_pos ha] at k2;rw[h2,k2]
  ·rename_i ha;rw[if_neg ha] at k2;rw[h2] at k2;injection k2 with k2;rw[k2]
 intro w2 sH
 have h:rowAt w2 g off t.size=some cs:=by
  obtain⟨_,cur,T',fr,hw,_,_⟩:=pC h
  unfold rowAt at h ⊢
  rw[sH g (bT hw)]
  exact h
 clear sH
 revert h
 generalize w2=w
 intro h
 obtain⟨hl,cur,T',fr,hw,hs,rfl⟩:=pC h
 obtain⟨inf,hi,j8,_⟩:=jA hT ht
 have vk:∀ j v,((cur.toList.drop off).take t.size)[j]?=some v→w.cell? ((⟨g,off,none⟩:Addr).add j)=some v:=by
  intro j v hj
  rw[kx]
  unfold World.cell?
  simp only[hw,Option.isSome_none,Bool.false_eq_true,if_false]
  rw[List.getElem?_take] at hj
  split at hj
  ·rw[List.getElem?_drop] at hj
   simpa using hj
  ·cases hj
 have awM:=Sd hT ht w
 simp only[Instr.loadAt,Instr.sureAddr,loadVar,Sem.run_bind,Sem.run_pure,Result.andThen_ok,awM]
 cases hb:isAgg t with
 |true=>
  refine⟨.agg ((cur.toList.drop off).take t.size).toArray,?_,by simp[aE,hb]⟩
  have hlc:=run_loadCells_list (P:=P) (w:=w) ⟨g,off,none⟩ _ vk
  rw[hl] at hlc
  simp only[if_true,Sem.run_bind,sizeOf,typeInfo,run_program,Result.andThen_ok,hi,Sem.run_pure,j8,hlc]
 |false=>
  have h1:t.size=1:=by cases t<;>simp[isAgg] at hb<;>rfl
  rw[h1] at hl vk ⊢
  obtain⟨u,hu⟩:∃ u,(cur.toList.drop off).take 1=[u]:=by
   cases hx:(cur.toList.drop off).take 1 with
   |nil=>rw[hx] at hl;simp at hl
   |cons u r=>
    rw[hx] at hl
    cases r with
    |nil=>exact⟨u,rfl⟩
    |cons _ _=>simp at hl
  refine⟨u,?_,by simp[aE,hb,hu]⟩
  have:=vk 0 u (by rw[hu];rfl)
  rw[Addr.add_zero'] at this
  simp[load,Sem.run,this]
end Go.Pv
namespace Go.Pv
set_option linter.unusedVariables false
set_option linter.unusedSimpArgs false
variable {P:Program} {w w':World} {A A':Nat→Prop} {H:Nat→Value} {tm sx:Nat→Value} {S S':St} {σ:Nat→Option Nat} {w0:World} {W0 Z:Nat→Prop} {a:Act} {own:Nat→Prop} {v:Value} {Θ:ee} {dst:Option Nat}
def V3 (w:World) (A:Nat→Prop) (tm:Nat→Value) (S:St):Tgt→Value→Prop
 | .k b,v=>∃ cs,aE (.ptr b.t) v cs∧K w A (.ptr b.t) b.x cs
 | .pl t s p,v=>∃ r ex,S.at s=.v r ex∧(open_ p ex→∃ dy g off,Ref tm S t s p r dy∧addrAt w p r.t dy none=some (g,off)∧v=.pointer (some ⟨g,off,none⟩))
theorem acq (h:bI σ w0 W0 Z H S a w) {i:Nat} {t:Ty} {T:TypeId} {tag:Option Nat} {me:Md} {y:t.I} {ex:List Path} (hi:S.at i=.v ⟨.ptr t,.o T tag me,y⟩ ex):
  V3 w (Av σ Z) (cG a) S (.pl t i [.deref]) (cG a i):=by
 refine⟨_,ex,hi,fun ho=>?_⟩
 have hh:=h.holds i
 rw[hi] at hh
 obtain⟨cs,h1,h2⟩:=hh
 simp only[M] at h2
 rcases h2 with⟨hn,_⟩ |⟨hk,_⟩ |⟨T',acr,me',g,cur,e,rfl,ht,hg,hw,hM⟩
 ·exact absurd hn ho.not_nil
 ·simp[Md.cy] at hk
 ·have hlen:=(fI t hM).1
  refine⟨_,g,0,⟨⟨ex,hi,ho⟩,trivial,⟨_,rfl,rfl⟩,h1⟩,?_,by simpa[aE,isAgg] using h1.symm⟩
  have hs:0+t.size≤cur.size:=by rw[←hlen];simp
  simp only[addrAt,b6 hw hs,Option.bind_some]
theorem Y' {p q:Path} {ex:List Path} (h:open_ (p++q) ex):open_ p ex:=fun r hr s u e=>h r hr s (u++q) (by rw[e];simp)
theorem ya {p:Path} {s:Step} {q:Path} {ex:List Path} (h:open_ (p++s::q) ex):[]∉xP p ex:=fun hm=>by
 have:=Ez.1 hm
 rw[List.append_nil] at this
 exact h p this s q rfl
theorem sZ (h:bI σ w0 W0 Z H S a w) {T:TypeId} {x:Operand} {av:AV} {g:Tgt} (ho:S.fb Θ T x=some av) (e:S.HV x av=some g):V3 w (Av σ Z) (cG a) S g (a.eval x):=by
 have hh:=cf h ho
 have pD:∀ {t:Ty} {T:TypeId} {tag:Option Nat} {me:Md} {y:t.I} {ex:List Path} {i:Nat},av=.v ⟨.ptr t,.o T tag me,y⟩ ex→x=.tmp i→V3 w (Av σ Z) (cG a) S (.pl t i [.deref]) (a.eval x):=by
  intro t T tag me y ex i e1 e2
  subst e2
  simp only[St.fb,Option.some.injEq] at ho
  rw[e1] at ho
  exact acq h ho
 unfold St.HV at e
 split at e
 ·rename_i t m y
  split at e
  ·injection e with e;subst e
   obtain⟨cs,h1,h2⟩:=hh
   exact⟨cs,h1,gR _ rfl h2⟩
  ·injection e with e;subst e
   exact pD rfl rfl
  ·cases e
 ·split at e
  ·injection e with e;subst e
   exact pD rfl rfl
  ·cases e
 ·rename_i t s p
  obtain⟨r,dy,cs,hr,hc,hm⟩:=hh
  split at e
  ·rename_i t' y CR
   injection e with e;subst e
   obtain⟨ex,b,du,de,k1,k2,k3,k4,hM,k5,k6,k7⟩:=gY h hr
   obtain⟨r',DO,q1,q2,q3⟩:=eV CR
   rw[k1] at q1
   injection q1 with q1 EY
   subst q1 EY
   rw[k3] at q3
   injection q3 with q3
   subst q3
   rw[k5] at hc
   injection hc with hc
   subst hc
   simp only at k4
   rw[←k4] at hm
   exact⟨_,hm,gR _ rfl k7⟩
  ·rename_i t' T' acr me' y CR
   injection e with e;subst e
   obtain⟨ex,b,du,de,k1,k2,k3,k4,hM,k5,k6,k7⟩:=gY h hr
   obtain⟨r',DO,q1,q2,q3⟩:=eV CR
   rw[k1] at q1
   injection q1 with q1 EY
   subst q1 EY
   rw[k3] at q3
   injection q3 with q3
   subst q3
   rw[k5] at hc
   injection hc with hc
   subst hc
   simp only at k4
   injection k4 with k4
   subst k4
   refine⟨r,ex,k1,fun cA=>?_⟩
   simp only[M] at k7
   rcases k7 with⟨hn,_⟩ |⟨hk,_⟩ |⟨T',acr,me',g,cur,e,rfl,ht,hg,hw,hM'⟩
   ·exact absurd hn (ya cA)
   ·simp[Md.cy] at hk
   ·have hlen:=(fI _ hM').1
    have hs:0+Ty.size t'≤cur.size:=by rw[←hlen];simp
    refine⟨dy,g,0,⟨⟨ex,k1,cA⟩,gH p [.deref] k3 hr.val trivial,⟨_,by rw[gB,k3];rfl,rfl⟩,hr.mat⟩,?_,by simpa[aE,isAgg] using hm.symm⟩
    rw[(gI p [.deref] dy none k3).2,k5]
    simp only[Option.bind_some,addrAt,b6 hw hs]
  ·cases e
 ·rename_i t s p
  injection e with e;subst e
  obtain⟨r,dy,g,off,hr,hc,hm⟩:=hh
  obtain⟨ex,k1,k2⟩:=hr.at_
  exact⟨r,ex,k1,fun _=>⟨dy,g,off,hr,hc,hm⟩⟩
 ·cases e
theorem NK (h:bI σ w0 W0 Z H S a w) {o:Oper} {x:Operand} (ho:o.op=.nilCheck x) (e:vN Θ S o.dst x=some (true,S')):jg P w0 W0 Z H S' a o.dst w (execOp a.eval o):=by
 unfold vN at e
 split at e
 ·rename_i av eQ
  split at e
  ·rename_i g hg
   split at e
   ·rename_i r _ hr CR
    injection e with e;injection e with _ e;subst e
    have hc:=qz h eQ hr
    have hl:=sZ h eQ hg
    have hp:(∃ ad,a.eval x=.pointer (some ad)):=by
     cases g with
     |k b=>
      obtain⟨cs,h1,h2⟩:=hl
      simp only[K] at h2
      obtain⟨g,off,cur,T,fr,rfl,_⟩:=h2
      exact⟨_,by simpa[aE,isAgg] using h1.symm⟩
     |pl t s p=>
      obtain⟨r',ex,k1,k2⟩:=hl
      simp only at CR
      split at CR
      ·rename_i b hb
       obtain⟨r2,ex2,q1,q2,q3⟩:=eV hb
       rw[k1] at q1
       injection q1 with q1 EY
       subst q1 EY
       obtain⟨dy,g,off,_,_,e3⟩:=k2 (fO q2)
       exact⟨_,e3⟩
      ·cases CR
    obtain⟨ad,hp⟩:=hp
    exact c7 h (v:=a.eval x) (fun w2 _=>by simp only[execOp,ho,hp];rfl) hc
   ·cases e
  ·cases e
 ·cases e
theorem NL (hT:dv P Θ=true) (h:bI σ w0 W0 Z H S a w) {T:TypeId} {g:Tgt} {r:AV} {v:Value} (hl:V3 w (Av σ Z) (cG a) S g v) (e:S.loadAt g=some r) (ht:Θ.is T g.ty=true):
  ∃ u,(∀ w2,Ext w w2→(Instr.loadAt T v).run P w2=.ok u w2)∧Holds w (Av σ Z) H (cG a) S (fun _=>False) r u:=by
 cases g with
 |k b=>
  simp only[St.loadAt,Option.some.injEq] at e
  subst e
  obtain⟨cs,h1,h2⟩:=hl
  simp only[K] at h2
  obtain⟨g,off,cur,T',fr,rfl,hg,hw,hs,hk⟩:=h2
  obtain rfl:v=.pointer (some ⟨g,off,none⟩):=by simpa[aE,isAgg] using h1.symm
  obtain⟨u,k1,k2⟩:=E0 hT ht (b6 hw hs)
  exact⟨u,k1,_,k2,ib _ hk⟩
 |pl t s p=>
  simp only[St.loadAt] at e
  obtain⟨r',ex,k1,k2⟩:=hl
  split at e
  ·rename_i b hb
   obtain⟨r2,ex2,q1,q2,q3⟩:=eV hb
   rw[k1] at q1
   injection q1 with q1 EY
   subst q1 EY
   obtain⟨dy,g,off,hr,ha,rfl⟩:=k2 (fO q2)
   obtain⟨DO,b',du,de,j1,j2,j3,j4,hM,j5,j6,j7⟩:=gY h hr
   rw[k1] at j1
   injection j1 with j1 j1'
   subst j1'
   rw[q3] at j3
   injection j3 with j3
   subst j3
   subst j4
   have iV:=sY p q3 (fI _ hM).1 (fun g o e=>by cases e) j5 ha
   obtain⟨u,l1,l2⟩:=E0 hT ht iV
   refine⟨u,l1,?_⟩
   cases hk:b.m.cy with
   |true=>
    rw[hk] at e
    simp only[cond_true] at e
    split at e
    ·rename_i c hc
     injection e with e;subst e
     obtain⟨_,qB,_,hM2⟩:=dU h hr j5 hc
     have hcb:c=b:=by
      obtain⟨r3,ex3,p1,p2,p3⟩:=qA hc
      rw[k1] at p1
      injection p1 with p1 p1'
      subst p1
      rw[q3] at p3
      injection p3 with p3
      exact p3.symm
     subst hcb
     exact⟨_,l2,ib _ (gR _ hk hM2)⟩
    ·cases e
   |false=>
    rw[hk] at e
    simp only[cond_false,Option.some.injEq] at e
    subst e
    exact⟨r',dy,du,hr,j5,l2⟩
  ·cases e
theorem aib (hT:dv P Θ=true) (h:bI σ w0 W0 Z H S a w) {o:Oper} {T:TypeId} {x:Operand} (ho:o.op=.load T x) (e:iC Θ S o.dst T x=some (true,S')):jg P w0 W0 Z H S' a o.dst w (execOp a.eval o):=by
 unfold iC at e
 split at e
 ·rename_i av eQ
  split at e
  ·rename_i g hg
   split at e
   ·rename_i r hr
    have hl:=sZ h eQ hg
    cases hc:Θ.is T g.ty with
    |false=>rw[hc] at e;cases e
    |true=>
     rw[hc] at e
     simp only[cond_true,Option.some.injEq,Prod.mk.injEq,true_and] at e
     subst e
     obtain⟨u,h1,h2⟩:=NL hT h hl hr hc
     refine c7 h (v:=u) (fun w2 hw=>?_) h2
     simp only[execOp,ho,Sem.run_bind,h1 w2 hw]
     rfl
   ·cases e
  ·cases e
 ·cases e
end Go.Pv
namespace Go.Pv
set_option linter.unusedVariables false
set_option linter.unusedSimpArgs false
variable {P:Program} {w w':World} {A A':Nat→Prop} {H:Nat→Value} {tm sx:Nat→Value} {S S':St} {σ:Nat→Option Nat} {w0:World} {W0 Z:Nat→Prop} {a:Act} {own:Nat→Prop} {v:Value} {Θ:ee} {dst:Option Nat}
theorem ky:∀ (p:Path) {t:Ty} {m:Md} {x:t.I} {b:TV},m.cy=true→bQ p t m x=some b→b.m.cy=true
 |[],t,m,x,b,hk,hg=>by simp only[bQ,Option.some.injEq] at hg;subst hg;exact hk
 | .deref::p,.ptr t,m,x,b,hk,hg=>by simp only[bQ] at hg;exact ky p (qp hk) hg
 | .fst::p,.pair _ _,m,x,b,hk,hg=>by simp only[bQ] at hg;exact ky p (Nn hk) hg
 | .snd::p,.pair _ _,m,x,b,hk,hg=>by simp only[bQ] at hg;exact ky p (No hk) hg
 | .idx i::p,.sl t,m,x,b,hk,hg=>by simp only[bQ] at hg;exact ky p (qp hk) hg
theorem jh:∀ (p:Path) {t:Ty} {m:Md} {x:t.I} {b:TV},bo p=true→bQ p t m x=some b→valid p t x
 |[],_,_,_,_,_,_=>trivial
 | .fst::p,.pair _ _,m,x,b,h,hg=>by simp only[bQ] at hg;simp only[valid];exact jh p (by simpa[bo] using h) hg
 | .snd::p,.pair _ _,m,x,b,h,hg=>by simp only[bQ] at hg;simp only[valid];exact jh p (by simpa[bo] using h) hg
theorem qC:∀ (p:Path) {t:Ty} {m:Md} {x:t.I} {b:TV},bo p=true→bQ p t m x=some b→iv p t=some b.t
 |[],_,_,_,_,_,hg=>by simp only[bQ,Option.some.injEq] at hg;subst hg;rfl
 | .fst::p,.pair _ _,m,x,b,h,hg=>by simp only[bQ] at hg;simp only[iv];exact qC p (by simpa[bo] using h) hg
 | .snd::p,.pair _ _,m,x,b,h,hg=>by simp only[bQ] at hg;simp only[iv];exact qC p (by simpa[bo] using h) hg
theorem kC:∀ (p q:Path),bo p=true→bo q=true→bo (p++q)=true
 |[],_,_,h=>h
 | .fst::p,q,h,h'=>by simp only[List.cons_append,bo];exact kC p q (by simpa[bo] using h) h'
 | .snd::p,q,h,h'=>by simp only[List.cons_append,bo];exact kC p q (by simpa[bo] using h) h'
theorem mK:∀ n,bo (List.replicate n .snd)=true
 |0=>rfl
 |n+1=>by rw[List.replicate_succ];simp only[bo];exact mK n
theorem jW (i n:Nat):bo (nY i n)=true:=by
 unfold nY
 cases Nat.beq (i+1) n<;>cases Nat.beq n 1<;>simp only[cond_true,cond_false]
 ·exact kC _ _ (mK _) rfl
 ·exact kC _ _ (mK _) rfl
 ·exact mK _
 ·rfl
theorem aqR {t:Ty} {x:t.I} {p:Path} {b:TV} {cs:List Value} {v:Value} (hm:aE (.ptr t) v cs) (h:K w A (.ptr t) x cs) (hp:bo p=true) (hg:bQ p t .k x=some b):
  ∃ g off,v=.pointer (some ⟨g,off,none⟩)∧K w A (.ptr b.t) b.x [.pointer (some ⟨g,off+bp p t,none⟩)]:=by
 simp only[K] at h
 obtain⟨g,off,cur,T',fr,rfl,hA,hw,hs,hk⟩:=h
 refine⟨g,off,by simpa[aE,isAgg] using hm.symm,?_⟩
 have hl:=(mh t hk).1
 obtain⟨du,de,k1,k2,k3⟩:=focus (w:=w) (Wr:=A) (H:=fun _=>undef) (ow:=fun _=>False) (hs:=[]) p (ib t hk) (fun _ h=>by simp at h) (jh p hp hg) hg
 rw[fJ p hp hg hl] at k1
 injection k1 with k1
 subst k1
 have hf:=fi p hp hg
 simp only[K]
 refine⟨g,off+bp p t,cur,T',fr,rfl,hA,hw,by omega,?_⟩
 have:=gR _ (ky p rfl hg) k3
 rw[List.drop_take,List.take_take,List.drop_drop,Nat.min_eq_left (by omega)] at this
 exact this
theorem yb {p:Path} {t:Ty} {m:Md} {x:t.I} {b:TV} (hp:p≠[]) (h:bo p=true) (hg:bQ p t m x=some b):∃ a' b',t=.pair a' b':=by
 cases p with
 |nil=>exact absurd rfl hp
 |cons s p=>cases s<;>cases t<;>simp_all [bQ,bo]
theorem acs {i n:Nat} (h:i<n):nY i n≠[]:=by
 unfold nY
 cases hb:Nat.beq (i+1) n with
 |false=>simp
 |true=>
  cases hc:Nat.beq n 1 with
  |true=>simp
  |false=>
   simp only[cond_true,cond_false]
   have h1:=Nat.eq_of_beq_eq_true hb
   have h2:=Nat.ne_of_beq_eq_false hc
   cases i with
   |zero=>omega
   |succ i=>simp[List.replicate_succ]
theorem yc (hT:dv P Θ=true) (h:bI σ w0 W0 Z H S a w) {o:Oper} {T:TypeId} {x:Operand} {f:Nat} (ho:o.op=.fieldAddr T x f) (e:iD Θ S o.dst T x f=some (true,S')):ns P w0 W0 Z H S' a o.dst w (execOp a.eval o):=by
 unfold iD at e
 split at e
 ·rename_i av i eQ hi
  cases cZ:Nat.blt f i.fs.length with
  |false=>rw[cZ] at e;cases e
  |true=>
   rw[cZ] at e
   simp only[cond_true] at e
   have hf:f<i.fs.length:=Nat.lt_of_succ_le (Nat.le_of_ble_eq_true cZ)
   obtain⟨_,hu,AL⟩:=dB hT hi
   -- the address of the field
   have run:∀ (w2:World) (g off:Nat) (b:TV) (t:Ty) (m:Md) (y:t.I),i.ty=t→bQ (nY f i.fs.length) t m y=some b→
     (Instr.fieldAt T (.pointer (some ⟨g,off,none⟩)) f).run P w2=.ok (.pointer (some ⟨g,off+bp (nY f i.fs.length) t,none⟩)) w2:=by
    intro w2 g off b t m y gG hg
    have pj:∃ a' b',i.ty=.pair a' b':=by
     subst gG
     exact yb (acs hf) (jW _ _) hg
    obtain⟨a',b',hp⟩:=pj
    obtain⟨fs,Y9,CS,hfo,_⟩:=nr hu hp
    rw[AL] at Y9
    have hlen:i.fs.length=fs.size:=by rw[←CS];simp
    obtain⟨fl,auR⟩:∃ fl,fs[f]?=some fl:=⟨fs[f]'(by omega),by simp[show f<fs.size from by omega]⟩
    obtain⟨tf,h1,h2,h3,h4⟩:=jU hfo f fl (by simpa using auR)
    rw[Nat.zero_add,←hlen] at h1 h3
    subst gG
    rw[qC _ (jW _ _) hg] at h1
    injection h1 with h1
    obtain⟨inf,k1,k2,_⟩:=jA hT h2
    simp only[Instr.fieldAt,Sem.run_bind,run_underlying Y9,Result.andThen_ok,auR,Instr.sureAddr,Sem.run_pure,fieldPlace,sizeOf,typeInfo,run_program,k1,k2]
    rw[if_neg (by omega)]
    simp only[Sem.run_pure,Result.andThen_ok,kx,h3]
   split at e
   ·rename_i t m y hg
    cases gG:decide (i.ty=t) with
    |false=>rw[gG] at e;cases e
    |true=>
     rw[gG] at e
     simp only[cond_true] at e
     split at e
     ·rename_i b hb
      injection e with e;injection e with _ e;subst e
      obtain⟨cs,h1,h2⟩:=sZ h eQ hg
      obtain⟨g',off,hv,hk⟩:=aqR h1 h2 (jW _ _) hb
      refine cP h (v:=.pointer (some ⟨g',off+bp (nY f i.fs.length) t,none⟩)) (fun w2=>?_) ⟨[_],by simp[aE,isAgg],ib (.ptr b.t) hk⟩
      simp only[execOp,ho,hv,Sem.run_bind,run w2 g' off b t .k y (by simpa using gG) hb]
      rfl
     ·cases e
   ·rename_i t s p hg
    cases gG:decide (i.ty=t) with
    |false=>rw[gG] at e;cases e
    |true=>
     rw[gG] at e
     simp only[cond_true] at e
     split at e
     ·rename_i b hb
      injection e with e;injection e with _ e;subst e
      obtain⟨r,ex,k1,k2⟩:=sZ h eQ hg
      obtain⟨r2,ex2,q1,q2,q3⟩:=eV hb
      rw[k1] at q1
      injection q1 with q1 EY
      subst q1 EY
      have cA:=fO q2
      obtain⟨dy,g',off,hr,ha,hv⟩:=k2 (Y' cA)
      obtain⟨DO,b',du,de,j1,j2,j3,j4,hM,j5,j6,j7⟩:=gY h hr
      rw[gB,j3] at q3
      simp only[Option.bind_some] at q3
      refine cP h (v:=.pointer (some ⟨g',off+bp (nY f i.fs.length) t,none⟩)) (fun w2=>?_) ⟨r,dy,g',off+bp (nY f i.fs.length) t,⟨⟨ex,k1,cA⟩,gH p _ j3 hr.val (jh _ (jW _ _) q3),⟨b,by rw[gB,j3];exact q3,rfl⟩,hr.mat⟩,?_,rfl⟩
      ·subst j4
       simp only[execOp,ho,hv,Sem.run_bind,run w2 g' off b b'.t b'.m b'.x (by simpa using gG) q3]
       rfl
      ·rw[(gI p _ dy none j3).2,j5,ha]
       simp only[Option.bind_some]
       rw[ki _ (jW _ _) q3,j4]
     ·cases e
   ·cases e
 ·cases e
theorem V4 {α:Type} (xs:List α) (i:Nat) (d:α) (h:i<xs.length):List.getD xs i d=xs[i]:=by simp[List.getD_eq_getElem?_getD,List.getElem?_eq_getElem h]
theorem n9 (hT:dv P Θ=true) {T:TypeId} {t:Ty} {g off len c:Nat} {k:IntKind} {n:Int} (ht:Θ.is T (.sl t)=true) (h0:0≤n) (h1:n<(len:Int)):
  (Instr.indexAt T (.slice (some ⟨g,off,none⟩) len c) (.int k n)).run P w=.ok (.pointer (some ⟨g,off+n.toNat*t.size,none⟩)) w:=by
 obtain⟨i,hi,gG⟩:=e8 ht
 obtain⟨_,hu,AL⟩:=dB hT hi
 obtain⟨u1,u2,_⟩:=mr hu gG
 rw[AL] at u1
 obtain⟨inf,k1,k2,_⟩:=jA hT u2
 simp[Instr.indexAt,asIntOf,run_underlying u1,h0,h1,sizeOf,typeInfo,run_program,k1,k2,kx]
theorem acu {t:Ty} {xs:List t.I} {v:Value} {cs:List Value} {n:Nat} (hm:aE (.sl t) v cs) (h:K w A (.sl t) xs cs) (hn:n<xs.length):
  ∃ g off c,v=.slice (some ⟨g,off,none⟩) xs.length c∧K w A (.ptr t) (List.getD xs n t.z) [.pointer (some ⟨g,off+n*t.size,none⟩)]:=by
 simp only[K] at h
 obtain⟨X,c,rfl,hc,h⟩:=h
 obtain⟨g,off,cur,T',fr,rfl,hA,hw,hs,hk⟩:=h (by omega)
 refine⟨g,off,c,by simpa[aE,isAgg] using hm.symm,?_⟩
 simp only[K]
 have hb:off+n*t.size+t.size≤cur.size:=by
  have:=Nat.mul_le_mul_right t.size (show n+1≤xs.length from hn)
  rw[Nat.add_mul,Nat.one_mul] at this
  omega
 exact⟨g,_,cur,T',fr,rfl,hA,hw,hb,by rw[V4 _ _ _ hn];exact hk n hn⟩
theorem yd (hT:dv P Θ=true) (h:bI σ w0 W0 Z H S a w) {o:Oper} {T:TypeId} {x ix:Operand} (ho:o.op=.indexAddr T x ix) (e:cN Θ S o.dst T x ix=some (true,S')):ns P w0 W0 Z H S' a o.dst w (execOp a.eval o):=by
 unfold cN at e
 split at e
 ·rename_i t m xs ex n eQ hn
  obtain⟨k,hk⟩:=jI h hn
  cases hc:Θ.is T (.sl t) with
  |false=>rw[hc] at e;cases e
  |true=>
   rw[hc] at e
   simp only[cond_true] at e
   split at e
   ·injection e with e;injection e with e1 e;subst e
    obtain⟨b1,b2⟩:=sX e1
    obtain⟨cs,h1,h2⟩:=cf h eQ
    have hK:=gR _ rfl h2
    obtain⟨g,off,c,hv,RI⟩:=acu (n:=n.toNat) h1 hK (by have b2':n<(List.length xs:Int):=b2;show n.toNat<List.length xs;omega)
    refine cP h (v:=.pointer (some ⟨g,off+n.toNat*t.size,none⟩)) (fun w2=>?_) ⟨[_],by simp[aE,isAgg],ib (.ptr t) RI⟩
    simp only[execOp,ho,hv,hk,Sem.run_bind,n9 hT hc b1 b2]
    rfl
   ·rename_i T' tag me j
    split at e
    ·rename_i b hb
     injection e with e;injection e with e1 e;subst e
     obtain⟨b1,b2⟩:=sX e1
     have eJ:S.at j=.v ⟨.sl t,.o T' tag me,xs⟩ ex:=by simpa[St.fb] using eQ
     obtain⟨r2,ex2,q1,q2,q3⟩:=eV hb
     rw[eJ] at q1
     injection q1 with q1 EY
     subst q1 EY
     have cA:=fO q2
     obtain⟨cs,h1,h2⟩:=cf h eQ
     simp only[M] at h2
     rcases h2 with⟨pj,_⟩ |⟨gA,_⟩ |⟨T2,Za,me2,X,c,e2,rfl,hcc,aic,h2⟩
     ·exact absurd pj cA.not_nil
     ·simp[Md.cy] at gA
     ·have hv:a.eval (.tmp j)=.slice X xs.length c:=by simpa[aE,isAgg] using h1.symm
      rcases h2 with⟨rfl,_⟩ |⟨g,cur,τ,rfl,hg,hw,j8,hm,hj⟩
      ·simp at b2;omega
      ·have cZ:n.toNat<xs.length:=by omega
       have hbound:0+n.toNat*t.size+t.size≤cur.size:=by
        have h1:=Nat.mul_le_mul_right t.size (show n.toNat+1≤xs.length from cZ)
        have h2:=Nat.mul_le_mul_right t.size hcc
        rw[Nat.add_mul,Nat.one_mul] at h1
        omega
       refine cP h (v:=.pointer (some ⟨g,0+n.toNat*t.size,none⟩)) (fun w2=>?_) ⟨_,[.slice (some ⟨g,0,none⟩) xs.length c],g,0+n.toNat*t.size,⟨⟨ex,eJ,cA⟩,⟨cZ,trivial⟩,⟨_,rfl,rfl⟩,h1⟩,?_,rfl⟩
       ·simp only[execOp,ho,hv,hk,Sem.run_bind,n9 hT hc b1 b2]
        rfl
       ·simp only[addrAt,b6 hw hbound,Option.bind_some]
    ·cases e
   ·cases e
 ·rename_i t s p n eQ hn
  obtain⟨k,hk⟩:=jI h hn
  cases hc:Θ.is T (.sl t) with
  |false=>rw[hc] at e;cases e
  |true=>
   rw[hc] at e
   simp only[cond_true] at e
   obtain⟨r,dy,cs,hr,j9,hm⟩:=cf h eQ
   obtain⟨ex,b,du,de,j1,j2,j3,j4,hM,j5,j6,j7⟩:=gY h hr
   rw[j9] at j5
   injection j5 with j5
   subst j5
   split at e
   ·rename_i t' xs CR
    injection e with e;injection e with e1 e;subst e
    obtain⟨b1,b2⟩:=sX e1
    obtain⟨r2,ex2,q1,q2,q3⟩:=eV CR
    rw[j1] at q1
    injection q1 with q1 EY
    subst q1 EY
    rw[j3] at q3
    injection q3 with q3
    subst q3
    injection j4 with j4
    subst j4
    have hK:=gR _ rfl j7
    obtain⟨g,off,c,hv,RI⟩:=acu (n:=n.toNat) hm hK (by have b2':n<(List.length xs:Int):=b2;show n.toNat<List.length xs;omega)
    refine cP h (v:=.pointer (some ⟨g,off+n.toNat*Ty.size t',none⟩)) (fun w2=>?_) ⟨[_],by simp[aE,isAgg],ib (.ptr _) RI⟩
    simp only[execOp,ho,hv,hk,Sem.run_bind,n9 hT hc b1 b2]
    rfl
   ·rename_i t' T' tag me xs CR
    split at e
    ·rename_i b2' hb
     injection e with e;injection e with e1 e;subst e
     obtain⟨b1,b2⟩:=sX e1
     obtain⟨r2,ex2,q1,q2,q3⟩:=eV CR
     rw[j1] at q1
     injection q1 with q1 EY
     subst q1 EY
     rw[j3] at q3
     injection q3 with q3
     subst q3
     injection j4 with j4
     subst j4
     obtain⟨r3,ex3,p1,p2,p3⟩:=eV hb
     rw[j1] at p1
     injection p1 with p1 p1'
     subst p1 p1'
     have cA:=fO p2
     simp only[M] at j7
     rcases j7 with⟨pj,_⟩ |⟨gA,_⟩ |⟨T2,Za,me2,X,c,e2,rfl,hcc,aic,h2⟩
     ·exact absurd pj (ya cA)
     ·simp[Md.cy] at gA
     ·have hv:a.eval x=.slice X (List.length xs) c:=by simpa[aE,isAgg] using hm.symm
      rcases h2 with⟨rfl,_⟩ |⟨g,cur,τ,rfl,hg,hw,j8,hm',hj⟩
      ·simp at b2;omega
      ·have cZ:n.toNat<List.length xs:=by omega
       have hbound:0+n.toNat*Ty.size t'+Ty.size t'≤cur.size:=by
        have h1:=Nat.mul_le_mul_right (Ty.size t') (show n.toNat+1≤List.length xs from cZ)
        have h2:=Nat.mul_le_mul_right (Ty.size t') hcc
        rw[Nat.add_mul,Nat.one_mul] at h1
        omega
       refine cP h (v:=.pointer (some ⟨g,0+n.toNat*Ty.size t',none⟩)) (fun w2=>?_) ⟨r,dy,g,0+n.toNat*Ty.size t',⟨⟨ex,j1,cA⟩,gH p _ j3 hr.val ⟨cZ,trivial⟩,⟨_,by rw[gB,j3];rfl,rfl⟩,hr.mat⟩,?_,rfl⟩
       ·simp only[execOp,ho,hv,hk,Sem.run_bind,n9 hT hc b1 b2]
        rfl
       ·rw[(gI p _ dy none j3).2,j9]
        simp only[Option.bind_some,addrAt,b6 hw hbound]
    ·cases e
   ·cases e
 ·cases e
end Go.Pv
namespace Go.Pv
set_option linter.unusedVariables false
set_option linter.unusedSimpArgs false
variable {P:Program} {w w':World} {A A':Nat→Prop} {H:Nat→Value} {tm sx:Nat→Value} {S S':St} {σ:Nat→Option Nat} {w0:World} {W0 Z:Nat→Prop} {a:Act} {own:Nat→Prop} {v:Value} {Θ:ee} {dst:Option Nat}
theorem uv {k:IntKind} {i:Int} {y:Nat} {code:BoundsCode} (h0:0≤i) (h1:i≤y):(Instr.sliceBound (.int k i) y code).run P w=.ok i.toNat w:=by
 simp[Instr.sliceBound,asIntOf,h0,h1]
theorem E3 {sl:Bool} {len cap:Nat} {lo hi:Option Value} {l h:Int} (YW:(lo=none∧l=0)∨∃ k,lo=some (.int k l)) (EM:(hi=none∧h=len)∨∃ k,hi=some (.int k h))
  (h0:0≤l) (h1:l≤h) (h2:h≤len) (h3:len≤cap):(Instr.sliceBounds sl len cap lo hi none).run P w=.ok (l.toNat,h.toNat,cap) w:=by
 have e1:∀ k code,(Instr.sliceBound (.int k l) h.toNat code).run P w=.ok l.toNat w:=fun k code=>uv h0 (by omega)
 have e2:∀ k code,(Instr.sliceBound (.int k h) cap code).run P w=.ok h.toNat w:=fun k code=>uv (by omega) (by omega)
 unfold Instr.sliceBounds
 rcases YW with⟨rfl,rfl⟩ |⟨k,rfl⟩<;>rcases EM with⟨rfl,rfl⟩ |⟨k',rfl⟩
 ·simp
 ·simp[e2]
 ·have Bg:∀ k code,(Instr.sliceBound (.int k l) len code).run P w=.ok l.toNat w:=fun k code=>uv h0 (by omega)
  simp[Bg]
 ·simp[e1,e2]
theorem jX (h:bI σ w0 W0 Z H S a w) {x:Option Operand} {d n:Int} (e:iU Θ S d x=some n):(x.map a.eval=none∧n=d)∨∃ k,x.map a.eval=some (.int k n):=by
 cases x with
 |none=>simp only[iU,Option.some.injEq] at e;exact .inl ⟨rfl,e.symm⟩
 |some x=>
  obtain⟨k,hk⟩:=jI h e
  exact .inr ⟨k,by simp[hk]⟩
theorem NM (hT:dv P Θ=true) (h:bI σ w0 W0 Z H S a w) {o:Oper} {T:TypeId} {x:Operand} {lo hi mx:Option Operand} (ho:o.op=.slice T x lo hi mx) (e:fh Θ S o.dst T x lo hi mx=some (true,S')):ns P w0 W0 Z H S' a o.dst w (execOp a.eval o):=by
 unfold fh at e
 split at e
 ·rename_i av m s l eQ RH hl
  split at e
  ·rename_i hh EM
   cases hc:Θ.is T .str with
   |false=>rw[hc] at e;cases e
   |true=>
    rw[hc] at e
    simp only[cond_true,Option.some.injEq,Prod.mk.injEq,Bool.and_eq_true,decide_eq_true_eq] at e
    obtain⟨⟨⟨b1,b2⟩,b3⟩,e⟩:=e
    subst e
    obtain⟨cs,h1,h2,_⟩:=jB h RH
    have hv:=gf h1 h2
    obtain⟨i,sO,gG⟩:=e8 hc
    obtain⟨_,hu,AL⟩:=dB hT sO
    have uq:=qx hu gG
    rw[AL] at uq
    refine cP h (v:=.string (s.extract l.toNat hh.toNat)) (fun w2=>?_) (Ih _)
    have hb:=E3 (P:=P) (w:=w2) (sl:=false) (jX h hl) (jX h EM) b1 b2 b3 (Nat.le_refl _)
    simp[execOp,ho,hv,Instr.sliceAt,Instr.slice,run_underlying uq,hb]
  ·cases e
 ·rename_i av t m xs l eQ RH hl
  cases hc:Θ.is T (.sl t) with
  |false=>rw[hc] at e;cases e
  |true=>
   rw[hc] at e
   simp only[cond_true] at e
   obtain⟨i,sO,gG⟩:=e8 hc
   obtain⟨_,hu,AL⟩:=dB hT sO
   obtain⟨u1,u2,_⟩:=mr hu gG
   rw[AL] at u1
   obtain⟨inf,q1,q2,_⟩:=jA hT u2
   obtain⟨cs,h1,h2,h3⟩:=jB h RH
   obtain⟨X,c,hv,iY,hlc⟩:=pz h1 h2
   have run:∀ (hh:Int),iU Θ S (xs.length:Int) hi=some hh→mx=none→0≤l→l≤hh→hh≤(xs.length:Int)→
     ∀ w2,(execOp a.eval o).run P w2=.ok (.value (.slice (if c=l.toNat then X else X.map (·.add (l.toNat*t.size))) (hh.toNat - l.toNat) (c - l.toNat))) w2:=by
    intro hh EM hmx b1 b2 b3 w2
    subst hmx
    have hb:=E3 (P:=P) (w:=w2) (sl:=true) (jX h hl) (jX h EM) b1 b2 b3 hlc
    simp[execOp,ho,hv,Instr.sliceAt,Instr.slice,run_underlying u1,hb,sizeOf,typeInfo,run_program,q1,q2]
   split at e
   ·rename_i _ hh EM
    split at e
    ·simp only[Option.some.injEq,Prod.mk.injEq,Bool.and_eq_true,decide_eq_true_eq] at e
     obtain⟨⟨⟨b1,b2⟩,b3⟩,e⟩:=e
     subst e
     have hK:=h3 rfl
     subst iY
     exact cP h (run hh EM rfl b1 b2 b3) ⟨[_],by simp[aE,isAgg],ib (.sl t) (VY hK (by omega) (by omega))⟩
    ·rename_i b ex i _
     simp only[Option.some.injEq,Prod.mk.injEq,Bool.and_eq_true,decide_eq_true_eq] at e
     obtain⟨⟨⟨b1,b2⟩,b3⟩,e⟩:=e
     subst e
     have eJ:S.at i=.v b ex:=by simpa[St.fb] using eQ
     unfold St.rd at RH
     rw[eQ] at RH
     cases ex with
     |cons _ _=>simp[St.uk] at RH
     |nil=>
      simp only[St.uk,Option.some.injEq] at RH
      subst RH
      subst iY
      refine cP h (run hh EM rfl b1 b2 b3) ⟨_,_,t,X,List.length xs,c,⟨⟨[],eJ,fun q hq=>by simp at hq⟩,trivial,⟨_,rfl,rfl⟩,h1⟩,rfl,rfl,by omega,by omega,rfl⟩
    ·rename_i _ s p hm
     simp only[Option.some.injEq,Prod.mk.injEq,Bool.and_eq_true,decide_eq_true_eq] at e
     obtain⟨⟨⟨b1,b2⟩,b3⟩,e⟩:=e
     subst e
     obtain⟨r,dy,du,hr,j9,hmm⟩:=cf h eQ
     unfold St.rd at RH
     rw[eQ] at RH
     simp only[St.uk] at RH
     obtain⟨AQ,_⟩:=dU h hr j9 RH
     simp only at AQ
     subst AQ
     obtain rfl:=fN h1 hmm
     subst iY
     refine cP h (run hh EM rfl b1 b2 b3) ⟨r,dy,t,X,List.length xs,c,hr,rfl,j9,by omega,by omega,rfl⟩
    ·cases e
   ·rename_i _ hh z ii EM acv
    split at e
    ·rename_i c' hx hz
     simp only[Option.some.injEq,Prod.mk.injEq,Bool.and_eq_true,decide_eq_true_eq] at e
     obtain⟨⟨⟨rfl,rfl⟩,rfl⟩,e⟩:=e
     subst e
     obtain⟨kz,hkz⟩:=jI h hz
     refine cP h (v:=.slice X 0 0) (fun w2=>?_) ⟨[.slice X 0 0],by simp[aE,isAgg],?_⟩
     ·have V5:=jX h hl
      have hh':=jX h EM
      have hb:(Instr.sliceBounds true xs.length c (lo.map a.eval) (some (a.eval hx)) (some (.int kz 0))).run P w2=.ok (0,0,0) w2:=by
       have e0:∀ k y code,(Instr.sliceBound (.int k 0) y code).run P w2=.ok 0 w2:=fun k y code=>uv (by omega) (by omega)
       have hh2:∃ k,a.eval hx=.int k 0:=by
        rcases hh' with⟨hh',_⟩ |⟨k,hh'⟩
        ·simp at hh'
        ·exact⟨k,by simpa using hh'⟩
       obtain⟨k2,RI⟩:=hh2
       unfold Instr.sliceBounds
       rcases V5 with⟨V5,_⟩ |⟨k1,V5⟩<;>rw[V5,RI]<;>simp[e0]
      simp[execOp,ho,hv,Instr.sliceAt,Instr.slice,run_underlying u1,hkz,hb,sizeOf,typeInfo,run_program,q1,q2]
     ·simp only[M]
      exact .inr (.inr ⟨_,_,_,X,0,rfl,rfl,Nat.le_refl _,fun h hh=>(by cases hh),.inl (by simp)⟩)
    ·cases e
   ·cases e
 ·cases e
end Go.Pv
namespace Go.Pv
set_option linter.unusedVariables false
set_option linter.unusedSimpArgs false
variable {P:Program} {w w':World} {A A' Wr:Nat→Prop} {H:Nat→Value} {tm sx:Nat→Value} {S S' S1:St} {σ:Nat→Option Nat} {w0:World} {W0 Z:Nat→Prop} {a:Act} {own:Nat→Prop} {v:Value} {Θ:ee} {dst:Option Nat}
theorem Ik:∀ (p:Path) {t:Ty} {m:Md} {x:t.I} {cs:List Value} {ow:Nat→Prop} {hs:List Path} {b:TV},M w Wr H t m x cs ow hs→open_ p hs→valid p t x→bQ p t m x=some b→b.m.cy=false→
  ∃ du de,bu w p t cs=some du∧(∀ g,de g→ow g)∧M w Wr H b.t b.m b.x du de (xP p hs)∧M w Wr H t m x cs (fun g=>ow g∧ ¬de g) (hs++[p])
 |[],t,m,x,cs,ow,hs,b,h,ho,hv,hg,hk=>by
  simp only[bQ,Option.some.injEq] at hg
  subst hg
  refine⟨cs,ow,rfl,fun _ h=>h,h,?_⟩
  simp only at hk
  have jV:=fI t h
  cases t<;>simp only[M] at h ⊢<;>first
   |(rw[hk] at h;exact absurd h.1 (by simp))
   |(exact .inl ⟨by simp,hk,jV⟩)
   |(
     rcases h with⟨_,_,h⟩ |⟨gA,_⟩ |⟨T,tag,me,A,c,_,rfl,_⟩
     ·exact .inl ⟨by simp,hk,h⟩
     ·rw[hk] at gA;cases gA
     ·exact .inl ⟨by simp,hk,A,c,rfl⟩)
 | .deref::p,.ptr t,m,x,cs,ow,hs,b,h,ho,hv,hg,hk=>by
  simp only[bQ] at hg
  simp only[valid] at hv
  simp only[M] at h
  rcases h with⟨hn,_⟩ |⟨gA,h⟩ |⟨T,tag,me,g,cur,rfl,rfl,ht,rY,hw,h⟩
  ·exact absurd hn ho.not_nil
  ·rw[ky p (qp gA) hg] at hk;cases hk
  ·have hlen:=(fI t h).1
   obtain⟨du,de,h1,h2,h3,h4⟩:=Ik p h ho.sub hv hg hk
   have j8:0+t.size≤cur.size:=by rw[←hlen];simp
   refine⟨du,de,?_,fun g hg=>(h2 g hg).1,h3,?_⟩
   ·simp only[bu,b6 hw j8,Option.bind_some,List.drop_zero]
    rw[List.take_of_length_le (by omega)]
    exact h1
   ·simp only[M]
    exact .inr (.inr ⟨T,tag,me,g,cur,rfl,rfl,ht,⟨rY,fun hx=>(h2 g hx).2 rfl⟩,hw,bj (bA.refl _ _) t (fun _ _ _=>rfl) (fun g' bW _=>⟨⟨bW.1.1,bW.2⟩,bW.1.2⟩) (fun q hq=>by
     rcases List.mem_append.1 hq with hq |hq
     ·exact ep.2 (List.mem_append_left _ (ep.1 hq))
     ·rw[List.mem_singleton.1 hq];exact ep.2 (List.mem_append_right _ (by simp))) h4⟩)
 | .fst::p,.pair a b',m,x,cs,ow,hs,b,h,ho,hv,hg,hk=>by
  simp only[bQ] at hg
  simp only[valid] at hv
  simp only[M] at h
  rcases h with⟨hn,_⟩ |⟨gA,h⟩ |⟨ma,mb,c0,c1,s,rfl,rfl,h0,h1⟩
  ·exact absurd hn ho.not_nil
  ·rw[ky p (Nn gA) hg] at hk;cases hk
  ·obtain⟨du,de,k1,k2,k3,k4⟩:=Ik p h0 ho.sub hv hg hk
   refine⟨du,de,by simp only[bu];rw[←(fI a h0).1,List.take_left];exact k1,fun g hg=>(k2 g hg).1,k3,?_⟩
   simp only[M]
   refine .inr (.inr ⟨ma,mb,c0,c1,s,rfl,rfl,bj (bA.refl _ _) a (fun _ _ _=>rfl) (fun g' bW _=>⟨⟨bW.1.1,bW.2⟩,bW.1.2⟩) (fun q hq=>?_) k4,bj (bA.refl _ _) b' (fun _ _ _=>rfl) (fun g' bW _=>⟨⟨bW.1,fun hx=>bW.2 (k2 g' hx).2⟩,bW.2⟩) (nh (fun q hq=>List.mem_append_left _ hq)) h1⟩)
   rcases List.mem_append.1 hq with hq |hq
   ·exact ep.2 (List.mem_append_left _ (ep.1 hq))
   ·rw[List.mem_singleton.1 hq];exact ep.2 (List.mem_append_right _ (by simp))
 | .snd::p,.pair a b',m,x,cs,ow,hs,b,h,ho,hv,hg,hk=>by
  simp only[bQ] at hg
  simp only[valid] at hv
  simp only[M] at h
  rcases h with⟨hn,_⟩ |⟨gA,h⟩ |⟨ma,mb,c0,c1,s,rfl,rfl,h0,h1⟩
  ·exact absurd hn ho.not_nil
  ·rw[ky p (No gA) hg] at hk;cases hk
  ·obtain⟨du,de,k1,k2,k3,k4⟩:=Ik p h1 ho.sub hv hg hk
   refine⟨du,de,by simp only[bu];rw[←(fI a h0).1,List.drop_left];exact k1,fun g hg=>(k2 g hg).1,k3,?_⟩
   simp only[M]
   refine .inr (.inr ⟨ma,mb,c0,c1,s,rfl,rfl,bj (bA.refl _ _) a (fun _ _ _=>rfl) (fun g' bW _=>⟨⟨bW.1,fun hx=>(k2 g' hx).2 bW.2⟩,bW.2⟩) (nh (fun q hq=>List.mem_append_left _ hq)) h0,bj (bA.refl _ _) b' (fun _ _ _=>rfl) (fun g' bW _=>⟨⟨bW.1.1,bW.2⟩,bW.1.2⟩) (fun q hq=>?_) k4⟩)
   rcases List.mem_append.1 hq with hq |hq
   ·exact ep.2 (List.mem_append_left _ (ep.1 hq))
   ·rw[List.mem_singleton.1 hq];exact ep.2 (List.mem_append_right _ (by simp))
 | .idx i::p,.sl t,m,xs,cs,ow,hs,b,h,ho,hv,hg,hk=>by
  simp only[bQ] at hg
  simp only[valid] at hv
  obtain⟨hi,hv⟩:=hv
  have fU:List.getD xs i t.z=xs[i]:=V4 _ _ _ hi
  simp only[M] at h
  rcases h with⟨hn,_⟩ |⟨gA,h⟩ |⟨T,tag,me,X,c,rfl,rfl,hc,ht,h⟩
  ·exact absurd hn ho.not_nil
  ·rw[ky p (qp gA) hg] at hk;cases hk
  ·rcases h with⟨rfl,_⟩ |⟨g,cur,τ,rfl,rY,hw,j8,hm,h⟩
   ·simp at hi
   ·have hbound:0+i*t.size+t.size≤cur.size:=by
     have h1:=Nat.mul_le_mul_right t.size (show i+1≤xs.length from hi)
     have h2:=Nat.mul_le_mul_right t.size hc
     rw[Nat.add_mul,Nat.one_mul] at h1
     omega
    have hM:=h i hi
    rw[←fU] at hM
    obtain⟨du,de,h1,h2,h3,h4⟩:=Ik p hM ho.sub hv hg hk
    refine⟨du,de,by simp only[bu,b6 hw hbound,Option.bind_some];rw[Nat.zero_add];exact h1,fun g hg=>(h2 g hg).1,h3,?_⟩
    simp only[M]
    refine .inr (.inr ⟨T,tag,me,some ⟨g,0,none⟩,c,rfl,rfl,hc,ht,.inr ⟨g,cur,τ,rfl,⟨rY,fun hx=>(h2 g hx).2.1 rfl⟩,hw,j8,hm,fun j hj=>?_⟩⟩)
    by_cases mn:j=i
    ·subst mn
     rw[fU] at h4
     refine bj (bA.refl _ _) t (fun _ _ _=>rfl) (fun g' bW _=>⟨⟨bW.1.1,bW.2⟩,bW.1.2⟩) (fun q hq=>?_) h4
     rcases List.mem_append.1 hq with hq |hq
     ·exact ep.2 (List.mem_append_left _ (ep.1 hq))
     ·rw[List.mem_singleton.1 hq];exact ep.2 (List.mem_append_right _ (by simp))
    ·exact bj (bA.refl _ _) t (fun _ _ _=>rfl) (fun g' bW _=>⟨⟨bW.1,fun hx=>mn (by rw[←bW.2.2];exact(h2 g' hx).2.2)⟩,bW.2⟩) (nh (fun q hq=>List.mem_append_left _ hq)) (h j hj)
theorem nt (a:Act) (i:Nat):a.put (some i) (cG a i)=a:=by
 unfold Act.put cG
 simp only
 have:a.tmps.setIfInBounds i (a.tmps.getD i undef)=a.tmps:=by
  apply Array.ext_getElem?
  intro j
  rw[Array.getElem?_setIfInBounds,Array.getD_eq_getD_getElem?]
  by_cases h:i=j
  ·subst h
   by_cases hl:i<a.tmps.size
   ·simp[hl]
   ·simp[hl]
  ·simp[h]
 rw[this]
def kY (σ:Nat→Option Nat) (q s:Nat) (g:Nat):Option Nat:=if σ g=some s then some q else σ g
theorem V6 {σ:Nat→Option Nat} {Z:Nat→Prop} {q s g:Nat}:Av (kY σ q s) Z g↔Av σ Z g:=by
 unfold Av kY
 by_cases h:σ g=some s
 ·rw[if_pos h,h];exact⟨fun _=>.inl ⟨s,rfl⟩,fun _=>.inl ⟨q,rfl⟩⟩
 ·rw[if_neg h]
structure iw (σ cv:Nat→Option Nat) (n:Nat) (ow:Nat→Prop):Prop where
 NN:∀ g,ow g→∃ i,i<n∧σ g=some i
 now:∀ g,ow g→∃ i,n≤i∧cv g=some i
 sub:∀ g i,cv g=some i→i<n→σ g=some i
 dom:∀ g,(∃ i,cv g=some i)↔∃ i,σ g=some i
 par:∀ g i,σ g=some i→n≤i→cv g=some i
theorem iw.none (σ:Nat→Option Nat) (n:Nat):iw σ σ n fun _=>False:=⟨fun _ h=>h.elim,fun _ h=>h.elim,fun _ _ h _=>h,fun _=>Iff.rfl,fun _ _ h _=>h⟩
theorem iw.kY (σ:Nat→Option Nat) {n s:Nat} (hs:s<n) {ow:Nat→Prop} (h:∀ g,ow g→σ g=some s):iw σ (kY σ n s) n ow:=by
 refine⟨fun g hg=>⟨s,hs,h g hg⟩,fun g hg=>⟨n,Nat.le_refl _,by unfold Go.Pv.kY;rw[if_pos (h g hg)]⟩,fun g i hg hi=>?_,fun g=>?_,fun g i hg hi=>?_⟩
 ·unfold Go.Pv.kY at hg
  split at hg
  ·injection hg with hg;omega
  ·exact hg
 ·unfold Go.Pv.kY
  split
  ·rename_i h;rw[h];exact⟨fun _=>⟨s,rfl⟩,fun _=>⟨n,rfl⟩⟩
  ·exact Iff.rfl
 ·unfold Go.Pv.kY
  rw[if_neg (by rw[hg];intro e;injection e with e;omega)]
  exact hg
theorem iw.Av {σ cv:Nat→Option Nat} {n:Nat} {ow:Nat→Prop} (h:iw σ cv n ow) {Z:Nat→Prop} {g:Nat}:Av cv Z g↔Av σ Z g:=by
 unfold Go.Pv.Av
 rw[h.dom g]
theorem fk {S:St} {i:Nat} (h:S.at i≠ .dead):i<S.length:=by
 rcases Nat.lt_or_ge i S.length with hl |hl
 ·exact hl
 ·refine absurd ?_ h
  unfold St.at
  rw[List.getD_eq_getElem?_getD,List.getElem?_eq_none hl]
  rfl
theorem bI.kY (h:bI σ w0 W0 Z H S a w) (i:Nat):bI (kY σ S.length i) w0 W0 Z H (S.put (some i) .dead) a w:=by
 have cD:bA w w (Av σ Z) (Av (Go.Pv.kY σ S.length i) Z):=⟨fun _ _ _=>rfl,fun g _ hg=>V6.1 hg⟩
 have hs:∀ g j,Go.Pv.kY σ S.length i g=some j→∃ k,σ g=some k:=fun g j hg=>by
  unfold Go.Pv.kY at hg
  split at hg
  ·exact⟨_,by assumption⟩
  ·exact⟨_,hg⟩
 have:=h.put (dst:=some i) (av:=.dead) (v:=cG a i) cD h.fr (fun g j hg=>by
  obtain⟨k,hk⟩:=hs g j hg
  exact⟨h.new g k hk,h.lt g k hk⟩) (fun g hg=>by unfold Go.Pv.kY;rw[(h.old g hg).1];simp) (fun j g _ hd hg=>⟨rfl,by unfold Go.Pv.kY;rw[if_neg (by rw[hg];intro e;exact hd e.symm)];exact hg⟩) (fun _ _ _ _=>trivial)
 rw[nt] at this
 exact this
theorem E4 (S:St) (d:Nat) (p:Path) (i:Nat):(S.cover d p).at i=match S.at i with
  | .ad t s q=>bif Nat.beq s d&&under p q then .dead else .ad t s q
  |a=>a:=EJ S _ rfl i
theorem Ref.re {t:Ty} {s:Nat} {p:Path} {r:TV} {dy:List Value} (h:Ref tm S t s p r dy) (hk:∀ ex,S.at s=.v r ex→open_ p ex→∃ DO,S'.at s=.v r DO∧open_ p DO):Ref tm S' t s p r dy:=by
 obtain⟨⟨ex,h1,h2⟩,h3,h4,h5⟩:=h
 exact⟨hk ex h1 h2,h3,h4,h5⟩
theorem iG {d:Nat} {p:Path} {r:TV} {ex:List Path} (hd:S.at d=.v r ex) (hS:∀ i r' DO,i≠d→S.at i=.v r' DO→S'.at i=.v r' DO) (hS':S'.at d=.v r (ex++[p])) {own:Nat→Prop} {av:AV} {v:Value}
  (hf:av.ga d=false) (hc:∀ t q,av=.ad t d q→under p q=false) (h:Holds w A H tm S own av v) (hnv:∀ b ex,av≠ .v b ex) (hnt:∀ l,av≠ .u5 l):Holds w A H tm S' own av v:=by
 have hre:∀ {t:Ty} {s:Nat} {q:Path} {r':TV} {dy:List Value},Ref tm S t s q r' dy→(s=d→under p q=false)→Ref tm S' t s q r' dy:=by
  intro t s q r' dy hr hu
  refine hr.re (fun ex1 h1 h2=>?_)
  by_cases AY:s=d
  ·subst AY
   rw[hd] at h1
   injection h1 with h1 h1'
   subst h1 h1'
   refine⟨ex++[p],hS',fun q' sz s' r' e=>?_⟩
   rcases List.mem_append.1 sz with sz |sz
   ·exact h2 q' sz s' r' e
   ·rw[List.mem_singleton.1 sz] at e
    have:=hu rfl
    rw[e,nf] at this
    cases this
  ·exact⟨ex1,hS s r' ex1 AY h1,h2⟩
 have aid:under p []=false:=by cases p<;>rfl
 cases av with
 |dead=>trivial
 |undef=>exact h
 |v b ex=>exact absurd rfl (hnv _ _)
 |u5 l=>exact absurd rfl (hnt _)
 |al t s q=>
  obtain⟨r',dy,cs,h1,h2,h3⟩:=h
  refine⟨r',dy,cs,hre h1 (fun e=>?_),h2,h3⟩
  subst e
  cases q with
  |nil=>exact aid
  |cons _ _=>simp[AV.ga] at hf
 |ad t s q=>
  obtain⟨r',dy,g,off,h1,h2,h3⟩:=h
  exact⟨r',dy,g,off,hre h1 (fun e=>by subst e;exact hc _ _ rfl),h2,h3⟩
 |cut t s q lo hi=>
  obtain⟨r',dy,t',X,n,c,h1,h2⟩:=h
  refine⟨r',dy,t',X,n,c,hre h1 (fun e=>?_),h2⟩
  subst e
  simp[AV.ga] at hf
 |mg f c8=>
  obtain⟨vs,h1,h2,h3⟩:=h
  refine⟨vs,h1,h2,fun j c hj=>?_⟩
  obtain⟨u,k1,k2⟩:=h3 j c hj
  refine⟨u,k1,?_⟩
  cases c with
  |kv b=>exact k2
  |pl t s q=>
   obtain⟨r',dy,cs,l1,l2,l3⟩:=k2
   refine⟨r',dy,cs,hre l1 (fun e=>?_),l2,l3⟩
   subst e
   cases q with
   |nil=>exact aid
   |cons a' q'=>
    simp only[AV.ga] at hf
    have pj:=List.any_eq_false.1 hf _ (List.mem_of_getElem? hj)
    simp at pj
theorem fP (h:bI σ w0 W0 Z H S a w) {T:TypeId} {x:Operand} {av:AV} {b:TV} (ho:S.fb Θ T x=some av) (e:S.eS x av=some (b,S1)):
  ∃ cv cs ow,bI cv w0 W0 Z H S1 a w∧aE b.t (a.eval x) cs∧M w (Av σ Z) H b.t b.m b.x cs ow []∧iw σ cv S.length ow∧S1.length=S.length:=by
 have hh:=cf h ho
 cases av with
 |v b0 ex=>
  simp only[St.eS] at e
  cases hk:b0.m.cy with
  |true=>
   rw[hk] at e
   simp only[cond_true,Option.some.injEq,Prod.mk.injEq] at e
   obtain⟨rfl,rfl⟩:=e
   obtain⟨cs,h1,h2⟩:=hh
   exact⟨σ,cs,fun _=>False,h,h1,ph hk (gR _ hk h2),iw.none _ _,rfl⟩
  |false=>
   rw[hk] at e
   simp only[cond_false] at e
   split at e
   ·rename_i i
    simp only[Option.some.injEq,Prod.mk.injEq] at e
    obtain⟨rfl,rfl⟩:=e
    obtain⟨cs,h1,h2⟩:=hh
    refine⟨_,cs,_,h.kY i,h1,h2,iw.kY σ (fk ?_) (fun g hg=>?_),cJ _ _ _⟩
    ·simp only[St.fb,Option.some.injEq] at ho
     rw[ho]
     exact fun e=>by cases e
    ·obtain⟨j,hj,hg⟩:=hg
     injection hj with hj
     subst hj
     exact hg
   ·rename_i hx
    simp only[Option.some.injEq,Prod.mk.injEq] at e
    obtain⟨rfl,rfl⟩:=e
    obtain⟨cs,h1,h2⟩:=hh
    refine⟨σ,cs,fun _=>False,h,h1,bj (bA.refl _ _) _ (fun _ _ _=>rfl) (fun g hg _=>?_) (fun _ h=>h) h2,iw.none _ _,rfl⟩
    obtain⟨j,hj,_⟩:=hg
    exact hx j hj
   ·cases e
 |al t s p=>
  simp only[St.eS] at e
  obtain⟨r,dy,cs,hr,hc,hm⟩:=hh
  split at e
  ·rename_i b' hb
   cases hk:b'.m.cy with
   |true=>
    rw[hk] at e
    simp only[cond_true,Option.some.injEq,Prod.mk.injEq] at e
    obtain⟨rfl,rfl⟩:=e
    obtain⟨AQ,de,_,hM⟩:=dU h hr hc hb
    exact⟨σ,cs,fun _=>False,h,by rw[AQ];exact hm,ph hk (gR _ hk hM),iw.none _ _,rfl⟩
   |false=>
    rw[hk] at e
    simp only[cond_false] at e
    cases hp:p with
    |nil=>
     subst hp
     simp only[Option.some.injEq,Prod.mk.injEq] at e
     obtain⟨rfl,rfl⟩:=e
     obtain⟨AQ,de,sC,hM⟩:=dU h hr hc hb
     obtain⟨ex0,V7,_⟩:=hr.at_
     exact⟨_,cs,de,h.kY s,by rw[AQ];exact hm,hM,iw.kY σ (fk (by rw[V7];exact fun e=>by cases e)) sC,cJ _ _ _⟩
    |cons Ji pp=>
     rw[hp] at e
     obtain⟨ex,b2,du,ow0,j1,j2,j3,j4,hM,j5,j6,j7⟩:=gY h hr
     rw[j1] at e
     simp only[Option.some.injEq,Prod.mk.injEq] at e
     rw[←hp] at e
     obtain⟨rfl,rfl⟩:=e
     obtain⟨r3,ex3,q1,q2,q3⟩:=qA hb
     rw[j1] at q1
     injection q1 with q1 EY
     subst q1 EY
     rw[j3] at q3
     injection q3 with q3
     subst q3
     obtain⟨cs2,de,k1,k2,k3,k4⟩:=Ik p hM j2 hr.val j3 hk
     rw[hc] at k1
     injection k1 with k1
     subst k1
     rw[vj q2] at k3
     -- the ownership without what is taken
     have acw:s<S.length:=fk (by rw[j1];exact fun e=>by cases e)
     let cv:Nat→Option Nat:=fun g=>open Classical in if de g then some S.length else σ g
     have E5:∀ g i,cv g=some i→∃ k,σ g=some k:=by
      intro g i hg
      simp only[cv] at hg
      split at hg
      ·exact⟨s,k2 g (by assumption)⟩
      ·exact⟨i,hg⟩
     have E6:∀ g i,σ g=some i→¬de g→cv g=some i:=by
      intro g i hg hn
      simp only[cv,if_neg hn,hg]
     have cD:bA w w (Av σ Z) (Av cv Z):=⟨fun _ _ _=>rfl,fun g _ hg=>by
      rcases hg with⟨i,hg⟩ |hg
      ·exact .inl (E5 g i hg)
      ·exact .inr hg⟩
     have acx:iw σ cv S.length de:=by
      refine⟨fun g hg=>⟨s,acw,k2 g hg⟩,fun g hg=>⟨_,Nat.le_refl _,by simp only[cv,if_pos hg]⟩,fun g i hg hi=>?_,fun g=>⟨fun⟨i,hg⟩=>E5 g i hg,fun⟨i,hg⟩=>?_⟩,fun g i hg hi=>E6 g i hg (fun hx=>?_)⟩
      ·simp only[cv] at hg
       split at hg
       ·injection hg with hg;omega
       ·exact hg
      ·simp only[cv]
       split
       ·exact⟨_,rfl⟩
       ·exact⟨i,hg⟩
      ·have:=k2 g hx
       rw[hg] at this
       injection this with this
       omega
     refine⟨cv,cs,de,?_,by rw[j4];exact hm,k3,acx,by simp[St.weaken,St.cover]⟩
     have hlen:((S.weaken s).cover s p).length=S.length:=by simp[St.weaken,St.cover]
     have Hv:s<S.length:=by
      rcases Nat.lt_or_ge s S.length with hl |hl
      ·exact hl
      ·unfold St.at at j1
       rw[List.getD_eq_getElem?_getD,List.getElem?_eq_none hl] at j1
       cases j1
     have Bh:St.at (((S.weaken s).cover s p).set s (.v r (ex++[p]))) s=.v r (ex++[p]):=by rw[dA,if_pos ⟨rfl,by rw[hlen];exact Hv⟩]
     have mm:∀ i,i≠s→St.at (((S.weaken s).cover s p).set s (.v r (ex++[p]))) i=(match (bif (S.at i).ga s then AV.dead else S.at i) with
       | .ad t s' q=>bif Nat.beq s' s&&under p q then .dead else .ad t s' q
       |a=>a):=by
      intro i hi
      rw[dA,if_neg (fun e=>hi e.1),E4,lq]
     refine⟨by simp only[List.length_set,hlen];exact h.len,h.defers,h.fr,fun g i hg=>(E5 g i hg).elim fun k hk=>h.new g k hk,fun g i hg=>(E5 g i hg).elim fun k hk=>h.lt g k hk,fun g hg=>⟨?_,(h.old g hg).2⟩,fun i=>?_⟩
     ·simp only[cv]
      split
      ·rename_i hx
       have:=k2 g hx
       rw[(h.old g hg).1] at this
       cases this
      ·exact(h.old g hg).1
     ·by_cases RJ:i=s
      ·subst RJ
       rw[Bh]
       exact⟨dy,hr.mat,bj cD _ (fun _ _ _=>rfl) (fun g hg _=>E6 g _ hg.1 hg.2) (fun _ h=>h) k4⟩
      ·rw[mm i RJ]
       cases r9:(S.at i).ga s with
       |true=>trivial
       |false=>
        simp only[cond_false]
        have hi:=h.holds i
        have base:Holds w (Av cv Z) H (cG a) S (fun g=>cv g=some i) (S.at i) (cG a i):=
         hi.kept cD (fun g hg _=>⟨rfl,E6 g i hg (fun hx=>RJ (by have:=k2 g hx;rw[hg] at this;injection this))⟩) (fun s' _=>⟨fun _ _ h=>h,rfl,_,h.holds s',fun _ _ _=>rfl⟩)
        have hSv:∀ j r' DO,j≠s→S.at j=.v r' DO→St.at (((S.weaken s).cover s p).set s (.v r (ex++[p]))) j=.v r' DO:=by
         intro j r' DO hj hv
         rw[mm j hj,hv]
         simp[AV.ga]
        cases gC:S.at i with
        |v b3 ex3=>
         rw[gC] at base
         obtain⟨c3,l1,l2⟩:=base
         exact⟨c3,l1,l2⟩
        |u5 l=>
         rw[gC] at base
         exact base
        |ad t' s' q=>
         rw[gC] at base r9
         simp only
         cases aqS:(Nat.beq s' s&&under p q) with
         |true=>trivial
         |false=>
          simp only[cond_false]
          refine iG j1 hSv Bh r9 (fun t2 q2 e2=>?_) base (fun _ _ e=>by cases e) (fun _ e=>by cases e)
          injection e2 with _ e3 e4
          subst e3 e4
          simpa using aqS
        |dead=>trivial
        |undef=>rw[gC] at base;exact base
        |al t' s' q=>
         rw[gC] at base r9
         exact iG j1 hSv Bh r9 (fun t2 q2 e2=>by cases e2) base (fun _ _ e=>by cases e) (fun _ e=>by cases e)
        |cut t' s' q lo sO=>
         rw[gC] at base r9
         exact iG j1 hSv Bh r9 (fun t2 q2 e2=>by cases e2) base (fun _ _ e=>by cases e) (fun _ e=>by cases e)
        |mg f c8=>
         rw[gC] at base r9
         exact iG j1 hSv Bh r9 (fun t2 q2 e2=>by cases e2) base (fun _ _ e=>by cases e) (fun _ e=>by cases e)
  ·cases e
 |cut t s p lo hi=>
  cases p with
  |cons _ _=>simp[St.eS] at e
  |nil=>
   simp only[St.eS] at e
   obtain⟨r,dy,t',X,n,c,hr,rfl,hc,YW,EM,hv⟩:=hh
   split at e
   ·rename_i t2 T2 tag me xs hb
    cases aqT:Nat.beq lo 0 with
    |false=>rw[aqT] at e;cases e
    |true=>
     rw[aqT] at e
     have hl0:=Nat.eq_of_beq_eq_true aqT
     subst hl0
     simp only[cond_true,Option.some.injEq,Prod.mk.injEq] at e
     obtain⟨rfl,rfl⟩:=e
     obtain⟨AQ,de,sC,hM⟩:=dU h hr hc hb
     injection AQ with AQ
     subst AQ
     simp only[M] at hM
     rcases hM with⟨hn,_⟩ |⟨hk,_⟩ |⟨T3,axL,me3,X3,c3,e3,e4,hcc,aic,hM⟩
     ·simp at hn
     ·simp[Md.cy] at hk
     ·injection e3 with e3 e3' awN
      subst e3 e3' awN
      simp only[List.cons.injEq,Value.slice.injEq,and_true] at e4
      obtain⟨rfl,hn,rfl⟩:=e4
      have hv':a.eval x=.slice X hi c:=by
       rw[hv]
       have:(if c=0 then X else X.map fun x=>x.add (0*Ty.size t2))=X:=by
        split
        ·rfl
        ·cases X with
         |none=>rfl
         |some ad=>simp[Addr.add]
       rw[this]
       simp
      have hlen:(List.take hi xs).length=hi:=by rw[List.length_take];omega
      obtain⟨ex0,V7,_⟩:=hr.at_
      refine⟨_,[.slice X hi c],de,h.kY s,by simp[aE,isAgg,hv'],?_,iw.kY σ (fk (by rw[V7];exact fun e=>by cases e)) sC,cJ _ _ _⟩
      simp only[M]
      refine .inr (.inr ⟨T2,none,me,X,c,rfl,by rw[hlen],by rw[hlen];omega,fun h hh=>(by cases hh),?_⟩)
      rcases hM with⟨rfl,rfl⟩ |⟨g,cur,τ,rfl,hg,hw,j8,hm,hj⟩
      ·left
       simp
      ·right
       refine⟨g,cur,τ,rfl,hg,hw,j8,hm,fun j Hs=>?_⟩
       rw[hlen] at Hs
       have:=hj j (by omega)
       rw[List.getElem_take]
       exact this
   ·cases e
 |_=>simp[St.eS] at e
noncomputable def iH (σ:Nat→Option Nat) (dst:Option Nat) (ow:Nat→Prop) (g:Nat):Option Nat:=open Classical in if ow g then dst else release σ dst g
theorem bI.V8 (h:bI σ w0 W0 Z H S a w) {av:AV} {ow:Nat→Prop} (j8:w.heap.size≤w'.heap.size) (lV:∀ g,g<w.heap.size→(∀ i,S.length≤i→σ g≠some i)→w'.heap[g]?=w.heap[g]?) (r9:Fr w0 W0 w')
  (sC:∀ g,ow g→g<w'.heap.size∧((∃ i,S.length≤i∧σ g=some i)∨w.heap.size≤g))
  (hH:∀ d,dst=some d→(∀ g,ow g→iH σ dst ow g=some d)→(∀ g,Av (iH σ dst ow) Z g→Av σ Z g∨ow g)→Holds w' (Av (iH σ dst ow) Z) H (cG (a.put dst v)) (S.put dst av) (fun g=>iH σ dst ow g=some d) av v):
  bI (iH σ dst ow) w0 W0 Z H (S.put dst av) (a.put dst v) w':=by
 have hw0:w0.heap.size≤w.heap.size:=h.fr.size
 have gC:∀ g i,iH σ dst ow g=some i→(ow g∧dst=some i)∨(¬ow g∧σ g=some i∧dst≠some i):=fun g i hg=>by
  unfold iH at hg
  split at hg
  ·exact .inl ⟨by assumption,hg⟩
  ·exact .inr ⟨by assumption,gF hg⟩
 have hAv:∀ g,Av (iH σ dst ow) Z g→Av σ Z g∨ow g:=fun g hg=>by
  rcases hg with⟨i,hg⟩ |hg
  ·rcases gC g i hg with⟨h1,_⟩ |⟨_,h1,_⟩
   ·exact .inr h1
   ·exact .inl (.inl ⟨i,h1⟩)
  ·exact .inl (.inr hg)
 have cD:bA w w' (Av σ Z) (Av (iH σ dst ow) Z):=⟨fun g hn hg=>lV g hg (fun i _ hi=>hn (.inl ⟨i,hi⟩)),fun g hg hx=>by
  rcases hAv g hx with h1 |h1
  ·exact h1
  ·rcases(sC g h1).2 with⟨i,_,hi⟩ |h2
   ·exact .inl ⟨i,hi⟩
   ·omega⟩
 refine h.put cD r9 (fun g i hg=>?_) (fun g hg=>?_) (fun i g hi hd hg=>⟨lV g (h.lt g i hg) (fun j hj qj=>by rw[hg] at qj;injection qj with qj;omega),?_⟩) (fun d hd hl _=>hH d hd (fun g hg=>by unfold iH;rw[if_pos hg];exact hd) hAv)
 ·rcases gC g i hg with⟨h1,_⟩ |⟨_,h1,_⟩
  ·rcases sC g h1 with⟨h2,⟨j,_,hj⟩ |h3⟩
   ·exact⟨h.new g j hj,h2⟩
   ·exact⟨.inl (by omega),h2⟩
  ·exact⟨h.new g i h1,by have:=h.lt g i h1;omega⟩
 ·obtain⟨h1,h2⟩:=h.old g hg
  unfold iH
  split
  ·rename_i hx
   rcases(sC g hx).2 with⟨i,_,hi⟩ |h3
   ·rw[h1] at hi;cases hi
   ·omega
  ·unfold release
   split
   ·rfl
   ·exact h1
 ·have hn: ¬ow g:=fun hx=>by
   rcases(sC g hx).2 with⟨j,hj,qj⟩ |h3
   ·rw[hg] at qj;injection qj with qj;omega
   ·have:=h.lt g i hg;omega
  unfold iH
  rw[if_neg hn]
  exact mJ hd hg
theorem bI.apn (h:bI σ w0 W0 Z H S a w) {b:TV} {cs:List Value} {ow:Nat→Prop} {A':Nat→Prop} (j8:w.heap.size≤w'.heap.size) (lV:∀ g,g<w.heap.size→(∀ i,S.length≤i→σ g≠some i)→w'.heap[g]?=w.heap[g]?) (r9:Fr w0 W0 w')
  (sC:∀ g,ow g→g<w'.heap.size∧((∃ i,S.length≤i∧σ g=some i)∨w.heap.size≤g)) (hA:∀ g,g<w'.heap.size→Av σ Z g∨ow g→A' g)
  (hm:aE b.t v cs) (hM:M w' A' H b.t b.m b.x cs ow []):
  bI (iH σ dst ow) w0 W0 Z H (S.put dst (.v b [])) (a.put dst v) w':=
 h.V8 j8 lV r9 sC fun d _ h1 h2=>⟨cs,hm,bj ⟨fun _ _ _=>rfl,fun g hg hx=>hA g hg (h2 g hx)⟩ _ (fun _ _ _=>rfl) (fun g hg _=>h1 g hg) (fun _ h=>h) hM⟩
theorem bI.NO (h:bI σ w0 W0 Z H S a w) {b:TV} {cs:List Value} {ow:Nat→Prop} {A':Nat→Prop} (lV:∀ g,g<w.heap.size→w'.heap[g]?=w.heap[g]?) (r9:Fr w0 W0 w')
  (sC:∀ g,ow g→g<w'.heap.size∧((∃ i,S.length≤i∧σ g=some i)∨w.heap.size≤g)) (hA:∀ g,g<w'.heap.size→Av σ Z g∨ow g→A' g)
  (hm:aE b.t v cs) (hM:M w' A' H b.t b.m b.x cs ow []):
  bI (iH σ dst ow) w0 W0 Z H (S.put dst (.v b [])) (a.put dst v) w':=by
 refine h.apn ?_ (fun g hg _=>lV g hg) r9 sC hA hm hM
 rcases Nat.eq_zero_or_pos w.heap.size with h0 |h0
 ·omega
 ·have:=lV (w.heap.size - 1) (by omega)
  rw[Array.getElem?_eq_getElem (show w.heap.size - 1<w.heap.size by omega)] at this
  have:=bT this
  omega
end Go.Pv
namespace Go.Pv
set_option linter.unusedVariables false
set_option linter.unusedSimpArgs false
variable {P:Program} {w w':World} {A A' Wr:Nat→Prop} {H:Nat→Value} {tm sx:Nat→Value} {S S' S1:St} {σ cv:Nat→Option Nat} {w0:World} {W0 Z:Nat→Prop} {a:Act} {own:Nat→Prop} {v:Value} {Θ:ee} {dst:Option Nat}
theorem kD:∀ (t:Ty),lR t=true→K w A t t.z (zc t)
 | .int k,_=>by simp[K,zc,Ty.z]
 | .bool,_=>by simp[K,zc,Ty.z]
 | .str,_=>by simp[K,zc,Ty.z]
 | .unit,_=>by simp[K,zc]
 | .sl t,_=>by simp only[K,zc,Ty.z];exact⟨none,0,rfl,Nat.le_refl _,fun h=>absurd h (Nat.lt_irrefl _)⟩
 | .pair a b,h=>by
  simp only[lR,Bool.and_eq_true] at h
  simp only[K,zc,Ty.z]
  exact⟨_,_,rfl,kD a h.1,kD b h.2⟩
 | .ptr t,h=>by simp[lR] at h
 | .arr n t,h=>by simp[lR] at h
theorem Jm {t:Ty} {x:t.I} {m:Md} {cs:List Value} {ow:Nat→Prop} (h:M w A H t m x cs (fun _=>False) []):M w A H t m x cs ow []:=bj (bA.refl _ _) t (fun _ _ _=>rfl) (fun _ h _=>h.elim) (fun _ h=>h) h
theorem E7:∀ (t:Ty) {m:Md},vM t m=true→M w A H t m t.z (zc t) (fun _=>False) []
 | .pair a b,.p ma mb,h=>by
  simp only[vM,Bool.or_eq_true,Bool.and_eq_true] at h
  rcases h with h |h
  ·simp only[M]
   exact .inr (.inr ⟨ma,mb,zc a,zc b,fun _=>True,rfl,rfl,Jm (E7 a h.1),Jm (E7 b h.2)⟩)
  ·exact ph (by simp[Md.cy,h.1.1.1,h.1.1.2]) (by simp only[K,zc,Ty.z];exact⟨_,_,rfl,kD a h.1.2,kD b h.2⟩)
 | .sl t,.o T none me,_=>by
  simp only[M]
  exact .inr (.inr ⟨T,none,me,none,0,rfl,rfl,Nat.le_refl _,fun h hh=>(by cases hh),.inl ⟨rfl,rfl⟩⟩)
 | .pair a b,.k,h=>by
  simp only[vM,Bool.and_eq_true] at h
  exact ph h.1 (kD _ h.2)
 | .pair a b,.o ..,h=>by simp[vM,Md.cy] at h
 | .sl t,.k,h=>by
  simp only[vM,Bool.and_eq_true] at h
  exact ph h.1 (kD _ h.2)
 | .sl t,.o _ (some _) _,h=>by simp[vM,Md.cy] at h
 | .sl t,.p a b,h=>by
  simp only[vM,Bool.and_eq_true] at h
  exact ph h.1 (kD _ h.2)
 | .int k,m,h=>by
  have h:(m.cy&&lR (.int k))=true:=by cases m<;>exact h
  simp only[Bool.and_eq_true] at h
  exact ph h.1 (kD _ h.2)
 | .bool,m,h=>by
  have h:(m.cy&&lR .bool)=true:=by cases m<;>exact h
  simp only[Bool.and_eq_true] at h
  exact ph h.1 (kD _ h.2)
 | .str,m,h=>by
  have h:(m.cy&&lR .str)=true:=by cases m<;>exact h
  simp only[Bool.and_eq_true] at h
  exact ph h.1 (kD _ h.2)
 | .unit,m,h=>by
  have h:(m.cy&&lR .unit)=true:=by cases m<;>exact h
  simp only[Bool.and_eq_true] at h
  exact ph h.1 (kD _ h.2)
 | .ptr t,m,h=>by
  have h:(m.cy&&lR (.ptr t))=true:=by cases m<;>exact h
  simp[lR] at h
 | .arr n t,m,h=>by
  have h:(m.cy&&lR (.arr n t))=true:=by cases m<;>exact h
  simp[lR] at h
theorem Bi (hT:dv P Θ=true) {T:TypeId} {z:TV} (h:sE Θ T=some z):
  ∃ i inf zv,Θ.find T=some i∧i.ty=z.t∧z.x=z.t.z∧vM z.t z.m=true∧P.info? T=some inf∧inf.size=z.t.size∧inf.zero=some zv∧aE z.t zv (zc z.t)∧inf.bytes≤32*z.t.size∧inf.bytes≤256:=by
 unfold sE at h
 split at h
 ·rename_i i hi
  cases hz:vM i.ty (Nl Θ 9 T) with
  |false=>rw[hz] at h;cases h
  |true=>
   rw[hz] at h
   simp only[cond_true,Option.some.injEq] at h
   subst h
   obtain⟨⟨_,inf,zv,h1,h2,h3,h4,h5,h6,h7⟩,_,rfl⟩:=dB hT hi
   exact⟨i,inf,zv,hi,rfl,rfl,hz,h1,h2,h6,h7,h3,h4⟩
 ·cases h
theorem Fr.alloc (h:Fr w0 W0 w) (o:Obj):Fr w0 W0 (w.alloc o):=by
 refine⟨h.os,h.tape,h.output,?_,fun g hg hn=>?_⟩
 ·have:=h.size
  simp only[World.alloc,Array.size_push];omega
 ·rw[heap_alloc_old w o g (by have:=h.size;omega)]
  exact h.block g hg hn
theorem jJ {t:Ty} {v:Value} {cs:List Value} (h:aE t v cs) (h1:∀ u∈cs,u.oneCell'=true):v.cells=cs.toArray:=by
 have:=Jb h h1
 rw[←this]
theorem NP {t:Ty} {m:Md} {x:t.I} {cs:List Value} {ow:Nat→Prop} (T:TypeId) (hM:M w A H t m x cs ow []) (cZ:∀ g,ow g→g<w.heap.size):
  M (w.alloc (.cells cs.toArray T)) (fun g=>A g∨w.heap.size≤g) H (.ptr t) (.o T none m) x [.pointer (some ⟨w.heap.size,0,none⟩)] (fun g=>ow g∨g=w.heap.size) []:=by
 simp only[M]
 refine .inr (.inr ⟨T,none,m,w.heap.size,cs.toArray,rfl,rfl,fun h hh=>(by cases hh),.inr rfl,heap_alloc_new w _,?_⟩)
 refine bj (w:=w) ⟨fun g _ hg=>heap_alloc_old w _ g hg,fun g hg hx=>?_⟩ t (fun g hg hl=>heap_alloc_old w _ g hl) (fun g hg hl=>⟨.inl hg,by omega⟩) (fun _ h=>(by simp at h)) hM
 rcases hx with hx |hx
 ·exact hx
 ·omega
def CU (P:Program) (w0:World) (W0 Z:Nat→Prop) (H:Nat→Value) (S':St) (a:Act) (dst:Option Nat) (w:World) (s:Sem Next):Prop:=
 ∃ w' v,s.run P w=.ok (.value v) w'∧Ext w w'∧Rel w0 W0 Z H S' (a.put dst v) w'
theorem CU.auN {s:Sem Next} (h:CU P w0 W0 Z H S' a dst w s):Jk P w0 W0 Z H S' a dst w s:=by
 obtain⟨w',v,h1,_,h2⟩:=h
 exact⟨w',v,.inl h1,h2⟩
theorem jg.DG {s:Sem Next} (h:jg P w0 W0 Z H S' a dst w s):CU P w0 W0 Z H S' a dst w s:=by
 obtain⟨v,h1,h2⟩:=h
 exact⟨w,v,h1 w (Ext.refl w),Ext.refl w,h2⟩
theorem acy (hT:dv P Θ=true) (h:bI σ w0 W0 Z H S a w) {hn:Hn} {o:Oper} {T:TypeId} (ho:o.op=.alloc T) (e:qn Θ hn S o.dst T=some (true,S')):CU P w0 W0 Z H S' a o.dst w (execOp a.eval o):=by
 unfold qn at e
 split at e
 ·rename_i z hz
  cases hf:vM z.t (hn.find o.dst z.m) with
  |false=>rw[hf] at e;cases e
  |true=>
   rw[hf] at e
   simp only[cond_true,Option.some.injEq,Prod.mk.injEq,true_and] at e
   subst e
   obtain⟨i,inf,zv,_,_,_,_,h1,h2,h3,h4,_⟩:=Bi hT hz
   have hM:M w (Av σ Z) H z.t (hn.find o.dst z.m) z.t.z (zc z.t) (fun _=>False) []:=E7 z.t hf
   have aqU:=NP T hM (fun _ h=>h.elim)
   refine⟨w.alloc (.cells (zc z.t).toArray T),.pointer (some ⟨w.heap.size,0,none⟩),?_,fun g hg=>heap_alloc_old w _ g hg,_,h.NO (b:=⟨.ptr z.t,.o T none (hn.find o.dst z.m),z.t.z⟩) (cs:=[.pointer (some ⟨w.heap.size,0,none⟩)]) (fun g hg=>heap_alloc_old w _ g hg) (h.fr.alloc _) (fun g hg=>?_) (fun g hg hx=>?_) (by simp[aE,isAgg]) aqU⟩
   ·simp[execOp,ho,Instr.alloc,zeroValue,typeInfo,h1,h3,newVar,newRow,jJ h4 (fI _ hM).2]
   ·rcases hg with hg |rfl
    ·exact hg.elim
    ·exact⟨by simp only[World.alloc,Array.size_push];omega,.inr (Nat.le_refl _)⟩
   ·rcases hx with hx |hx |rfl
    ·exact .inl hx
    ·exact hx.elim
    ·exact .inr (Nat.le_refl _)
 ·cases e
theorem pE {b:TV} {cs:List Value} {ow:Nat→Prop} {s:Sem Next} {n:Nat} (h:bI cv w0 W0 Z H S1 a w) (hk:iw σ cv n ow) (hn:S1.length=n) (hr:∀ w2,Ext w w2→s.run P w2=.ok (.value v) w2) (hm:aE b.t v cs) (hM:M w (Av σ Z) H b.t b.m b.x cs ow []):
  jg P w0 W0 Z H (S1.put dst (.v b [])) a dst w s:=by
 refine⟨v,hr,_,h.NO (b:=b) (cs:=cs) (fun _ _=>rfl) h.fr (fun g hg=>?_) (fun g hg hx=>?_) hm hM⟩
 ·obtain⟨i,hi,bW⟩:=hk.now g hg
  exact⟨h.lt g i bW,.inl ⟨i,by omega,bW⟩⟩
 ·rcases hx with hx |hx
  ·exact hk.Av.1 hx
  ·obtain⟨i,hi,bW⟩:=hk.NN g hx
   exact .inl ⟨i,bW⟩
theorem aqV (hT:dv P Θ=true) (h:bI σ w0 W0 Z H S a w) {o:Oper} {T:TypeId} {x:Operand} (ho:o.op=.box T x) (e:abZ Θ S o.dst T x=some (true,S')):CU P w0 W0 Z H S' a o.dst w (execOp a.eval o):=by
 unfold abZ St.take at e
 split at e
 ·rename_i b S1 hb
  split at hb
  ·rename_i av eQ
   obtain⟨cv,cs,ow,h1,hm,hM,hk,hn⟩:=fP h eQ hb
   cases hc:Θ.is T b.t with
   |false=>rw[hc] at e;cases e
   |true=>
    rw[hc] at e
    simp only[cond_true,Option.some.injEq,Prod.mk.injEq,true_and] at e
    subst e
    have cZ:∀ g,ow g→g<w.heap.size:=fun g hg=>by
     obtain⟨i,_,hi⟩:=hk.NN g hg
     exact h.lt g i hi
    have aqU:=NP T hM cZ
    refine⟨w.alloc (.cells cs.toArray T),.pointer (some ⟨w.heap.size,0,none⟩),?_,fun g hg=>heap_alloc_old w _ g hg,_,h1.NO (b:=⟨.ptr b.t,.o T none b.m,b.x⟩) (cs:=[.pointer (some ⟨w.heap.size,0,none⟩)]) (fun g hg=>heap_alloc_old w _ g hg) (h1.fr.alloc _) (fun g hg=>?_) (fun g hg hx=>?_) (by simp[aE,isAgg]) aqU⟩
    ·simp[execOp,ho,Instr.box,newVar,newRow,jJ hm (fI _ hM).2]
    ·rcases hg with hg |rfl
     ·obtain⟨i,hi,bW⟩:=hk.now g hg
      have:=cZ g hg
      exact⟨by simp only[World.alloc,Array.size_push];omega,.inl ⟨i,by omega,bW⟩⟩
     ·exact⟨by simp only[World.alloc,Array.size_push];omega,.inr (Nat.le_refl _)⟩
    ·rcases hx with hx |hx |rfl
     ·exact .inl (hk.Av.1 hx)
     ·obtain⟨i,_,hi⟩:=hk.NN g hx
      exact .inl (.inl ⟨i,hi⟩)
     ·exact .inr (Nat.le_refl _)
  ·cases hb
 ·cases e
end Go.Pv
namespace Go.Pv
set_option linter.unusedVariables false
set_option linter.unusedSimpArgs false
variable {P:Program} {w w':World} {A A' Wr:Nat→Prop} {H:Nat→Value} {tm sx:Nat→Value} {S S' S1:St} {σ cv:Nat→Option Nat} {w0:World} {W0 Z:Nat→Prop} {a:Act} {own:Nat→Prop} {v:Value} {Θ:ee} {dst:Option Nat}
theorem uw:∀ (p:Path) {t:Ty} {m:Md} {x:t.I} {b b0:TV} {r:Md×t.I},iA b p t m x=some r→bQ p t m x=some b0→b.t=b0.t
 |[],t,m,x,b,b0,r,h,hg=>by
  simp only[bQ,Option.some.injEq] at hg
  subst hg
  simp only[iA] at h
  split at h
  ·assumption
  ·cases h
 | .deref::p,.ptr t,.o T tag me,x,b,b0,r,h,hg=>by
  simp only[iA] at h
  simp only[bQ] at hg
  split at h
  ·rename_i r1 h1
   exact uw p h1 hg
  ·cases h
 | .fst::p,.pair t u,m,x,b,b0,r,h,hg=>by
  simp only[iA] at h
  simp only[bQ] at hg
  split at h
  ·rename_i r1 h1
   exact uw p h1 hg
  ·cases h
 | .snd::p,.pair t u,m,x,b,b0,r,h,hg=>by
  simp only[iA] at h
  simp only[bQ] at hg
  split at h
  ·rename_i r1 h1
   exact uw p h1 hg
  ·cases h
 | .idx i::p,.sl t,.o T tag me,xs,b,b0,r,h,hg=>by
  obtain⟨r1,h1,_⟩:=EA h
  simp only[bQ] at hg
  exact uw p h1 hg
theorem kE:∀ (q:Path) {t:Ty} {x y:t.I},bo q=true→valid q t x→valid q t y
 |[],_,_,_,_,_=>trivial
 | .fst::q,.pair a b,x,y,h,hv=>by
  simp only[valid] at hv ⊢
  exact kE q (by simpa[bo] using h) hv
 | .snd::q,.pair a b,x,y,h,hv=>by
  simp only[valid] at hv ⊢
  exact kE q (by simpa[bo] using h) hv
theorem gZ:∀ (q:Path),depth q=0→bo q=true
 |[],_=>rfl
 | .fst::q,h=>by simp only[bo];exact gZ q (by simpa[depth] using h)
 | .snd::q,h=>by simp only[bo];exact gZ q (by simpa[depth] using h)
 | .deref::q,h=>by simp[depth] at h
 | .idx i::q,h=>by simp[depth] at h
theorem fg:∀ (q:Path) {t:Ty} {cs du:List Value} {l:Option (Nat×Nat)},bo q=true→addrAt w q t cs l=addrAt w' q t du l
 |[],_,_,_,_,_=>rfl
 | .fst::q,.pair a b,cs,du,l,h=>by
  simp only[addrAt]
  exact fg q (by simpa[bo] using h)
 | .snd::q,.pair a b,cs,du,l,h=>by
  simp only[addrAt]
  exact fg q (by simpa[bo] using h)
 | .fst::q,.int _,_,_,_,_=>by simp[addrAt]
 | .fst::q,.bool,_,_,_,_=>by simp[addrAt]
 | .fst::q,.str,_,_,_,_=>by simp[addrAt]
 | .fst::q,.sl _,_,_,_,_=>by simp[addrAt]
 | .fst::q,.ptr _,_,_,_,_=>by simp[addrAt]
 | .fst::q,.unit,_,_,_,_=>by simp[addrAt]
 | .fst::q,.arr _ _,_,_,_,_=>by simp[addrAt]
 | .snd::q,.int _,_,_,_,_=>by simp[addrAt]
 | .snd::q,.bool,_,_,_,_=>by simp[addrAt]
 | .snd::q,.str,_,_,_,_=>by simp[addrAt]
 | .snd::q,.sl _,_,_,_,_=>by simp[addrAt]
 | .snd::q,.ptr _,_,_,_,_=>by simp[addrAt]
 | .snd::q,.unit,_,_,_,_=>by simp[addrAt]
 | .snd::q,.arr _ _,_,_,_,_=>by simp[addrAt]
theorem vY:∀ (q p:Path) {t:Ty} {m:Md} {x:t.I} {b:TV} {r:Md×t.I},iA b p t m x=some r→bo p=false→depth q≤1→valid q t x→valid q t r.2
 |[],_,_,_,_,_,_,_,_,_,_=>trivial
 | .deref::q,p,.ptr t,m,x,b,r,h,hp,hd,hv=>by
  simp only[valid] at hv ⊢
  exact kE q (gZ q (by simp[depth] at hd;omega)) hv
 | .idx i::q,p,.sl t,m,xs,b,r,h,hp,hd,hv=>by
  simp only[valid] at hv ⊢
  refine⟨?_,kE q (gZ q (by simp[depth] at hd;omega)) hv.2⟩
  cases p with
  |nil=>simp[bo] at hp
  |cons s p=>
   cases s<;>cases m<;>simp[iA] at h
   rename_i j T tag me
   have h':iA b (.idx j::p) (.sl t) (.o T tag me) xs=some r:=by simp only[iA];exact h
   obtain⟨r1,_,_,rfl⟩:=EA h'
   simpa using hv.1
 | .fst::q,p,.pair t u,m,x,b,r,h,hp,hd,hv=>by
  simp only[valid] at hv ⊢
  cases p with
  |nil=>simp[bo] at hp
  |cons s p=>
   cases s<;>simp only[iA,reduceCtorEq] at h
   ·split at h
    ·rename_i r1 h1
     injection h with h
     subst h
     exact vY q p h1 (by simpa[bo] using hp) (by simpa[depth] using hd) hv
    ·cases h
   ·split at h
    ·rename_i r1 h1
     injection h with h
     subst h
     exact hv
    ·cases h
 | .snd::q,p,.pair t u,m,x,b,r,h,hp,hd,hv=>by
  simp only[valid] at hv ⊢
  cases p with
  |nil=>simp[bo] at hp
  |cons s p=>
   cases s<;>simp only[iA,reduceCtorEq] at h
   ·split at h
    ·rename_i r1 h1
     injection h with h
     subst h
     exact hv
    ·cases h
   ·split at h
    ·rename_i r1 h1
     injection h with h
     subst h
     exact vY q p h1 (by simpa[bo] using hp) (by simpa[depth] using hd) hv
    ·cases h
theorem pF:∀ (q:Path) {t:Ty} {m:Md} {x:t.I} {cs:List Value} {ow:Nat→Prop} {hs:List Path} {l:Option (Nat×Nat)} {g:Nat×Nat},
  M w' A' H t m x cs ow hs→open_ q hs→valid q t x→depth q≤1→addrAt w q t cs l=some g→addrAt w' q t cs l=some g
 |[],_,_,_,_,_,_,_,_,_,_,_,_,e=>e
 | .deref::q,.ptr t,m,x,cs,ow,hs,l,g0,h,ho,hv,hd,e=>by
  have hq:bo q=true:=gZ q (by simp[depth] at hd;omega)
  simp only[M] at h
  rcases h with⟨hn,_⟩ |⟨hk,h⟩ |⟨T,tag,me,g,cur,rfl,rfl,ht,rY,hw,h⟩
  ·exact absurd hn ho.not_nil
  ·simp only[K] at h
   obtain⟨g,off,cur,T,fr,rfl,hng,hw,hl,h⟩:=h
   simp only[addrAt,b6 hw hl,Option.bind_some] at e ⊢
   cases hr:rowAt w g off t.size with
   |none=>rw[hr] at e;cases e
   |some row=>
    rw[hr,Option.bind_some] at e
    rw[←e]
    exact fg q hq
  ·have j8:0+t.size≤cur.size:=by rw[←(fI t h).1];simp
   simp only[addrAt,b6 hw j8,Option.bind_some] at e ⊢
   cases hr:rowAt w g 0 t.size with
   |none=>rw[hr] at e;cases e
   |some row=>
    rw[hr,Option.bind_some] at e
    rw[←e]
    exact fg q hq
 | .fst::q,.pair a b',m,x,cs,ow,hs,l,g0,h,ho,hv,hd,e=>by
  simp only[valid] at hv
  simp only[M] at h
  simp only[addrAt] at e ⊢
  rcases h with⟨hn,_⟩ |⟨hk,h⟩ |⟨ma,mb,c0,c1,s,rfl,rfl,h0,h1⟩
  ·exact absurd hn ho.not_nil
  ·simp only[K] at h
   obtain⟨c0,c1,rfl,h0,h1⟩:=h
   rw[←(mh a h0).1,List.take_left] at e ⊢
   exact pF q (ib (H:=H) (ow:=fun _=>False) (hs:=sub .fst hs) a h0) ho.sub hv (by simpa[depth] using hd) e
  ·rw[←(fI a h0).1,List.take_left] at e ⊢
   exact pF q h0 ho.sub hv (by simpa[depth] using hd) e
 | .snd::q,.pair a b',m,x,cs,ow,hs,l,g0,h,ho,hv,hd,e=>by
  simp only[valid] at hv
  simp only[M] at h
  simp only[addrAt] at e ⊢
  rcases h with⟨hn,_⟩ |⟨hk,h⟩ |⟨ma,mb,c0,c1,s,rfl,rfl,h0,h1⟩
  ·exact absurd hn ho.not_nil
  ·simp only[K] at h
   obtain⟨c0,c1,rfl,h0,h1⟩:=h
   rw[←(mh a h0).1,List.drop_left] at e ⊢
   exact pF q (ib (H:=H) (ow:=fun _=>False) (hs:=sub .snd hs) b' h1) ho.sub hv (by simpa[depth] using hd) e
  ·rw[←(fI a h0).1,List.drop_left] at e ⊢
   exact pF q h1 ho.sub hv (by simpa[depth] using hd) e
 | .idx i::q,.sl t,m,xs,cs,ow,hs,l,g0,h,ho,hv,hd,e=>by
  have hq:bo q=true:=gZ q (by simp[depth] at hd;omega)
  simp only[valid] at hv
  obtain⟨hi,hv⟩:=hv
  simp only[M] at h
  rcases h with⟨hn,_⟩ |⟨hk,h⟩ |⟨T,tag,me,X,c,rfl,rfl,hc,ht,h⟩
  ·exact absurd hn ho.not_nil
  ·simp only[K] at h
   obtain⟨X,c,rfl,hc,h⟩:=h
   obtain⟨g,off,cur,T,fr,rfl,hng,hw,hl,h⟩:=h (by omega)
   have hbound:off+i*t.size+t.size≤cur.size:=by
    have:=Nat.mul_le_mul_right t.size (show i+1≤xs.length from hi)
    rw[Nat.add_mul,Nat.one_mul] at this
    omega
   simp only[addrAt,b6 hw hbound,Option.bind_some] at e ⊢
   cases hr:rowAt w g (off+i*t.size) t.size with
   |none=>rw[hr] at e;cases e
   |some row=>
    rw[hr,Option.bind_some] at e
    rw[←e]
    exact fg q hq
  ·rcases h with⟨rfl,_⟩ |⟨g,cur,τ,rfl,rY,hw,j8,hm,h⟩
   ·simp at hi
   ·have hbound:0+i*t.size+t.size≤cur.size:=by
     have h1:=Nat.mul_le_mul_right t.size (show i+1≤xs.length from hi)
     have h2:=Nat.mul_le_mul_right t.size hc
     rw[Nat.add_mul,Nat.one_mul] at h1
     omega
    simp only[addrAt,b6 hw hbound,Option.bind_some] at e ⊢
    cases hr:rowAt w g (0+i*t.size) t.size with
    |none=>rw[hr] at e;cases e
    |some row=>
     rw[hr,Option.bind_some] at e
     rw[←e]
     exact fg q hq
theorem acz:∀ (q p:Path) {t:Ty} {m:Md} {x:t.I} {b b1:TV} {r:Md×t.I},iA b p t m x=some r→bQ q t m x=some b1→∀ m',∃ b2,bQ q t m' r.2=some b2∧b2.t=b1.t:=by
 have key:∀ (q:Path) {t:Ty} {m m':Md} {x y:t.I} {b1:TV},bQ q t m x=some b1→∃ b2,bQ q t m' y=some b2∧b2.t=b1.t:=by
  intro q
  induction q with
  |nil=>intro t m m' x y b1 h;simp only[bQ,Option.some.injEq] at h;subst h;exact⟨_,rfl,rfl⟩
  |cons s q ih=>
   intro t m m' x y b1 h
   cases s<;>cases t<;>simp only[bQ,reduceCtorEq] at h ⊢
   all_goals exact ih h
 intro q p t m x b b1 r _ h m'
 exact key q h
theorem HE (cD:bA w w' A A') {d:Nat} {r r':TV} {ex DO:List Path} (CV:r'.t=r.t) (hd:S.at d=.v r ex) (VZ:S'.at d=.v r' DO) (hS:∀ i r1 ex1,i≠d→S.at i=.v r1 ex1→S'.at i=.v r1 ex1)
  (hM:∃ dy Ja,aE r.t (tm d) dy∧M w' A' H r'.t r'.m r'.x dy Ja DO) (hex:∀ q∈DO,q∈ex)
  (kr:∀ q,depth q≤1→valid q r.t r.x→valid q r'.t r'.x) (fU:∀ q b1,bQ q r.t r.m r.x=some b1→∃ b2,bQ q r'.t r'.m r'.x=some b2∧b2.t=b1.t)
  (hk:∀ s,s≠d→∃ own,Holds w A H tm S own (S.at s) (tm s)∧∀ g,own g→g<w.heap.size→w'.heap[g]?=w.heap[g]?)
  {own Ja:Nat→Prop} (pD:∀ g,own g→g<w.heap.size→w'.heap[g]?=w.heap[g]? ∧Ja g) {av:AV} {v:Value} (hf:av.ga d=false) (h:Holds w A H tm S own av v):Holds w' A' H tm S' Ja av v:=by
 have V9:∀ s,s≠d→Kept w w' A H tm tm S S' s:=fun s hs=>⟨fun r1 ex1=>hS s r1 ex1 hs,rfl,hk s hs⟩
 have aqW:∀ {t:Ty} {q:Path} {r1:TV} {dy:List Value},depth q≤1→Ref tm S t d q r1 dy→r1=r∧Ref tm S' t d q r' dy:=by
  intro t q r1 dy hq hr
  obtain⟨⟨ex1,h1,h2⟩,h3,⟨b1,h4,h5⟩,h6⟩:=hr
  rw[hd] at h1
  injection h1 with h1 h1'
  subst h1 h1'
  obtain⟨b2,k1,k2⟩:=fU q b1 h4
  exact⟨rfl,⟨DO,VZ,fun p hp=>h2 p (hex p hp)⟩,kr q hq h3,⟨b2,k1,k2.trans h5⟩,by rw[CV];exact h6⟩
 cases av with
 |dead=>trivial
 |undef=>exact h
 |v b ex1=>
  obtain⟨cs,h1,h2⟩:=h
  exact⟨cs,h1,bj cD _ (fun g hg hl=>(pD g hg hl).1) (fun g hg hl=>(pD g hg hl).2) (fun _ h=>h) h2⟩
 |u5 l=>
  obtain⟨vs,τ,h1,h2,h3⟩:=h
  refine⟨vs,τ,h1,h2,fun j b hj=>?_⟩
  obtain⟨u,cs,k1,k2,k3⟩:=h3 j b hj
  exact⟨u,cs,k1,k2,bj cD _ (fun g hg hl=>(pD g hg.1 hl).1) (fun g hg hl=>⟨(pD g hg.1 hl).2,hg.2⟩) (fun _ h=>h) k3⟩
 |al t s p=>
  obtain⟨r1,dy,cs,hr,hc,hm⟩:=h
  by_cases AY:s=d
  ·subst AY
   cases p with
   |cons _ _=>simp[AV.ga] at hf
   |nil=>
    obtain⟨rfl,A5⟩:=aqW (by simp[depth]) hr
    exact⟨r',dy,cs,A5,hc,hm⟩
  ·obtain⟨h1,h2⟩:=hr.kept cD (V9 s AY)
   exact⟨r1,dy,cs,h1,by rw[(h2 none).1];exact hc,hm⟩
 |ad t s p=>
  obtain⟨r1,dy,g,off,hr,hc,hm⟩:=h
  by_cases AY:s=d
  ·subst AY
   have auS:depth p≤1:=by
    simp only[AV.ga,Nat.beq_refl,Bool.true_and] at hf
    have: ¬ 2≤depth p:=fun h2=>by rw[Nat.ble_eq_true_of_le h2] at hf;cases hf
    omega
   obtain⟨rfl,A5⟩:=aqW auS hr
   obtain⟨cs1,ah0,m1,m2⟩:=hM
   obtain rfl:=fN m1 hr.mat
   obtain⟨ex1,e1,e2⟩:=A5.at_
   rw[VZ] at e1
   injection e1 with _ e1
   subst e1
   refine⟨r',cs1,g,off,A5,pF (w:=w) p m2 e2 A5.val auS (by rw[CV];exact hc),hm⟩
  ·obtain⟨h1,h2⟩:=hr.kept cD (V9 s AY)
   exact⟨r1,dy,g,off,h1,by rw[(h2 none).2];exact hc,hm⟩
 |cut t s p lo hi=>
  obtain⟨r1,dy,t',A1,n,c,hr,ht,hc,hm⟩:=h
  by_cases AY:s=d
  ·subst AY
   simp[AV.ga] at hf
  ·obtain⟨h1,h2⟩:=hr.kept cD (V9 s AY)
   exact⟨r1,dy,t',A1,n,c,h1,ht,by rw[(h2 none).1];exact hc,hm⟩
 |mg f c8=>
  obtain⟨vs,h1,h2,h3⟩:=h
  refine⟨vs,h1,h2,fun j c hj=>?_⟩
  obtain⟨u,k1,k2⟩:=h3 j c hj
  refine⟨u,k1,?_⟩
  cases c with
  |kv b=>exact cE cD _ k2
  |pl t s p=>
   by_cases AY:s=d
   ·subst AY
    obtain⟨r1,dy,cs,hr,hc,hm⟩:=k2
    cases p with
    |cons _ _=>
     have pj:=List.any_eq_false.1 hf _ (List.mem_of_getElem? hj)
     simp at pj
    |nil=>
     obtain⟨rfl,A5⟩:=aqW (by simp[depth]) hr
     exact⟨r',dy,cs,A5,hc,hm⟩
   ·exact nm.kept cD (fun t1 s1 p1 e1=>by injection e1 with _ e1 _;subst e1;exact V9 _ AY) k2
theorem Jn:∀ (p h:Path),pre p h=true→∃ q,h=p++q
 |[],h,_=>⟨h,rfl⟩
 | .deref::p,.deref::h,e=>by obtain⟨q,rfl⟩:=Jn p h (by simpa[pre] using e);exact⟨q,rfl⟩
 | .fst::p,.fst::h,e=>by obtain⟨q,rfl⟩:=Jn p h (by simpa[pre] using e);exact⟨q,rfl⟩
 | .snd::p,.snd::h,e=>by obtain⟨q,rfl⟩:=Jn p h (by simpa[pre] using e);exact⟨q,rfl⟩
theorem take_at {x:Operand} {av:AV} {b:TV} {s:Nat} {r:TV} {ex:List Path} (e:S.eS x av=some (b,S1)) (hs:S1.at s=.v r ex):∃ ex0,S.at s=.v r ex0∧∀ q∈ex0,q∈ex:=by
 have Zb:∀ i,(S.put (some i) .dead).at s=.v r ex→S.at s=.v r ex:=by
  intro i h
  rw[eU] at h
  split at h
  ·simp[AV.refs] at h
  ·cases hr:(S.at s).refs i&&(S.at i).AN with
   |true=>rw[hr] at h;cases h
   |false=>rw[hr] at h;exact h
 cases av with
 |v b0 ex0=>
  simp only[St.eS] at e
  cases hk:b0.m.cy with
  |true=>
   rw[hk] at e
   simp only[cond_true,Option.some.injEq,Prod.mk.injEq] at e
   obtain⟨_,rfl⟩:=e
   exact⟨ex,hs,fun _ h=>h⟩
  |false=>
   rw[hk] at e
   simp only[cond_false] at e
   split at e
   ·simp only[Option.some.injEq,Prod.mk.injEq] at e
    obtain⟨_,rfl⟩:=e
    exact⟨ex,Zb _ hs,fun _ h=>h⟩
   ·simp only[Option.some.injEq,Prod.mk.injEq] at e
    obtain⟨_,rfl⟩:=e
    exact⟨ex,hs,fun _ h=>h⟩
   ·cases e
 |al t s0 p=>
  simp only[St.eS] at e
  split at e
  ·rename_i b' hb
   cases hk:b'.m.cy with
   |true=>
    rw[hk] at e
    simp only[cond_true,Option.some.injEq,Prod.mk.injEq] at e
    obtain⟨_,rfl⟩:=e
    exact⟨ex,hs,fun _ h=>h⟩
   |false=>
    rw[hk] at e
    simp only[cond_false] at e
    split at e
    ·simp only[Option.some.injEq,Prod.mk.injEq] at e
     obtain⟨_,rfl⟩:=e
     exact⟨ex,Zb _ hs,fun _ h=>h⟩
    ·rename_i r2 ex2 _ eJ
     simp only[Option.some.injEq,Prod.mk.injEq] at e
     obtain⟨_,rfl⟩:=e
     rw[dA] at hs
     split at hs
     ·rename_i hx
      injection hs with h1 h2
      subst h1 h2
      rw[hx.1]
      exact⟨ex2,eJ,fun q hq=>List.mem_append_left _ hq⟩
     ·rw[E4,lq] at hs
      cases r9:(S.at s).ga s0 with
      |true=>rw[r9] at hs;simp at hs
      |false=>
       rw[r9] at hs
       simp only[cond_false] at hs
       split at hs
       ·cases hx:(Nat.beq _ s0&&under _ _) with
        |true=>rw[hx] at hs;cases hs
        |false=>rw[hx] at hs;cases hs
       ·exact⟨ex,hs,fun _ h=>h⟩
    ·cases e
  ·cases e
 |cut t s0 p lo hi=>
  cases p with
  |cons _ _=>simp[St.eS] at e
  |nil=>
   simp only[St.eS] at e
   split at e
   ·cases hl:Nat.beq lo 0 with
    |false=>rw[hl] at e;cases e
    |true=>
     rw[hl] at e
     simp only[cond_true,Option.some.injEq,Prod.mk.injEq] at e
     obtain⟨_,rfl⟩:=e
     exact⟨ex,Zb _ hs,fun _ h=>h⟩
   ·cases e
 |_=>simp[St.eS] at e
end Go.Pv
namespace Go.Pv
set_option linter.unusedVariables false
set_option linter.unusedSimpArgs false
variable {P:Program} {w w':World} {A A' Wr:Nat→Prop} {H:Nat→Value} {tm sx:Nat→Value} {S S' S1:St} {σ cv:Nat→Option Nat} {w0:World} {W0 Z:Nat→Prop} {a:Act} {own:Nat→Prop} {v:Value} {Θ:ee} {dst:Option Nat}
theorem Fr.setRow (h:Fr w0 W0 w) {g:Nat} {cs:Array Value} (hg:w0.heap.size≤g∨W0 g):Fr w0 W0 (w.setRow g cs):=by
 refine⟨h.os,h.tape,h.output,by rw[setRow_size];exact h.size,fun k hk hn=>?_⟩
 rw[setRow_other w g k _ (fun e=>by subst e;rcases hg with hg |hg;omega;exact hn hg)]
 exact h.block k hk hn
theorem Zc (hT:dv P Θ=true) {T:TypeId} {t:Ty} {g off:Nat} {cs:List Value} {v:Value} {cur:Array Value} {T':TypeId} (ht:Θ.is T t=true) (hm:aE t v cs) (hl:cs.length=t.size) (h1:∀ u∈cs,u.oneCell'=true)
  (hw:w.heap[g]?=some (.cells cur T' (0,0))) (hb:off+cs.length≤cur.size):
  (Instr.storeAt T (.pointer (some ⟨g,off,none⟩)) v).run P w=.ok () (w.setRow g (putCells cur.toList off cs).toArray):=by
 obtain⟨inf,hi,hs,_⟩:=jA hT ht
 have:=run_storeCells_at (P:=P) g off T' cs 0 cur w hw (by omega) h1
 simp only[Nat.add_zero] at this
 simp[Instr.storeAt,Instr.sureAddr,storeVar,sizeOf,typeInfo,hi,hs,jJ hm h1,hl]
 rw[hl] at this
 unfold putCells
 rw[hl]
 simpa using this
theorem ye:∀ (p h:Path),ia p h=true→CL p h=true→h=p
 |[],[],_,_=>rfl
 | .idx i::p,.idx j::h,e,e2=>by
  simp only[CL,Bool.and_eq_true] at e2
  rw[ye p h (by simpa[ia] using e) e2.1,Nat.eq_of_beq_eq_true e2.2]
 | .deref::p,.deref::h,e,e2=>by rw[ye p h (by simpa[ia] using e) (by simpa[CL] using e2)]
 | .fst::p,.fst::h,e,e2=>by rw[ye p h (by simpa[ia] using e) (by simpa[CL] using e2)]
 | .snd::p,.snd::h,e,e2=>by rw[ye p h (by simpa[ia] using e) (by simpa[CL] using e2)]
 |[],.idx _::_,e,_ |[],.deref::_,e,_ |[],.fst::_,e,_ |[],.snd::_,e,_=>by simp[ia] at e
 | .idx _::_,[],e,_ | .deref::_,[],e,_ | .fst::_,[],e,_ | .snd::_,[],e,_=>by simp[ia] at e
 | .idx _::_,.deref::_,e,_ | .idx _::_,.fst::_,e,_ | .idx _::_,.snd::_,e,_=>by simp[ia] at e
 | .deref::_,.idx _::_,e,_ | .deref::_,.fst::_,e,_ | .deref::_,.snd::_,e,_=>by simp[ia] at e
 | .fst::_,.idx _::_,e,_ | .fst::_,.deref::_,e,_ | .fst::_,.snd::_,e,_=>by simp[ia] at e
 | .snd::_,.idx _::_,e,_ | .snd::_,.deref::_,e,_ | .snd::_,.fst::_,e,_=>by simp[ia] at e
theorem yf {p q:Path}:∀ {l:List Path},q∈(eR p l).2→q∈l
 |[],h=>h
 |x::r,h=>by
  simp only[eR] at h
  cases ha:ia p x with
  |true=>rw[ha] at h;exact List.mem_cons_of_mem _ h
  |false=>
   rw[ha] at h
   simp only[cond_false,List.mem_cons] at h
   rcases h with h |h
   ·rw[h];exact List.mem_cons_self
   ·exact List.mem_cons_of_mem _ (yf h)
theorem vl {p q:Path}:∀ {l:List Path},(eR p l).1=true→(∀ q',q≠p++q')→q∈l→q∈(eR p l).2
 |[],_,_,h=>h
 |x::r,hc,hn,h=>by
  simp only[eR] at hc ⊢
  cases ha:ia p x with
  |true=>
   rw[ha] at hc
   simp only[cond_true] at hc ⊢
   rcases List.mem_cons.1 h with h |h
   ·subst h
    exact absurd ((ye p q ha hc).trans (List.append_nil p).symm) (hn [])
   ·exact h
  |false=>
   rw[ha] at hc
   simp only[cond_false] at hc ⊢
   rcases List.mem_cons.1 h with h |h
   ·rw[h];exact List.mem_cons_self
   ·exact List.mem_cons_of_mem _ (vl hc hn h)
theorem acA (hT:dv P Θ=true) (h:bI σ w0 W0 Z H S a w) {o:Oper} {T:TypeId} {x y:Operand} (ho:o.op=.store T x y) (nU:o.dst=none) (e:mI Θ S T x y=some (true,S')):Jk P w0 W0 Z H S' a o.dst w (execOp a.eval o):=by
 unfold mI at e
 split at e
 case h_2=>cases e
 rename_i av eQ
 split at e
 case h_2=>cases e
 rename_i t s p awO
 unfold St.take at e
 split at e
 case h_2=>cases e
 rename_i b S1 hb
 split at hb
 case h_2=>cases hb
 rename_i av2 Sg
 cases hc:Θ.is T b.t with
 |false=>rw[hc] at e;cases e
 |true=>
 rw[hc] at e
 simp only[cond_true] at e
 split at e
 case h_2=>cases e
 rename_i r ex hs1
 split at e
 case h_2=>cases e
 rename_i m z oX
 cases hex:ex.all (fun q=>!under q p) with
 |false=>rw[hex] at e;cases e
 |true=>
 rw[hex] at e
 simp only[cond_true,Option.some.injEq,Prod.mk.injEq] at e
 obtain⟨hds,e⟩:=e
 have yg:open_ p ex:=fO (fun q hq=>by simpa using List.all_eq_true.1 hex q hq)
 obtain⟨r0,ex0,q1,q2⟩:=sZ h eQ awO
 obtain⟨cv,cs,ow,h1,hm,hM,hk,hn⟩:=fP h Sg hb
 obtain⟨axM,q3,q4⟩:=take_at hb hs1
 rw[q1] at q3
 injection q3 with q3 q3'
 subst q3 q3'
 obtain⟨dy,g,off,hr,pk,hx⟩:=q2 (fun q hq=>yg q (q4 q hq))
 obtain⟨b0,hb0,AQ⟩:=hr.get
 -- the slot,behind the take
 have hh:=h1.holds s
 rw[hs1] at hh
 obtain⟨auT,Zd,Nq⟩:=hh
 obtain rfl:=fN hr.mat Zd
 have Hv:s<S1.length:=fk (by rw[hs1];exact fun e=>by cases e)
 obtain⟨du,de,c1,c2,c3,lU⟩:=AP p Nq yg hr.val hb0
 have gG:b.t=b0.t:=uw p oX hb0
 obtain⟨qs,lU⟩:=lU b (m,z) gG oX
 have hpm:bo p=false:=by
  cases hp:bo p with
  |false=>rfl
  |true=>rw[fj p hp] at pk;cases pk
 -- the address is the same: the world is
 have acB:addrAt w p r0.t dy none=some (g,off):=pk
 obtain⟨fH,sv,cur,T',hw,hbound,_⟩:=qs g off acB
 obtain⟨hlen,aie⟩:=fI _ hM
 have xQ:off+cs.length≤cur.size:=by rw[hlen,gG];exact hbound
 have cQ:=Zc (P:=P) (w:=w) hT hc hm hlen aie hw xQ
 have yh:∀ g',ow g'→cv g'≠some s:=fun g' bW e'=>by
  obtain⟨i,hi,nV⟩:=hk.now g' bW
  rw[e'] at nV
  injection nV with nV
  omega
 let e9:Nat→Option Nat:=fun g'=>open Classical in if ow g' then some s else cv g'
 have NQ:∀ g' i,e9 g'=some i→(ow g'∧i=s)∨(¬ow g'∧cv g'=some i):=fun g' i bW=>by
  simp only[e9] at bW
  split at bW
  ·injection bW with bW;exact .inl ⟨by assumption,bW.symm⟩
  ·exact .inr ⟨by assumption,bW⟩
 have Il:∀ g' i,¬ow g'→cv g'=some i→e9 g'=some i:=fun g' i hn bW=>by simp only[e9,if_neg hn,bW]
 have aif:∀ g',Av e9 Z g'→Av cv Z g':=fun g' bW=>by
  rcases bW with⟨i,bW⟩ |bW
  ·rcases NQ g' i bW with⟨hx,_⟩ |⟨_,hx⟩
   ·obtain⟨j,_,hj⟩:=hk.now g' hx
    exact .inl ⟨j,hj⟩
   ·exact .inl ⟨i,hx⟩
  ·exact .inr bW
 have im:∀ k,k≠g→(w.setRow g (putCells cur.toList off cs).toArray).heap[k]?=w.heap[k]?:=fun k hk=>setRow_other w g k _ hk
 have cD:bA w (w.setRow g (putCells cur.toList off cs).toArray) (Av cv Z) (Av e9 Z):=⟨fun k hk _=>im k (fun e'=>hk (by rw[e'];exact .inl ⟨s,fH⟩)),fun k _ hk=>aif k hk⟩
 have hMb:M (w.setRow g (putCells cur.toList off cs).toArray) (Av e9 Z) H b.t b.m b.x cs ow (xP p (eR p (ex.filter fun q=>!pre p q)).2):=by
  refine bj ⟨fun k gA _=>im k (fun e'=>gA (by rw[e'];exact hk.Av.1 (.inl ⟨s,fH⟩))),fun k _ gA=>hk.Av.1 (aif k gA)⟩ _ (fun k gA _=>im k (fun e'=>yh k gA (by rw[e'];exact fH))) (fun k gA _=>gA) (fun _ h=>by simp at h) hM
 have E8:=lU (w.setRow g (putCells cur.toList off cs).toArray) (Av e9 Z) cs ow (eR p (ex.filter fun q=>!pre p q)).2 cD (by rw[hlen,gG]) (fun k RK RI _=>by
   rw[acB]
   simp only[mj]
   split
   ·rename_i hkg
    subst hkg
    exact⟨cur,T',hw,setRow_heap w k cur _ T' (0,0) hw⟩
   ·rename_i hkg
    exact im k hkg) hMb (fun k RK _ RI=>absurd RI (yh k RK)) (fun q hq1 H6=>by
   refine vl hds hq1 (List.mem_filter.2 ⟨H6,?_⟩)
   cases hp:pre p q with
   |false=>rfl
   |true=>
    obtain⟨q',rfl⟩:=Jn p q hp
    exact absurd rfl (hq1 q'))
 rw[lg p hpm] at E8
 have apo:M (w.setRow g (putCells cur.toList off cs).toArray) (Av e9 Z) H r0.t m z dy (fun g'=>e9 g'=some s) (eR p (ex.filter fun q=>!pre p q)).2:=by
  refine bj (bA.refl _ _) _ (fun _ _ _=>rfl) (fun k gA _=>?_) (fun _ h=>h) E8
  rcases gA with⟨k1,_⟩ |k1
  ·exact Il k s (fun hx=>yh k hx k1) k1
  ·simp only[e9,if_pos k1]
 refine⟨w.setRow g (putCells cur.toList off cs).toArray,undef,.inr ⟨rfl,?_⟩,e9,?_⟩
 ·simp only[execOp,ho,hx,Sem.run_bind,cQ,Result.andThen_ok]
  rfl
 ·rw[nU]
  show bI e9 w0 W0 Z H S' a (w.setRow g (putCells cur.toList off cs).toArray)
  have auU:((S1.weaken s).set s (.v ⟨r0.t,m,z⟩ (eR p (ex.filter fun q=>!pre p q)).2)).length=S1.length:=by simp[St.weaken]
  have eJ:∀ i,S'.at i=if i=s then .v ⟨r0.t,m,z⟩ (eR p (ex.filter fun q=>!pre p q)).2 else bif (S1.at i).ga s then .dead else S1.at i:=by
   intro i
   rw[←e,dA]
   by_cases hi:i=s
   ·rw[if_pos hi,if_pos ⟨hi,by simp[St.weaken];exact Hv⟩]
   ·rw[if_neg hi,if_neg (fun h=>hi h.1),lq]
  refine⟨by rw[←e,auU];exact h1.len,h1.defers,h1.fr.setRow (h1.new g s fH),fun g' i bW=>?_,fun g' i bW=>?_,fun g' bW=>⟨?_,(h1.old g' bW).2⟩,fun i=>?_⟩
  ·rcases NQ g' i bW with⟨hx,_⟩ |⟨_,hx⟩
   ·obtain⟨j,_,hj⟩:=hk.now g' hx
    exact h1.new g' j hj
   ·exact h1.new g' i hx
  ·rw[setRow_size]
   rcases NQ g' i bW with⟨hx,_⟩ |⟨_,hx⟩
   ·obtain⟨j,_,hj⟩:=hk.now g' hx
    exact h1.lt g' j hj
   ·exact h1.lt g' i hx
  ·have:=(h1.old g' bW).1
   simp only[e9]
   split
   ·rename_i hx
    obtain⟨j,_,hj⟩:=hk.now g' hx
    rw[this] at hj
    cases hj
   ·exact this
  ·rw[eJ i]
   by_cases RJ:i=s
   ·subst RJ
    rw[if_pos rfl]
    exact⟨dy,hr.mat,apo⟩
   ·rw[if_neg RJ]
    by_cases H2:i<S1.length
    rotate_left
    ·have:S1.at i=.dead:=Classical.byContradiction fun hx=>H2 (fk hx)
     rw[this]
     trivial
    cases r9:(S1.at i).ga s with
    |true=>trivial
    |false=>
     simp only[cond_false]
     refine HE (r:=r0) (r':=⟨r0.t,m,z⟩) (ex:=ex) (DO:=(eR p (ex.filter fun q=>!pre p q)).2) cD rfl hs1 (by rw[eJ s,if_pos rfl]) (fun j r1 ex1 hj hv=>by rw[eJ j,if_neg hj,hv];simp[AV.ga]) ⟨dy,_,hr.mat,apo⟩ (fun q hq=>(List.mem_filter.1 (yf hq)).1)
      (fun q hq hv=>vY q p oX hpm hq hv) (fun q b1 hq=>acz q p oX hq m) (fun j hj=>⟨_,h1.holds j,fun g' bW _=>im g' (fun e'=>by subst e';rw[fH] at bW;injection bW with bW;exact hj bW.symm)⟩)
      (fun g' bW _=>⟨im g' (fun e'=>by subst e';rw[fH] at bW;injection bW with bW;exact RJ bW.symm),Il g' i (fun hx=>?_) bW⟩) r9 (h1.holds i)
     obtain⟨j,Hs,qj⟩:=hk.now g' hx
     rw[bW] at qj
     injection qj with qj
     omega
end Go.Pv
namespace Go.Pv
set_option linter.unusedVariables false
set_option linter.unusedSimpArgs false
variable {P:Program} {w w':World} {A A' Wr:Nat→Prop} {H:Nat→Value} {tm sx:Nat→Value} {S S' S1:St} {σ cv e9:Nat→Option Nat} {w0:World} {W0 Z:Nat→Prop} {a:Act} {own:Nat→Prop} {v:Value} {Θ:ee} {dst:Option Nat}
theorem NR (off:Nat):∀ (l:List Value) (k:Nat) (cells:Array Value),off+k+l.length≤cells.size→
  ((l.zipIdx k).foldl (fun(cs:Array Value) (x:Value×Nat)=>cs.setIfInBounds (off+x.2) x.1) cells).toList=putCells cells.toList (off+k) l
 |[],k,cells,h=>by simp[putCells]
 |c::l,k,cells,h=>by
  simp only[List.zipIdx_cons,List.foldl_cons]
  simp only[List.length_cons] at h
  rw[NR off l (k+1) (cells.setIfInBounds (off+k) c) (by simp;omega)]
  have h1:off+k<cells.toList.length:=by simp;omega
  apply List.ext_getElem?
  intro j
  rw[jx _ _ _ _ (by simp;omega),jx _ _ _ _ (by simp;omega)]
  simp only[Array.toList_setIfInBounds,List.length_cons]
  by_cases hj:j<off+k
  ·rw[if_pos (by omega),if_pos hj,List.getElem?_set_ne (by omega)]
  ·by_cases qj:j=off+k
   ·subst qj
    rw[if_pos (by omega),if_neg (by omega),if_pos (by omega),List.getElem?_set_self h1]
    simp
   ·by_cases hj3:j<off+k+1+l.length
    ·rw[if_neg (by omega),if_pos (by omega),if_neg (by omega),if_pos (by omega),show j - (off+k)=(j - (off+(k+1)))+1 from by omega]
     simp
    ·rw[if_neg (by omega),if_neg (by omega),if_neg (by omega),if_neg (by omega),List.getElem?_set_ne (by omega)]
def pG (dm:List (List Value)) (i:Nat):Nat:=((dm.take i).map List.length).sum
theorem qD (dm:List (List Value)) (i:Nat) (h:i<dm.length):dm.flatten=(dm.take i).flatten++(dm[i]++(dm.drop (i+1)).flatten):=by
 conv=>lhs;rw[←List.take_append_drop i dm]
 rw[List.flatten_append,List.drop_eq_getElem_cons h,List.flatten_cons]
theorem E9 (dm:List (List Value)) (i:Nat):(dm.take i).flatten.length=pG dm i:=by simp[pG,List.length_flatten]
theorem aih (dm:List (List Value)) (i:Nat) (c:List Value) (h:i<dm.length) (hc:c.length=dm[i].length):putCells dm.flatten (pG dm i) c=(dm.set i c).flatten:=by
 have e1:=qD dm i h
 have e2:=qD (dm.set i c) i (by simpa using h)
 rw[e2]
 simp only[List.getElem_set_self]
 rw[List.take_set_of_le (by omega),List.drop_set_of_lt (by omega)]
 have hd:dm.flatten.drop (pG dm i+c.length)=(dm.drop (i+1)).flatten:=by
  rw[e1,←E9,hc,←List.append_assoc,←List.length_append,List.drop_left]
 have ht:dm.flatten.take (pG dm i)=(dm.take i).flatten:=by
  rw[e1,←E9,List.take_left]
 unfold putCells
 rw[hd,ht,List.append_assoc]
theorem acC (dm:List (List Value)) (i j:Nat) (c:List Value) (h:i<dm.length) (hc:c.length=dm[i].length):pG (dm.set i c) j=pG dm j:=by
 unfold pG
 congr 1
 apply List.ext_getElem?
 intro k
 simp only[List.getElem?_map,List.getElem?_take,List.getElem?_set]
 split
 ·by_cases hk:i=k
  ·subst hk
   simp[h,hc]
  ·simp[hk]
 ·rfl
theorem acD (dm:List (List Value)) (i:Nat) (h:i<dm.length):pG dm i+dm[i].length≤dm.flatten.length:=by
 rw[qD dm i h,List.length_append,List.length_append,E9]
 omega
def NS (f:Nat→Option (List Value)) (dm:List (List Value)):List (List Value):=dm.mapIdx fun i c=>(f i).getD c
theorem Im (place:Nat→Option (Nat×Nat)):∀ (parts:List (Nat×Value)) (dm:List (List Value)),(∀ i (h:i<dm.length),place i=some (pG dm i,dm[i].length))→
  (∀ q∈parts,∃ h:q.1<dm.length,q.2.cells.size=dm[q.1].length)→(parts.map (·.1)).Nodup→
  Instr.fill place dm.flatten.toArray parts=some (NS (fun i=>(parts.find? (fun q=>Nat.beq q.1 i)).map (·.2.cells.toList)) dm).flatten.toArray
 |[],dm,_,_,_=>by
  have:NS (fun i=>(([]:List (Nat×Value)).find? (fun q=>Nat.beq q.1 i)).map (·.2.cells.toList)) dm=dm:=by
   unfold NS
   apply List.ext_getElem?
   intro k
   simp[List.getElem?_mapIdx]
  rw[this];rfl
 |(i,v)::rest,dm,hp,hs,hn=>by
  obtain⟨hi,hv⟩:=hs (i,v) (by simp)
  simp only at hi hv
  have xQ:=acD dm i hi
  simp only[Instr.fill,hp i hi]
  have auV:=xQ
  rw[List.length_flatten] at auV
  rw[if_neg (by simp[hv];omega)]
  have hlen:v.cells.toList.length=dm[i].length:=by simpa using hv
  have auW:v.cells.zipIdx.foldl (fun cs (x:Value×Nat)=>cs.setIfInBounds (pG dm i+x.2) x.1) dm.flatten.toArray=(dm.set i v.cells.toList).flatten.toArray:=by
   have:=NR (pG dm i) v.cells.toList 0 dm.flatten.toArray (by simp only[hlen,List.size_toArray];omega)
   rw[←aih dm i v.cells.toList hi hlen]
   apply Array.toList_inj.1
   rw[←Array.foldl_toList,Array.toList_zipIdx]
   simpa using this
  simp only[List.map_cons,List.nodup_cons] at hn
  have oX:∀ (k:Nat) (hk:k<(dm.set i v.cells.toList).length),(dm.set i v.cells.toList)[k].length=(dm[k]'(by simpa using hk)).length:=by
   intro k hk
   rw[List.getElem_set]
   split
   ·rename_i e;subst e;exact hlen
   ·rfl
  have ih:=Im place rest (dm.set i v.cells.toList) (fun k hk=>by rw[acC dm i k _ hi hlen,oX k hk];exact hp k (by simpa using hk)) (fun q hq=>by
   obtain⟨h1,h2⟩:=hs q (by simp[hq])
   exact⟨by simpa using h1,by rw[oX];exact h2⟩) hn.2
  refine(congrArg (fun c=>Instr.fill place c rest) auW).trans (ih.trans ?_)
  congr 3
  unfold NS
  apply List.ext_getElem?
  intro k
  simp only[List.getElem?_mapIdx,List.getElem?_set]
  by_cases hk:i=k
  ·subst hk
   have:rest.find? (fun q=>Nat.beq q.1 i)=none:=List.find?_eq_none.2 fun q hq e=>hn.1 (List.mem_map.2 ⟨q,hq,Nat.eq_of_beq_eq_true e⟩)
   simp[hi,this]
  ·have:Nat.beq i k=false:=by
    cases hb:Nat.beq i k with
    |false=>rfl
    |true=>exact absurd (Nat.eq_of_beq_eq_true hb) hk
   simp[hk,this]
end Go.Pv
namespace Go.Pv
set_option linter.unusedVariables false
set_option linter.unusedSimpArgs false
variable {P:Program} {w w':World} {A A' Wr:Nat→Prop} {H:Nat→Value} {tm sx:Nat→Value} {S S' S1:St} {σ cv e9:Nat→Option Nat} {w0:World} {W0 Z:Nat→Prop} {a:Act} {own:Nat→Prop} {v:Value} {Θ:ee} {dst:Option Nat}
theorem iw.trans {n:Nat} {ow1 qB:Nat→Prop} (h1:iw σ cv n ow1) (h2:iw cv e9 n qB):iw σ e9 n (fun g=>ow1 g∨qB g):=by
 refine⟨fun g hg=>?_,fun g hg=>?_,fun g i hg hi=>h1.sub g i (h2.sub g i hg hi) hi,fun g=>(h2.dom g).trans (h1.dom g),fun g i hg hi=>h2.par g i (h1.par g i hg hi) hi⟩
 ·rcases hg with hg |hg
  ·exact h1.NN g hg
  ·obtain⟨i,hi,nV⟩:=h2.NN g hg
   exact⟨i,hi,h1.sub g i nV hi⟩
 ·rcases hg with hg |hg
  ·obtain⟨i,hi,nV⟩:=h1.now g hg
   exact⟨i,hi,h2.par g i nV hi⟩
  ·exact h2.now g hg
theorem iw.apart {n:Nat} {ow1 qB:Nat→Prop} (h1:iw σ cv n ow1) (h2:iw cv e9 n qB) {g:Nat} (hg:ow1 g): ¬qB g:=fun sv=>by
 obtain⟨i,hi,nV⟩:=h1.now g hg
 obtain⟨j,hj,qj⟩:=h2.NN g sv
 rw[nV] at qj
 injection qj with qj
 omega
theorem nu:∀ (t:Ty),(zc t).length=t.size
 | .int _=>rfl | .bool=>rfl | .str=>rfl | .sl _=>rfl | .ptr _=>rfl | .unit=>rfl
 | .pair a b=>by simp[zc,Ty.size,nu a,nu b]
 | .arr n t=>by simp[zc,Ty.size,List.length_flatten,nu t]
theorem qE (hT:dv P Θ=true) (ps:List (Nat×Operand)):∀ (Ts:List TypeId) (j:Nat) {S S1:St} {σ:Nat→Option Nat} {l:List TV},bI σ w0 W0 Z H S a w→S.parts Θ ps Ts j=some (l,S1)→
  ∃ (cv:Nat→Option Nat) (ow:Nat→Prop) (τ:Nat→Nat) (fZ:List (List Value)),bI cv w0 W0 Z H S1 a w∧S1.length=S.length∧iw σ cv S.length ow∧fZ.length=l.length∧l.length=Ts.length∧(∀ g,ow g→j≤τ g)∧
   ∀ (k:Nat) (b:TV),l[k]?=some b→∃ cs,fZ[k]?=some cs∧M w (Av σ Z) H b.t b.m b.x cs (fun g=>ow g∧τ g=j+k) []∧
    ((∃ q,ps.find? (fun q=>Nat.beq q.1 (j+k))=some q∧aE b.t (a.eval q.2) cs)∨(ps.find? (fun q=>Nat.beq q.1 (j+k))=none∧cs=zc b.t))
 |[],j,S,S1,σ,l,h,e=>by
  simp only[St.parts,Option.some.injEq,Prod.mk.injEq] at e
  obtain⟨rfl,rfl⟩:=e
  exact⟨σ,fun _=>False,fun _=>j,[],h,rfl,iw.none _ _,rfl,rfl,fun _ h=>h.elim,fun k b hk=>by simp at hk⟩
 |T::Ts,j,S,S1,σ,l,h,e=>by
  simp only[St.parts] at e
  split at e
  ·rename_i q hq
   unfold St.take at e
   split at e
   case h_2=>cases e
   rename_i b S2 hb
   split at hb
   case h_2=>cases hb
   rename_i av eQ
   split at e
   case h_2=>cases e
   rename_i l2 S3 hl2
   simp only[Option.some.injEq,Prod.mk.injEq] at e
   obtain⟨rfl,rfl⟩:=e
   obtain⟨cv,cs,ow,h1,hm,hM,hk,hn⟩:=fP h eQ hb
   obtain⟨e9,qB,τ,fZ,r1,r2,r3,r4,r5,r6,r7⟩:=qE hT ps Ts (j+1) h1 hl2
   rw[hn] at r3
   have Sh:∀ g,ow g→¬qB g:=fun g hg=>hk.apart r3 hg
   let V':Nat→Nat:=fun g=>open Classical in if ow g then j else τ g
   refine⟨e9,fun g=>ow g∨qB g,V',cs::fZ,r1,by omega,hk.trans r3,by simp[r4],by simp[r5],fun g hg=>?_,fun k b' gA=>?_⟩
   ·simp only[V']
    split
    ·exact Nat.le_refl _
    ·rename_i hx
     have:=r6 g (hg.resolve_left hx)
     omega
   ·cases k with
    |zero=>
     simp only[List.getElem?_cons_zero,Option.some.injEq] at gA
     subst gA
     refine⟨cs,rfl,bj (bA.refl _ _) _ (fun _ _ _=>rfl) (fun g hg _=>⟨.inl hg,by simp only[V',if_pos hg,Nat.add_zero]⟩) (fun _ h=>h) hM,.inl ⟨q,hq,hm⟩⟩
    |succ k=>
     simp only[List.getElem?_cons_succ] at gA ⊢
     obtain⟨c2,d1,d2,d3⟩:=r7 k b' gA
     refine⟨c2,d1,bj ⟨fun _ _ _=>rfl,fun g _ hg=>hk.Av.2 hg⟩ _ (fun _ _ _=>rfl) (fun g hg _=>⟨.inr hg.1,?_⟩) (fun _ h=>h) d2,by rw[show j+(k+1)=j+1+k from by omega];exact d3⟩
     simp only[V']
     rw[if_neg (fun hx=>Sh g hx hg.1),hg.2]
     omega
  ·rename_i hq
   split at e
   case h_2=>cases e
   rename_i b hb
   split at e
   case h_2=>cases e
   rename_i l2 S3 hl2
   simp only[Option.some.injEq,Prod.mk.injEq] at e
   obtain⟨rfl,rfl⟩:=e
   obtain⟨i,inf,zv,_,_,hx,xQ,_⟩:=Bi hT hb
   obtain⟨e9,qB,τ,fZ,r1,r2,r3,r4,r5,r6,r7⟩:=qE hT ps Ts (j+1) h hl2
   refine⟨e9,qB,τ,zc b.t::fZ,r1,r2,r3,by simp[r4],by simp[r5],fun g hg=>by have:=r6 g hg;omega,fun k b' gA=>?_⟩
   cases k with
   |zero=>
    simp only[List.getElem?_cons_zero,Option.some.injEq] at gA
    subst gA
    refine⟨_,rfl,Jm ?_,.inr ⟨hq,rfl⟩⟩
    rw[hx]
    exact E7 _ xQ
   |succ k=>
    simp only[List.getElem?_cons_succ] at gA ⊢
    obtain⟨c2,d1,d2,d3⟩:=r7 k b' gA
    exact⟨c2,d1,bj (bA.refl _ _) _ (fun _ _ _=>rfl) (fun g hg _=>⟨hg.1,by rw[hg.2];omega⟩) (fun _ h=>h) d2,by rw[show j+(k+1)=j+1+k from by omega];exact d3⟩
theorem Fa {ps:List (Nat×Operand)} {l:List TV} {fZ:List (List Value)} {place:Nat→Option (Nat×Nat)} (hl:fZ.length=l.length) (V2:lG l.length ps=true)
  (hlen:∀ (k:Nat) (b:TV) (cs:List Value),l[k]?=some b→fZ[k]?=some cs→cs.length=b.t.size∧∀ u∈cs,u.oneCell'=true)
  (iY:∀ (k:Nat) (b:TV),l[k]?=some b→∃ cs,fZ[k]?=some cs∧((∃ q,ps.find? (fun q=>Nat.beq q.1 k)=some q∧aE b.t (a.eval q.2) cs)∨(ps.find? (fun q=>Nat.beq q.1 k)=none∧cs=zc b.t)))
  (auX:∀ i (h:i<l.length),place i=some (pG (l.map fun b=>zc b.t) i,l[i].t.size)):
  Instr.fill place (l.map fun b=>zc b.t).flatten.toArray (ps.map fun q=>(q.1,a.eval q.2))=some fZ.flatten.toArray:=by
 have hp:∀ {n:Nat} {ps:List (Nat×Operand)},lG n ps=true→(∀ q∈ps,q.1<n)∧(ps.map (·.1)).Nodup:=by
  intro n ps
  induction ps with
  |nil=>intro _;exact⟨fun _ h=>by simp at h,by simp⟩
  |cons q r ih=>
   intro h
   simp only[lG,Bool.and_eq_true] at h
   obtain⟨⟨h1,h2⟩,h3⟩:=h
   obtain⟨i1,i2⟩:=ih h3
   refine⟨fun q' sz=>?_,?_⟩
   ·rcases List.mem_cons.1 sz with rfl |sz
    ·exact Nat.lt_of_succ_le (Nat.le_of_ble_eq_true h1)
    ·exact i1 q' sz
   ·simp only[List.map_cons,List.nodup_cons]
    refine⟨fun hm=>?_,i2⟩
    obtain⟨q',sz,e⟩:=List.mem_map.1 hm
    have:(r.any fun q'=>Nat.beq q'.1 q.1)=true:=List.any_eq_true.2 ⟨q',sz,by rw[e];exact Nat.beq_refl _⟩
    rw[this] at h2
    cases h2
 obtain⟨cZ,Nu⟩:=hp V2
 have fU:∀ i (h:i<l.length),l[i]?=some l[i]:=fun i h=>List.getElem?_eq_getElem h
 have acv:∀ (i:Nat) (q:Nat×Operand),q∈ps→q.1=i→ps.find? (fun q=>Nat.beq q.1 i)=some q:=by
  intro i q hq hi
  subst hi
  clear iY hlen auX V2 cZ
  induction ps with
  |nil=>simp at hq
  |cons q' r ih=>
   simp only[List.map_cons,List.nodup_cons] at Nu
   rcases List.mem_cons.1 hq with rfl |hq
   ·simp
   ·have:Nat.beq q'.1 q.1=false:=by
     cases hb:Nat.beq q'.1 q.1 with
     |false=>rfl
     |true=>exact absurd (List.mem_map.2 ⟨q,hq,(Nat.eq_of_beq_eq_true hb).symm⟩) Nu.1
    rw[List.find?_cons,this]
    exact ih Nu.2 hq
 rw[Im place _ (l.map fun b=>zc b.t) (fun i h=>by
   rw[auX i (by simpa using h)]
   simp[nu]) (fun q hq=>by
   obtain⟨q0,hq0,rfl⟩:=List.mem_map.1 hq
   have hi:=cZ q0 hq0
   refine⟨by simpa using hi,?_⟩
   obtain⟨cs,h1,h2⟩:=iY q0.1 _ (fU q0.1 hi)
   obtain⟨h3,h4⟩:=hlen _ _ _ (fU q0.1 hi) h1
   rcases h2 with⟨q,sz,hm⟩ |⟨sz,_⟩
   ·rw[acv q0.1 q0 hq0 rfl] at sz
    injection sz with sz
    subst sz
    rw[jJ hm h4]
    simp[h3,nu]
   ·rw[acv q0.1 q0 hq0 rfl] at sz;cases sz) (by simpa[List.map_map,Function.comp_def] using Nu)]
 congr 3
 unfold NS
 apply List.ext_getElem?
 intro k
 rw[List.getElem?_mapIdx]
 by_cases hk:k<l.length
 ·simp only[List.getElem?_map,fU k hk,Option.map_some]
  obtain⟨cs,h1,h2⟩:=iY k _ (fU k hk)
  obtain⟨h3,h4⟩:=hlen _ _ _ (fU k hk) h1
  rw[h1]
  rw[List.find?_map]
  simp only[Function.comp_def]
  rcases h2 with⟨q,sz,hm⟩ |⟨sz,he⟩
  ·rw[sz]
   simp only[Option.map_some,Option.getD_some]
   rw[jJ hm h4]
  ·rw[sz]
   simp[he]
 ·rw[List.getElem?_eq_none (by simpa using hk),List.getElem?_eq_none (by omega)]
  rfl
end Go.Pv
namespace Go.Pv
set_option linter.unusedVariables false
set_option linter.unusedSimpArgs false
variable {P:Program} {w w':World} {A A' Wr:Nat→Prop} {H:Nat→Value} {tm sx:Nat→Value} {S S' S1:St} {σ cv e9:Nat→Option Nat} {w0:World} {W0 Z:Nat→Prop} {a:Act} {own:Nat→Prop} {v:Value} {Θ:ee} {dst:Option Nat}
theorem apq {ow:Nat→Prop} {τ:Nat→Nat}:∀ (l:List TV) (fZ:List (List Value)) (j:Nat),fZ.length=l.length→
  (∀ (k:Nat) (b:TV),l[k]?=some b→∃ cs,fZ[k]?=some cs∧M w A H b.t b.m b.x cs (fun g=>ow g∧τ g=j+k) [])→
  M w A H (Hr l).t (Hr l).m (Hr l).x fZ.flatten (fun g=>ow g∧j≤τ g) []
 |[],fZ,j,hl,_=>by
  obtain rfl:fZ=[]:=List.eq_nil_of_length_eq_zero (by simpa using hl)
  simp[Hr,M,K,Md.cy]
 |[a],fZ,j,hl,h=>by
  obtain⟨cs,h1,h2⟩:=h 0 a rfl
  match fZ,hl with
  |[c],_=>
   simp only[List.getElem?_cons_zero,Option.some.injEq] at h1
   subst h1
   simp only[Hr,List.flatten_cons,List.flatten_nil,List.append_nil]
   exact bj (bA.refl _ _) _ (fun _ _ _=>rfl) (fun g hg _=>⟨hg.1,by rw[hg.2];omega⟩) (fun _ h=>h) h2
 |a::b::r,fZ,j,hl,h=>by
  match fZ,hl with
  |c::cs,hl=>
   obtain⟨c',h1,h2⟩:=h 0 a rfl
   simp only[List.getElem?_cons_zero,Option.some.injEq] at h1
   subst h1
   have ih:=apq (ow:=ow) (τ:=τ) (b::r) cs (j+1) (by simpa using hl) (fun k b' hk=>by
    obtain⟨c',h1,h2⟩:=h (k+1) b' (by simpa using hk)
    exact⟨c',by simpa using h1,bj (bA.refl _ _) _ (fun _ _ _=>rfl) (fun g hg _=>⟨hg.1,by rw[hg.2];omega⟩) (fun _ h=>h) h2⟩)
   simp only[Hr,List.flatten_cons]
   refine xO (s:=fun g=>τ g=j) ?_ ?_
   ·exact bj (bA.refl _ _) _ (fun _ _ _=>rfl) (fun g hg _=>⟨⟨hg.1,by rw[hg.2];omega⟩,by rw[hg.2];rfl⟩) (fun _ h=>by simp at h) h2
   ·exact bj (bA.refl _ _) _ (fun _ _ _=>rfl) (fun g hg _=>⟨⟨hg.1,by omega⟩,by omega⟩) (fun _ h=>by simp at h) ih
theorem Si {ow:Nat→Prop} {τ:Nat→Nat} {l:List TV} {fZ:List (List Value)} (hl:fZ.length=l.length)
  (h:∀ (k:Nat) (b:TV),l[k]?=some b→∃ cs,fZ[k]?=some cs∧M w A H b.t b.m b.x cs (fun g=>ow g∧τ g=0+k) []):
  M w A H (eT l).t (eT l).m (eT l).x fZ.flatten ow []:=by
 have h0:=apq (ow:=ow) (τ:=τ) l fZ 0 hl h
 have h1:M w A H (Hr l).t (Hr l).m (Hr l).x fZ.flatten ow []:=bj (bA.refl _ _) _ (fun _ _ _=>rfl) (fun g hg _=>hg.1) (fun _ h=>h) h0
 cases l with
 |nil=>exact h1
 |cons a r=>
  cases r with
  |cons b r=>exact h1
  |nil=>
   have:M w A H (.pair a.t .unit) (mkM a.m .k) (a.x,()) (fZ.flatten++[]) ow []:=xO (s:=fun _=>True) (bj (bA.refl _ _) _ (fun _ _ _=>rfl) (fun g hg _=>⟨hg,trivial⟩) (fun _ h=>by simp at h) h1) (by simp[M,K,Md.cy])
   rw[List.append_nil] at this
   exact this
theorem Wa:∀ (l:List TV) (k:Nat) (h:k<l.length),iv (if k+1=l.length then List.replicate k .snd else List.replicate k .snd++[.fst]) (Hr l).t=some l[k].t∧
  bp (if k+1=l.length then List.replicate k .snd else List.replicate k .snd++[.fst]) (Hr l).t=pG (l.map fun b=>zc b.t) k
 |[a],k,h=>by
  obtain rfl:k=0:=by simpa using h
  simp[Hr,iv,bp,pG]
 |a::b::r,0,h=>by simp[Hr,iv,bp,pG]
 |a::b::r,k+1,h=>by
  obtain⟨h1,h2⟩:=Wa (b::r) k (by simpa using h)
  have e:(if k+1+1=(a::b::r).length then List.replicate (k+1) Step.snd else List.replicate (k+1) .snd++[.fst])=.snd::(if k+1=(b::r).length then List.replicate k Step.snd else List.replicate k .snd++[.fst]):=by
   simp only[List.length_cons]
   by_cases hk:k=r.length
   ·rw[if_pos (by omega),if_pos (by omega)];rfl
   ·rw[if_neg (by omega),if_neg (by omega)];rfl
  rw[e]
  simp only[Hr,iv,bp]
  refine⟨h1,?_⟩
  rw[h2]
  simp only[List.map_cons,pG,List.take_succ_cons,List.map_cons,List.sum_cons,nu]
theorem Jo (l:List TV) (k:Nat) (h:k<l.length):iv (nY k l.length) (eT l).t=some l[k].t∧bp (nY k l.length) (eT l).t=pG (l.map fun b=>zc b.t) k:=by
 match l,h with
 |[a],h=>
  obtain rfl:k=0:=by simpa using h
  simp[eT,nY,iv,bp,pG]
 |a::b::r,h=>
  have:=Wa (a::b::r) k h
  have e:nY k (a::b::r).length=if k+1=(a::b::r).length then List.replicate k .snd else List.replicate k .snd++[.fst]:=by
   unfold nY
   by_cases hk:k+1=(a::b::r).length
   ·have h1:Nat.beq (k+1) (a::b::r).length=true:=by rw[←hk];exact Nat.beq_refl _
    rw[if_pos hk,h1]
    have:Nat.beq (a::b::r).length 1=false:=by
     simp only[List.length_cons]
     rfl
    rw[this]
    rfl
   ·rw[if_neg hk]
    have:Nat.beq (k+1) (a::b::r).length=false:=by
     cases hb:Nat.beq (k+1) (a::b::r).length with
     |false=>rfl
     |true=>exact absurd (Nat.eq_of_beq_eq_true hb) hk
    rw[this]
    rfl
  rw[e]
  exact this
theorem NT (l:List TV):zc (eT l).t=(l.map fun b=>zc b.t).flatten:=by
 have h:∀ l:List TV,zc (Hr l).t=(l.map fun b=>zc b.t).flatten:=by
  intro l
  induction l with
  |nil=>simp[Hr,zc]
  |cons a r ih=>
   cases r with
   |nil=>simp[Hr]
   |cons b r=>simp only[Hr,zc,List.map_cons,List.flatten_cons];rw[ih];simp
 unfold eT
 split
 ·simp[zc]
 ·exact h l
theorem mapM_some {α β:Type} {g:α→Option β} {h:α→β}:∀ (l:List α),(∀ f∈l,g f=some (h f))→l.mapM g=some (l.map h)
 |[],_=>by simp
 |f::r,hf=>by
  rw[List.mapM_cons,hf f (by simp),mapM_some r fun f hf'=>hf f (by simp[hf'])]
  rfl
theorem acE (hT:dv P Θ=true) (h:bI σ w0 W0 Z H S a w) {o:Oper} {T:TypeId} {ps:Array (Nat×Operand)} (ho:o.op=.build T ps) (e:DM Θ S o.dst T ps.toList=some (true,S')):jg P w0 W0 Z H S' a o.dst w (execOp a.eval o):=by
 unfold DM at e
 split at e
 case h_2=>cases e
 rename_i i hi
 split at e
 case h_2=>cases e
 rename_i l S1 hl
 cases hc:(decide ((eT l).t=i.ty)&&DM.ab0 i.ty&&lG l.length ps.toList) with
 |false=>rw[hc] at e;cases e
 |true=>
 rw[hc] at e
 simp only[cond_true,Option.some.injEq,Prod.mk.injEq,true_and] at e
 simp only[Bool.and_eq_true,decide_eq_true_eq] at hc
 obtain⟨⟨gG,apr⟩,V2⟩:=hc
 obtain⟨cv,ow,τ,fZ,h1,hn,hk,j9,hll,hj,ll⟩:=qE hT ps.toList i.fs 0 h hl
 obtain⟨⟨_,inf,z,k1,k2,_,_,_,k3,k4⟩,hu,rfl⟩:=dB hT hi
 obtain⟨pa,pb,hpp⟩:∃ pa pb,i.ty=.pair pa pb:=by
  cases acF:i.ty<;>rw[acF] at apr<;>first |exact⟨_,_,rfl⟩ |cases apr
 obtain⟨fs,f1,f2,f3,_⟩:=nr hu hpp
 have CS:fs.toList.length=l.length:=by rw[hll,←f2,List.length_map]
 have hM:M w (Av σ Z) H (eT l).t (eT l).m (eT l).x fZ.flatten ow []:=Si j9 (fun k b hb=>by obtain⟨cs,c1,c2,_⟩:=ll k b hb;exact⟨cs,c1,c2⟩)
 have aii:∀ f∈fs.toList,(P.info? f.type).map (fun i=>(f.offset,i.size))=some (f.offset,P.cellsOf f.type):=by
  intro f hf
  obtain⟨k,hk,rfl⟩:=List.mem_iff_getElem.1 hf
  obtain⟨t,_,ht,_⟩:=jU f3 k _ (List.getElem?_eq_getElem hk)
  obtain⟨axN,i1,i2,i3⟩:=jA hT ht
  rw[i1,Option.map_some,i2,i3]
 have acG:=Fa (a:=a) (ps:=ps.toList) (l:=l) (fZ:=fZ) (place:=fun k=>(fs.toList.map fun f=>(f.offset,P.cellsOf f.type)).toArray[k]?) j9 V2 (fun k b cs hb iY=>by
   obtain⟨du,c1,c2,_⟩:=ll k b hb
   rw[c1] at iY
   injection iY with iY
   subst iY
   exact fI _ c2) (fun k b hb=>by
   obtain⟨du,c1,_,c3⟩:=ll k b hb
   simp only[Nat.zero_add] at c3
   exact⟨du,c1,c3⟩) (fun k hk=>by
   obtain⟨q1,q2⟩:=Jo l k hk
   obtain⟨t,t1,t2,t3,_⟩:=jU f3 k (fs.toList[k]'(by omega)) (List.getElem?_eq_getElem (by omega))
   have Y9:fs.size=l.length:=by rw[←CS,Array.length_toList]
   rw[Nat.zero_add,←gG,Y9] at t1 t3
   rw[q1] at t1
   injection t1 with t1
   subst t1
   obtain⟨_,_,_,c3⟩:=jA hT t2
   rw[q2] at t3
   simp only[List.getElem?_toArray,List.getElem?_map,List.getElem?_eq_getElem (show k<fs.toList.length by omega),Option.map_some,c3,t3])
 have aqX:P.built i.T (ps.map fun(j,x)=>(j,a.eval x)).toList=some fZ.flatten.toArray:=by
  unfold Program.built
  have hz:z.cells=(l.map fun b=>zc b.t).flatten.toArray:=by
   rw[←NT,gG]
   have R2:isAgg i.ty=true:=by rw[hpp];rfl
   unfold aE at k4
   rw[if_pos R2] at k4
   rw[k4]
   rfl
  rw[k1,f1]
  simp only[k3,mapM_some _ aii,hz]
  rw[Array.toList_map]
  exact acG
 have cQ:=fun w=>run_build (P:=P) w i.T _ _ aqX
 rw[←e]
 refine pE (b:=eT l) (cs:=fZ.flatten) (v:=.agg fZ.flatten.toArray) h1 hk hn (fun w2 _=>?_) ?_ hM
 ·simp only[execOp,ho,Sem.run_bind,cQ w2,Result.andThen_ok]
  rfl
 ·unfold aE
  rw[if_pos (by rw[gG,hpp];rfl)]
end Go.Pv
namespace Go.Pv
set_option linter.unusedVariables false
set_option linter.unusedSimpArgs false
variable {P:Program} {w w':World} {A A' Wr:Nat→Prop} {H:Nat→Value} {tm sx:Nat→Value} {S S' S1:St} {σ cv e9:Nat→Option Nat} {w0:World} {W0 Z:Nat→Prop} {a:Act} {own:Nat→Prop} {v:Value} {Θ:ee} {dst:Option Nat}
theorem NU {s:Nat} (fZ:List (List Value)) (h:∀ c∈fZ,c.length=s) (j:Nat) (hj:j<fZ.length):(fZ.flatten.drop (j*s)).take s=fZ[j]:=by
 have h1:(fZ.take j).flatten.length=j*s:=by
  rw[lS s (fun c hc=>h c (List.mem_of_mem_take hc)),List.length_take,Nat.min_eq_left (by omega)]
 rw[qD fZ j hj,←h1,List.drop_left,←h (fZ[j]) (List.getElem_mem hj),List.take_left]
theorem aps {t:Ty} {m:Md} {xs:List t.I} {fZ:List (List Value)} {ow:Nat→Prop} {τ:Nat→Nat} (e:TypeId) (hl:fZ.length=xs.length)
  (hM:∀ (j:Nat) (hj:j<xs.length),M w A H t m xs[j] (fZ[j]'(by omega)) (fun g=>ow g∧τ g=j) []) (cZ:∀ g,ow g→g<w.heap.size) (auY:xs.length≤maxLen):
  M (w.alloc (.cells fZ.flatten.toArray e)) (fun g=>A g∨w.heap.size≤g) H (.sl t) (.o e none m) xs [.slice (some ⟨w.heap.size,0,none⟩) xs.length xs.length] (fun g=>ow g∨g=w.heap.size) []:=by
 have gQ:∀ c∈fZ,c.length=t.size:=fun c hc=>by
  obtain⟨j,hj,rfl⟩:=List.mem_iff_getElem.1 hc
  exact(fI t (hM j (by omega))).1
 simp only[M]
 refine .inr (.inr ⟨e,none,m,some ⟨w.heap.size,0,none⟩,xs.length,rfl,rfl,Nat.le_refl _,fun h hh=>(by cases hh),.inr ⟨w.heap.size,fZ.flatten.toArray,τ,rfl,.inr rfl,heap_alloc_new w _,?_,auY,fun j hj=>?_⟩⟩)
 ·rw[List.size_toArray,lS t.size gQ,hl]
 ·rw[List.toList_toArray,NU fZ gQ j (by omega)]
  refine bj (w:=w) ⟨fun g _ hg=>heap_alloc_old w _ g hg,fun g hg hx=>?_⟩ t (fun g hg hl=>heap_alloc_old w _ g hl) (fun g hg hl=>⟨.inl hg.1,by omega,hg.2⟩) (fun _ h=>by simp at h) (hM j hj)
  rcases hx with hx |hx
  ·exact hx
  ·omega
theorem Io (zl:List Value):∀ n,madeCells zl.toArray (n*zl.length)=(List.replicate n zl).flatten.toArray:=by
 intro n
 unfold madeCells
 apply Array.toList_inj.1
 simp only[Array.toList_map,Array.toList_range,List.toList_toArray]
 induction n with
 |zero=>simp
 |succ n ih=>
  rw[Nat.add_mul,Nat.one_mul,List.range_add,List.map_append,ih,List.replicate_succ',List.flatten_append]
  congr 1
  simp only[List.map_map,List.flatten_cons,List.flatten_nil,List.append_nil]
  apply List.ext_getElem?
  intro k
  by_cases hk:k<zl.length
  ·simp[hk,Function.comp_def,Nat.mod_eq_of_lt hk]
  ·simp[hk]
theorem CW {t:Ty} {m:Md}:∀ {l:List TV} {xs:List t.I},sF t m l=some xs→xs.length=l.length∧∀ (k:Nat) (hk:k<xs.length),l[k]?=some ⟨t,m,xs[k]⟩
 |[],xs,h=>by
  simp only[sF,Option.some.injEq] at h
  subst h
  exact⟨rfl,fun k hk=>by simp at hk⟩
 |b::r,xs,h=>by
  simp only[sF] at h
  split at h
  ·rename_i ht
   split at h
   ·rename_i hm
    split at h
    ·rename_i l hl
     injection h with h
     subst h
     obtain⟨h1,h2⟩:=CW hl
     obtain⟨bt,bm,bx⟩:=b
     simp only at ht hm
     subst ht hm
     refine⟨by simp[h1],fun k hk=>?_⟩
     cases k with
     |zero=>rfl
     |succ k=>simpa using h2 k (by simpa using hk)
    ·cases h
   ·cases h
  ·cases h
theorem HF (hT:dv P Θ=true) (h:bI σ w0 W0 Z H S a w) {hn:Hn} {o:Oper} {T:TypeId} {n:Nat} {ps:Array (Nat×Operand)} (ho:o.op=.buildSlice T n ps) (e:cn Θ hn S o.dst T n ps.toList=some (true,S')):CU P w0 W0 Z H S' a o.dst w (execOp a.eval o):=by
 unfold cn at e
 split at e
 case h_2=>cases e
 rename_i T0 t te fs0 hi
 cases hc:(lG n ps.toList&&Nat.ble n 1800) with
 |false=>rw[hc] at e;cases e
 |true=>
 rw[hc] at e
 simp only[cond_true] at e
 simp only[Bool.and_eq_true] at hc
 obtain⟨V2,aqY⟩:=hc
 have aqY:=Nat.le_of_ble_eq_true aqY
 split at e
 case h_2=>cases e
 rename_i l S1 hl
 obtain⟨cv,ow,τ,fZ,h1,hnn,hk,j9,hll,hj,ll⟩:=qE hT ps.toList _ 0 h hl
 rw[List.length_replicate] at hll
 obtain⟨_,hu,hT0⟩:=dB hT hi
 simp only at hT0
 subst hT0
 obtain⟨u1,u2,u3⟩:=mr hu rfl
 simp only at u1 u2
 obtain⟨i2,nV,ht2⟩:=e8 u2
 obtain⟨⟨sm,inf,z,k1,k2,_,_,_,k3,k4⟩,_,hte⟩:=dB hT nV
 rw[hte] at k1
 rw[ht2] at k2 k4 sm
 have cZ:∀ g,ow g→g<w.heap.size:=fun g hg=>by
  obtain⟨i,_,hi⟩:=hk.NN g hg
  exact h.lt g i hi
 -- all parts are of the type
 have gQ:(∃ m xs m',sF t m l=some xs∧(m'=.o te none m∨(m'=.k∧m.cy=true))∧S'=S1.put o.dst (.v ⟨.sl t,m',xs⟩ [])):=by
  split at e
  ·simp only[Option.some.injEq,Prod.mk.injEq,true_and] at e
   cases hf:hn.YM o.dst with
   |true=>exact⟨.k,[],_,rfl,.inr ⟨by rw[hf];rfl,rfl⟩,e.symm⟩
   |false=>exact⟨_,[],_,rfl,.inl (by rw[hf];rfl),e.symm⟩
  ·split at e
   ·rename_i xs hxs
    simp only[Option.some.injEq,Prod.mk.injEq,true_and] at e
    refine⟨_,xs,_,hxs,?_,e.symm⟩
    generalize hf:(hn.YM o.dst&&_)=q
    cases q with
    |true=>
     simp only[Bool.and_eq_true] at hf
     exact .inr ⟨rfl,hf.2⟩
    |false=>exact .inl rfl
   ·cases e
 obtain⟨m,xs,m',hxs,hm',rfl⟩:=gQ
 obtain⟨x1,x2⟩:=CW hxs
 have gG:∀ (k:Nat) (b:TV),l[k]?=some b→b.t=t:=fun k b hb=>by
  have hkl:k<xs.length:=by rw[x1];exact(List.getElem?_eq_some_iff.1 hb).1
  rw[x2 k hkl] at hb
  injection hb with hb
  rw[←hb]
 have hzl:(l.map fun b=>zc b.t)=List.replicate n (zc t):=by
  apply List.ext_getElem?
  intro k
  rw[List.getElem?_map,List.getElem?_replicate]
  by_cases hkl:k<l.length
  ·rw[if_pos (by omega),List.getElem?_eq_getElem hkl,Option.map_some,gG k _ (List.getElem?_eq_getElem hkl)]
  ·rw[if_neg (by omega),List.getElem?_eq_none (by omega)]
   rfl
 have acG:=Fa (a:=a) (ps:=ps.toList) (l:=l) (fZ:=fZ) (place:=fun k=>some (k*t.size,t.size)) j9 (by rw[hll];exact V2) (fun k b cs hb iY=>by
   obtain⟨du,c1,c2,_⟩:=ll k b hb
   rw[c1] at iY
   injection iY with iY
   subst iY
   exact fI _ c2) (fun k b hb=>by
   obtain⟨du,c1,_,c3⟩:=ll k b hb
   simp only[Nat.zero_add] at c3
   exact⟨du,c1,c3⟩) (fun k hk=>by
   rw[gG k _ (List.getElem?_eq_getElem hk),hzl]
   congr 2
   unfold pG
   rw[List.take_replicate,Nat.min_eq_left (by omega),List.map_replicate,List.sum_replicate_nat,nu])
 have Jp:z.cells=(zc t).toArray:=jJ k4 (fun u hu=>?_)
 rotate_left
 ·-- one cell each
  have:∀ (t:Ty),∀ u∈zc t,u.oneCell'=true:=by
   intro t
   induction t with
   |pair a b iha ihb=>intro u hu;simp only[zc,List.mem_append] at hu;rcases hu with hu |hu;exact iha u hu;exact ihb u hu
   |arr n t ih=>intro u hu;simp only[zc,List.mem_flatten] at hu;obtain⟨c,hc,hu⟩:=hu;rw[List.eq_of_mem_replicate hc] at hu;exact ih u hu
   |unit=>intro u hu;simp[zc] at hu
   |_=>intro u hu;simp only[zc,List.mem_singleton] at hu;subst hu;rfl
  exact this t u hu
 have hlc:fZ.length=xs.length:=by omega
 have NV:=aps (w:=w) (A:=Av σ Z) (H:=H) (t:=t) (m:=m) (xs:=xs) (fZ:=fZ) (ow:=ow) (τ:=τ) te hlc (fun j hj=>by
   have ur:=x2 j hj
   obtain⟨du,c1,c2,_⟩:=ll j _ ur
   rw[List.getElem?_eq_getElem (by omega)] at c1
   injection c1 with c1
   rw[c1]
   simpa using c2) cZ (by simp only[maxLen];omega)
 have cQ:(Instr.buildSlice T0 n (ps.map fun(j,x)=>(j,a.eval x))).run P w=.ok (.slice (some ⟨w.heap.size,0,none⟩) n n) (w.alloc (.cells fZ.flatten.toArray te)):=by
  have j8: ¬n*t.size>2^24:=by
   have:=Nat.mul_le_mul aqY sm
   omega
  have acH:Instr.fill (fun i=>some (i*t.size,t.size)) ((Array.range (n*t.size)).map (z.cells[· %z.cells.size]!)) (ps.map fun x=>(x.1,a.eval x.2)).toList=some fZ.flatten.toArray:=by
   have:=Io (zc t) n
   unfold madeCells at this
   rw[Jp,Array.toList_map]
   rw[nu] at this
   rw[this,←hzl]
   exact acG
  have hso:(sizeOf te).run P w=.ok t.size w:=by
   simp[sizeOf,typeInfo,k1,k2]
  have hzv:(zeroValue te).run P w=.ok z w:=by
   simp[zeroValue,typeInfo,k1,k3]
  by_cases h0:n*t.size=0
  ·have aqZ:Instr.fill (fun i=>some (i*t.size,t.size)) ((Array.range (n*t.size)).map ((#[]:Array Value)[· %(#[]:Array Value).size]!)) (ps.map fun x=>(x.1,a.eval x.2)).toList=some fZ.flatten.toArray:=by
    rw[←acH,h0]
    simp[Array.range_zero']
   unfold Instr.buildSlice
   simp only[Sem.run_bind,run_underlying u1,Result.andThen_ok,hso,j8,if_false]
   rw[if_pos h0]
   simp only[Sem.run_bind,Sem.run_pure,Result.andThen_ok,aqZ]
   simp[newRow]
  ·unfold Instr.buildSlice
   simp only[Sem.run_bind,run_underlying u1,Result.andThen_ok,hso,j8,if_false]
   rw[if_neg h0]
   simp only[Sem.run_bind,Sem.run_pure,hzv,Result.andThen_ok,acH]
   simp[newRow]
 have hex:(execOp a.eval o).run P w=.ok (.value (.slice (some ⟨w.heap.size,0,none⟩) n n)) (w.alloc (.cells fZ.flatten.toArray te)):=by
  simp only[execOp,ho,Sem.run_bind,cQ,Result.andThen_ok]
  rfl
 have awP:∀ g,Av cv Z g→g<w.heap.size:=fun g hg=>by
  rcases hg with⟨i,hi⟩ |hz
  ·exact h1.lt g i hi
  ·have:=(h1.old g hz).2;have:=h1.fr.size;omega
 rcases hm' with rfl |⟨rfl,hmk⟩
 ·refine⟨w.alloc (.cells fZ.flatten.toArray te),.slice (some ⟨w.heap.size,0,none⟩) n n,hex,fun g hg=>heap_alloc_old w _ g hg,_,h1.NO (b:=⟨.sl t,.o te none m,xs⟩) (cs:=[.slice (some ⟨w.heap.size,0,none⟩) n n]) (fun g hg=>heap_alloc_old w _ g hg) (h1.fr.alloc _) (fun g hg=>?_) (fun g hg hx=>?_) (by simp[aE,isAgg]) (by
   have:xs.length=n:=by omega
   rw[this] at NV
   exact NV)⟩
  ·rcases hg with hg |rfl
   ·obtain⟨i,hi,bW⟩:=hk.now g hg
    have:=cZ g hg
    exact⟨by simp only[World.alloc,Array.size_push];omega,.inl ⟨i,by omega,bW⟩⟩
   ·exact⟨by simp only[World.alloc,Array.size_push];omega,.inr (Nat.le_refl _)⟩
  ·rcases hx with hx |hx |rfl
   ·exact .inl (hk.Av.1 hx)
   ·obtain⟨i,_,hi⟩:=hk.NN g hx
    exact .inl (.inl ⟨i,hi⟩)
   ·exact .inr (Nat.le_refl _)
 ·refine⟨w.alloc (.cells fZ.flatten.toArray te),.slice (some ⟨w.heap.size,0,none⟩) n n,hex,fun g hg=>heap_alloc_old w _ g hg,_,h1.NO (b:=⟨.sl t,.k,xs⟩) (cs:=[.slice (some ⟨w.heap.size,0,none⟩) n n]) (ow:=fun _=>False) (A':=Av cv Z) (fun g hg=>heap_alloc_old w _ g hg) (h1.fr.alloc _) (fun g hg=>hg.elim) (fun g hg hx=>hx.resolve_right id) (by simp[aE,isAgg]) (ph (t:=.sl t) rfl ?_)⟩
  have hxn:xs.length=n:=by omega
  show K _ _ (.sl t) xs _
  have aij:∀ c∈fZ,c.length=t.size:=fun c hc=>by
   obtain⟨j,hj,rfl⟩:=List.getElem_of_mem hc
   obtain⟨du,c1,c2,_⟩:=ll j _ (x2 j (by omega))
   rw[List.getElem?_eq_getElem hj] at c1
   injection c1 with c1
   rw[c1]
   exact(fI _ c2).1
  have CS:fZ.flatten.length=n*t.size:=by rw[lS t.size aij,hlc,hxn]
  simp only[K]
  refine⟨some ⟨w.heap.size,0,none⟩,n,by rw[hxn],by omega,fun _=>⟨w.heap.size,0,fZ.flatten.toArray,te,(0,0),rfl,fun hx=>absurd (awP _ hx) (Nat.lt_irrefl _),heap_alloc_new w _,by simp only[List.size_toArray,CS,hxn];omega,fun j hj'=>?_⟩⟩
  obtain⟨du,c1,c2,_⟩:=ll j _ (x2 j hj')
  rw[List.getElem?_eq_getElem (by omega)] at c1
  injection c1 with c1
  have iV:=NU fZ aij j (by omega)
  simp only[Nat.zero_add]
  rw[iV,c1]
  refine cE ⟨fun g _ hg=>heap_alloc_old w _ g hg,fun g _ hg=>hk.Av.1 hg⟩ t (gR t hmk c2)
theorem Jq (hT:dv P Θ=true) (h:bI σ w0 W0 Z H S a w) {o:Oper} {T:TypeId} {l c:Operand} (ho:o.op=.makeSlice T l c) (e:iE Θ S o.dst T l c=some (true,S')):CU P w0 W0 Z H S' a o.dst w (execOp a.eval o):=by
 unfold iE at e
 split at e
 case h_2=>cases e
 rename_i T0 t te fs0 n n' hi hl hc
 split at e
 case h_2=>cases e
 rename_i z hz
 split at e
 case isFalse=>cases e
 rename_i hzt
 simp only[Option.some.injEq,Prod.mk.injEq,Bool.and_eq_true,decide_eq_true_eq] at e
 obtain⟨⟨⟨rfl,h0⟩,h40⟩,rfl⟩:=e
 obtain⟨kl,hl⟩:=jI h hl
 obtain⟨kc,hc⟩:=jI h hc
 obtain⟨_,hu,hT0⟩:=dB hT hi
 simp only at hT0
 subst hT0
 obtain⟨u1,u2,u3⟩:=mr hu rfl
 simp only at u1
 obtain⟨i,inf,zv,nV,gG,hx,xQ,q1,q2,q3,q4,q5,q6⟩:=Bi hT hz
 have Nq:M w (Av σ Z) H z.t z.m z.t.z (zc z.t) (fun _=>False) []:=E7 z.t xQ
 have hzc:zv.cells=(zc z.t).toArray:=jJ q4 (fI _ Nq).2
 have cQ:=run_make (P:=P) w T0 te inf zv u1 q1 q3 kl kc n n h0 (Int.le_refl _) (by
  have h1:(inf.bytes:Int)≤256:=by omega
  calc (inf.bytes:Int)*n≤256*n:=Int.mul_le_mul_of_nonneg_right h1 h0
   _≤281474976710656:=by omega) (by omega)
 rw[q2,hzc,←nu,Io] at cQ
 have NV:=aps (w:=w) (A:=Av σ Z) (H:=H) (t:=t) (m:=z.m) (xs:=List.replicate n.toNat t.z) (fZ:=List.replicate n.toNat (zc z.t)) (ow:=fun _=>False) (τ:=fun _=>0) te (by simp) (fun j hj=>by
   subst hzt
   simp only[List.getElem_replicate]
   exact Jm Nq) (fun _ h=>h.elim) (by simp only[List.length_replicate,maxLen];omega)
 refine⟨w.alloc (.cells (List.replicate n.toNat (zc z.t)).flatten.toArray te),_,?_,fun g hg=>heap_alloc_old w _ g hg,_,h.NO (b:=⟨.sl t,.o te none z.m,List.replicate n.toNat t.z⟩) (cs:=[.slice (some ⟨w.heap.size,0,none⟩) n.toNat n.toNat]) (w':=w.alloc (.cells (List.replicate n.toNat (zc z.t)).flatten.toArray te)) (v:=.slice (some ⟨w.heap.size,0,none⟩) n.toNat n.toNat) (fun g hg=>heap_alloc_old w _ g hg) (h.fr.alloc _) (fun g hg=>?_) (fun g hg hx=>?_) (by simp[aE,isAgg]) (by
   rw[List.length_replicate] at NV
   exact NV)⟩
 ·simp only[execOp,ho,hl,hc,Sem.run_bind,cQ,Result.andThen_ok]
  rfl
 ·rcases hg with hg |rfl
  ·exact hg.elim
  ·exact⟨by simp only[World.alloc,Array.size_push];omega,.inr (Nat.le_refl _)⟩
 ·rcases hx with hx |hx |rfl
  ·exact .inl hx
  ·exact hx.elim
  ·exact .inr (Nat.le_refl _)
end Go.Pv
namespace Go.Pv
set_option linter.unusedVariables false
set_option linter.unusedSimpArgs false
variable {P:Program} {w w':World} {A A' Wr:Nat→Prop} {H:Nat→Value} {tm sx:Nat→Value} {S S' S1:St} {σ cv e9:Nat→Option Nat} {w0:World} {W0 Z:Nat→Prop} {a:Act} {own:Nat→Prop} {v:Value} {Θ:ee} {dst:Option Nat}
theorem yi {olds news:List Value} {s n j:Nat} (hl:olds.length=n*s) (hj:j<n):((olds++news).drop (j*s)).take s=(olds.drop (j*s)).take s:=by
 have h1:(j+1)*s≤n*s:=Nat.mul_le_mul_right s hj
 rw[Nat.add_mul,Nat.one_mul] at h1
 rw[List.drop_append_of_le_length (by omega),List.take_append_of_le_length (by rw[List.length_drop];omega)]
theorem Ip {olds news:List Value} {s n j:Nat} (hl:olds.length=n*s):((olds++news).drop ((n+j)*s)).take s=(news.drop (j*s)).take s:=by
 rw[Nat.add_mul,←hl,List.drop_append,Nat.add_sub_cancel_left,List.drop_eq_nil_of_le (Nat.le_add_right _ _),List.nil_append]
theorem pH {cur:List Value} {s n j:Nat} (hj:j<n):((cur.take (n*s)).drop (j*s)).take s=(cur.drop (j*s)).take s:=by
 have h1:(j+1)*s≤n*s:=Nat.mul_le_mul_right s hj
 rw[Nat.add_mul,Nat.one_mul] at h1
 rw[List.drop_take,List.take_take,Nat.min_eq_left (by omega)]
theorem dN {g o:Nat} {t:TypeId} {cur:Array Value} {vs:List Value} (hw:w.heap[g]?=some (.cells cur t (0,0))) (hb:o+vs.length≤cur.size) (h1:∀ u∈vs,u.oneCell'=true):
  w.setCells g o vs=w.setRow g (putCells cur.toList o vs).toArray:=by
 have e1:=run_storeCells_at (P:=(default:Program)) g o t vs 0 cur w hw (by omega) h1
 have e2:=run_storeCells_cells (P:=(default:Program)) g o vs 0 w (fun j hj=>by
  have:o+j<cur.size:=by omega
  simp[World.cell?,hw,this]) (fun j hj=>by simp[World.frozen?,hw]) h1
 rw[e1] at e2
 simp only[Nat.add_zero,Result.ok.injEq,true_and] at e2
 exact e2.symm
theorem Sj {T' e':TypeId} {size:Nat} {t:Ty} {ys:List t.I} {vy:Value} (hk:P.underlying T'=some (.slice e')) (hs:size=t.size)
  (h:∃ X c,vy=.slice X ys.length c∧(0<ys.length→∃ g off cur T fr,X=some ⟨g,off,none⟩∧w.heap[g]?=some (.cells cur T fr)∧off+ys.length*t.size≤cur.size∧∀ u∈(cur.toList.drop off).take (ys.length*t.size),u.oneCell'=true)):
  ∃ news,Src P size T' vy ys.length news w∧(∀ g off cur T fr X c,vy=.slice X ys.length c→X=some ⟨g,off,none⟩→w.heap[g]?=some (.cells cur T fr)→0<ys.length→news=(cur.toList.drop off).take (ys.length*t.size)):=by
 subst hs
 obtain⟨X,c,rfl,h⟩:=h
 rcases Nat.eq_zero_or_pos ys.length with h0 |h0
 ·refine⟨[],?_,fun _ _ _ _ _ _ _ _ _ _ hp=>by omega⟩
  rw[h0]
  cases X with
  |none=>exact Src.ofNil w hk c
  |some ad=>exact Src.ofSlice w hk ad 0 c [] (by simp) (fun j u hu=>by simp at hu) (fun u hu=>by simp at hu)
 ·obtain⟨g,off,cur,T,fr,rfl,hw,hb,h1⟩:=h h0
  refine⟨(cur.toList.drop off).take (ys.length*t.size),Src.ofSlice w hk ⟨g,off,none⟩ ys.length c _ (by have hc:cur.toList.length=cur.size:=Array.length_toList;rw[List.length_take,List.length_drop];omega) (fun j u hu=>?_) h1,?_⟩
  ·have hj:j<ys.length*t.size:=by
    have:=(List.getElem?_eq_some_iff.1 hu).1
    rw[List.length_take] at this
    omega
   rw[List.getElem?_take,if_pos hj,List.getElem?_drop] at hu
   rw[kx]
   simp only[World.cell?,hw]
   rw[←Array.getElem?_toList]
   exact hu
  ·intro g' axO Sk T' fr' X' c' e1 e2 Hy _
   injection e1 with e1
   subst e2
   injection e1 with e1
   injection e1 with e1 Bg
   subst e1 Bg
   rw[hw] at Hy
   injection Hy with Hy
   injection Hy with Hy
   rw[Hy]
noncomputable def join (vm:Nat→Prop) (n:Nat) (Jr τ:Nat→Nat) (g:Nat):Nat:=open Classical in if vm g then n+Jr g else τ g
theorem DP {vm:Nat→Prop} {n:Nat} {Jr τ:Nat→Nat} {g:Nat} (h:vm g):join vm n Jr τ g=n+Jr g:=if_pos h
theorem NW {vm:Nat→Prop} {n:Nat} {Jr τ:Nat→Nat} {g:Nat} (h: ¬vm g):join vm n Jr τ g=τ g:=if_neg h
theorem yj (hT:dv P Θ=true) {T T' e ty:TypeId} {t:Ty} {tag:Option Nat} {me:Md} {xs ys:List t.I} {vx vy:Value} {Fb vm:Nat→Prop} {Jr:Nat→Nat} {news:List Value} {inf:TypeInfo} {z:Value}
  (hu:P.underlying T=some (.slice e)) (hi:P.info? e=some inf) (hz:inf.zero=some z) (j8:inf.size=t.size) (hby:inf.bytes≤32*t.size) (hzs:z.cells.size=t.size) (DH:0<t.size)
  (hx:M w A H (.sl t) (.o e tag me) xs [vx] Fb []) (s4:Src P t.size T' vy ys.length news w)
  (hN:∀ (k:Nat) (hk:k<ys.length),M w A H t me ys[k] ((news.drop (k*t.size)).take t.size) (fun g=>vm g∧Jr g=k) [])
  (acI:∀ g,Fb g→¬vm g) (hxA:∀ g,Fb g→A g) (hlx:∀ g,Fb g→g<w.heap.size) (hlN:∀ g,vm g→g<w.heap.size) (Js:(xs.length+ys.length)*t.size≤4398046511104):
  ∃ v' w' de,(Builtin.append_ #[T,T'] ty #[vx,vy]).run P w=.ok v' w'∧M w' (fun g=>A g∨w.heap.size≤g) H (.sl t) (.o e none me) (xs++ys) [v'] de []∧
   (∀ g,g<w.heap.size→¬Fb g→w'.heap[g]?=w.heap[g]?)∧(∀ g,de g→g<w'.heap.size∧(Fb g∨vm g∨w.heap.size≤g))∧w.heap.size≤w'.heap.size∧w'.os=w.os∧w'.tape=w.tape∧w'.output=w.output:=by
 have acJ:xs.length+ys.length≤4398046511104:=Nat.le_trans (Nat.le_mul_of_pos_right _ DH) Js
 have acK:(xs.length+ys.length)*inf.bytes≤140737488355328:=by
  have:(xs.length+ys.length)*inf.bytes≤(xs.length+ys.length)*(32*t.size):=Nat.mul_le_mul_left _ hby
  have e2:(xs.length+ys.length)*(32*t.size)=32*((xs.length+ys.length)*t.size):=by rw[Nat.mul_left_comm]
  omega
 have Wb:Src P inf.size T' vy ys.length news w:=by rw[j8];exact s4
 have aie:=s4.one
 have hnl:=s4.newsLen
 -- the grown row
 have grown:∀ (base:Option Addr) (c:Nat) (olds:List Value) (owo:Nat→Prop) (τ:Nat→Nat),vx=.slice base xs.length c→c<xs.length+ys.length→olds.length=xs.length*t.size→
   (Builtin.firstCells inf.size xs.length vx).run P w.drew=.ok olds.toArray w.drew→(∀ g,owo g→Fb g)→
   (∀ (k:Nat) (hk:k<xs.length),M w A H t me xs[k] ((olds.drop (k*t.size)).take t.size) (fun g=>owo g∧τ g=k) [])→
   ∃ v' w' de,(Builtin.append_ #[T,T'] ty #[vx,vy]).run P w=.ok v' w'∧M w' (fun g=>A g∨w.heap.size≤g) H (.sl t) (.o e none me) (xs++ys) [v'] de []∧
   (∀ g,g<w.heap.size→¬Fb g→w'.heap[g]?=w.heap[g]?)∧(∀ g,de g→g<w'.heap.size∧(Fb g∨vm g∨w.heap.size≤g))∧w.heap.size≤w'.heap.size∧w'.os=w.os∧w'.tape=w.tape∧w'.output=w.output:=by
  intro base c olds owo τ hv hc hol Jt Hz vX
  subst hv
  have cQ:=run_append_grow_src (P:=P) w T T' ty e inf z hu hi hz base xs.length c olds Jt vy ys.length news Wb hc (by omega) (by
   have h1:=nextslicecap_le hc
   have h2:=Nat.mul_le_mul_right inf.bytes h1
   rw[Nat.mul_assoc] at h2
   omega)
  have hge:=grownCap_ge w (xs.length+ys.length) c e
  have hle:=grownCap_le_maxLen w (xs.length+ys.length) c e (by simp only[maxLen];omega)
  let pad:=Builtin.zeroCells z.cells (grownCap w (xs.length+ys.length) c e - (xs.length+ys.length))
  have im:∀ g,g<w.heap.size→(w.drew.alloc (.cells ((olds++news).toArray++pad) e)).heap[g]?=w.heap[g]?:=fun g hg=>heap_alloc_old w.drew _ g hg
  refine⟨_,w.drew.alloc (.cells ((olds++news).toArray++pad) e),fun g=>owo g∨vm g∨g=w.heap.size,cQ,?_,fun g hg _=>im g hg,fun g hg=>?_,by simp,rfl,rfl,rfl⟩
  ·simp only[M]
   refine .inr (.inr ⟨e,none,me,some ⟨w.heap.size,0,none⟩,grownCap w (xs.length+ys.length) c e,rfl,by rw[List.length_append],by rw[List.length_append];exact hge,fun h hh=>(by cases hh),.inr ⟨w.heap.size,(olds++news).toArray++pad,join vm xs.length Jr τ,rfl,.inr (.inr rfl),heap_alloc_new w.drew _,?_,hle,fun j hj=>?_⟩⟩)
   ·simp only[pad,Array.size_append,List.size_toArray,List.length_append,size_zeroCells,hzs,hol,hnl,←Nat.add_mul]
    congr 1
    omega
   ·have cD:bA w (w.drew.alloc (.cells ((olds++news).toArray++pad) e)) A (fun g=>A g∨w.heap.size≤g):=⟨fun g _ hg=>im g hg,fun g hg hx=>hx.resolve_right (by omega)⟩
    rw[Array.toList_append,List.toList_toArray]
    rcases Nat.lt_or_ge j xs.length with hjx |hjx
    ·rw[List.getElem_append_left hjx,List.append_assoc,yi hol hjx]
     refine bj cD t (fun g hg hl=>im g hl) (fun g hg hl=>⟨.inl hg.1,by omega,?_⟩) (fun _ h=>by simp at h) (vX j hjx)
     rw[NW (acI g (Hz g hg.1))]
     exact hg.2
    ·have hjy:j - xs.length<ys.length:=by rw[List.length_append] at hj;omega
     rw[List.getElem_append_right hjx]
     have e1:=Ip (olds:=olds) (news:=news++pad.toList) (s:=t.size) (n:=xs.length) (j:=j - xs.length) hol
     rw[show xs.length+(j - xs.length)=j from by omega,←List.append_assoc,yi hnl hjy] at e1
     rw[e1]
     refine bj cD t (fun g hg hl=>im g hl) (fun g hg hl=>⟨.inr (.inl hg.1),by omega,?_⟩) (fun _ h=>by simp at h) (hN (j - xs.length) hjy)
     rw[DP hg.1,hg.2]
     omega
  ·have:(w.drew.alloc (.cells ((olds++news).toArray++pad) e)).heap.size=w.heap.size+1:=by simp
   rcases hg with hg |hg |rfl
   ·exact⟨by have:=hlx g (Hz g hg);omega,.inl (Hz g hg)⟩
   ·exact⟨by have:=hlN g hg;omega,.inr (.inl hg)⟩
   ·exact⟨by omega,.inr (.inr (Nat.le_refl _))⟩
 -- nothing to append
 have nothing:∀ (base:Option Addr) (c:Nat),vx=.slice base xs.length c→xs.length≤c→ys.length=0→
   ∃ v' w' de,(Builtin.append_ #[T,T'] ty #[vx,vy]).run P w=.ok v' w'∧M w' (fun g=>A g∨w.heap.size≤g) H (.sl t) (.o e none me) (xs++ys) [v'] de []∧
   (∀ g,g<w.heap.size→¬Fb g→w'.heap[g]?=w.heap[g]?)∧(∀ g,de g→g<w'.heap.size∧(Fb g∨vm g∨w.heap.size≤g))∧w.heap.size≤w'.heap.size∧w'.os=w.os∧w'.tape=w.tape∧w'.output=w.output:=by
  intro base c hv hle h0
  have hys:ys=[]:=List.eq_nil_of_length_eq_zero h0
  subst hys
  have hn0:news=[]:=List.eq_nil_of_length_eq_zero (by simpa using hnl)
  rw[hn0] at Wb
  rw[hv] at hx ⊢
  have cQ:=run_append_nothing (P:=P) w T T' ty e inf hu hi base xs.length c hle vy Wb
  refine⟨_,w,Fb,cQ,?_,fun _ _ _=>rfl,fun g hg=>⟨hlx g hg,.inl hg⟩,Nat.le_refl _,rfl,rfl,rfl⟩
  rw[List.append_nil]
  have xY:M w A H (.sl t) (.o e none me) xs [.slice base xs.length c] Fb []:=by
   simp only[M] at hx ⊢
   rcases hx with⟨hn,_⟩ |⟨hk,_⟩ |⟨T1,awQ,me1,X,c1,e1,e2,h1,h2,h3⟩
   ·simp at hn
   ·simp[Md.cy] at hk
   ·injection e1 with e1 Bg qF
    subst e1 Bg qF
    exact .inr (.inr ⟨e,none,me,X,c1,rfl,e2,h1,fun h hh=>(by cases hh),h3⟩)
  exact bj (w:=w) ⟨fun _ _ _=>rfl,fun g hg hx=>hx.resolve_right (by omega)⟩ (.sl t) (fun _ _ _=>rfl) (fun g hg _=>hg) (fun _ h=>h) xY
 have hx0:=hx
 simp only[M] at hx
 rcases hx with⟨hn,_⟩ |⟨hk,_⟩ |⟨T1,awQ,me1,X,c,e1,e2,hle,aic,hx⟩
 ·simp at hn
 ·simp[Md.cy] at hk
 ·injection e1 with e1 Bg qF
  subst e1 Bg qF
  simp only[List.cons.injEq,and_true] at e2
  rcases Nat.eq_zero_or_pos ys.length with h0 |h0
  ·exact nothing X c e2 hle h0
  ·rcases hx with⟨hxs,hc⟩ |⟨g,cur,τ,rfl,rY,hw,iY,hcm,vX⟩
   ·subst hxs hc
    refine grown X 0 [] (fun _=>False) (fun _=>0) e2 (by simpa using h0) (by simp) ?_ (fun _ h=>h.elim) (fun k hk=>by simp at hk)
    rw[e2]
    cases X with
    |none=>exact run_firstCells_none w.drew _ _ _ _
    |some ad=>exact run_firstCells_some w.drew _ _ ad _ _ [] (by simp) (fun j u hu=>by simp at hu)
   ·have hbx:xs.length*t.size≤cur.toList.length:=by
     have h1:cur.toList.length=cur.size:=Array.length_toList
     have h2:=Nat.mul_le_mul_right t.size hle
     omega
    have j9:cur.toList.length=cur.size:=Array.length_toList
    by_cases s5:xs.length+ys.length≤c
    ·-- room
     have xQ:xs.length*t.size+news.length≤cur.size:=by
      rw[hnl,iY,←Nat.add_mul]
      exact Nat.mul_le_mul_right _ s5
     have cQ:=run_append_room_src (P:=P) w T T' ty e inf hu hi g 0 xs.length c vy ys.length news Wb s5 (fun j hj=>by
      have:xs.length*inf.size+j<cur.size:=by rw[j8];omega
      simp[World.cell?,hw,this]) (fun j hj=>by simp[World.frozen?,hw])
     rw[Nat.zero_add,j8,dN hw xQ aie] at cQ
     have im:∀ k,k≠g→(w.setRow g (putCells cur.toList (xs.length*t.size) news).toArray).heap[k]?=w.heap[k]?:=fun k hk=>setRow_other w g k _ hk
     refine⟨_,w.setRow g (putCells cur.toList (xs.length*t.size) news).toArray,fun k=>Fb k∨vm k,by rw[e2];exact cQ,?_,fun k _ hk=>im k (fun e'=>hk (by rw[e'];exact rY)),fun k hk=>?_,by rw[setRow_size];exact Nat.le_refl _,rfl,rfl,rfl⟩
     ·simp only[M]
      refine .inr (.inr ⟨e,none,me,some ⟨g,0,none⟩,c,rfl,by rw[List.length_append],by rw[List.length_append];exact s5,fun h hh=>(by cases hh),.inr ⟨g,(putCells cur.toList (xs.length*t.size) news).toArray,join vm xs.length Jr τ,rfl,.inl rY,setRow_heap w g cur _ e (0,0) hw,?_,hcm,fun j hj=>?_⟩⟩)
      ·rw[List.size_toArray,jy _ _ _ (by omega),j9,iY]
      ·have cD:bA w (w.setRow g (putCells cur.toList (xs.length*t.size) news).toArray) A (fun g=>A g∨w.heap.size≤g):=⟨fun k hk _=>im k (fun e'=>hk (by rw[e'];exact hxA g rY)),fun k hk hx=>hx.resolve_right (by omega)⟩
       rw[List.toList_toArray]
       have htl:(cur.toList.take (xs.length*t.size)).length=xs.length*t.size:=by rw[List.length_take];omega
       have Zb:putCells cur.toList (xs.length*t.size) news=cur.toList.take (xs.length*t.size)++(news++cur.toList.drop (xs.length*t.size+news.length)):=by unfold putCells;rw[List.append_assoc]
       rcases Nat.lt_or_ge j xs.length with hjx |hjx
       ·have iV:((putCells cur.toList (xs.length*t.size) news).drop (j*t.size)).take t.size=(cur.toList.drop (j*t.size)).take t.size:=by rw[Zb,yi htl hjx,pH hjx]
        rw[List.getElem_append_left hjx,iV]
        refine bj cD t (fun k hk hl=>im k hk.2.1) (fun k hk hl=>⟨.inl hk.1,hk.2.1,?_⟩) (fun _ h=>h) (vX j hjx)
        rw[NW (acI k hk.1)]
        exact hk.2.2
       ·have hjy:j - xs.length<ys.length:=by rw[List.length_append] at hj;omega
        rw[List.getElem_append_right hjx]
        have e1:=Ip (olds:=cur.toList.take (xs.length*t.size)) (news:=news++cur.toList.drop (xs.length*t.size+news.length)) (s:=t.size) (n:=xs.length) (j:=j - xs.length) htl
        rw[show xs.length+(j - xs.length)=j from by omega,yi hnl hjy] at e1
        rw[←Zb] at e1
        rw[e1]
        have hgN:∀ k,vm k→k≠g:=fun k hk e'=>acI g rY (by rw[←e'];exact hk)
        refine bj cD t (fun k hk hl=>im k (hgN k hk.1)) (fun k hk hl=>⟨.inr hk.1,hgN k hk.1,?_⟩) (fun _ h=>by simp at h) (hN (j - xs.length) hjy)
        rw[DP hk.1,hk.2]
        omega
     ·rw[setRow_size]
      rcases hk with hk |hk
      ·exact⟨hlx k hk,.inl hk⟩
      ·exact⟨hlN k hk,.inr (.inl hk)⟩
    ·refine grown (some ⟨g,0,none⟩) c (cur.toList.take (xs.length*t.size)) (fun k=>Fb k∧k≠g) τ e2 (by omega) (by rw[List.length_take];omega) ?_ (fun k hk=>hk.1) (fun k hk=>?_)
     ·rw[e2,j8]
      refine run_firstCells_some w.drew _ _ ⟨g,0,none⟩ _ _ _ (by rw[List.length_take];omega) (fun j u hu=>?_)
      rw[kx]
      have hj:j<xs.length*t.size:=by
       have:=(List.getElem?_eq_some_iff.1 hu).1
       rw[List.length_take] at this
       omega
      rw[List.getElem?_take,if_pos hj] at hu
      have Hy:w.drew.heap[g]?=some (.cells cur e (0,0)):=hw
      simp only[World.cell?,Hy,Nat.zero_add]
      rw[←Array.getElem?_toList]
      exact hu
     ·rw[pH hk]
      exact bj (bA.refl _ _) t (fun _ _ _=>rfl) (fun g' bW _=>⟨⟨bW.1,bW.2.1⟩,bW.2.2⟩) (fun _ h=>h) (vX k hk)
end Go.Pv
namespace Go.Pv
set_option linter.unusedVariables false
set_option linter.unusedSimpArgs false
variable {P:Program} {w w':World} {A A' Wr:Nat→Prop} {H:Nat→Value} {tm sx:Nat→Value} {S S' S1:St} {σ cv e9:Nat→Option Nat} {w0:World} {W0 Z:Nat→Prop} {a:Act} {own:Nat→Prop} {v:Value} {Θ:ee} {dst:Option Nat}
def KS (w:World) (A:Nat→Prop) (t:Ty) (xs:List t.I) (cs:List Value):Prop:=
 ∃ X c,cs=[.slice X xs.length c]∧xs.length≤c∧(0<xs.length→∃ g off cur T fr,X=some ⟨g,off,none⟩∧w.heap[g]?=some (.cells cur T fr)∧off+xs.length*t.size≤cur.size∧∀ j (h:j<xs.length),K w A t xs[j] ((cur.toList.drop (off+j*t.size)).take t.size))
theorem aq0 {t:Ty} {m:Md} {xs:List t.I} {cs:List Value} {ow:Nat→Prop} (hk:m.HU.cy=true) (h:M w A H (.sl t) m xs cs ow []):KS w A t xs cs:=by
 simp only[M] at h
 rcases h with⟨hn,_⟩ |⟨_,h⟩ |⟨T,tag,me,X,c,rfl,rfl,hc,ht,h⟩
 ·simp at hn
 ·simp only[K] at h
  obtain⟨X,c,rfl,hc,h⟩:=h
  refine⟨X,c,rfl,hc,fun hp=>?_⟩
  obtain⟨g,off,cur,T,fr,h1,_,h2,h3,h4⟩:=h hp
  exact⟨g,off,cur,T,fr,h1,h2,h3,h4⟩
 ·refine⟨X,c,rfl,hc,fun hp=>?_⟩
  rcases h with⟨rfl,_⟩ |⟨g,cur,τ,rfl,rY,hw,j8,hm,h⟩
  ·simp at hp
  ·refine⟨g,0,cur,T,(0,0),rfl,hw,?_,fun j hj=>?_⟩
   ·have:=Nat.mul_le_mul_right t.size hc
    omega
   ·rw[Nat.zero_add]
    exact gR t hk (h j hj)
theorem aq1 {t:Ty} {xs:List t.I} {X:Option Addr} {c lo hi:Nat} (h:KS w A t xs [.slice X xs.length c]) (h1:lo≤hi) (h2:hi≤xs.length):
  KS w A t ((xs.take hi).drop lo) [.slice (if c=lo then X else X.map (·.add (lo*t.size))) (hi - lo) (c - lo)]:=by
 obtain⟨X',c',e,hc,h⟩:=h
 simp only[List.cons.injEq,Value.slice.injEq,and_true,true_and] at e
 obtain⟨rfl,rfl⟩:=e
 have hl:((xs.take hi).drop lo).length=hi - lo:=by rw[List.length_drop,List.length_take];omega
 refine⟨_,_,by rw[hl],by omega,fun hp=>?_⟩
 rw[hl] at hp
 obtain⟨g,off,cur,T,fr,rfl,hw,ho,hj⟩:=h (by omega)
 have e1:(lo+(hi - lo))*t.size≤xs.length*t.size:=Nat.mul_le_mul_right _ (by omega)
 rw[Nat.add_mul] at e1
 refine⟨g,off+lo*t.size,cur,T,fr,?_,hw,by rw[hl];omega,fun j Hs=>?_⟩
 rotate_left
 ·have qj:j<hi - lo:=by rw[←hl];exact Hs
  have:=hj (lo+j) (by omega)
  rw[show((xs.take hi).drop lo)[j]=xs[lo+j]'(by omega) from by simp]
  rw[show off+lo*t.size+j*t.size=off+(lo+j)*t.size from by rw[Nat.add_mul];omega]
  exact this
 ·rw[if_neg (by omega)]
  simp only[Option.map_some,kx]
theorem NX (h:bI σ w0 W0 Z H S a w) {av:AV} {t:Ty} {m:Md} {ys:List t.I} (hh:Holds w (Av σ Z) H (cG a) S own av v) (e:S.uk av=some ⟨.sl t,m,ys⟩) (hk:m.HU.cy=true):
  KS w (Av σ Z) t ys [v]:=by
 cases av with
 |v a ex=>
  cases ex with
  |cons _ _=>simp[St.uk] at e
  |nil=>
   simp only[St.uk,Option.some.injEq] at e
   subst e
   obtain⟨cs,h1,h2⟩:=hh
   have:cs=[v]:=by simpa[aE,isAgg] using h1
   subst this
   exact aq0 hk h2
 |al t1 s p=>
  simp only[St.uk] at e
  obtain⟨r,dy,cs,hr,hc,hm⟩:=hh
  obtain⟨rfl,de,k2,k3⟩:=dU h hr hc e
  have:cs=[v]:=by simpa[aE,isAgg] using hm
  subst this
  exact aq0 hk k3
 |cut t1 s p lo hi=>
  simp only[St.uk] at e
  obtain⟨r,dy,t',X,n,c,hr,rfl,hc,YW,EM,rfl⟩:=hh
  cases hp:S.place s p with
  |none=>rw[hp] at e;cases e
  |some b'=>
   obtain⟨ht,de,k2,k3⟩:=dU h hr hc hp
   obtain⟨bt,bm,bx⟩:=b'
   simp only at ht
   subst ht
   rw[hp] at e
   simp only[Option.some.injEq] at e
   injection e with e1 e2 e3
   injection e1 with e1
   subst e1 e2
   simp only[heq_eq_eq] at e3
   subst e3
   have hK:=aq0 hk k3
   have hn:n=List.length bx:=by
    obtain⟨_,_,e,_⟩:=hK
    simp only[List.cons.injEq,Value.slice.injEq,and_true] at e
    exact e.2.1
   subst hn
   exact aq1 hK YW EM
 |_=>simp[St.uk] at e
theorem pI {s:Nat} {Q:Value→Prop} {l:List Value}:∀ (n:Nat),(∀ j,j<n→∀ u∈(l.drop (j*s)).take s,Q u)→∀ u∈l.take (n*s),Q u
 |0,_,u,hu=>by simp at hu
 |n+1,h,u,hu=>by
  rw[Nat.add_mul,Nat.one_mul,List.take_add] at hu
  rcases List.mem_append.1 hu with hu |hu
  ·exact pI n (fun j hj=>h j (by omega)) u hu
  ·exact h n (by omega) u hu
theorem acL {T' e':TypeId} {t:Ty} {ys:List t.I} {vy:Value} (hk:P.underlying T'=some (.slice e')) (h:KS w A t ys [vy]):
  ∃ news,Src P t.size T' vy ys.length news w∧∀ (k:Nat) (hk:k<ys.length),K w A t ys[k] ((news.drop (k*t.size)).take t.size):=by
 obtain⟨X,c,e,hc,h⟩:=h
 simp only[List.cons.injEq,and_true] at e
 obtain⟨news,h1,h2⟩:=Sj (P:=P) (w:=w) (t:=t) (ys:=ys) (vy:=vy) hk rfl ⟨X,c,e,fun hp=>by
  obtain⟨g,off,cur,T,fr,rfl,hw,hb,hj⟩:=h hp
  refine⟨g,off,cur,T,fr,rfl,hw,hb,pI _ fun j Hs u hu=>?_⟩
  rw[List.drop_drop] at hu
  exact(mh t (hj j Hs)).2 u hu⟩
 refine⟨news,h1,fun k hk=>?_⟩
 obtain⟨g,off,cur,T,fr,rfl,hw,hb,hj⟩:=h (by omega)
 rw[h2 g off cur T fr _ c e rfl hw (by omega),pH hk,List.drop_drop]
 exact hj k hk
theorem vZ (hT:dv P Θ=true) {T0:TypeId} {i:TI} (hi:Θ.find T0=some i) {t:Ty} (gG:i.ty=.sl t) {o:Oper} {x y:Operand} {T':TypeId} {tag:Option Nat} {me:Md} {xs ys:List t.I} {Fb vm:Nat→Prop} {Jr:Nat→Nat} {news:List Value} {n:Nat}
  (ho:o.op=.call { callee:=.builtin .append,args:=#[x,y],argTypes:=#[T0,T'] })
  (h2:bI e9 w0 W0 Z H S1 a w) (hS1:S1.length=n) (hA:A=Av e9 Z)
  (hx:M w A H (.sl t) (.o i.e tag me) xs [a.eval x] Fb []) (s4:Src P t.size T' (a.eval y) ys.length news w)
  (hN:∀ (k:Nat) (hk:k<ys.length),M w A H t me ys[k] ((news.drop (k*t.size)).take t.size) (fun g=>vm g∧Jr g=k) [])
  (acI:∀ g,Fb g→¬vm g) (yh:∀ g,Fb g∨vm g→∃ i,n≤i∧e9 g=some i) (Js:(xs.length+ys.length)*t.size≤4398046511104):
  Jk P w0 W0 Z H (S1.put o.dst (.v ⟨.sl t,.o i.e none me,xs++ys⟩ [])) a o.dst w (execOp a.eval o):=by
 subst hA hS1
 obtain⟨_,hu,hT0⟩:=dB hT hi
 obtain⟨u1,u2,u3⟩:=mr hu gG
 rw[hT0] at u1
 obtain⟨i2,nV,ht2⟩:=e8 u2
 obtain⟨⟨sm,inf,z,k1,k2,kb,_,_,k3,k4⟩,_,hte⟩:=dB hT nV
 rw[hte] at k1
 rw[ht2] at k2 k4 kb
 have cZ:∀ g,Fb g∨vm g→g<w.heap.size:=fun g hg=>by
  obtain⟨i,_,hi⟩:=yh g hg
  exact h2.lt g i hi
 have Jp:z.cells.size=t.size:=by
  unfold aE at k4
  split at k4
  ·rw[k4,Value.cells,List.size_toArray,nu]
  ·rename_i R2
   have hl:=nu t
   rw[k4] at hl
   have hv:∀ (t:Ty),∀ u∈zc t,u.oneCell'=true:=by
    intro t
    induction t with
    |pair a b iha ihb=>intro u hu;simp only[zc,List.mem_append] at hu;rcases hu with hu |hu;exact iha u hu;exact ihb u hu
    |arr n t ih=>intro u hu;simp only[zc,List.mem_flatten] at hu;obtain⟨c,hc,hu⟩:=hu;rw[List.eq_of_mem_replicate hc] at hu;exact ih u hu
    |unit=>intro u hu;simp[zc] at hu
    |_=>intro u hu;simp only[zc,List.mem_singleton] at hu;subst hu;rfl
   have h1:=hv t z (by rw[k4];simp)
   have:z.cells=#[z]:=by cases z<;>first |rfl |simp[Value.oneCell'] at h1
   rw[this]
   simpa using hl
 obtain⟨v',w',de,r1,r2,r3,r4,r5,r6,r7,r8⟩:=yj (ty:=o.type) hT u1 k1 k3 k2 kb Jp u3 hx s4 hN acI (fun g hg=>by
  obtain⟨i,_,hi⟩:=yh g (.inl hg)
  exact .inl ⟨i,hi⟩) (fun g hg=>cZ g (.inl hg)) (fun g hg=>cZ g (.inr hg)) Js
 refine⟨w',v',.inl ?_,_,h2.apn (b:=⟨.sl t,.o i.e none me,xs++ys⟩) (cs:=[v']) (ow:=de) (A':=fun g=>Av e9 Z g∨w.heap.size≤g) r5 (fun g hg hn=>r3 g hg (fun hx=>?_)) ?_ (fun g hg=>?_) (fun g hg hx=>?_) (by simp[aE,isAgg]) r2⟩
 ·simp[execOp,ho,resolve,invoke,builtin,r1]
 ·obtain⟨i,hi1,nV⟩:=yh g (.inl hx)
  exact hn i hi1 nV
 ·refine⟨by rw[r6];exact h2.fr.os,by rw[r7];exact h2.fr.tape,by rw[r8];exact h2.fr.output,Nat.le_trans h2.fr.size r5,fun g hg hn=>?_⟩
  rw[r3 g (by have:=h2.fr.size;omega) (fun hx=>?_)]
  ·exact h2.fr.block g hg hn
  ·obtain⟨i,_,hi⟩:=yh g (.inl hx)
   rcases h2.new g i hi with h1 |h1
   ·omega
   ·exact hn h1
 ·obtain⟨q1,q2⟩:=r4 g hg
  refine⟨q1,?_⟩
  rcases q2 with q2 |q2 |q2
  ·exact .inl (yh g (.inl q2))
  ·exact .inl (yh g (.inr q2))
  ·exact .inr q2
 ·rcases hx with hx |hx
  ·exact .inl hx
  ·rcases(r4 g hx).2 with q2 |q2 |q2
   ·obtain⟨i,_,hi⟩:=yh g (.inl q2)
    exact .inl (.inl ⟨i,hi⟩)
   ·obtain⟨i,_,hi⟩:=yh g (.inr q2)
    exact .inl (.inl ⟨i,hi⟩)
   ·exact .inr q2
theorem Ze (hT:dv P Θ=true) (h:bI σ w0 W0 Z H S a w) {o:Oper} {as:Array Operand} {ts:Array TypeId} (ho:o.op=.call { callee:=.builtin .append,args:=as,argTypes:=ts }) (e:cO Θ S o.dst ts.toList as.toList=some (true,S')):Jk P w0 W0 Z H S' a o.dst w (execOp a.eval o):=by
 obtain⟨as⟩:=as
 obtain⟨ts⟩:=ts
 simp only at e
 unfold cO at e
 split at e
 case h_2=>cases e
 rename_i x y T T'
 split at e
 case h_2=>cases e
 rename_i t e0 tag me xs S1 i hb hi
 unfold St.take at hb
 split at hb
 case h_2=>cases hb
 rename_i av eQ
 obtain⟨cv,cs,ow,h1,hm,hM,hk,hn⟩:=fP h eQ hb
 cases hc:(decide (i.ty=.sl t)&&Nat.beq i.e e0&&Θ.is T' (.sl t)) with
 |false=>rw[hc] at e;cases e
 |true=>
 rw[hc] at e
 simp only[cond_true] at e
 simp only[Bool.and_eq_true,decide_eq_true_eq] at hc
 obtain⟨⟨gG,hee⟩,hT'⟩:=hc
 have hee:=Nat.eq_of_beq_eq_true hee
 subst hee
 have iY:cs=[a.eval x]:=by simpa[aE,isAgg] using hm
 subst iY
 obtain⟨i',sO,acF⟩:=e8 hT'
 obtain⟨_,uq,hT1⟩:=dB hT sO
 obtain⟨u1,_,_⟩:=mr uq acF
 rw[hT1] at u1
 have awR:bA w w (Av σ Z) (Av cv Z):=⟨fun _ _ _=>rfl,fun g _ hg=>hk.Av.1 hg⟩
 cases hme:me.cy with
 |true=>
  rw[hme] at e
  simp only[cond_true] at e
  split at e
  case h_2=>cases e
  rename_i t' m' ys hy
  cases hmi:m'.HU.cy with
  |false=>rw[hmi] at e;cases e
  |true=>
  rw[hmi] at e
  simp only[cond_true] at e
  split at e
  case isFalse=>cases e
  rename_i htt
  subst htt
  simp only[Option.some.injEq,Prod.mk.injEq,decide_eq_true_eq] at e
  obtain⟨Js,rfl⟩:=e
  unfold St.rd at hy
  split at hy
  case h_2=>cases hy
  rename_i av2 Sg
  have hKS:=NX h1 (cf h1 Sg) hy hmi
  obtain⟨news,s4,vX⟩:=acL (P:=P) u1 hKS
  refine vZ (n:=S1.length) (A:=Av cv Z) (Fb:=ow) (vm:=fun _=>False) (Jr:=fun _=>0) hT hi gG ho h1 rfl rfl (bj awR _ (fun _ _ _=>rfl) (fun _ h _=>h) (fun _ h=>h) hM) s4 (fun k gA=>ph hme (vX k gA)) (fun _ _ h=>h) (fun g hg=>?_) Js
  rw[hn]
  exact hk.now g (hg.resolve_right id)
 |false=>
  rw[hme] at e
  simp only[cond_false] at e
  split at e
  case h_2=>cases e
  rename_i t' m' ys S2 hy
  split at e
  case isFalse=>cases e
  rename_i htt
  subst htt
  split at e
  case isFalse=>cases e
  rename_i hmi
  simp only[Option.some.injEq,Prod.mk.injEq,decide_eq_true_eq] at e
  obtain⟨Js,rfl⟩:=e
  unfold St.take at hy
  split at hy
  case h_2=>cases hy
  rename_i av2 Sg
  obtain⟨e9,cs2,qB,h2,hm2,hM2,RI,hn2⟩:=fP h1 Sg hy
  rw[hn] at RI hn2
  have iY:cs2=[a.eval y]:=by simpa[aE,isAgg] using hm2
  subst iY
  have aq2:bA w w (Av cv Z) (Av e9 Z):=⟨fun _ _ _=>rfl,fun g _ hg=>RI.Av.1 hg⟩
  have auZ:M w (Av e9 Z) H (.sl t') m' ys [a.eval y] qB []:=bj aq2 _ (fun _ _ _=>rfl) (fun _ h _=>h) (fun _ h=>h) hM2
  have hM':M w (Av e9 Z) H (.sl t') (.o i.e tag me) xs [a.eval x] ow []:=bj ⟨fun _ _ _=>rfl,fun g _ hg=>hk.Av.1 (RI.Av.1 hg)⟩ _ (fun _ _ _=>rfl) (fun _ h _=>h) (fun _ h=>h) hM
  have yh:∀ g,ow g∨qB g→∃ i,S.length≤i∧e9 g=some i:=fun g hg=>(hk.trans RI).now g hg
  simp only[M] at auZ
  rcases auZ with⟨hn0,_⟩ |⟨hK,_⟩ |⟨T2,Za,me2,X,c,rfl,e2,hle,aic,vX⟩
  ·simp at hn0
  ·rw[←hmi] at hme
   rw[qp hK] at hme
   cases hme
  ·simp only[Md.HU] at hmi
   subst hmi
   simp only[List.cons.injEq,and_true] at e2
   have s4:∃ (vm:Nat→Prop) (Jr:Nat→Nat) (news:List Value),Src P t'.size T' (a.eval y) ys.length news w∧(∀ g,vm g→qB g)∧
     ∀ (k:Nat) (hk:k<ys.length),M w (Av e9 Z) H t' me2 ys[k] ((news.drop (k*t'.size)).take t'.size) (fun g=>vm g∧Jr g=k) []:=by
    rcases vX with⟨hys,_⟩ |⟨g,cur,τ,hX,rY,hw,j8,auY,vX⟩
    ·subst hys
     obtain⟨news,s1,_⟩:=Sj (P:=P) (w:=w) (t:=t') (ys:=([]:List t'.I)) (vy:=a.eval y) u1 rfl ⟨X,c,e2,fun hp=>by simp at hp⟩
     exact⟨fun _=>False,fun _=>0,news,s1,fun _ h=>h.elim,fun k hk=>by simp at hk⟩
    ·subst hX
     have j9:cur.toList.length=cur.size:=Array.length_toList
     have hb:=Nat.mul_le_mul_right t'.size hle
     obtain⟨news,s1,s2⟩:=Sj (P:=P) (w:=w) (t:=t') (ys:=ys) (vy:=a.eval y) u1 rfl ⟨some ⟨g,0,none⟩,c,e2,fun hp=>⟨g,0,cur,T2,(0,0),rfl,hw,by omega,pI _ fun j hj u hu=>by
      rw[List.drop_zero] at hu
      exact(fI t' (vX j hj)).2 u hu⟩⟩
     refine⟨fun g'=>qB g'∧g'≠g,τ,news,s1,fun _ h=>h.1,fun k hk=>?_⟩
     rw[s2 g 0 cur T2 (0,0) _ c e2 rfl hw (by omega),pH hk,List.drop_zero]
     exact bj (bA.refl _ _) t' (fun _ _ _=>rfl) (fun g' bW _=>⟨⟨bW.1,bW.2.1⟩,bW.2.2⟩) (fun _ h=>h) (vX k hk)
   obtain⟨vm,Jr,news,s1,s2,s3⟩:=s4
   exact vZ (n:=S.length) (A:=Av e9 Z) (Fb:=ow) (vm:=vm) (Jr:=Jr) hT hi gG ho h2 hn2 rfl hM' s1 s3 (fun g hg sv=>hk.apart RI hg (s2 g sv)) (fun g hg=>yh g (hg.imp id (s2 g))) Js
end Go.Pv
namespace Go.Pv
set_option linter.unusedVariables false
set_option linter.unusedSimpArgs false
variable {P:Program} {w w':World} {A A' Wr:Nat→Prop} {H:Nat→Value} {tm sx:Nat→Value} {S S' S1:St} {σ cv:Nat→Option Nat} {w0:World} {W0 Z:Nat→Prop} {a:Act} {own:Nat→Prop} {v:Value} {Θ:ee} {dst:Option Nat}
theorem Fe {p:Path} {ex:List Path} (h:∀ q∈ex,qk q p=false):xP p ex=[]:=by
 have key:∀ (p r:Path),qk (p++r) p=true:=by
  intro p
  induction p with
  |nil=>intro r;cases r<;>rfl
  |cons a p ih=>intro r;cases a<;>simp[qk,ih]
 apply List.eq_nil_iff_forall_not_mem.2
 intro q hq
 have:=h _ (Ez.1 hq)
 rw[key] at this
 cases this
theorem s6 (h:bI σ w0 W0 Z H S a w) {vv:Value} {t:Ty} {s:Nat} {p:Path} (hpc:p≠[]) {r:TV} {ex:List Path} {b:TV} (hh:Holds w (Av σ Z) H (cG a) S own (.al t s p) vv) (hs:S.at s=.v r ex) (hg:bQ p r.t r.m r.x=some b) (hk:b.m.cy=false) (j9:∀ q∈ex,qk q p=false):
  ∃ cv cs ow,bI cv w0 W0 Z H (((S.weaken s).cover s p).set s (.v r (ex++[p]))) a w∧aE b.t vv cs∧M w (Av cv Z) H b.t b.m b.x cs ow []∧iw σ cv S.length ow∧(((S.weaken s).cover s p).set s (.v r (ex++[p]))).length=S.length:=by
 obtain⟨r0,dy,cs,hr,hc,hm⟩:=hh
 obtain⟨ex0,b2,du,ow0,j1,j2,j3,j4,hM,j5,j6,j7⟩:=gY h hr
 rw[hs] at j1
 injection j1 with j1 j1'
 subst j1 j1'
 have j1:=hs
 rw[hg] at j3
 injection j3 with j3
 subst j3
 have j3:=hg
 obtain⟨cs2,de,k1,k2,k3,k4⟩:=Ik p hM j2 hr.val j3 hk
 rw[hc] at k1
 injection k1 with k1
 subst k1
 rw[Fe j9] at k3
 -- the ownership without what is taken
 have acw:s<S.length:=fk (by rw[j1];exact fun e=>by cases e)
 let cv:Nat→Option Nat:=fun g=>open Classical in if de g then some S.length else σ g
 have E5:∀ g i,cv g=some i→∃ k,σ g=some k:=by
  intro g i hg
  simp only[cv] at hg
  split at hg
  ·exact⟨s,k2 g (by assumption)⟩
  ·exact⟨i,hg⟩
 have E6:∀ g i,σ g=some i→¬de g→cv g=some i:=by
  intro g i hg hn
  simp only[cv,if_neg hn,hg]
 have cD:bA w w (Av σ Z) (Av cv Z):=⟨fun _ _ _=>rfl,fun g _ hg=>by
  rcases hg with⟨i,hg⟩ |hg
  ·exact .inl (E5 g i hg)
  ·exact .inr hg⟩
 have acx:iw σ cv S.length de:=by
  refine⟨fun g hg=>⟨s,acw,k2 g hg⟩,fun g hg=>⟨_,Nat.le_refl _,by simp only[cv,if_pos hg]⟩,fun g i hg hi=>?_,fun g=>⟨fun⟨i,hg⟩=>E5 g i hg,fun⟨i,hg⟩=>?_⟩,fun g i hg hi=>E6 g i hg (fun hx=>?_)⟩
  ·simp only[cv] at hg
   split at hg
   ·injection hg with hg;omega
   ·exact hg
  ·simp only[cv]
   split
   ·exact⟨_,rfl⟩
   ·exact⟨i,hg⟩
  ·have:=k2 g hx
   rw[hg] at this
   injection this with this
   omega
 refine⟨cv,cs,de,?_,by rw[j4];exact hm,bj cD _ (fun _ _ _=>rfl) (fun _ h _=>h) (fun _ h=>h) k3,acx,by simp[St.weaken,St.cover]⟩
 have hlen:((S.weaken s).cover s p).length=S.length:=by simp[St.weaken,St.cover]
 have Hv:s<S.length:=by
  rcases Nat.lt_or_ge s S.length with hl |hl
  ·exact hl
  ·unfold St.at at j1
   rw[List.getD_eq_getElem?_getD,List.getElem?_eq_none hl] at j1
   cases j1
 have Bh:St.at (((S.weaken s).cover s p).set s (.v r (ex++[p]))) s=.v r (ex++[p]):=by rw[dA,if_pos ⟨rfl,by rw[hlen];exact Hv⟩]
 have mm:∀ i,i≠s→St.at (((S.weaken s).cover s p).set s (.v r (ex++[p]))) i=(match (bif (S.at i).ga s then AV.dead else S.at i) with
   | .ad t s' q=>bif Nat.beq s' s&&under p q then .dead else .ad t s' q
   |a=>a):=by
  intro i hi
  rw[dA,if_neg (fun e=>hi e.1),E4,lq]
  try (cases (bif AV.ga s (S.at i) then AV.dead else S.at i)<;>rfl)
 refine⟨by simp only[List.length_set,hlen];exact h.len,h.defers,h.fr,fun g i hg=>(E5 g i hg).elim fun k hk=>h.new g k hk,fun g i hg=>(E5 g i hg).elim fun k hk=>h.lt g k hk,fun g hg=>⟨?_,(h.old g hg).2⟩,fun i=>?_⟩
 ·simp only[cv]
  split
  ·rename_i hx
   have:=k2 g hx
   rw[(h.old g hg).1] at this
   cases this
  ·exact(h.old g hg).1
 ·by_cases RJ:i=s
  ·subst RJ
   rw[Bh]
   exact⟨dy,hr.mat,bj cD _ (fun _ _ _=>rfl) (fun g hg _=>E6 g _ hg.1 hg.2) (fun _ h=>h) k4⟩
  ·rw[mm i RJ]
   cases r9:(S.at i).ga s with
   |true=>trivial
   |false=>
    simp only[cond_false]
    have hi:=h.holds i
    have base:Holds w (Av cv Z) H (cG a) S (fun g=>cv g=some i) (S.at i) (cG a i):=
     hi.kept cD (fun g hg _=>⟨rfl,E6 g i hg (fun hx=>RJ (by have:=k2 g hx;rw[hg] at this;injection this))⟩) (fun s' _=>⟨fun _ _ h=>h,rfl,_,h.holds s',fun _ _ _=>rfl⟩)
    have hSv:∀ j r' DO,j≠s→S.at j=.v r' DO→St.at (((S.weaken s).cover s p).set s (.v r (ex++[p]))) j=.v r' DO:=by
     intro j r' DO hj hv
     rw[mm j hj,hv]
     simp[AV.ga]
    cases gC:S.at i with
    |v b3 ex3=>
     rw[gC] at base
     obtain⟨c3,l1,l2⟩:=base
     exact⟨c3,l1,l2⟩
    |u5 l=>
     rw[gC] at base
     exact base
    |ad t' s' q=>
     rw[gC] at base r9
     simp only
     cases aqS:(Nat.beq s' s&&under p q) with
     |true=>trivial
     |false=>
      simp only[cond_false]
      refine iG j1 hSv Bh r9 (fun t2 q2 e2=>?_) base (fun _ _ e=>by cases e) (fun _ e=>by cases e)
      injection e2 with _ e3 e4
      subst e3 e4
      simpa using aqS
    |dead=>trivial
    |undef=>rw[gC] at base;exact base
    |al t' s' q=>
     rw[gC] at base r9
     exact iG j1 hSv Bh r9 (fun t2 q2 e2=>by cases e2) base (fun _ _ e=>by cases e) (fun _ e=>by cases e)
    |cut t' s' q lo sO=>
     rw[gC] at base r9
     exact iG j1 hSv Bh r9 (fun t2 q2 e2=>by cases e2) base (fun _ _ e=>by cases e) (fun _ e=>by cases e)
    |mg f c8=>
     rw[gC] at base r9
     exact iG j1 hSv Bh r9 (fun t2 q2 e2=>by cases e2) base (fun _ _ e=>by cases e) (fun _ e=>by cases e)
theorem Sl (h:bI σ w0 W0 Z H S a w) {x:Operand} {t:Ty} {s:Nat} {p:Path} (hpc:p≠[]) {r:TV} {ex:List Path} {b:TV} (hh:Holds w (Av σ Z) H (cG a) S own (.al t s p) (a.eval x)) (hs:S.at s=.v r ex) (hg:bQ p r.t r.m r.x=some b) (hk:b.m.cy=false) (j9:∀ q∈ex,qk q p=false):
  ∃ cv cs ow,bI cv w0 W0 Z H (((S.weaken s).cover s p).set s (.v r (ex++[p]))) a w∧aE b.t (a.eval x) cs∧M w (Av cv Z) H b.t b.m b.x cs ow []∧iw σ cv S.length ow∧(((S.weaken s).cover s p).set s (.v r (ex++[p]))).length=S.length:=s6 h hpc hh hs hg hk j9
theorem Sm (hT:dv P Θ=true) (h:bI σ w0 W0 Z H S a w) {o:Oper} {as:Array Operand} {ts:Array TypeId} (ho:o.op=.call { callee:=.builtin .append,args:=as,argTypes:=ts }) (e:gX Θ S o.dst ts.toList as.toList=some (true,S')):Jk P w0 W0 Z H S' a o.dst w (execOp a.eval o):=by
 obtain⟨as⟩:=as
 obtain⟨ts⟩:=ts
 simp only at e
 unfold gX at e
 split at e
 case h_2=>cases e
 rename_i x y T T'
 split at e
 case h_2=>cases e
 rename_i tt s st pp eQ
 split at e
 case h_2=>cases e
 rename_i r ex hs
 split at e
 case h_2=>cases e
 rename_i t e0 tag me xs i hg hi
 cases hc:(decide (i.ty=.sl t)&&Nat.beq i.e e0&&Θ.is T' (.sl t)&&me.cy) with
 |false=>rw[hc] at e;cases e
 |true=>
 rw[hc] at e
 simp only[cond_true] at e
 simp only[Bool.and_eq_true,decide_eq_true_eq] at hc
 obtain⟨⟨⟨gG,hee⟩,hT'⟩,hme⟩:=hc
 have hee:=Nat.eq_of_beq_eq_true hee
 subst hee
 split at e
 case h_2=>cases e
 rename_i t' m' ys hy
 cases hmi:m'.HU.cy with
 |false=>rw[hmi] at e;cases e
 |true=>
 rw[hmi] at e
 simp only[cond_true] at e
 split at e
 case isFalse=>cases e
 rename_i htt
 subst htt
 simp only[Option.some.injEq,Prod.mk.injEq,Bool.and_eq_true,decide_eq_true_eq] at e
 obtain⟨⟨j9,Js⟩,rfl⟩:=e
 obtain⟨cv,cs,ow,h1,hm,hM,hk,hn⟩:=Sl (x:=x) h (by simp) (cf h eQ) hs hg (by simp[Md.cy]) (fun q hq=>by simpa using List.all_eq_true.1 j9 q hq)
 have iY:cs=[a.eval x]:=by simpa[aE,isAgg] using hm
 subst iY
 obtain⟨i',sO,acF⟩:=e8 hT'
 obtain⟨_,uq,hT1⟩:=dB hT sO
 obtain⟨u1,_,_⟩:=mr uq acF
 rw[hT1] at u1
 unfold St.rd at hy
 split at hy
 case h_2=>cases hy
 rename_i av2 Sg
 have hKS:=NX h1 (cf h1 Sg) hy hmi
 obtain⟨news,s4,vX⟩:=acL (P:=P) u1 hKS
 refine vZ (n:=S.length) (A:=Av cv Z) (Fb:=ow) (vm:=fun _=>False) (Jr:=fun _=>0) hT hi gG ho h1 hn rfl hM s4 (fun k gA=>ph hme (vX k gA)) (fun _ _ h=>h) (fun g hg=>?_) Js
 exact hk.now g (hg.resolve_right id)
end Go.Pv
